/- Code. No conditions. -/
import Derived.Test.YtaaomenfchndjaaGreatDoorCB
set_option linter.unusedVariables false
set_option linter.unusedSimpArgs false
set_option linter.defProp false
set_option maxRecDepth 100000
open _root_ renaming rfl→w8,Int→W,List→K,Nat→P,decide_false→j6,decide_true→j9,if_pos→N,absurd→X1,if_neg→E,Option→n,Bool→T,decide_eq_true_eq→s,and_self→k,or_false→K8
open Go.Ev renaming EVX→X,splice→w9,below→j0,hand→X2,below_mono→d,a09→Z0,Has→R,aD9→K1,elC→K2,aE6→K3,tidy→K4,a08→K6,same→g,a97→w,a90→p,aD0→j,ReadHas→K7,Ctx→q,freeze→K9,look→l,aB1→v
open Go.Ev.AO renaming below→k9
open SizeOf renaming sizeOf→L
open Decidable renaming decide→y
open Go.Ev.RV renaming below→j7,o→J0
open Go.Ev.JV renaming av→j8,mk→K0
open List renaming take_set→Z1,sizeOf_lt_of_mem→e,cons_append→Z2,take→Z3,nil_append→Z6,mem_map_of_mem→f,take_take→K5,map_map→t,flatMap→B
open Go renaming FuncId→Q,IntKind→i
namespace Go.Ev
open List renaming length→z
open Bool renaming true→eT, false→eF
open Option renaming some→J, none→U
open Go.IntKind renaming i64→r
variable{C:Ctx}
def Ok.bd{O:St}(h:Ok O)(o:P){x:AO}(b:x.below (z O)=eT):Ok (O.set o x):=by
 unfold Ok at*;rw[a99];rw[aB0]at*;intro y a;rcases List.mem_or_eq_of_mem_set a with a|rfl;·exact h y a
 ·exact b
def ajV {Y:St} {n0 o:P} {is:K JV} {x:AV} (j:JV) (c:AO) (h:aft Y n0 is x) (hok:Ok Y) (e:is.length<=8192) (f:o<n0) {y z w:AO} (b:Y[o]?=J y) (h2:Y[n0]?=J z) (h3:Y[n0+1]?=J w):
  ∃a:St,uD (Y++[c]) 5 80 U x 1 j.B=J (.dj (Y.length+1) 0 (is.length+1) 5,a++[c,.cP (aO (is++[j])) FZ])/\a.length=Y.length/\a[o]?=J y/\a[n0]?=J z/\a[n0+1]?=J w/\a.take n0=Y.take n0/\Ok a:=by
 rcases h with⟨e1,e2⟩|⟨e1,q,e2,e3,e4⟩;·subst e1;subst e2;refine⟨Y,?_,w8,b,h2,h3,w8,hok⟩;rw[Nw _ U j.B (by omega) (by omega) (by omega)];simp[aO]
 ·subst e2;have d:(Y++[c])[q]?=J (.cP (aO is) FZ):=aj e3 _;refine⟨Y.set q .em,?_,by simp,aH b (by omega) _,aH h2 (by omega) _,aH h3 (by omega) _,eP _ _ _ (by omega) _,hok.bd _ w8⟩;rw[Lt j.B d (by omega) (jH is) (by omega) (by omega),gZ e3,LV];simp[aO]
def aeA (H:K7 C) (s:LU) (hs:z s<1099511627777) (m:Nat) (hV:ajP C s m) (O:St) (o:Nat) (g:o<z O):∀(k:Nat) (cB:RV) (is:List JV) (x:AV) (Y:St),awI s O o cB is x Y->0<=cB.b8->(z is:Int)<=cB.aX->cB.aX<=8192->8192<=cB.aX+k->8192<=cB.aX+m->
  aA7 s O o cB.aX (aG C (ai C) 53 [0,2,4] eH [(0,.da o 0),(2,.da (z O) 0),(4,.da (z O+1) 0)] Y)
 |k,cB,is,x,Y,I,ha,ac,ad,F,hm=>by
  obtain⟨hok,hr,hres,hv,his,hpre⟩:=I;obtain⟨j,e,r1,v1,v2,v3,v4⟩:=hV cB Y o hok hr ha (by omega) hm;have T1:z (Y.set o (r1.o s))=z Y:=(by simp);have hr1:=bF hr (r1.o s);have a:=aH hres (show z O≠o by omega) (r1.o s);have A:=aH hv (show z O+1≠o by omega) (r1.o s);have Z:=hok.cg o (j7 s r1);have d:(Y.set o (r1.o s)).take (z O)=O.set o (r1.o s):=(by rw[Z1,hpre,aF5]);have w:aft (Y.set o (r1.o s)) (z O) is x:=by
   rcases his with h|⟨e1,q,e2,e3,e4⟩;·exact .inl h
   ·exact .inr ⟨e1,q,e2,aH e3 (by omega) _,e4⟩
  have nl:z O+1<z Y:=(a00.mp hv).1;generalize aa:Y.set o (r1.o s)=S1 at*;have K:=JV.dt j;have G:=JV.Q j;have V:j.B.take 5=j.B:=a98 (by rw[JV.dt];exact Z0 _);have je:5<=z j.B:=by rw[JV.dt];exact Z0 _
  have d5:∀l:LA,z l=5->l.drop 5=[]:=λl h=>aC0 (by omega);have b1:=λL=>aj A L;have c1:=λL=>aj a L;have p1:=λL y=>gZ a L y;dsimp only[mY]at*;rw[aB (he:=w8)];cases ce:(e !=0)
  ·have e0:e=0:=(by simpa using ce);subst e0;obtain⟨w1,w2⟩:=v4 w8;obtain⟨E,a1,a2,a3,a4,a5,a6,a7⟩:=ajV j (.cP j.B FZ) w Z (by omega) g hr1 a A;rw[T1]at a1 a2;have R:=λL=>aj a5 L;have N:=λL y=>gZ a5 L y;have u:Ok ((E++[AO.cP j.B FZ,AO.cP (aO (is++[j])) FZ]:St).set (z O+1) (.cP [.cQ .u8 4,.cQ r 0,.cU [],.cY,.dj (z Y+1) 0 (z is+1) 5] FZ)):=by refine Ok.bd (a7.H (by simp only[K6,aC6,k9,JV.aL,iZ,aE1])) _ ?_;rw[a03,a2];simp[k9,ae,j0]
   rw[N]at u;have hr3:=aH a3 (show o≠z O+1 by omega) (.cP [.cQ .u8 4,.cQ r 0,.cU [],.cY,.dj (z Y+1) 0 (z is+1) 5] FZ);have t:=aH a4 (show z O≠z O+1 by omega) (.cP [.cQ .u8 4,.cQ r 0,.cU [],.cY,.dj (z Y+1) 0 (z is+1) 5] FZ);have T:=bF a5 (.cP [.cQ .u8 4,.cQ r 0,.cU [],.cY,.dj (z Y+1) 0 (z is+1) 5] FZ);have p:(E.set (z O+1) (.cP [.cQ .u8 4,.cQ r 0,.cU [],.cY,.dj (z Y+1) 0 (z is+1) 5] FZ)).take (z O)=O.set o (r1.o s):=(by rw[eP _ _ _ (by omega),a6,d]);have T3:z (E.set (z O+1) (.cP [.cQ .u8 4,.cQ r 0,.cU [],.cY,.dj (z Y+1) 0 (z is+1) 5] FZ))=z Y:=(by simp[a2]);generalize n:E.set (z O+1) (.cP [.cQ .u8 4,.cQ r 0,.cU [],.cY,.dj (z Y+1) 0 (z is+1) 5] FZ)=P at*;obtain⟨r2,b,e2,M,X,m3,m4⟩:=aa0 H s hs 4 r1 v2 _ u o (aj hr3 _);rw[gZ hr3]at M;have hr4:=bF hr3 (r2.o s);have c:=aH t (show z O≠o by omega) (r2.o s);have B:=aH T (show z O+1≠o by omega) (r2.o s);have Q:z (P.set o (r2.o s))=z Y:=(by simp[T3]);have D:=u.cg o (j7 s r2);rw[gZ hr3]at D;have f:(P.set o (r2.o s)).take (z O)=O.set o (r2.o s):=(by rw[Z1,p,aF5]);generalize ab:P.set o (r2.o s)=v at*;have c4:=λL=>aj c L;have p4:=λL y=>gZ c L y;have v5:=λL=>aj B L;have oq:∀y L,(v.set (z O) y++L)[z O]?=J y:=λy L=>aj (bF c y) L;have pq:∀y L,(v.set (z O) y++L).take (z O)=O.set o (r2.o s):=λy L=>by rw[qO _ _ _ (by simp[Q];omega),eP _ _ _ (Z0 _),f]
   have S:∀y L,(v.set (z O) y++(AO.cP j.B FZ::AO.cP (aO (is++[j])) FZ::L))[z Y+1]?=J (.cP (aO (is++[j])) FZ):=λy L=>by rw[yG (by simp[Q])];rfl
   cases i:(e2 !=0)
   ·have e0:e2=0:=(by simpa using i);subst e0;cases b
    ·
     refine⟨r2,0,v.set (z O) (.cP [.cQ .u8 4,.cQ r 0,.cU [],.cY,.dj (z Y+1) 0 (z is+1) 5] FZ)++[.cP j.B FZ,.cP (aO (is++[j])) FZ],_,?_,X,by omega,λ_=>by omega,pq _ _,oq _ _,.inr ⟨is++[j],z Y+1,by simp;omega,by simp,S _ _,by omega⟩⟩;generalize F:aG C (ai C) 53 [0,2,4] eH=W at*;simp only[eH,v1,b1,a1,R,N,n,M,c4,p4,v5,K,G,V,w9,d5,ce,AV.cP,AV.Q,j8,EVX,seval]
    ·
     have I2:awI s O o r2 (is++[j]) (.dj (z Y+1) 0 (z is+1) 5) (v++[.cP j.B FZ,.cP (aO (is++[j])) FZ]):=by
      refine⟨D,aj hr4 _,aj c _,aj B _,.inr ⟨by simp,z Y+1,by simp,?_,by omega⟩,?_⟩;·rw[yG Q];rfl
      ·rw[qO _ _ _ (by omega),f]
     have af:0<k:=(by omega);obtain⟨k,rfl⟩:∃k',k=k'+1:=⟨k-1,by omega⟩;have ih:=aeA H s hs m hV O o g k r2 (is++[j]) _ _ I2 X (by simp;omega) (by omega) (by omega) (by omega);obtain⟨r',e',Y',l,i1,i2,i3,i4,i5,i6,i7⟩:=ih;refine⟨r',e',Y',l,?_,i2,by omega,i4,i5,i6,i7⟩;generalize F:aG C (ai C) 53 [0,2,4] eH=W at*;simp only[eH,v1,b1,a1,R,N,n,M,K,G,V,w9,d5,ce,AV.cP,AV.Q,j8,i1,EVX,seval]
   ·refine⟨r2,e2,v.set (z O) (.cP [.cQ .u8 0,.cQ r 0,.cU [],.cY,.cY] FZ)++[.cP j.B FZ,.cP (aO (is++[j])) FZ],_,?_,X,by omega,λh=>X1 h (by simpa using i),pq _ _,oq _ _,.inl w8⟩;generalize F:aG C (ai C) 53 [0,2,4] eH=W at*;simp only[eH,v1,b1,a1,R,N,n,M,c4,p4,K,G,V,w9,d5,ce,i,AV.cP,AV.Q,j8,EVX,seval]
  ·refine⟨r1,e,S1.set (z O) (.cP [.cQ .u8 0,.cQ r 0,.cU [],.cY,.cY] FZ)++[.cP j.B FZ],_,?_,v2,v3,λh=>X1 h (by simpa using ce),?_,aj (bF a _) _,.inl w8⟩;·generalize F:aG C (ai C) 53 [0,2,4] eH=W at*;simp only[eH,v1,c1,p1,K,G,w9,d5,ce,AV.cP,AV.Q,j8,EVX,seval]
   ·rw[qO _ _ _ (by simp[T1];omega),eP _ _ _ (Z0 _),d]
def MB {O Y:St} {o:P} {x:AO} (a:Ok O) (f:x.below 0=eT) (e:W) (E:As) (h2:l E 2=.da (z O) 0) (h3:l E 3=.cQ r e) (b:Y.take (z O)=O.set o x) (d:Y[z O]?=J (.cP [.cQ .u8 0,.cQ r 0,.cU [],.cY,.cY] FZ)):
  iF (z O) [.eN 2 eT 5,.fT 3] (J (.ea,E,Y))=J (.de [JV.ab.av,.cQ r e],O.set o x):=by
 rw[zO];have:aZ E Y [.eN 2 eT 5,.fT 3]=J [.cX [.cQ .u8 0,.cQ r 0,.cU [],.cY,.cY],.cQ r e]:=by simp only[aZ,h2,h3,d,pt,aB8,a94,a96,Z3];rfl
 rw[this];have c:X2 eF [.cX [.cQ .u8 0,.cQ r 0,.cU [],.cY,.cY],.cQ r e] Y=J ([JV.ab.av,.cQ r e],Y):=by rw[iY,aN,bK,aN,aN,aN,aN,aN,dQ,mg,j8,JV.be];rfl
 dsimp only;rw[c];dsimp only[dG];rw[Du a f (by rw[ae,j8,j0,JV.aL];rfl) b]
def aqa {O Y:St} {o:P} {x:AO} (a:Ok O) (h:x.below 0=eT) (e:W) (E:As) (h2:l E 2=.da (z O) 0) (h3:l E 3=.cQ r e) (b:Y.take (z O)=O.set o x) (is:K JV) (his:z is<=8192) (q:P) (f:Y[z O]?=J (.cP [.cQ .u8 4,.cQ r 0,.cU [],.cY,.dj q 0 (z is) 5] FZ)) (c:Y[q]?=J (.cP (aO is) FZ)) (g:z O+2<=q):
  iF (z O) [.eN 2 eT 5,.fT 3] (J (.ea,E,Y))=J (.de [(K0 4 0 [] [] is (by simp) (by omega) his (StB.db lb0)).av,.cQ r e],O.set o x):=by
 rw[zO];have:aZ E Y [.eN 2 eT 5,.fT 3]=J [.cX [.cQ .u8 4,.cQ r 0,.cU [],.cY,.dj q 0 (z is) 5],.cQ r e]:=by simp only[aZ,h2,h3,f,pt,aB8,a94,a96,Z3];rfl
 rw[this];have d:X2 eF [.cX [.cQ .u8 4,.cQ r 0,.cU [],.cY,.dj q 0 (z is) 5],.cQ r e] Y=J ([(K0 4 0 [] [] is (by simp) (by omega) his (StB.db lb0)).av,.cQ r e],Y.set q (.cP (aO is) ⟨eT,U⟩)):=by rw[iY,aN,bK,aN,aN,aN,aN,aN,dQ,Eo c (jH is) (Jz is),mg,j8,JV.bO,<-qf c];rfl
 dsimp only;rw[d];dsimp only[dG];rw[Du a h (by rw[ae,j8,j0,JV.aL];rfl) (by rw[eP _ _ _ (by omega),b])]
def ard(H:K7 C)(B:Has C yB um)(s:LU)(hs:z s<1099511627777)(m:Nat)(D:ajP C s m):atT C yB s m:=by
 intro cB O o a c E F P Q;have G:o<z O:=(a00.mp c).1;have K:=kK o O;have n:Ok (O++[.cP [.cQ .u8 0,.cQ r 0,.cU [],.cY,.cY] FZ,.cP [.cQ .u8 4,.cQ r 0,.cU [],.cY,.cY] FZ]):=a.H w8;obtain⟨r1,e,n1,i,T,V⟩:=yg H.toNextHas s hs cB E _ n o (aj c _);rw[gZ c]at n1;have f:=λx L=>aj (bF c x) L;rw[B.go K];have d:z (O.set o (r1.o s))=z O:=by simp
 have q0:=λL=>aU d L;have q1:=λL k=>yG d L k;have v:=λL y=>fV d L y;have e0:∀L:St,(O.set o (r1.o s)++L).take (z O)=O.set o (r1.o s):=λL=>by grind
 have q2:∀(x:AO) (L:St),(O.set o (r1.o s)++x::L)[z O]?=J x:=λx L=>by rw[q0];rfl
 have I:awI s O o r1 [] .cY (O.set o (r1.o s)++[mY,.cP [.cQ .u8 4,.cQ r 0,.cU [],.cY,.cY] FZ]):=by refine⟨(a.cg o (j7 s r1)).H w8,f _ _,by rw[q0];rfl,by rw[q1];rfl,.inl ⟨w8,w8⟩,e0 _⟩
 obtain⟨r2,e2,w,l,i1,i2,R,M,t,u,b⟩:=aeA H s hs m D O o G 8192 r1 [] .cY _ I i (by simp;omega) (by omega) (by omega) (by omega);cases ce:(e !=0)
 ·have A:e=0:=(by simpa using ce);subst A;cases p:(r1.k==4)
  ·have hi:∃j:JV,iF (z O) [.eN 2 eT 5,.fT 3] (J (.ea,[(2,.da (z O) 0),(3,.cQ r e2)],w))=J (.de [j.av,.cQ r e2],O.set o (r2.o s)):=by
    rcases b with b|⟨is,q,b,i8,N,g⟩;·subst b;exact⟨_,MB a (j7 s r2) e2 _ w8 w8 t u⟩
    ·subst i8;exact⟨_,aqa a (j7 s r2) e2 _ w8 w8 t is b q u N g⟩
   obtain⟨j,hj⟩:=hi;refine⟨j,e2,r2,?_,i2,by omega,M⟩;rw[<-hj];dsimp only[J0,RV.B,mY]at*;congr 1;simp only[um,n1,f,p,i1,w9,X,seval]
  ·refine⟨JV.fz 4 0 [] lb0,0,r1,?_,i,by omega,λ_=>by omega⟩;have tk:=Du (S:=O.set o (r1.o s)++[AO.cP [.cQ .u8 4,.cQ r 0,.cU [],.cY,.cY] FZ,AO.cP [.cQ .u8 4,.cQ r 0,.cU [],.cY,.cY] FZ]) a (j7 s r1) (vs:=[.cX [.cQ .u8 4,.cQ r 0,.cU [],.sl 0 [],.sl 0 []],.cQ r 0]) w8 (e0 _);dsimp only[J0,RV.B,mY]at*;simp only[um,n1,f,q0,q1,v,p,w9,tk,aZ,bK,dQ,AV.cP,AV.Q,j8,JV.c6,X,seval]
 ·refine⟨JV.ab,e,r1,?_,i,by omega,λh=>X1 h (by simpa using ce)⟩;have hj:=MB a (j7 s r1) e [(2,.da (z O) 0),(3,.cQ r e)] w8 w8 (e0 _) (q2 (.cP [.cQ .u8 0,.cQ r 0,.cU [],.cY,.cY] FZ) [.cP [.cQ .u8 4,.cQ r 0,.cU [],.cY,.cY] FZ]);rw[<-hj];dsimp only[J0,RV.B,mY]at*;congr 1;simp only[um,n1,q0,v,ce,w9,X,seval]
def Fp(l:K (LU×W)):K (AV×AV):=l.map λp=>(.cU p.1,.cQ r p.2)
def arl(l:K (LU×W))(i:P)(s:LU)(n:W):(Fp l).set i (.cU s,.cQ r n)=Fp (l.set i (s,n)):=by simp[Fp,List.map_set]
def aoi(l:K (LU×W))(s:LU)(n:W):Fp l++[(.cU s,.cQ r n)]=Fp (l++[(s,n)]):=by simp[Fp]
def abN(s:LU):∀(l:K (LU×W)) (k:P),oM (.cU s) (Fp l) k=J U\/∃(i:P) (n:W),oM (.cU s) (Fp l) k=J (J (i,.cQ r n))/\k<=i/\i<k+z l
 |[],k=>.inl w8
 |p::l,k=>by
  have a:Fp (p::l)=(.cU p.1,.cQ r p.2)::Fp l:=w8;rw[a];simp only[oM,ac5];cases oU s p.1
  ·rcases abN s l (k+1)with h|⟨i,n,h,b,h2⟩;·left;exact h
   ·right;refine⟨i,n,h,by omega,?_⟩;rw[a94];omega
  ·right;refine⟨k,p.2,w8,Z0 _,?_⟩;rw[a94];omega
def lookA(O:St)(z m k:AV):n AV:=match mapOf O m with
 |J a=>match oM k a 0 with|J (J (_,v))=>J v|J U=>J z|U=>U
 |U=>U
def aA0(O:St):n AV->n Out|J v=>J (.ev v O)|U=>U
def Dv(O:St)(v:AV):aA0 O (J v)=J (.ev v O):=w8
def ZB(a:XA->AV)(n0:P)(O:St)(z:AV)(m k:XA):aF C a n0 O (.hG z m k eF)=aA0 O (lookA O z (a m) (a k)):=by
 rw[aF.eq_32];unfold lookA;cases mapOf O (a m)with
 |none=>rfl
 |some b=>
  dsimp only;cases oM (a k) b 0 with
  |none=>rfl
  |some x=>
   cases x with
   |none=>rfl|some q=>rfl
def atv(O:St)(m k v:AV):n St:=match m with
 |.dz d=>match O[d]? with
  |J (.dz a)=>match k with
   |.cU s=>match oM (.cU s) a 0 with|J (J (i,_))=>J (O.set d (.dz (a.set i (.cU s,v))))|J U=>J (O.set d (.dz (a++[(.cU s,v)])))|U=>U
   |_=>U
  |_=>U
 |_=>U
def azA:n St->n Out|J O=>J (.ev .dT O)|U=>U
def YC(O:St):azA (J O)=J (.ev .dT O):=w8
def aqX(a:XA->AV)(n0:P)(O:St)(m k v:XA):aF C a n0 O (.hQ m k v)=azA (atv O (a m) (a k) (a v)):=by
 rw[aF.eq_33];unfold atv;cases a m<;>try rfl
 dsimp only;rename_i d;cases O[d]? with
 |none=>rfl
 |some x=>
  cases x<;>try rfl
  dsimp only;cases a k<;>try rfl
  dsimp only;rename_i b s;cases oM (.cU s) b 0 with
  |none=>rfl
  |some x=>
   cases x with
   |none=>rfl|some q=>rfl
def aio{O:St}{p:P}{l:K (LU×W)}(h:O[p]?=J (.dz (Fp l)))(s:LU):∃n:W,∀L:St,lookA (O++L) (.cQ r 0) (.dz p) (.cU s)=J (.cQ r n):=by
 rcases abN s l 0 with f|⟨i,n,f,_,_⟩;·exact⟨0,λL=>by simp only[lookA,mapOf,aj h,f]⟩
 ·exact⟨n,λL=>by simp only[lookA,mapOf,aj h,f]⟩
def avK{O:St}{p:P}{l:K (LU×W)}(h:O[p]?=J (.dz (Fp l)))(s:LU)(n:W):∃a:K (LU×W),∀L:St,atv (O++L) (.dz p) (.cU s) (.cQ r n)=J (O.set p (.dz (Fp a))++L):=by
 rcases abN s l 0 with f|⟨i,b,f,_,_⟩;·exact⟨l++[(s,n)],λL=>by simp only[atv,aj h,f,gZ h,aoi]⟩
 ·exact⟨l.set i (s,n),λL=>by simp only[atv,aj h,f,gZ h,arl]⟩
def akH(k:P)(l:K (LU×W)):(AO.dz (Fp l)).below k=eT:=by
 show(ae k ((Fp l).map (·.1))&&ae k ((Fp l).map (·.2)))=eT
 induction l with
 |nil=>rfl|cons p l a=>rw[a02]at a;show(ae k (.cU p.1::(Fp l).map (·.1))&&ae k (.cQ r p.2::(Fp l).map (·.2)))=eT;rw[ae,ae,a.1,a.2];rfl
def aiX:AO:=.cP [.cU [],.cQ .u8 0,.cQ r 0,.cU [],.cY,.cY] FZ
def zEL:EL:=(⟨[],lb0⟩,JV.ab)
def adi:K2 zEL=[.cU [],.cQ .u8 0,.cQ r 0,.cU [],.sl 0 [],.sl 0 []]:=by simp[K2,zEL,JV.be]
def akI (H:K7 C) (hC:Has C qJ fE) (s:LU) (hs:z s<1099511627777) (m:Nat) (hV:ajP C s m) (cB:RV) (O:St) (o p:Nat) (l:List (LU×Int)) (a:Ok O) (c:O[o]?=J (cB.o s)) (hp:O[p]?=J (.dz (Fp l))) (F:0<=cB.b8) (aa:0<=cB.aX) (hm:8192<=cB.aX+m):
  ∃(x:EL) (e:Int) (d:RV),ai C qJ [.da o 0,.dz p] O=J (.de [.cX (K2 x),.cQ r e],O.set o (d.o s))/\0<=d.b8/\cB.aX<=d.aX/\(e=0->cB.aX<d.aX/\d.aX<=8192):=by
 have hn:X2 eF [.da o 0,.dz p] O=J ([.da o 0,.dz p],O):=w8;have G:Ok (O++[aiX]):=a.H w8;obtain⟨e0,w,we⟩:=Iq H.es s cB (O++[aiX]) o (aj c _);obtain⟨r1,e1,x1,x2,x3,x4⟩:=adH H s hs 6 cB F _ G o (aj c _);rw[gZ c]at x1;have t:=bF c (r1.o s);have I:Ok (O.set o (r1.o s)++[aiX]):=(a.cg o (j7 s r1)).H w8;obtain⟨r2,e2,E,S,y3,y4⟩:=yg H.toNextHas s hs r1 x2 _ I o (aj t _);rw[gZ t,aF5]at E;have u:=bF c (r2.o s);have K:Ok (O.set o (r2.o s)++[aiX]):=(a.cg o (j7 s r2)).H w8;obtain⟨j,e3,r3,N,T,z3,z4⟩:=hV r2 _ o K (aj u _) S (by omega) (by omega);rw[gZ u,aF5]at N;have i:=λL=>aj c L;have f:∀(x:AO) (v:x.below 0=eT) (e:Int) (L:St),K4 (z O) [.cX [.cU [],.cQ .u8 0,.cQ r 0,.cU [],.sl 0 [],.sl 0 []],.cQ r e] (O.set o x++L)=O.set o x:=λx v e L=>QK a o v _ w8 L;have M:∀(x:AO) (v:x.below 0=eT) (y:LA) (P:ae 0 y=eT) (e:Int) (L:St),K4 (z O) [.cX y,.cQ r e] (O.set o x++L)=O.set o x:=λx v y P e L=>QK a o v _ (by rw[ae,j0,P];rfl) L;have A:∀(e:Int) (L:St),K4 (z O) [.cX [.cU [],.cQ .u8 0,.cQ r 0,.cU [],.sl 0 [],.sl 0 []],.cQ r e] (O++L)=O:=λe L=>bu a w8 L;have t1:=λe L=>f (r1.o s) (j7 s r1) e L;have t2:=λe L=>f (r2.o s) (j7 s r2) e L;have t3:=λe L=>f (r3.o s) (j7 s r3) e L;have t4:=λe L=>M (r3.o s) (j7 s r3) (K2 (cB.t,j)) (NL _) e L;have nf:=λY d=>(amb (cB.t,j)).nf Y d;have b:=set_self c;have R:=JV.dt j;have Q:=JV.Q j;have jt:j.B.take 5=j.B:=a98 (by rw[JV.dt];exact Z0 _);have je:5<=z j.B:=by rw[JV.dt];exact Z0 _
 have Z:=kH (cB.t,j);have X:=rO (cB.t,j);have et:(K2 (cB.t,j)).take 6=K2 (cB.t,j):=a98 (by rw[kH];exact Z0 _);have d5:∀l:LA,z l=5->l.drop 5=[]:=λl h=>aC0 (by omega);have W:AV.cU cB.t.1::j.B=K2 (cB.t,j):=w8;rw[hC.go hn];dsimp only[J0,RV.B,aiX]at*;cases g:(cB.k !=10)
 ·
  obtain⟨n,go⟩:=aio hp cB.t;cases q:decide (n>0)
  ·cases k:(e1 !=0)
   ·cases B:(e2 !=0)
    ·cases D:(e3 !=0);·have V:e3=0:=(by simpa using D);subst V;refine⟨(cB.t,j),0,r3,?_,T,by omega,λ_=>by have:=z4 w8;omega⟩;simp only[fE,g,q,go,↓ZB,Dv,k,B,D,x1,E,N,i,t4,nf,R,Q,jt,Z,X,et,W,d5,ad1,qy,ad2,BZ,aZ,bK,AV.cP,j8,a99,w9,EVX,seval]
     ·refine⟨zEL,e3,r3,?_,T,by omega,λh=>X1 h (by simpa using D)⟩;simp only[fE,g,q,go,↓ZB,Dv,k,B,D,x1,E,N,i,t3,R,Q,d5,adi,ad1,qy,ad2,BZ,aZ,bK,dQ,AV.cP,AV.Q,j8,a99,w9,EVX,seval]
    ·refine⟨zEL,e2,r2,?_,S,by omega,λh=>X1 h (by simpa using B)⟩;simp only[fE,g,q,go,↓ZB,Dv,k,B,x1,E,i,t2,d5,adi,qy,BZ,aZ,bK,dQ,AV.cP,AV.Q,w9,EVX,seval]
   ·refine⟨zEL,e1,r1,?_,x2,by omega,λh=>X1 h (by simpa using k)⟩;simp only[fE,g,q,go,↓ZB,Dv,k,x1,i,t1,d5,adi,qy,BZ,aZ,bK,dQ,AV.cP,AV.Q,w9,EVX,seval]
  ·refine⟨zEL,7,cB,?_,F,by omega,λh=>X1 h (by omega)⟩;rw[b];simp only[fE,g,q,go,↓ZB,Dv,i,A,d5,adi,aZ,bK,dQ,AV.cP,AV.Q,w9,EVX,seval]
 ·refine⟨zEL,e0,cB,?_,F,by omega,λh=>X1 h we⟩;rw[b];simp only[fE,g,w,i,A,d5,adi,aZ,bK,dQ,AV.cP,AV.Q,w9,EVX,seval]
structure SortHas(C:Ctx):Prop where
 j1:VG C jw GY
 ko:Pn C FX Lm
def awQ(Y:St)(n0:P)(xs:K EL)(x:AV):Prop:=(xs=[]/\x=.cY)\/(xs≠[]/\∃q,x=.dj q 0 (z xs) 6/\Y[q]?=J (.cP (dU xs) FZ)/\n0+2<=q)
def anN(xs:K EL)(x:EL):dU (xs++[x])=dU xs++K2 x:=by simp[dU]
def awW {Y:St} {n0:P} {xs:K EL} {x:AV} (y:EL) (c:AO) (h:awQ Y n0 xs x) (hok:Ok Y) (d:z xs<=8192):
  ∃a:St,uD (Y++[c]) 6 96 U x 1 (K2 y)=J (.dj (z Y+1) 0 (z xs+1) 6,a++[c,.cP (dU (xs++[y])) FZ])/\z a=z Y/\(∀(i:P) (w:AO),i<n0+2->Y[i]?=J w->a[i]?=J w)/\a.take n0=Y.take n0/\Ok a:=by
 rcases h with⟨e1,e2⟩|⟨e1,q,e2,e3,e4⟩;·subst e1;subst e2;refine⟨Y,?_,w8,λ_ _ _ h=>h,w8,hok⟩;rw[Nw _ U (K2 y) (by omega) (by omega) (by omega)];simp[dU]
 ·subst e2;have b:(Y++[c])[q]?=J (.cP (dU xs) FZ):=aj e3 _;refine⟨Y.set q .em,?_,by simp,λi w hi h=>aH h (by omega) _,eP _ _ _ (by omega) _,hok.bd _ w8⟩;rw[Lt (K2 y) b (by omega) (Jb xs) (by omega) (by omega),gZ e3,anN];simp
structure awL(s:LU)(O:St)(o:Nat)(r:RV)(xs:List EL)(x:AV)(Y:St):Prop where
 oA:Ok Y
 hr:Y[o]?=some (r.o s)
 m5:Y[O.length]?=some mY
 px:∃l,Y[O.length+1]?=some (.dz (Fp l))
 pD:awQ Y O.length xs x
 m4:Y.take O.length=O.set o (r.o s)
def aAa(s:LU)(O:St)(o:P)(ct:W)(x:RX):Prop:=∃(c:RV) (e:W) (a:St) (l:LA),x=J (.ea,[(2,.da (z O) 0),(3,.cQ r e)],a)/\0<=c.b8/\ct<=c.aX/\(e=0->c.aX<=8192)/\a.take (z O)=O.set o (c.o s)/\
 a[z O]?=J (.cP l FZ)/\(l=[.cQ .u8 0,.cQ r 0,.cU [],.cY,.cY]\/∃(b:K EL) (q1 q2:P),z b<=8192/\l=[.cQ .u8 5,.cQ r 0,.cU [],.dj q1 0 (z b) 1,.dj q2 0 (z b) 5]/\a[q1]?=J (.cP (nC b) FZ)/\a[q2]?=J (.cP (yh b) FZ)/\z O+2<=q1/\z O+2<=q2/\q1≠q2)
def ZK (H:K7 C) (W:SortHas C) (hM:Has C qJ fE) (s:LU) (hs:z s<1099511627777) (m:Nat) (hV:ajP C s m) (O:St) (o:Nat) (N:o<z O):∀(k:Nat) (cB:RV) (xs:List EL) (x:AV) (Y:St),awL s O o cB xs x Y->0<=cB.b8->(z xs:Int)<=cB.aX->cB.aX<=8192->8192<=cB.aX+k->8192<=cB.aX+m->
  aAa s O o cB.aX (aG C (ai C) 59 [0,2,5,6] dN [(0,.da o 0),(2,.da (z O) 0),(5,x),(6,.dz (z O+1))] Y)
 |k,cB,xs,x,Y,I,ha,ah,ak,R,hm=>by
  obtain⟨hok,hr,hres,⟨ml,hmap⟩,hxs,hpre⟩:=I;obtain⟨j,e,r1,v1,v2,v3,v4⟩:=akI H hM s hs m hV cB Y o (z O+1) ml hok hr hmap ha (by omega) hm;have Z:z (Y.set o (r1.o s))=z Y:=(by simp);have hr1:=bF hr (r1.o s);have d:=aH hres (show z O≠o by omega) (r1.o s);have w:=aH hmap (show z O+1≠o by omega) (r1.o s);have aa:=hok.cg o (j7 s r1);have i:(Y.set o (r1.o s)).take (z O)=O.set o (r1.o s):=(by rw[Z1,hpre,aF5]);have P:awQ (Y.set o (r1.o s)) (z O) xs x:=by
   rcases hxs with h|⟨e1,q,e2,e3,e4⟩;·exact .inl h
   ·exact .inr ⟨e1,q,e2,aH e3 (by omega) _,e4⟩
  have nl:z O+1<z Y:=(a00.mp hmap).1;generalize ac:Y.set o (r1.o s)=S1 at*;have T:=kH j;have S:=rO j;have jt:(K2 j).take 6=K2 j:=a98 (by rw[kH];exact Z0 _);have je:6<=z (K2 j):=by rw[kH];exact Z0 _
  have eh:(K2 j).head? =J (.cU j.1.1):=w8;have d6:∀l:LA,z l=6->l.drop 6=[]:=λl h=>aC0 (by omega);have c1:=λL=>aj d L;have p1:=λL y=>gZ d L y;dsimp only[mY]at*;rw[aB (he:=w8)];cases ce:(e !=0)
  ·have e0:e=0:=(by simpa using ce);subst e0;obtain⟨w1,w2⟩:=v4 w8;obtain⟨Q,a1,a2,a3,a6,a7⟩:=awW j (.cP (K2 j) FZ) P aa (by omega);rw[Z]at a1 a2;have hr2:=a3 o _ (by omega) hr1;have E:=a3 (z O) _ (by omega) d;have c:=a3 (z O+1) _ (by omega) w;have g2:=λL=>aU (a2.trans Z.symm) L;obtain⟨n,lk⟩:=aio c j.1.1;obtain⟨f,up⟩:=avK c j.1.1 (IntKind.i64.wrap (n+1));have G:Ok ((Q++[AO.cP (K2 j) FZ,AO.cP (dU (xs++[j])) FZ]:St).set (z O+1) (.dz (Fp f))):=(by exact Ok.bd (a7.H (by simp only[K6,aC6,k9,NL,yO,aE1])) _ (akH _ _));rw[gZ c]at G;have hr3:=aH hr2 (show o≠z O+1 by omega) (.dz (Fp f));have F:=aH E (show z O≠z O+1 by omega) (.dz (Fp f));have A:=bF c (.dz (Fp f));have D:(Q.set (z O+1) (.dz (Fp f))).take (z O)=O.set o (r1.o s):=(by rw[eP _ _ _ (by omega),a6,i]);have T3:z (Q.set (z O+1) (.dz (Fp f)))=z Y:=(by simp[a2]);generalize ad:Q.set (z O+1) (.dz (Fp f))=X at*;obtain⟨r2,b,e2,V,m2,m3,m4⟩:=aa0 H s hs 2 r1 v2 _ G o (aj hr3 _);rw[gZ hr3]at V;have hr4:=bF hr3 (r2.o s);have a:=aH F (show z O≠o by omega) (r2.o s);have B:=aH A (show z O+1≠o by omega) (r2.o s);have M:z (X.set o (r2.o s))=z Y:=(by simp[T3]);have K:=G.cg o (j7 s r2);rw[gZ hr3]at K;have g:(X.set o (r2.o s)).take (z O)=O.set o (r2.o s):=(by rw[Z1,D,aF5]);generalize af:X.set o (r2.o s)=p at*;have c4:=λL=>aj a L;have p4:=λL y=>gZ a L y;have u:(p++[AO.cP (K2 j) FZ,AO.cP (dU (xs++[j])) FZ]:St)[z Y+1]?=J (.cP (dU (xs++[j])) FZ):=by rw[yG M];rfl
   cases v:(e2 !=0)
   ·have e0:e2=0:=(by simpa using v);subst e0;cases b
    ·
     have bl:z Y+1<z (p++[AO.cP (K2 j) FZ,AO.cP (dU (xs++[j])) FZ]:St):=(a00.mp u).1;obtain⟨ab,q1,q2,t,k1,k2,k3,k4,k5,k6,k7,k8⟩:=aiR W.j1 W.ko (z Y+1) _ K bl (z xs+1) (by omega) U (xs++[j]) (by simp) (by omega);unfold row at k2 k3;rw[set_self u]at k2;have tl:∀y:AO,(t.take (z (p++[AO.cP (K2 j) FZ,AO.cP (dU (xs++[j])) FZ]:St))).take (z O)=O.set o (r2.o s):=λ_=>by rw[k3,eP _ _ _ (by omega),qO _ _ _ (by omega),g]
     have tk:t.take (z O)=O.set o (r2.o s):=by have:=tl .em;rw[K5,aJ3 (by simp[M];omega)]at this;exact this
     have rz:t[z O]?=J (.cP [.cQ .u8 0,.cQ r 0,.cU [],.cY,.cY] FZ):=by
      have h1:(t.take (z (p++[AO.cP (K2 j) FZ,AO.cP (dU (xs++[j])) FZ]:St)))[z O]?=J (.cP [.cQ .u8 0,.cQ r 0,.cU [],.cY,.cY] FZ):=by rw[k3];exact aH (aj a _) (by omega) _
      rw[aE3]at h1;rwa[if_pos (by simp[M];omega)]at h1
     have ll:z O<z (p++[AO.cP (K2 j) FZ,AO.cP (dU (xs++[j])) FZ]:St):=by simp[M];omega
     refine⟨r2,0,t.set (z O) (.cP [.cQ .u8 5,.cQ r 0,.cU [],.dj q1 0 (z xs+1) 1,.dj q2 0 (z xs+1) 5] FZ),_,?_,m2,by omega,λ_=>by omega,by rw[eP _ _ _ (Z0 _),tk],bF rz _,.inr ⟨ab,q1,q2,by rw[k1];omega,by rw[k1],aH k4 (by omega) _,aH k5 (by omega) _,by omega,by omega,k8⟩⟩;generalize R:aG C (ai C) 59 [0,2,5,6] dN=kk at*;simp only[dN,v1,a1,g2,lk,up,V,k2,rz,T,S,jt,eh,w9,d6,ce,AV.cP,AV.Q,↓ZB,↓aqX,Dv,YC,EVX,seval]
    ·
     have I2:awL s O o r2 (xs++[j]) (.dj (z Y+1) 0 (z xs+1) 6) (p++[.cP (K2 j) FZ,.cP (dU (xs++[j])) FZ]):=by refine⟨K,aj hr4 _,aj a _,⟨f,aj B _⟩,.inr ⟨by simp,z Y+1,by simp,u,by omega⟩,?_⟩;rw[qO _ _ _ (by omega),g]
     have al:0<k:=(by omega);obtain⟨k,rfl⟩:∃k',k=k'+1:=⟨k-1,by omega⟩;have ih:=ZK H W hM s hs m hV O o N k r2 (xs++[j]) _ _ I2 m2 (by simp;omega) (by omega) (by omega) (by omega);obtain⟨r',e',t,l,i1,i2,i3,i4,i5,i6,i7⟩:=ih;refine⟨r',e',t,l,?_,i2,by omega,i4,i5,i6,i7⟩;generalize R:aG C (ai C) 59 [0,2,5,6] dN=kk at*;simp only[dN,v1,a1,g2,lk,up,V,i1,T,S,jt,eh,w9,d6,ce,AV.cP,↓ZB,↓aqX,Dv,YC,EVX,seval]
   ·refine⟨r2,e2,p.set (z O) (.cP [.cQ .u8 0,.cQ r 0,.cU [],.cY,.cY] FZ)++[.cP (K2 j) FZ,.cP (dU (xs++[j])) FZ],_,?_,m2,by omega,λh=>X1 h (by simpa using v),?_,aj (bF a _) _,.inl w8⟩;·generalize R:aG C (ai C) 59 [0,2,5,6] dN=kk at*;simp only[dN,v1,a1,g2,lk,up,V,c4,p4,T,S,jt,eh,w9,d6,ce,v,AV.cP,AV.Q,↓ZB,↓aqX,Dv,YC,EVX,seval]
    ·rw[qO _ _ _ (by simp[M];omega),eP _ _ _ (Z0 _),g]
  ·refine⟨r1,e,S1.set (z O) (.cP [.cQ .u8 0,.cQ r 0,.cU [],.cY,.cY] FZ)++[.cP (K2 j) FZ],_,?_,v2,v3,λh=>X1 h (by simpa using ce),?_,aj (bF d _) _,.inl w8⟩;·generalize R:aG C (ai C) 59 [0,2,5,6] dN=kk at*;simp only[dN,v1,c1,p1,T,S,w9,d6,ce,AV.cP,AV.Q,EVX,seval]
   ·rw[qO _ _ _ (by simp[Z];omega),eP _ _ _ (Z0 _),i]
def akj{Y:St}{q1 q2:P}{l1 l2:LA}(b:Y[q1]?=J (.cP l1 FZ))(h2:Y[q2]?=J (.cP l2 FZ))(a:q1≠q2):K9 Y [q1,q2]=(Y.set q1 (.cP l1 ⟨eT,U⟩)).set q2 (.cP l2 ⟨eT,U⟩):=by unfold K9;rw[b];exact qf (aH h2 (λe=>a e.symm) _)
def adv(xs:K EL)(h:z xs<=8192):JV:=.mk 5 0 [] (xs.map (·.1.1)) (xs.map (·.2)) (by simp) (by simp) (by simpa using h) ⟨lb0,λx a=>by
 grind⟩
def ag1 {O Y:St} {o:P} {x:AO} (c:Ok O) (h:x.below 0=eT) (e:W) (E:As) (h2:l E 2=.da (z O) 0) (h3:l E 3=.cQ r e) (d:Y.take (z O)=O.set o x) (xs:K EL) (hxs:z xs<=8192) (q1 q2:P) (g:Y[z O]?=J (.cP [.cQ .u8 5,.cQ r 0,.cU [],.dj q1 0 (z xs) 1,.dj q2 0 (z xs) 5] FZ)) (a:Y[q1]?=J (.cP (nC xs) FZ)) (b:Y[q2]?=J (.cP (yh xs) FZ)) (n1:z O+2<=q1) (j:z O+2<=q2) (ne:q1≠q2):
  iF (z O) [.eN 2 eT 5,.fT 3] (J (.ea,E,Y))=J (.de [(adv xs hxs).av,.cQ r e],O.set o x):=by
 rw[zO];have:aZ E Y [.eN 2 eT 5,.fT 3]=J [.cX [.cQ .u8 5,.cQ r 0,.cU [],.dj q1 0 (z xs) 1,.dj q2 0 (z xs) 5],.cQ r e]:=by simp only[aZ,h2,h3,g,pt,aB8,a94,a96,Z3];rfl
 rw[this];have i:NVs (nC xs):=by have:=ate (xs.map (·.1.1));rw[t]at this;exact this
 have f:X2 eF [.cX [.cQ .u8 5,.cQ r 0,.cU [],.dj q1 0 (z xs) 1,.dj q2 0 (z xs) 5],.cQ r e] Y=J ([(adv xs hxs).av,.cQ r e],(Y.set q1 (.cP (nC xs) ⟨eT,U⟩)).set q2 (.cP (yh xs) ⟨eT,U⟩)):=by rw[iY,aN,bK,aN,aN,aN,aN,aN,Eo a (by rw[Og,aD2]) i,Eo b (Tj xs) (Jz _),mg,<-akj a b ne];unfold adv j8;rw[JV.bO,aD8,aD8,t];rfl
 dsimp only;rw[f];dsimp only[dG];rw[Du c h (by rw[ae,j8,j0,JV.aL];rfl) (by rw[eP _ _ _ (by omega),eP _ _ _ (by omega),d])]
def akP(H:K7 C)(A:SortHas C)(F:Has C qJ fE)(E:Has C vH qB)(s:LU)(hs:z s<1099511627777)(m:Nat)(G:ajP C s m):atT C vH s m:=by
 intro cB O o a d K M V W;have N:o<z O:=(a00.mp d).1;have P:=kK o O;have q:Ok (O++[.cP [.cQ .u8 0,.cQ r 0,.cU [],.cY,.cY] FZ]):=a.H w8;obtain⟨r1,e,n1,p,Y,Z⟩:=yg H.toNextHas s hs cB K _ q o (aj d _);rw[gZ d]at n1;have f:=λx L=>aj (bF d x) L;rw[E.go P];have c:z (O.set o (r1.o s))=z O:=by simp
 have q0:=λL=>aU c L;have q1:=λL k=>yG c L k;have w:=λL y=>fV c L y;have e0:∀L:St,(O.set o (r1.o s)++L).take (z O)=O.set o (r1.o s):=λL=>by grind
 have q2:∀(x:AO) (L:St),(O.set o (r1.o s)++x::L)[z O]?=J x:=λx L=>by rw[q0];rfl
 have I:awL s O o r1 [] .cY (O.set o (r1.o s)++[mY,.dz []]):=by refine⟨(a.cg o (j7 s r1)).H w8,f _ _,by rw[q0];rfl,⟨[],by rw[q1];rfl⟩,.inl ⟨w8,w8⟩,e0 _⟩
 obtain⟨r2,e2,B,l,i1,i2,X,Q,u,v,b⟩:=ZK H A F s hs m G O o N 8192 r1 [] .cY _ I p (by simp;omega) (by omega) (by omega) (by omega);cases ce:(e !=0)
 ·have D:e=0:=(by simpa using ce);subst D;cases t:(r1.k==2)
  ·have hi:∃j:JV,iF (z O) [.eN 2 eT 5,.fT 3] (J (.ea,[(2,.da (z O) 0),(3,.cQ r e2)],B))=J (.de [j.av,.cQ r e2],O.set o (r2.o s)):=by
    rcases b with b|⟨T,q1,q2,hxs,b,i8,R,g,i,n⟩;·subst b;exact⟨_,MB a (j7 s r2) e2 _ w8 w8 u v⟩
    ·subst b;exact⟨_,ag1 a (j7 s r2) e2 _ w8 w8 u T hxs q1 q2 v i8 R g i n⟩
   obtain⟨j,hj⟩:=hi;refine⟨j,e2,r2,?_,i2,by omega,Q⟩;rw[<-hj];dsimp only[J0,RV.B,mY]at*;congr 1;simp only[qB,n1,f,c,t,i1,EVX,seval]
  ·refine⟨JV.fz 5 0 [] lb0,0,r1,?_,p,by omega,λ_=>by omega⟩;have tk:=Du (S:=O.set o (r1.o s)++[AO.cP [.cQ .u8 5,.cQ r 0,.cU [],.cY,.cY] FZ]) a (j7 s r1) (vs:=[.cX [.cQ .u8 5,.cQ r 0,.cU [],.sl 0 [],.sl 0 []],.cQ r 0]) w8 (e0 _);dsimp only[J0,RV.B,mY]at*;simp only[qB,n1,f,q0,w,t,w9,tk,aZ,bK,dQ,AV.cP,AV.Q,j8,JV.c6,EVX,seval]
 ·refine⟨JV.ab,e,r1,?_,p,by omega,λh=>X1 h (by simpa using ce)⟩;have hj:=MB a (j7 s r1) e [(2,.da (z O) 0),(3,.cQ r e)] w8 w8 (e0 _) (q2 (.cP [.cQ .u8 0,.cQ r 0,.cU [],.cY,.cY] FZ) []);rw[<-hj];dsimp only[J0,RV.B,mY]at*;congr 1;simp only[qB,n1,q0,w,ce,w9,EVX,seval]
structure QW(C:Ctx):Prop extends ReadHas C,SortHas C where
 kf:Has C qJ fE
 et:Has C vH qB
 bi:Has C yB um
 j2:Has C Be bW
def Vu(H:QW C)(s:LU)(hs:z s<1099511627777):∀m:P,ajP C s m|0=>afj H.j2 H.es s 0 (λh=>X1 h (by omega)) (λh=>X1 h (by omega))|m+1=>afj H.j2 H.es s (m+1) (λ_=>ard H.toReadHas H.bi s hs m (Vu H s hs m)) (λ_=>akP H.toReadHas H.toSortHas H.kf H.et s hs m (Vu H s hs m))
def aoA (H:QW C) (B:Has C jE xM) (s:LU) (O:St) (g:Ok O):
  ∃(j:JV) (p e:W),ai C jE [.cU s] O=J (.de [j.av,.cQ r p,.cQ r e],O):=by
 have A:∀(j:LA) (hj:ae 0 j=eT) (p e:W) (L:St),K4 (z O) [.cX j,.cQ r p,.cQ r e] (O++L)=O:=λj hj p e L=>bu g (by rw[ae,j0,hj];rfl) L;have l:=λp e L=>A [.cQ .u8 0,.cQ r 0,.cU [],.sl 0 [],.sl 0 []] w8 p e L;rw[B.go (NVs.E (.cV (.cU _) .db) _)];by_cases h:(65536:W)<(z s:W);·refine⟨JV.ab,0,5,?_⟩;simp only[xM,h,l,aZ,bK,dQ,AV.cP,AV.Q,j8,JV.be,w9,X,seval]
 have hs:z s<1099511627777:=by omega
 have ok0:∀cB:RV,Ok (O++[mY,cB.o s]):=λcB=>g.H w8;have y:∀cB:RV,(O++[mY,cB.o s]:St)[z O+1]?=J (cB.o s):=λcB=>by rw[aI];rfl
 have s0:∀cB f:RV,(O++[mY,cB.o s]:St).set (z O+1) (f.o s)=O++[mY,f.o s]:=λcB f=>by rw[cZ];rfl
 obtain⟨r1,e1,n1,F,x,N⟩:=yg H.toNextHas s hs ⟨0,0,0,0,0,⟨[],lb0⟩,0,0,0⟩ (aI7 _) _ (ok0 _) (z O+1) (y _);rw[s0]at n1;obtain⟨j,e2,r2,v1,v2,v3,v4⟩:=Vu H s hs 8192 r1 _ (z O+1) (ok0 r1) (y _) F (by rw[x];exact aI7 _) (by rw[x];decide);rw[s0]at v1;have u:∀cB:RV,Ok (O++[.cP j.B FZ,cB.o s]):=λcB=>g.H (by rw[K6,K6,j7,show k9 0 (.cP j.B FZ)=eT from j.aL];rfl);have G:∀cB:RV,(O++[AO.cP j.B FZ,cB.o s]:St)[z O+1]?=J (cB.o s):=λcB=>by rw[aI];rfl
 have s1:∀cB f:RV,(O++[AO.cP j.B FZ,cB.o s]:St).set (z O+1) (f.o s)=O++[AO.cP j.B FZ,f.o s]:=λcB f=>by rw[cZ];rfl
 obtain⟨r3,e3,q,P,Q,R⟩:=yg H.toNextHas s hs r2 v2 _ (u _) (z O+1) (G _);rw[s1]at q;have K:=λp e L=>A j.B j.aL p e L;have nf:=λY f=>j.af.nf Y f;have k:=JV.dt j;have n:=JV.Q j;have E:j.B.take 5=j.B:=a98 (by rw[JV.dt];exact Z0 _);have M:5<=z j.B:=by rw[JV.dt];exact Z0 _
 have D:j.B.drop 5=[]:=aC0 (by omega);have v:∀a b c d e:AV,w9 j.B 0 [a,b,c,d,e]=[a,b,c,d,e]:=λa b c d e=>by simp[w9,D]
 have o:∀a b c d e:AV,w9 [a,b,c,d,e] 0 j.B=j.B:=λa b c d e=>by simp[w9,k]
 have I:w9 j.B 0 j.B=j.B:=by simp[w9]
 dsimp only[J0,RV.B,mY]at*;cases i:(e1 !=0)
 ·cases m:(e2 !=0)
  ·cases t:(e3 !=0)
   ·cases w:(r3.k !=11);·refine⟨j,0,0,?_⟩;simp only[xM,h,n1,v1,q,i,m,t,w,K,nf,k,n,E,I,o,aZ,bK,AV.cP,AV.Q,j8,X,seval]
    ·refine⟨JV.ab,r3.c8,11,?_⟩;simp only[xM,h,n1,v1,q,i,m,t,w,l,k,n,v,o,aZ,bK,dQ,AV.cP,AV.Q,j8,JV.be,X,seval]
   ·refine⟨JV.ab,r3.c8,e3,?_⟩;simp only[xM,h,n1,v1,q,i,m,t,l,k,n,v,o,aZ,bK,dQ,AV.cP,AV.Q,j8,JV.be,X,seval]
  ·refine⟨JV.ab,r2.c8,e2,?_⟩;simp only[xM,h,n1,v1,i,m,l,k,n,v,o,aZ,bK,dQ,AV.cP,AV.Q,j8,JV.be,X,seval]
 ·refine⟨JV.ab,r1.c8,e1,?_⟩;simp only[xM,h,n1,i,l,aZ,bK,dQ,AV.cP,AV.Q,j8,JV.be,w9,X,seval]
def XV(ns:K LU)(i:P)(h:i<z ns):(ns.map AV.cU).drop i=.cU ns[i]::(ns.map AV.cU).drop (i+1):=by rw[aB6 (by simpa using h)];simp
def XW(ns:K LU):z (ns.map AV.cU)=z ns:=by simp
def PN (ns:K LU) (j:z ns<=8192) (O:St):∀(n i:P),i+n=z ns->1<=i->
  aG C (ai C) 20 [0,3] eY [(0,.sl (z ns) (ns.map .cU)),(3,.cQ r i)] O=J (.dq 0,[],O)\/aG C (ai C) 20 [0,3] eY [(0,.sl (z ns) (ns.map .cU)),(3,.cQ r i)] O=J (.ea,[(2,.cW eF)],O)
 |0,i,hi,f=>by rw[aB (he:=w8)];have h:¬((i:W)<(z ns:W)):=(by omega);left;simp only[eY,h,X,seval]
 |n+1,i,hi,f=>by
  have h:((i:W)<(z ns:W)):=(by omega);have h2:i<z ns:=(by omega);have h3:i-1<z ns:=(by omega);have d:IntKind.i64.wrap ((i:W)-1)=((i-1:P):W):=wrE (by omega);have e:=wrS i (by omega);have b:(0:W)<=((i-1:P):W):=(by omega);have c:(0:W)<=(i:W):=(by omega);have d1:=XV ns (i-1) h3;have d2:=XV ns i h2;have sl:=XW ns;have a:=PN ns j O n (i+1) (by omega) (by omega);rw[aB (he:=w8)];generalize l:aG C (ai C) 20 [0,3] eY=k at*;cases hb:Op.bytesLess ns[i-1] ns[i];·right;simp only[eY,h,h2,h3,d,b,c,d1,d2,sl,hb,p,aK3,X,seval]
  ·rcases a with a|a;·left;simp only[eY,h,h2,h3,d,e,b,c,d1,d2,sl,hb,a,p,aK3,X,seval]
   ·right;simp only[eY,h,h2,h3,d,e,b,c,d1,d2,sl,hb,a,p,aK3,X,seval]
def ah6(ns:K LU):NV (.sl (z ns) (ns.map .cU)):=.sl _ (xH ns)
def aag(c:R C vK uV)(ns:K LU)(d:z ns<=8192)(O:St):∃b:T,ai C vK [.sl (z ns) (ns.map .cU)] O=J (.cW b,O):=by
 rw[c.go (NVs.E (.cV (ah6 ns) .db) _)];by_cases a:ns=[]
 ·subst a;refine⟨eT,?_⟩;have h:¬((1:W)<0):=(by omega);have e:aG C (ai C) 20 [0,3] eY [(0,.sl 0 []),(3,.cQ r 1)] O=J (.dq 0,[],O):=by rw[aB (he:=w8)];simp only[eY,h,v,X,seval]
  simp only[uV,a96,List.map_nil,e,X,seval]
 ·have f:1<=z ns:=by
   cases ns with
   |nil=>exact X1 w8 a|cons=>simp
  rcases PN (C:=C) ns d O (z ns-1) 1 (by omega) (Z0 _)with h|h;·refine⟨eT,?_⟩;simp only[v]at h;simp only[uV,h,X,seval]
  ·refine⟨eF,?_⟩;simp only[v]at h;simp only[uV,h,X,seval]
def ac0 (ns:K LU) (x:LU) (e:z ns<=8192) (O:St):∀(n i:P),i+n=z ns->
  aG C (ai C) 19 [0,1,7,8] dm [(0,.sl (z ns) (ns.map .cU)),(1,.cU x),(7,.cQ r (z ns)),(8,.cQ r i)] O=J (.dq 0,[],O)\/∃k:P,k<z ns/\aG C (ai C) 19 [0,1,7,8] dm [(0,.sl (z ns) (ns.map .cU)),(1,.cU x),(7,.cQ r (z ns)),(8,.cQ r i)] O=J (.ea,[(4,.cQ r k)],O)
 |0,i,hi=>by rw[aB (he:=w8)];have h:¬((i:W)<(z ns:W)):=(by omega);left;simp only[dm,h,X,seval]
 |n+1,i,hi=>by
  have h:((i:W)<(z ns:W)):=(by omega);have h2:i<z ns:=(by omega);have c:=wrS i (by omega);have b:(0:W)<=(i:W):=(by omega);have d2:=XV ns i h2;have sl:=XW ns;have a:=ac0 ns x e O n (i+1) (by omega);rw[aB (he:=w8)];generalize j:aG C (ai C) 19 [0,1,7,8] dm=k at*;by_cases hb:x=ns[i];·right;refine⟨i,h2,?_⟩;simp only[dm,h,h2,b,d2,sl,<-hb,p,aK3,j9,X,seval]
  ·rcases a with a|⟨f,g,a⟩;·left;simp only[dm,h,h2,c,b,d2,sl,hb,a,p,aK3,j6,X,seval]
   ·right;refine⟨f,g,?_⟩;simp only[dm,h,h2,c,b,d2,sl,hb,a,p,aK3,j6,X,seval]
def slices_Index(a:R C rG lM)(ns:K LU)(x:LU)(b:z ns<=8192)(O:St):∃k:W,ai C rG [.sl (z ns) (ns.map .cU),.cU x] O=J (.cQ r k,O)/\k<z ns:=by
 rw[a.go (NVs.E (.cV (ah6 ns) (.cV (.cU _) .db)) _)];rcases ac0 (C:=C) ns x b O (z ns) 0 (by omega)with h|⟨k,c,h⟩;·refine⟨-1,?_,by omega⟩;simp only[v]at h;simp only[lM,h,X,seval]
 ·refine⟨k,?_,by omega⟩;simp only[v]at h;simp only[lM,h,X,seval]
def axg (c:R C nY zJ) (ns:K LU) (x:LU) (O:St) (a b:P) (d:O[a]?=J (.cP [.sl (z ns) (ns.map .cU)] FZ)) (hb:O[b]?=J (.cP [.cU x] FZ)) (i:P) (hi:i<z ns):
  ∃h:T,ai C nY [.cQ r i,.da a 0,.da b 0] O=J (.cW h,O):=by
 have e:X2 eF [.cQ r i,.da a 0,.da b 0] O=J ([.cQ r i,.da a 0,.da b 0],O):=w8;have f:(0:W)<=(i:W):=by omega
 have d2:=XV ns i hi;have sl:=XW ns;rw[c.go e];refine⟨!(Op.bytesLess ns[i] x),?_⟩;simp only[zJ,d,hb,hi,f,d2,sl,p,aK3,X,seval]
def QF (d:R C nY zJ) (ns:K LU) (p:z ns<=8192) (x:LU) (O:St) (a b:P) (e:O[a]?=J (.cP [.sl (z ns) (ns.map .cU)] FZ)) (hb:O[b]?=J (.cP [.cU x] FZ)):∀(n i j:P),i<=j->j<=z ns->j-i<=n->
  ∃N:P,N<=z ns/\aG C (ai C) 26 [1,5,6] ry [(1,.dv (.func nY) [] [.da a 0,.da b 0]),(5,.cQ r i),(6,.cQ r j)] O=J (.dq 0,[(5,.cQ r N)],O)
 |n,i,j,w,hj,A=>by
  rw[aB (he:=w8)];by_cases h:i<j
  ·have c:((i:W)<(j:W)):=(by omega);obtain⟨n,rfl⟩:∃m,n=m+1:=⟨n-1,by omega⟩;obtain⟨N,q⟩:=axg d ns x O a b e hb ((i+j)/2) (by omega);have g:=QF d ns p x O a b e hb n ((i+j)/2+1) j (by omega) hj (by omega);have l:=QF d ns p x O a b e hb n i ((i+j)/2) (by omega) (by omega) (by omega);have s:IntKind.i64.wrap ((i:W)+(j:W))=((i+j:P):W):=wrE (by omega);have t:IntKind.u64.wrap ((i+j:P):W)=((i+j:P):W):=wu64 (by omega) (by omega);have u:((i+j:P):W).fdiv (2^min 1 IntKind.u64.bits)=(((i+j)/2:P):W):=by show((i+j:P):W).fdiv 2=_;grind
   have v:IntKind.i64.wrap ((((i+j)/2:P)):W)=(((i+j)/2:P):W):=wrE (by omega);have y:IntKind.i64.wrap ((((i+j)/2:P))+1:W)=(((i+j)/2+1:P):W):=wrE (by omega);have n1:¬((1:W)<0):=(by omega);generalize D:aG C (ai C) 26 [1,5,6] ry=k at*;generalize E:(i+j)/2=m at*;cases N;·obtain⟨o,r1,f⟩:=g;refine⟨o,r1,?_⟩;simp only[ry,c,s,t,u,v,y,n1,q,kV,f,a88,a05,X,seval]
   ·obtain⟨o,r1,f⟩:=l;refine⟨o,r1,?_⟩;simp only[ry,c,s,t,u,v,n1,q,kV,f,a88,a05,X,seval]
  ·have c:¬((i:W)<(j:W)):=(by omega);refine⟨i,by omega,?_⟩;simp only[ry,c,X,seval]
def sort_Search (e:R C LM Lr) (d:R C nY zJ) (ns:K LU) (g:z ns<=8192) (x:LU) (O:St) (a b:P) (f:O[a]?=J (.cP [.sl (z ns) (ns.map .cU)] FZ)) (hb:O[b]?=J (.cP [.cU x] FZ)):
  ∃h:P,h<=z ns/\ai C LM [.cQ r (z ns),.dv (.func nY) [] [.da a 0,.da b 0]] O=J (.cQ r h,O):=by
 have c:X2 eF [.cQ r (z ns),.dv (.func nY) [] [.da a 0,.da b 0]] O=J ([.cQ r (z ns),.dv (.func nY) [] [.da a 0,.da b 0]],O):=w8;obtain⟨h,r1,q⟩:=QF d ns g x O a b f hb (z ns) 0 (z ns) (by omega) (by omega) (by omega);refine⟨h,r1,?_⟩;rw[e.go c];simp only[v]at q;simp only[Lr,q,X,seval]
structure aai(C:Ctx):Prop where
 o7:Has C vK uV
 nE:Has C rG lM
 kp:Has C LM Lr
 f1:Has C nY zJ
 lj:Has C WJ H6
def alz (H:aai C) (ns:K LU) (c:z ns<=8192) (x:LU) (O:St) (d:Ok O):
  ∃(k:W) (b:T),ai C WJ [.sl (z ns) (ns.map .cU),.cU x] O=J (.de [.cQ r k,.cW b],O)/\(b=eT->0<=k)/\k<=z ns:=by
 have e:∀(k:W) (b:T) (L:St),K4 (z O) [.cQ r k,.cW b] (O++L)=O:=λk b L=>bu d w8 L;rw[H.lj.go (NVs.E (.cV (ah6 ns) (.cV (.cU _) .db)) _)];obtain⟨b,hb⟩:=aag H.o7 ns c (O++[.cP [.sl (z ns) (ns.map .cU)] FZ,.cP [.cU x] FZ]);obtain⟨k,f,i⟩:=slices_Index H.nE ns x c (O++[.cP [.sl (z ns) (ns.map .cU)] FZ,.cP [.cU x] FZ]);obtain⟨j,r1,hr⟩:=sort_Search H.kp H.f1 ns c x (O++[.cP [.sl (z ns) (ns.map .cU)] FZ,.cP [.cU x] FZ]) (z O) (z O+1) (by rw[aA];rfl) (by rw[aI];rfl);cases b;·refine⟨k,y (k>=0),?_,by simp,by omega⟩;simp only[H6,hb,f,e,X,seval]
 ·by_cases h:j<z ns;·have a:((j:W)<(z ns:W)):=(by omega);have g:(0:W)<=(j:W):=(by omega);have d2:=XV ns j h;have sl:=XW ns;refine⟨j,y (ns[j]=x),?_,λ_=>by omega,by omega⟩;simp only[H6,hb,hr,e,h,a,g,d2,sl,p,aK3,X,seval]
  ·have a:¬((j:W)<(z ns:W)):=(by omega);refine⟨j,eF,?_,λh=>X1 h (by decide),by omega⟩;simp only[H6,hb,hr,e,a,X,seval]
def abm(a b:AV)(l m:LA):yM (a::l) (b::m)=(diff a b||yM l m):=by rw[yM]
def afc:∀(l m:K LU),z l=z m->yM (l.map .cU) (m.map .cU)=eF->l=m
 |[],[],_,_=>w8|[],_::_,h,_=>by simp at h
 |_::_,[],h,_=>by simp at h
 |a::l,b::m,h,c=>by
  rw[aC9,aC9,abm,aH5]at c;have d:a=b:=by have:=c.1;unfold diff at this;rw[nU]at this;simpa using this
  rw[d,afc l m (by simpa using h) c.2]
mutual
def JW.cq:∀(x y:JW) (R b:LA),yM (x.B++R) (y.B++b)=eF->x=y/\yM R b=eF
 |.mk k n t ns is,.mk e f g c a,R,b,h=>by
  rw[JW.B,JW.B]at h;simp only[a05,a88,abm,aH5]at h;obtain⟨d,h2,h3,h4,h5,h6⟩:=h;unfold diff at d h2 h3 h4 h5;have e1:k=e:=(by simpa using d);have e2:n=f:=(by simpa using h2);have e3:t=g:=by rw[nU]at h3;simpa using h3
  rw[aH5]at h4 h5;have e4:ns=c:=afc _ _ (by simpa using h4.1) h4.2;have e5:is=a:=Ei.cq is a (by simpa using h5.1) h5.2;exact⟨by rw[e1,e2,e3,e4,e5],h6⟩
def Ei.cq:∀(l m:K JW),z l=z m->yM (Ei l) (Ei m)=eF->l=m
 |[],[],_,_=>w8|[],_::_,h,_=>by simp at h
 |_::_,[],h,_=>by simp at h
 |a::l,b::m,h,c=>by rw[Ei,Ei]at c;obtain⟨d,h2⟩:=JW.cq a b _ _ c;rw[d,Ei.cq l m (by simpa using h) h2]
end
def JV.mw{x y:JV}(h:x.w≠y.w)(R a:LA):yM (x.B++R) (y.B++a)=eT:=by
 cases b:yM (x.B++R) (y.B++a);·exact X1 (JW.cq x.w y.w R a b).1 h
 ·rfl
def JV.ek(j:JV):∃(k n:W) (t:LU) (ns:K LU) (is:K JV),j.B=[.cQ .u8 k,.cQ r n,.cU t,.sl (z ns) (ns.map .cU),.sl (z is) (aO is)]/\z ns<=8192/\z is<=8192/\(∀x∈is,L x.w<L j.w)/\∃a h3 h2 h4,j=K0 k n t ns is a h3 h2 h4:=by obtain⟨k,n,t,ns,is,a,h3,h2,h4,rfl⟩:=j.ex;refine⟨k,n,t,ns,is,JV.bO ..,by omega,h2,?_,a,h3,h2,h4,w8⟩;intro x b;show L x.w<L (JW.mk k n t ns (is.map (·.w)));have:L x.w<L (is.map (·.w)):=e (f b);simp;omega
def Abv(is:K JV)(x:AV):Prop:=x=.ep\/∃(a:JV) (R:LA),x=.ec (a.B++R)/\ae 0 R=eT/\∀j∈is,L j.w<L a.w
def Abv.nv{is:K JV}{x:AV}(h:Abv is x):NV x:=by
 rcases h with rfl|⟨a,R,rfl,b,_⟩;·exact⟨λ_ _=>w8,w8⟩
 ·exact⟨λ_ _=>w8,by rw[j0];exact EZ _ _ a.aL b⟩
def awT(np:T){is:K JV}{x:AV}(h:Abv is x)(j:JV)(hj:j∈is)(R:LA):CG np .eql 3 eF (.ec (j.B++R)) x=J (.cW eF):=by
 rcases h with rfl|⟨a,b,rfl,_,hs⟩;·cases np<;>rfl
 ·have c:=JV.mw (x:=j) (y:=a) (by
   intro e;have:=hs j hj;rw[e]at this;omega) R b
  obtain⟨k,n,t,ns,d,e1,_⟩:=j.ek;obtain⟨m,o,p,g,f,e2,_⟩:=a.ek;have hb:CG np .eql 3 eF (.ec (j.B++R)) (.ec (a.B++b))=binOp .eql 3 eF (.ec (j.B++R)) (.ec (a.B++b)):=by
   cases np;·rfl
   ·unfold CG;rw[show akW (.ec (j.B++R)) (.ec (a.B++b))=eF from by rw[e1,e2];rfl]
  rw[hb];show zQ .eql (eqA 3 eF (.ec (j.B++R)) (.ec (a.B++b)))=_;have i:QP (j.B++R)=eT:=by rw[e1];rfl
  have l:QP (a.B++b)=eT:=by rw[e2];rfl
  show(if yM (j.B++R) (a.B++b)&&(QP (j.B++R)&&QP (a.B++b))then J eF else U).map AV.cW=_;rw[c,i,l];rfl
def Dn(is:K JV)(i:P)(h:i<z is):(aO is).drop (i*5)=is[i].B++aO (is.drop (i+1)):=by
 induction is generalizing i with
 |nil=>simp at h
 |cons j l a=>
  cases i with
  |zero=>simp[aO]|succ i=>rw[aO,aJ5,Nat.one_mul,aM1,<-JV.dt j,List.drop_append,aK9 (by omega),a88];rw[show z j.B+i*z j.B-z j.B=i*5 from by rw[JV.dt];omega];have:=a i (by simpa using h);simpa using this
def aqR(is:K JV):NV (.sl (z is) (aO is)):=.sl _ (iZ is)
def Wx (is:K JV) (E:z is<=8192) (lv:W) (x:AV) (f:Abv is x)
  (d:∀(b:K JV) (g:W) (u:AV) (O:St),(∃j∈is,∀y∈b,L y.w<L j.w)->z b<=8192->Abv b u->ai C rH [.sl (z b) (aO b),.cQ r g,u,.cW eF] O=J (.cW eF,O)) (O:St):∀(n i:P),i+n=z is->
  aG C (ai C) 55 [0,1,2,3,13,14] nS [(0,.sl (z is) (aO is)),(1,.cQ r lv),(2,x),(3,.cW eF),(13,.cQ r (z is)),(14,.cQ r i)] O=J (.dq 0,[],O)
 |0,i,hi=>by rw[aB (he:=w8)];have h:¬((i:W)<(z is:W)):=(by omega);simp only[nS,h,X,seval]
 |n+1,i,hi=>by
  have h:((i:W)<(z is:W)):=(by omega);have h2:i<z is:=(by omega);have s:=wrS i (by omega);have q:(0:W)<=(i:W):=(by omega);have d2:=Dn is i h2;have sl:=jH is;have p:=Wx is E lv x f d O n (i+1) (by omega);have hj:is[i]∈is:=aD5 h2;generalize is[i]=j at*;generalize A:aO (is.drop (i+1))=R at*;have e:ae 0 R=eT:=by rw[<-A];exact iZ _
  have ne:=awT C.np f j hj R;obtain⟨k,m,t,ns,b,e1,l1,l2,hs,_⟩:=j.ek;have ca:=d b (IntKind.i64.wrap (lv+1)) x O ⟨j,hj,hs⟩ l2 (by
   rcases f with h|⟨a,w,h,hb,D⟩;·exact .inl h
   ·exact .inr ⟨a,w,h,hb,λy F=>Nat.lt_trans (hs y F) (D j hj)⟩)
  have cb:=d b (IntKind.i64.wrap (lv+1)) (.ec (j.B++R)) O ⟨j,hj,hs⟩ l2 (.inr ⟨j,R,w8,e,hs⟩);have l:((j.B++R).drop 4).head? =J (.sl (z b) (aO b)):=by rw[e1];rfl
  have o:4<=z (j.B++R):=by rw[a03,JV.dt];omega
  rw[aB (he:=w8)];generalize G:aG C (ai C) 55 [0,1,2,3,13,14] nS=H at*;generalize hv:IntKind.i64.wrap (BitVec.ofInt IntKind.i64.bits lv&&&BitVec.ofInt IntKind.i64.bits (IntKind.i64.wrap (lv-1))).toNat=v;cases c:(v==0);·simp only[nS,h,h2,s,q,d2,sl,ne,hv,c,ca,l,o,p,a90,X,seval]
  ·simp only[nS,h,h2,s,q,d2,sl,ne,hv,c,cb,l,o,p,a90,X,seval]
def Ux(e:R C rH yJ):∀(k:P) (is:K JV) (lv:W) (x:AV) (O:St),(∀y∈is,L y.w<k)->z is<=8192->Abv is x->ai C rH [.sl (z is) (aO is),.cQ r lv,x,.cW eF] O=J (.cW eF,O)
 |k,is,lv,x,O,i,l,f=>by
  have g:=Wx is l lv x f (C:=C) (λc d o h hs a b=>by
   obtain⟨j,hj,hs⟩:=hs;have p:=i j hj;obtain⟨k,rfl⟩:∃n,k=n+1:=⟨k-1,by omega⟩;exact Ux e k c d o h (λy m=>by have:=hs y m;omega) a b) O (z is) 0 (by omega)
  rw[e.go (NVs.E (.cV (aqR is) (.cV (.cQ _ _) (.cV f.nv (.cV (.cW _) .db)))) _)];simp only[v]at g;simp only[yJ,g,X,seval]
def ahT(a:R C rH yJ)(is:K JV)(b:z is<=8192)(lv:W)(O:St):ai C rH [.sl (z is) (aO is),.cQ r lv,.ep,.cW eF] O=J (.cW eF,O):=
 Ux a (L (is.map (·.w))) is lv .ep O (λy c=>e (f c)) b (.inl w8)
def jP{O S:St}{vs:LA}(a:Ok O)(hv:ae 0 vs=eT)(h:S.take (z O)=O):K4 (z O) vs S=O:=by have c:k9 0 .em=eT:=w8;have b:O.set (z O) .em=O:=List.set_eq_of_length_le (Z0 _);have:=Du (o:=z O) (x:=.em) a c hv (by rw[b,h]);rw[this,b]
def aaL(C:q):Prop:=∀(ns:K LU) (O:St),z ns<=8192->Ok O->ai C bM [.sl (z ns) (ns.map .cU)] O=J (.sl (z ns) (ns.map .cU),O)
def aj8(a b c d:P):g (.dj a b c d) (.dj a b c d)=eT:=by simp[g]
def aft.cq{Y:St}{n0:P}{is:K JV}{x:AV}(h:aft Y n0 is x):g x x=eT:=by
 rcases h with⟨_,rfl⟩|⟨_,q,rfl,_⟩;·rfl
 ·exact aj8 ..
theorem aft.Q{Y:St}{n0:P}{is:K JV}{x:AV}(h:aft Y n0 is x):x.Q=eT:=by rcases h with⟨_,rfl⟩|⟨_,q,rfl,_⟩<;>rfl
def aet{Y:St}{n0 m:P}{is:K JV}{x:AV}(h:aft Y n0 is x)(k n:W)(t:LU)(ns:K LU)(d:m<=n0):∃a,X2 eF [.cX [.cQ .u8 k,.cQ r n,.cU t,.sl (z ns) (ns.map .cU),x]] Y=J ([.cX [.cQ .u8 k,.cQ r n,.cU t,.sl (z ns) (ns.map .cU),.sl (z is) (aO is)]],a)/\a.take m=Y.take m:=by
 rcases h with⟨rfl,rfl⟩|⟨_,q,rfl,b,c⟩;·refine⟨Y,?_,w8⟩;rw[iY,aN,bK,aN,aN,aN,aN,aN,dQ,mg];rfl
 ·refine⟨_,?_,eP Y m q (by omega) (.cP (aO is) ⟨eT,U⟩)⟩;rw[iY,aN,bK,aN,aN,aN,aN,aN,Eo b (jH is) (Jz is),mg,<-qf b];rfl
structure anv(O:St)(b:AO)(hd:LA)(is:List JV)(x:AV)(Y:St):Prop where
 oA:Ok Y
 hb:Y[O.length]?=some b
 m5:Y[O.length+1]?=some mY
 hv:Y[O.length+1+1]?=some (.cP (hd++[x]) FZ)
 pf:aft Y (O.length+1) is x
 m4:Y.take O.length=O
def anl{O S T:St}{n m:P}(h:n<=m)(e:S.take m=T.take m):S.take n=T.take n:=by have:=congrArg (Z3 n) e;rwa[K5,K5,aJ3 h]at this
def ahO (is:List JV) (H:z is<=8192) (m:LA) (k n0:Int) (t:LU) (ns:List LU) (p:m=[.cQ .u8 k,.cQ r n0,.cU t,.sl (z ns) (ns.map .cU)]) (O:St) (b:AO)
  (A:∀j∈is,∀Y:St,Ok Y->ai C nX [j.av] Y=J (j.av,Y)):∀(n i:Nat),i+n=z is->∀(x:AV) (Y:St),anv O b m (is.take i) x Y->
  ∃(v:AV) (g:St),aG C (ai C) 32 [2,3,17,18,19] ou [(2,.da (z O+1) 0),(3,.da (z O+1+1) 0),(17,.sl (z is) (aO is)),(18,.cQ r (z is)),(19,.cQ r i)] Y=J (.dq 0,[(2,.da (z O+1) 0),(3,.da (z O+1+1) 0)],g)/\anv O b m is v g
 |0,i,hi,x,Y,I=>by have h:¬((i:Int)<(z is:Int)):=(by omega);refine⟨x,Y,?_,by rw[a98 (by omega)]at I;exact I⟩;rw[aB (he:=w8)];simp only[ou,h,EVX,seval]
 |n+1,i,hi,x,Y,I=>by
  obtain⟨hok,hb,hres,hv,his,hpre⟩:=I;have h:((i:Int)<(z is:Int)):=(by omega);have h2:i<z is:=(by omega);have V:=wrS i (by omega);have S:(0:Int)<=(i:Int):=(by omega);have d2:=Dn is i h2;have sl:=jH is;have hj:is[i]∈is:=aD5 h2;have K:is.take (i+1)=is.take i++[is[i]]:=(by rw[aG0 h2]);generalize is[i]=j at*;generalize aO (is.drop (i+1))=R at*;have l:=JV.dt j;have P:=JV.Q j;have Q:(j.B++R).take 5=j.B:=by rw[<-l];simp
  have M:5<=z (j.B++R):=(by simp[l]);have s:j.B.take 5=j.B:=a98 (by rw[JV.dt];exact Z0 _);have N:5<=z j.B:=by rw[JV.dt];exact Z0 _
  have T:∀a b c d e:AV,w9 [a,b,c,d,e] 0 j.B=j.B:=λa b c d e=>by simp[w9,l]
  have u:Ok (Y++[.cP j.B FZ]):=hok.H (by rw[K6,show k9 0 (.cP j.B FZ)=eT from j.aL];rfl);have q:=A j hj _ u;have sx:=his.cq;obtain⟨w,a1,a2,a3,a4,a5,a6,a7⟩:=ajV (o:=z O) j (.cP j.B FZ) his hok (by simp;omega) (by omega) hb hres hv;have lt:z (is.take i)=i:=by simp;omega
  rw[lt]at a1;have b1:=λL=>aj hv L;have E:=λL=>aj a5 L;have B:=λL y=>gZ a5 L y;have F:=λL=>aU (w8:z Y=_) L;have s1:=λL y=>fV (w8:z Y=_) L y;subst p;dsimp only[Z2,Z6]at*;have f:Ok ((w++[AO.cP j.B FZ,AO.cP (aO (is.take i++[j])) FZ]:St).set (z O+1+1) (.cP [.cQ .u8 k,.cQ r n0,.cU t,.sl (z ns) (ns.map .cU),.dj (z Y+1) 0 (i+1) 5] FZ)):=by refine Ok.bd (a7.H (by simp only[K6,aC6,k9,JV.aL,iZ,aE1])) _ ?_;rw[a03,a2];have:=aP (a97 (z Y+2)) _ (xH ns);simp only[k9,ae,j0,a94,a96,this];simp
  rw[B]at f;have Z:z O+1+1<z Y:=(a00.mp hv).1;have D:anv O b [.cQ .u8 k,.cQ r n0,.cU t,.sl (z ns) (ns.map .cU)] (is.take (i+1)) (.dj (z Y+1) 0 (i+1) 5) (w.set (z O+1+1) (.cP [.cQ .u8 k,.cQ r n0,.cU t,.sl (z ns) (ns.map .cU),.dj (z Y+1) 0 (i+1) 5] FZ)++[.cP j.B FZ,.cP (aO (is.take i++[j])) FZ]):=by
   rw[K];refine⟨f,aj (aH a3 (by omega) _) _,aj (aH a4 (by omega) _) _,aj (bF a5 _) _,.inr ⟨by simp,z Y+1,by simp[lt],?_,by omega⟩,?_⟩;·rw[yG (by rw[a99,a2])];rfl
   ·rw[qO _ _ _ (by rw[a99,a2];omega),eP _ _ _ (by omega)];exact(anl (O:=O) (by omega) a6).trans hpre
  obtain⟨v,g,e1,e2⟩:=ahO is H _ k n0 t ns w8 O b A n (i+1) (by omega) _ _ D;refine⟨v,g,?_,e2⟩;rw[aB (he:=w8)];generalize W:aG C (ai C) 32 [2,3,17,18,19] ou=X at*;unfold j8 at q;simp only[ou,h,h2,V,S,d2,sl,q,sx,a1,b1,E,B,F,s1,e1,l,P,Q,M,s,T,a90,AV.cP,AV.Q,EVX,seval]
def Ph(c:aaL C)(i:R C nX DR):∀(m:P) (j:JV) (O:St),L j.w<m->Ok O->ai C nX [j.av] O=J (j.av,O)
 |0,j,O,l,_=>X1 l (by omega)
 |m+1,j,O,l,a=>by
  obtain⟨k,n,t,ns,is,e1,l1,l2,hs,F,h2,hj⟩:=j.ek;have u:∀x∈is,∀Y:St,Ok Y->ai C nX [x.av] Y=J (x.av,Y):=λx y Y e=>Ph c i m x Y (by have:=hs x y;omega) e;have f:Ok (O++[.cP j.B FZ,.cP [.cQ .u8 0,.cQ r 0,.cU [],.cY,.cY] FZ]):=a.H (by rw[K6,show k9 0 (.cP j.B FZ)=eT from j.aL];rfl)
  have cl:=c ns _ l1 f;have g:Ok (O++[.cP j.B FZ,mY,.cP [.cQ .u8 k,.cQ r n,.cU t,.sl (z ns) (ns.map .cU),.cY] FZ]):=a.H (by
   rw[K6,show k9 0 (.cP j.B FZ)=eT from j.aL];simp[mY,k9,ae,j0,xH])
  obtain⟨b,d,q1,q2⟩:=ahO is l2 _ k n t ns w8 O (.cP j.B FZ) u (z is) 0 (by omega) .cY _ ⟨g,by rw[aA];rfl,by rw[aI];rfl,by rw[aI8,aI];rfl,.inl ⟨w8,w8⟩,by simp⟩
  obtain⟨hok,hb,hres,hv,his,hpre⟩:=q2;obtain⟨B,v,o⟩:=aet (m:=z O) (is:=is) (n0:=z O+1) (Y:=d.set (z O+1) (.cP [.cQ .u8 k,.cQ r n,.cU t,.sl (z ns) (ns.map .cU),b] FZ)) (x:=b) (by
   rcases his with h|⟨e1,q,e2,e3,e4⟩;·exact .inl h
   ·exact .inr ⟨e1,q,e2,aH e3 (by omega) _,e4⟩) k n t ns (by omega)
  have p:=his.Q;rw[eP _ _ _ (by omega),hpre]at o;have A:=jP (vs:=[.cX [.cQ .u8 k,.cQ r n,.cU t,.sl (z ns) (ns.map .cU),.sl (z is) (aO is)]]) a (by simp[ae,j0,xH,iZ]) o;have s:=bF hres (.cP [.cQ .u8 k,.cQ r n,.cU t,.sl (z ns) (ns.map .cU),b] FZ);have w:X2 eF [j.av] O=J ([j.av],O):=NVs.E (.cV j.nv .db) _;unfold j8 at*;rw[i.go w];have b1:∀(E:As),look E 2=.da (z O+1) 0->iF (z O) [.eN 2 eT 5] (J (.ea,E,d.set (z O+1) (.cP [.cQ .u8 k,.cQ r n,.cU t,.sl (z ns) (ns.map .cU),b] FZ)))=J (.cX [.cQ .u8 k,.cQ r n,.cU t,.sl (z ns) (ns.map .cU),.sl (z is) (aO is)],O):=λE h2=>by
   rw[zO];have:aZ E (d.set (z O+1) (.cP [.cQ .u8 k,.cQ r n,.cU t,.sl (z ns) (ns.map .cU),b] FZ)) [.eN 2 eT 5]=J [.cX [.cQ .u8 k,.cQ r n,.cU t,.sl (z ns) (ns.map .cU),b]]:=by simp only[aZ,h2,s,pt,aB8,a94,a96,Z3];rfl
   rw[this];dsimp only;rw[v];dsimp only[dG];rw[A]
  rw[e1]at cl q1 hb;generalize G:iF=D at*;dsimp only[Z2,Z6,mY,Int.natCast_zero,Int.cast_ofNat_Int]at*;simp only[DR,e1,cl,q1,hres,hv,p,AV.cP,aI8,w9,X,seval];refine b1 _ ?_;rfl
def ae2 (g:Has C rH yJ) (is:List JV) (P:z is<=8192) (s:LA) (k n0:Int) (t:LU) (ns:List LU) (u:s=[.cQ .u8 k,.cQ r n0,.cU t,.sl (z ns) (ns.map .cU)]) (O:St) (b:AO)
  (D:∀j∈is,∀Y:St,Ok Y->ai C nX [j.av] Y=J (j.av,Y)):∀(n i:Nat),i+n=z is->∀(x:AV) (Y:St),anv O b s (is.take i) x Y->
  ∃(A:AV) (p:St),aG C (ai C) 36 [2,3,17,18,19] wY [(2,.da (z O+1) 0),(3,.da (z O+1+1) 0),(17,.sl (z is) (aO is)),(18,.cQ r (z is)),(19,.cQ r i)] Y=J (.dq 0,[(2,.da (z O+1) 0),(3,.da (z O+1+1) 0)],p)/\anv O b s is A p
 |0,i,hi,x,Y,I=>by have h:¬((i:Int)<(z is:Int)):=(by omega);refine⟨x,Y,?_,by rw[a98 (by omega)]at I;exact I⟩;rw[aB (he:=w8)];simp only[wY,h,EVX,seval]
 |n+1,i,hi,x,Y,I=>by
  obtain⟨hok,hb,hres,hv,his,hpre⟩:=I;have h:((i:Int)<(z is:Int)):=(by omega);have h2:i<z is:=(by omega);have w2:=wrS i (by omega);have Z:(0:Int)<=(i:Int):=(by omega);have d2:=Dn is i h2;have sl:=jH is;have hj:is[i]∈is:=aD5 h2;have Q:is.take (i+1)=is.take i++[is[i]]:=(by rw[aG0 h2]);generalize is[i]=j at*;generalize aO (is.drop (i+1))=R at*;have l:=JV.dt j;have V:=JV.Q j;have W:(j.B++R).take 5=j.B:=by rw[<-l];simp
  have S:5<=z (j.B++R):=(by simp[l]);have v:j.B.take 5=j.B:=a98 (by rw[JV.dt];exact Z0 _);have T:5<=z j.B:=by rw[JV.dt];exact Z0 _
  have sp:∀a b c d e:AV,w9 [a,b,c,d,e] 0 j.B=j.B:=λa b c d e=>by simp[w9,l]
  have w:Ok (Y++[.cP j.B FZ]):=hok.H (by rw[K6,show k9 0 (.cP j.B FZ)=eT from j.aL];rfl);have q:=D j hj _ w;obtain⟨k1,n1,t1,X,f,f1,f2,H,_⟩:=j.ek;have en:=ahT g f H 1 (Y++[.cP j.B FZ]);have K:(j.B.drop 4).head? =J (.sl (z f) (aO f)):=by rw[f1];rfl
  have f5:4<=z j.B:=by rw[l];omega
  have sx:=his.cq;obtain⟨B,a1,a2,a3,a4,a5,a6,a7⟩:=ajV (o:=z O) j (.cP j.B FZ) his hok (by simp;omega) (by omega) hb hres hv;have lt:z (is.take i)=i:=by simp;omega
  rw[lt]at a1;have b1:=λL=>aj hv L;have G:=λL=>aj a5 L;have E:=λL y=>gZ a5 L y;have M:=λL=>aU (w8:z Y=_) L;have s1:=λL y=>fV (w8:z Y=_) L y;subst u;dsimp only[Z2,Z6]at*;have m:Ok ((B++[AO.cP j.B FZ,AO.cP (aO (is.take i++[j])) FZ]:St).set (z O+1+1) (.cP [.cQ .u8 k,.cQ r n0,.cU t,.sl (z ns) (ns.map .cU),.dj (z Y+1) 0 (i+1) 5] FZ)):=by refine Ok.bd (a7.H (by simp only[K6,aC6,k9,JV.aL,iZ,aE1])) _ ?_;rw[a03,a2];have:=aP (a97 (z Y+2)) _ (xH ns);simp only[k9,ae,j0,a94,a96,this];simp
  rw[E]at m;have nl:z O+1+1<z Y:=(a00.mp hv).1;have F:anv O b [.cQ .u8 k,.cQ r n0,.cU t,.sl (z ns) (ns.map .cU)] (is.take (i+1)) (.dj (z Y+1) 0 (i+1) 5) (B.set (z O+1+1) (.cP [.cQ .u8 k,.cQ r n0,.cU t,.sl (z ns) (ns.map .cU),.dj (z Y+1) 0 (i+1) 5] FZ)++[.cP j.B FZ,.cP (aO (is.take i++[j])) FZ]):=by
   rw[Q];refine⟨m,aj (aH a3 (by omega) _) _,aj (aH a4 (by omega) _) _,aj (bF a5 _) _,.inr ⟨by simp,z Y+1,by simp[lt],?_,by omega⟩,?_⟩;·rw[yG (by rw[a99,a2])];rfl
   ·rw[qO _ _ _ (by rw[a99,a2];omega),eP _ _ _ (by omega)];exact(anl (O:=O) (by omega) a6).trans hpre
  obtain⟨A,p,e1,e2⟩:=ae2 g is P _ k n0 t ns w8 O b D n (i+1) (by omega) _ _ F;refine⟨A,p,?_,e2⟩;rw[aB (he:=w8)];generalize hk:aG C (ai C) 36 [2,3,17,18,19] wY=kk at*;unfold j8 at q;simp only[wY,h,h2,w2,Z,d2,sl,q,en,K,sx,a1,b1,G,E,M,s1,e1,l,V,W,S,v,sp,a90,AV.cP,AV.Q,EVX,seval]
structure CopyHas(C:Ctx):Prop where
 cl:aaL C
 pd:Has C nX DR
 lf:Has C rH yJ
 gy:Has C Eg VB
def OE(H:CopyHas C)(j:JV)(O:St)(a:Ok O):ai C Eg [j.av] O=J (j.av,O):=by
 obtain⟨k,n,t,ns,is,e1,l1,l2,hs,y,h2,hj⟩:=j.ek;have o:∀x∈is,∀Y:St,Ok Y->ai C nX [x.av] Y=J (x.av,Y):=λx B Y d=>Ph H.cl H.pd _ x Y (aK6 _) d;have e:Ok (O++[.cP j.B FZ,.cP [.cQ .u8 0,.cQ r 0,.cU [],.cY,.cY] FZ]):=a.H (by rw[K6,show k9 0 (.cP j.B FZ)=eT from j.aL];rfl)
 have cl:=H.cl ns _ l1 e;have f:Ok (O++[.cP j.B FZ,mY,.cP [.cQ .u8 k,.cQ r n,.cU t,.sl (z ns) (ns.map .cU),.cY] FZ]):=a.H (by
  rw[K6,show k9 0 (.cP j.B FZ)=eT from j.aL];simp[mY,k9,ae,j0,xH])
 obtain⟨b,c,q1,q2⟩:=ae2 H.lf is l2 _ k n t ns w8 O (.cP j.B FZ) o (z is) 0 (by omega) .cY _ ⟨f,by rw[aA];rfl,by rw[aI];rfl,by rw[aI8,aI];rfl,.inl ⟨w8,w8⟩,by simp⟩
 obtain⟨hok,hb,hres,hv,his,hpre⟩:=q2;obtain⟨v,p,g⟩:=aet (m:=z O) (is:=is) (n0:=z O+1) (Y:=c.set (z O+1) (.cP [.cQ .u8 k,.cQ r n,.cU t,.sl (z ns) (ns.map .cU),b] FZ)) (x:=b) (by
  rcases his with h|⟨e1,q,e2,e3,e4⟩;·exact .inl h
  ·exact .inr ⟨e1,q,e2,aH e3 (by omega) _,e4⟩) k n t ns (by omega)
 have i:=his.Q;rw[eP _ _ _ (by omega),hpre]at g;have u:=jP (vs:=[.cX [.cQ .u8 k,.cQ r n,.cU t,.sl (z ns) (ns.map .cU),.sl (z is) (aO is)]]) a (by simp[ae,j0,xH,iZ]) g;have l:=bF hres (.cP [.cQ .u8 k,.cQ r n,.cU t,.sl (z ns) (ns.map .cU),b] FZ);have s:X2 eF [j.av] O=J ([j.av],O):=NVs.E (.cV j.nv .db) _;unfold j8 at*;rw[H.gy.go s];have b1:∀(E:As),look E 2=.da (z O+1) 0->iF (z O) [.eN 2 eT 5] (J (.ea,E,c.set (z O+1) (.cP [.cQ .u8 k,.cQ r n,.cU t,.sl (z ns) (ns.map .cU),b] FZ)))=J (.cX [.cQ .u8 k,.cQ r n,.cU t,.sl (z ns) (ns.map .cU),.sl (z is) (aO is)],O):=λE h2=>by
  rw[zO];have:aZ E (c.set (z O+1) (.cP [.cQ .u8 k,.cQ r n,.cU t,.sl (z ns) (ns.map .cU),b] FZ)) [.eN 2 eT 5]=J [.cX [.cQ .u8 k,.cQ r n,.cU t,.sl (z ns) (ns.map .cU),b]]:=by simp only[aZ,h2,l,pt,aB8,a94,a96,Z3];rfl
  rw[this];dsimp only;rw[p];dsimp only[dG];rw[u]
 rw[e1]at cl q1 hb;generalize A:iF=w at*;dsimp only[Z2,Z6,mY,Int.natCast_zero,Int.cast_ofNat_Int]at*;simp only[VB,e1,cl,q1,hres,hv,i,AV.cP,aI8,w9,X,seval];refine b1 _ ?_;rfl
def ap3(H:CopyHas C)(F:aai C)(u:Has C Gx Df)(j:JV)(x:LU)(O:St)(g:Ok O):∃(w:JV) (b:T),ai C Gx [j.av,.cU x] O=J (.de [w.av,.cW b],O):=by
 obtain⟨k,n,t,ns,is,e1,l1,l2,hs,K,h2,hj⟩:=j.ek;have v:X2 eF [j.av,.cU x] O=J ([j.av,.cU x],O):=NVs.E (.cV j.nv (.cV (.cU _) .db)) _;have m:∀(b:T) (L:St),K4 (z O) [.cX [.cQ .u8 0,.cQ r 0,.cU [],.sl 0 [],.sl 0 []],.cW b] (O++L)=O:=λb L=>bu g w8 L;have h:Ok (O++[.cP j.B FZ,.cP [.cQ .u8 0,.cQ r 0,.cU [],.cY,.cY] FZ]):=g.H (by rw[K6,show k9 0 (.cP j.B FZ)=eT from j.aL];rfl);obtain⟨a,b,q1,q2,q3⟩:=alz F ns l1 x _ h;rw[u.go v];unfold j8;rw[e1]at q1 h;rw[e1];cases i:(k !=5)
 ·cases b;·refine⟨JV.ab,eF,?_⟩;rw[JV.be];simp only[Df,i,q1,m,aZ,bK,dQ,AV.cP,AV.Q,w9,X,seval]
  ·have q:=q2 w8;obtain⟨a,rfl⟩:=Int.eq_ofNat_of_zero_le q;by_cases s:a<z is
   ·have f:¬((z is:W)<=(a:W)):=(by omega);have d2:=Dn is a s;have sl:=jH is;generalize is[a]=y at*;generalize aO (is.drop (a+1))=R at*;have l:=JV.dt y;have G:=JV.Q y;have I:(y.B++R).take 5=y.B:=by rw[<-l];simp
    have D:5<=z (y.B++R):=(by simp[l]);have o:y.B.take 5=y.B:=a98 (by rw[JV.dt];exact Z0 _);have E:5<=z y.B:=by rw[JV.dt];exact Z0 _
    have A:∀a b c d e:AV,w9 [a,b,c,d,e] 0 y.B=y.B:=λa b c d e=>by simp[w9,l]
    have p:=OE H y _ h;have B:∀(b:T) (L:St),K4 (z O) [.cX y.B,.cW b] (O++L)=O:=λb L=>bu g (by rw[ae,j0,y.aL];rfl) L;have nf:=λY N=>y.af.nf Y N;refine⟨y,eT,?_⟩;unfold j8 at p;simp only[Df,i,q1,s,f,q,d2,sl,p,l,G,I,D,o,A,B,nf,a90,aZ,bK,AV.cP,X,seval]
   ·have f:((z is:W)<=(a:W)):=(by omega);refine⟨JV.ab,eF,?_⟩;rw[JV.be];simp only[Df,i,q1,f,m,aZ,bK,dQ,AV.cP,AV.Q,w9,X,seval]
 ·refine⟨JV.ab,eF,?_⟩;rw[JV.be];simp only[Df,i,m,aZ,bK,dQ,AV.cP,AV.Q,w9,X,seval]
def ac4:∀is:K JV,aO is=is.flatMap JV.B
 |[]=>by rw[aO];rfl
 |j::l=>by rw[aO,ac4 l,aF0]
def ack (k n:W) (t:LU) (ns:K LU) (I:AV) (d:z ns<=1099511627776) (O:St) (X:AO) (a:X=.cP [.cQ .u8 k,.cQ r n,.cU t,.sl (z ns) (ns.flatMap sC),I] FZ):∀(m i:P),i+m=z ns->
  aG C (ai C) 81 [2,3,5] jY [(2,.da (z O) 0),(3,.da (z O+1) 0),(5,.cQ r i)] (O++[X,X])=J (.dq 0,[(2,.da (z O) 0),(3,.da (z O+1) 0)],O++[X,X])
 |0,i,hi=>by rw[aB (he:=w8)];have h:¬((i:W)<(z ns:W)):=(by omega);have fl:=bz QC ns;rw[aD2]at fl;subst a;simp only[jY,h,bC,aA,EVX,seval]
 |m+1,i,hi=>by rw[aB (he:=w8)];have h:((i:W)<(z ns:W)):=(by omega);have h2:i<z ns:=(by omega);have hb:ns[i]?=J ns[i]:=a01 h2;have e:=wrS i (by omega);have h3:(0:W)<=i:=(by omega);have fl:=bz QC ns;have fd:=iy QC hb;obtain⟨p,b⟩:∃p,p=ns[i]:=⟨_,w8⟩;rw[<-b,aD2]at fd;rw[aD2]at fl;have pc:sC p=[.cU p]:=w8;have f:=ack k n t ns I d O X a m (i+1) (by omega);subst a;generalize g:aG C (ai C) 81 [2,3,5] jY=k at*;simp only[jY,h,h2,h3,e,fl,fd,pc,bC,f,aA,aI,a05,aD2,EVX,seval]
def afi (k n:W) (t:LU) (N:AV) (is:K JV) (u:z is<=8192) (O:St) (X:AO) (f:X=.cP [.cQ .u8 k,.cQ r n,.cU t,N,.sl (z is) (is.flatMap JV.B)] FZ) (o:Ok (O++[X,X])) (l:∀j∈is,∀Y,Ok Y->ai C iW [j.av,j.av] Y=J (.cW eT,Y)):∀(m i:P),i+m=z is->
  aG C (ai C) 81 [2,3,6] mV [(2,.da (z O) 0),(3,.da (z O+1) 0),(6,.cQ r i)] (O++[X,X])=J (.dq 2,[],O++[X,X])
 |0,i,hi=>by rw[aB (he:=w8)];have h:¬((i:W)<(z is:W)):=(by omega);subst f;simp only[mV,h,bC,aA,EVX,seval]
 |m+1,i,hi=>by
  rw[aB (he:=w8)];have h:((i:W)<(z is:W)):=(by omega);have h2:i<z is:=(by omega);have hb:is[i]?=J is[i]:=a01 h2;have v:=wrS i (by omega);have h3:(0:W)<=i:=(by omega);have fl:=bz JV.dt is;have fd:=iy JV.dt hb;have q:=l is[i] (aD5 h2) _ o;obtain⟨p,g⟩:∃p,p=is[i]:=⟨_,w8⟩;rw[<-g]at fd q;unfold j8 at q;obtain⟨a,b,c,d,e,pc⟩:∃a b c d e,p.B=[a,b,c,d,e]:=by
   have:=JV.dt p
   match h:p.B,this with
   |[a,b,c,d,e],_=>exact⟨a,b,c,d,e,w8⟩
  have y:([a,b,c,d,e]:LA).all AV.Q=eT:=by rw[<-pc];exact JV.Q p
  rw[pc]at fd q;have w:=afi k n t N is u O X f o l m (i+1) (by omega);subst f;generalize x:aG C (ai C) 81 [2,3,6] mV=k at*;simp only[mV,h,h2,h3,v,fl,fd,q,bC,w,aA,aI,a05,aI1,List.take_zero,EVX,seval]
def ZR(c:R C iW pJ):∀(m:P) (j:JV) (O:St),L j.w<m->Ok O->ai C iW [j.av,j.av] O=J (.cW eT,O)
 |0,j,O,e,_=>X1 e (by omega)
 |m+1,j,O,e,a=>by
  obtain⟨k,n,t,ns,is,e1,l1,l2,hs,p,h2,hj⟩:=j.ek;have h:∀x∈is,∀Y:St,Ok Y->ai C iW [x.av,x.av] Y=J (.cW eT,Y):=λx l Y b=>ZR c m x Y (by have:=hs x l;omega) b
  have f:X2 eF [j.av,j.av] O=J ([j.av,j.av],O):=NVs.E (.cV j.nv (.cV j.nv .db)) _;rw[ay5,ac4]at e1;have d:Ok (O++[.cP j.B FZ,.cP j.B FZ]):=a.H (by
   have:k9 0 (.cP j.B FZ)=eT:=j.aL;grind)
  rw[e1]at d;have g:=ack (C:=C) k n t ns (.sl (z is) (is.flatMap JV.B)) (by omega) O _ w8 (z ns) 0 (by omega);have lq:=afi (C:=C) k n t (.sl (z ns) (ns.flatMap sC)) is l2 O _ w8 d h (z is) 0 (by omega);simp only[v]at g lq;have fl:=bz QC ns;have i:=bz JV.dt is;rw[aD2]at fl;have o:=bu a (vs:=[.cW eT]) w8;unfold j8 at f⊢;rw[c.go f,e1];simp only[pJ,g,lq,bC,o,aA,aI,AV.cP,a05,X,seval]
def al0(b:R C iW pJ)(j:JV)(O:St)(a:Ok O):ai C iW [j.av,j.av] O=J (.cW eT,O):=ZR b _ j O (aK6 _) a
def rC(n:W)(hs:K PS)(j:JV):LA:=.cQ r n::.sl (z hs) (hs.flatMap pC)::j.B
theorem acB(n:W)(hs:K PS)(j:JV):ae 0 (rC n hs j)=eT:=by unfold rC;have h:j0 0 (.sl (z hs) (hs.flatMap pC))=eT:=(rV hs).cl;rw[ae,ae,h,j.aL];rfl
def axY(n:W)(hs:K PS)(j:JV):z (rC n hs j)=7:=by simp[rC,JV.dt]
def acF(g:R C jZ mi)(i:R C fF fD)(l:R C iW pJ)(n:W)(hs:K PS)(m:z hs<=1099511627776)(j:JV)(O:St)(f:Ok O):ai C jZ [.cX (rC n hs j),.cX (rC n hs j)] O=J (.cW eT,O):=by
 have nv:NV (.cX (rC n hs j)):=.cX (.cV (.cQ _ _) (.cV (rV hs) j.af));have k:Ok (O++[.cP (rC n hs j) FZ,.cP (rC n hs j) FZ]):=f.H (by
  grind [k9,acB])
 rw[g.go (NVs.E (.cV nv (.cV nv .db)) _)];have q1:=YG i hs m;have q2:=al0 l j _ k;unfold j8 at q2;obtain⟨a,b,c,d,e,pc⟩:∃a b c d e,j.B=[a,b,c,d,e]:=by
  have:=JV.dt j
  match h:j.B,this with
  |[a,b,c,d,e],_=>exact⟨a,b,c,d,e,w8⟩
 have p:([a,b,c,d,e]:LA).all AV.Q=eT:=by rw[<-pc];exact JV.Q j
 have o:=bu f (vs:=[.cW eT]) w8;unfold rC at q2⊢;rw[pc]at q2⊢;simp only[mi,q1,q2,o,aA,aI,AV.cP,a05,aI1,X,seval]
structure RoV where
 C:LU
 cf:Int
 V:List LU
 b5:Bool
 bj:List LU
 b2:List LU
def tC(ns:K LU):AV:=.sl (z ns) (ns.flatMap sC)
def RoV.B(d:RoV):LA:=[.cU d.C,.cQ r d.cf,tC d.V,.cW d.b5,tC d.bj,tC d.b2]
theorem RoV.dt(d:RoV):z d.B=6:=w8
def ath(ns:K LU):j0 0 (tC ns)=eT:=(pG ns).cl
theorem RoV.aL(d:RoV):ae 0 d.B=eT:=by unfold RoV.B;simp[ae,ath,j0]
structure RoV.ok(r:RoV):Prop where
 V:r.V.length<=1099511627776
 bj:r.bj.length<=1099511627776
 b2:r.b2.length<=1099511627776
def af5:∀l:LA,(∀v∈l,g v v=eT)->zG l l=eT
 |[],_=>by simp[zG]
 |v::l,h=>by rw[zG,h v (by simp),af5 l λx a=>h x (by simp[a])];rfl
def avj(n:P)(l:LA)(h:∀v∈l,g v v=eT):g (.sl n l) (.sl n l)=eT:=by rw[g,af5 l h];simp
def agQ(ns:K LU):g (tC ns) (tC ns)=eT:=avj _ _ λv hv=>by obtain⟨s,_,hs⟩:=aH6.mp hv;simp only[sC,aC7]at hs;rw[hs];exact QE _
def RoV.cq(d:RoV):∀v∈d.B,g v v=eT:=λv hv=>by
 simp only[RoV.B,aC8,aI5,K8]at hv;rcases hv with rfl|rfl|rfl|rfl|rfl|rfl;·exact QE _
 ·exact QD _ _
 ·exact agQ _
 ·exact SL _
 ·exact agQ _
 ·exact agQ _
structure Hw where
 al:List PS
 O:List RoV
 cf:Int
 V:List LU
 cp:Int
 bR:LU
def Hw.B(d:Hw):LA:=[.sl (z d.al) (d.al.flatMap pC),.sl (z d.O) (d.O.flatMap RoV.B),.cQ r d.cf,tC d.V,.cQ r d.cp,.cU d.bR]
structure Hw.ok(d:Hw):Prop where
 al:d.al.length<=1099511627776
 O:d.O.length<=1099511627776
 cS:∀r∈d.O,r.ok
 V:d.V.length<=1099511627776
def ZU(l:K RoV):j0 0 (.sl (z l) (l.flatMap RoV.B))=eT:=dP (λd=>d.aL) l
theorem Hw.af(d:Hw):NVs d.B:=.cV (rV d.al) (.cV (.sl _ (ZU d.O)) (.cV (.cQ _ _) (.cV (pG d.V) (.cV (.cQ _ _) (.cV (.cU _) .db)))))
theorem Hw.aL(d:Hw):ae 0 d.B=eT:=d.af.cl
structure TgV where
 eh:LU
 n:Int
 hs:List PS
 j:JV
def TgV.B(t:TgV):LA:=.cU t.eh::rC t.n t.hs t.j
theorem TgV.dt(t:TgV):z t.B=8:=by rw[TgV.B,a94,axY]
theorem TgV.aL(t:TgV):ae 0 t.B=eT:=by rw[TgV.B,ae,acB];rfl
structure dV where
 bU:Int
 bx:Int
 bi:List TgV
 bv:Hw
def dV.B(t:dV):LA:=.cQ r t.bU::.cQ r t.bx::.sl (z t.bi) (t.bi.flatMap TgV.B)::t.bv.B
def Ik:K Sh:=[.df,.cQ r,.ew [.df],.cW,.ew [.df],.ew [.df]]
def alx:K Sh:=[.df,.cQ r,.ew [.df,.df],.jv]
abbrev TsM(l:K LU):Prop:=M V0 (.ew [.df]) (.sl (z l) (l.flatMap sC))
structure adl(d:Hw):Prop where
 O:∀x∈d.O,Ms V0 Ik x.B
 rl:d.O.length<=8192
 km:M V0 (.ew [.df,.df]) (.sl d.al.length (d.al.flatMap pC))
 al:d.al.length<=8192/\∀x∈d.al,x.1.length<=LB/\x.2.length<=LB
 V:TsM d.V
 bR:d.bR.length<=LB
structure aaZ(T:dV):Prop where
 bi:∀t∈T.bi,Ms V0 alx t.B
 ll:T.bi.length<=8192
 bv:adl T.bv
structure dV.ok(t:dV):Prop where
 bi:t.bi.length<=1099511627776
 cS:∀x∈t.bi,x.hs.length<=1099511627776
 bv:t.bv.ok
 g:aaZ t
theorem dV.af(t:dV):NVs t.B:=.cV (.cQ _ _) (.cV (.cQ _ _) (.cV (.sl _ (dP (λd=>d.aL) t.bi)) t.bv.af))
structure mP where
 th:Int
 V:List LU
def mP.B(a:mP):LA:=[.cQ r a.th,.sl (z a.V) (a.V.flatMap sC)]
theorem mP.dt(a:mP):z a.B=2:=w8
def OC(l:K LU):ae 0 (l.flatMap sC)=eT:=dP (λ_=>w8) l
theorem mP.below(a:mP):ae 0 a.B=eT:=by simp only[mP.B,ae,j0,OC];rfl
def aak(a:mP):NV (.cX a.B):=.cX (.cV (.cQ _ _) (.cV (.sl _ (OC _)) .db))
structure oZ where
 C:LU
 cy:Int
 I:Int
 aM:List PS
def oZ.B(p:oZ):LA:=[.cU p.C,.cQ r p.cy,.cQ r p.I,.sl (z p.aM) (p.aM.flatMap pC)]
structure iH where
 id:LU
 j0:LU
 ei:LU
def iH.B(k:iH):LA:=[.cU k.id,.cU k.j0,.cU k.ei]
theorem iH.dt(k:iH):z k.B=3:=w8
def ajz(l:K iH):NV (.sl (z l) (l.flatMap iH.B)):=.sl _ (dP (λ_=>w8) l)
def ain(k:iH):T:=y (300<z k.id)||y (300<z k.j0)||y (300<z k.ei)
def xA(l:K iH):T:=y (60<z l)||l.any ain
def Dp (l:K iH) (o:z l<=60) (O:St):∀(n i:P),i+n=z l->
  aG C (ai C) 38 [0,3] dI [(0,.sl (z l) (l.flatMap iH.B)),(3,.cQ r i)] O=if(l.drop i).any ain then J (.ea,[(2,.cW eT)],O)else J (.dq 0,[],O)
 |0,i,hi=>by rw[aB (he:=w8)];have h:¬((i:W)<(z l:W)):=(by omega);have e:l.drop i=[]:=aC0 (by omega);simp only[dI,h,e,List.any_nil,bC,X,seval]
 |n+1,i,hi=>by
  rw[aB (he:=w8)];have h:((i:W)<(z l:W)):=(by omega);have h2:i<z l:=(by omega);have hb:l[i]?=J l[i]:=a01 h2;have e:l.drop i=l[i]::l.drop (i+1):=aB6 h2;have h3:(0:W)<=i:=(by omega);have q:=wrS i (by omega);have fl:=bz iH.dt l;have fd:=iy iH.dt hb;obtain⟨p,g⟩:∃p,p=l[i]:=⟨_,w8⟩;rw[<-g]at fd e;have pc:p.B=[.cU p.id,.cU p.j0,.cU p.ei]:=w8;have s:=Dp l o O n (i+1) (by omega);rw[e,List.any_cons,ain];generalize t:aG C (ai C) 38 [0,3] dI=k at*;by_cases d:300<z p.id;·have a:(300:W)<(z p.id:W):=(by omega);simp only[dI,h,h2,h3,d,a,fl,fd,pc,bC,aJ6,X,seval]
  ·have a:¬(300:W)<(z p.id:W):=(by omega);by_cases f:300<z p.j0;·have b:(300:W)<(z p.j0:W):=(by omega);simp only[dI,h,h2,h3,d,a,f,b,fl,fd,pc,bC,aJ6,aH9,X,seval]
   ·have b:¬(300:W)<(z p.j0:W):=(by omega);by_cases j:300<z p.ei;·have c:(300:W)<(z p.ei:W):=(by omega);simp only[dI,h,h2,h3,d,a,f,b,j,c,fl,fd,pc,bC,aJ6,aH9,X,seval]
    ·have c:¬(300:W)<(z p.ei:W):=(by omega);simp only[dI,h,h2,h3,q,d,a,f,b,j,c,s,fl,fd,pc,bC,X,seval]
def U4(d:R C uy nK)(l:K iH)(O:St):ai C uy [.sl (z l) (l.flatMap iH.B)] O=J (.cW (xA l),O):=by
 rw[d.go (NVs.E (.cV (ajz l) .db) _)];have fl:=bz iH.dt l;unfold xA;by_cases c:60<z l;·have a:(60:W)<(z l:W):=(by omega);simp only[nK,c,a,bC,aJ6,X,seval]
 ·have a:¬(60:W)<(z l:W):=(by omega);have b:=Dp (C:=C) l (by omega) O (z l) 0 (by omega);simp only[v,aB8]at b;cases e:l.any ain<;>rw[e]at b<;>simp only[nK,c,a,b,bC,X,seval]
theorem Ok.ac{Y:St}(h:Ok Y){L:St}(a:L.all (k9 0)=eT):Ok (Y++L):=h.eD (by
 rw[aB0]at*;exactλx b=>AO.Y (w _) x (a x b))
structure ajJ(C:Ctx):Prop where
 oy:Has C WC Vy
 eg:Has C TV TG
 f7:PE C kz 3
def TB(l:K iH):AV:=.sl (z l) (l.flatMap iH.B)
def X7(l:K iH):NV (TB l):=ajz l
def adc(l:K iH):j0 0 (TB l)=eT:=(X7 l).cl
def aeu:AO:=.cP [.dx 148 (.cX [])] FZ
def YU(l:K iH):AO:=.cP [.dx 155 (.cX [TB l])] FZ
def auA(H:ajJ C)(O:St):ai C WC [] O=J (.da (z O) 0,O++[aeu]):=by have a:X2 eF [] O=J ([],O):=w8;have tk:∀Y,K4 (z O) [.da (z O) 0] Y=Y:=λY=>qY (by simp[ae,j0]) Y;rw[H.oy.go a];simp only[Vy,aeu,tk,X,seval]
def atj(H:ajJ C)(l:K iH)(c:z l<=60)(O:St):ai C TV [TB l] O=J (.da (z O) 0,O++[YU l]):=by
 have tk:∀Y,K4 (z O) [.da (z O) 0] Y=Y:=λY=>qY (by simp[ae,j0]) Y;have hs:(l.flatMap iH.B).all YM=eT:=by rw[aB0];intro x b;obtain⟨v,_,hv⟩:=aH6.mp b;simp only[iH.B,aC8,aI5,K8]at hv;rcases hv with rfl|rfl|rfl<;>rfl
 have a:=λY=>H.f7 (z l) (l.flatMap iH.B) Y (by rw[bz iH.dt]) (by omega) hs;rw[H.eg.go (NVs.E (.cV (X7 l) .db) _)];simp only[TG,TB,YU,a,tk,X,seval]
def TD(h:T)(l:K iH):AO:=match h with|eT=>aeu|eF=>YU l
open Go.RowKit Classical
def Gh.ef(g:Gh)(o:P):Gh:={g with n:=1,ob:=λ_=>g.ob o,bs:=λ_=>g.bs o}
def afY(g:Gh)(o:P):(g.bh 0).le (g.ef o):=⟨w8,w _,λ_ h=>(aL9 _ h).elim,λ_ h=>(aL9 _ h).elim,λ_ _ _ h=>h⟩
def arL{g g':Gh}{w:World}{o b:P}{l:LA}{fz:Fz}(h:OR g w o (.cP l fz))(hb:ae 0 l=eT)(a:(g.bh 0).le g')(d:g'.ob b=g.ob o)(h2:g'.bs b=g.bs o)(h3:∀i v,g'.im (g.ob o) i=J v->g.im (g.ob o) i=J v):OR g' w b (.cP l fz):=by obtain⟨c,e,fr,a1,a2,a3,a4,a5,a6⟩:=h;refine⟨c,e,fr,by rw[d];exact a1,by rw[h2];exact a2,a3,λi x f=>?_,a5,λi v hv=>a6 i v (h3 i v (by rw[<-d];exact hv))⟩;obtain⟨v,b1,j⟩:=a4 i x f;exact⟨v,b1,(j.bh (IX hb f)).D a⟩
def ayz{g:Gh}{w:World}{O:St}{o:P}{l:LA}{fz:Fz}(c:WR g w O)(e:O[o]?=J (.cP l fz))(hb:ae 0 l=eT):WR (g.ef o) w [.cP l fz]:=
 ⟨w8,c.im,c.uf,λk x a=>by
  cases k with
  |zero=>cases a;exact arL (c.bA o _ e) hb (afY g o) w8 w8 λ_ _ h=>h|succ k=>simp at a,λk d x f a b _ _ _=>by
  cases k with
  |zero=>cases d with|zero=>rfl|succ d=>simp at b
  |succ k=>simp at a⟩
def anV{g:Gh}{w L:World}{O:St}{o:Nat}{l:LA}{fz:Fz}(B:WR g w O)(m:O[o]?=J (.cP l fz))(hb:ae 0 l=eT){g':Gh}(a:Goes (g.ef o) [.cP l fz] w g' [.cP l fz] L):Goes g O w {g with im:=g'.im} O L/\(g'.bh 0).le {g with im:=g'.im}:=by
 have I:g'.pl=g.pl:=a.le.pl;have H:g'.ob 0=g.ob o:=a.le.ob 0 (Nat.zero_lt_one);have F:g'.bs 0=g.bs o:=a.le.bs 0 (Nat.zero_lt_one);have A:(g'.bh 0).le {g with im:=g'.im}:=⟨I.symm,a97 _,λo m=>(aL9 _ m).elim,λo m=>(aL9 _ m).elim,λ_ _ _ h=>h⟩;have d:g.le {g with im:=g'.im}:=⟨w8,Z0 _,λ_ _=>w8,λ_ _=>w8,λb i v h=>a.le.im b i v h⟩;have q:∀b,b≠g.ob o->afC (g.ef o) [.cP l fz] b:=λb j k x h R e=>by
  cases k with
  |zero=>exact j e.symm|succ k=>simp at h
 refine⟨⟨d,⟨B.n,a.wr.im,λb i v hv=>(a.wr.uf b i v hv).imp (λe=>⟨(congrFun I b).symm.trans e.1,e.2⟩) id,λk x C=>?_,B.inj⟩,a.os,a.dn,a.cc,a.aq,λb f K=>?_⟩,A⟩
 ·by_cases p:k=o;·subst p;rw[m]at C;cases C;exact arL (g:=g') (o:=0) (a.wr.bA 0 _ w8) hb A H.symm F.symm λ_ _ h=>h
  have E:=B.bA k x C;cases x with
  |em=>trivial|cP l2 M=>obtain⟨c,e,fr,u,h2,h3,h4,h5,h6⟩:=E;have f:g.ob k<w.heap.size:=(aG3.mp u).1;have j:g.ob k≠g.ob o:=λe=>p (B.inj k o _ _ C m w8 w8 e);obtain⟨_,t,D⟩:=a.fr (g.ob k) f (q _ j);refine⟨c,e,fr,t.trans u,h2,h3,λi y P=>?_,h5,λi v hv=>h6 i v ((D i).symm.trans hv)⟩;obtain⟨v,hv,hr⟩:=h4 i y P;exact⟨v,hv,hr.D d⟩
  |dz Q=>
   obtain⟨s,clock,u,h2⟩:=E;have f:g.ob k<w.heap.size:=(aG3.mp u).1;have j:g.ob k≠g.ob o:=λe=>p (B.inj k o _ _ C m w8 w8 e);obtain⟨_,t,D⟩:=a.fr (g.ob k) f (q _ j);exact⟨s,clock,t.trans u,h2.aq,h2.kx,λi k v G=>by
    obtain⟨e,N,E,hv,n⟩:=h2.mo i k v G;exact⟨e,N,E.D d,hv.D d,n⟩⟩
 ·obtain⟨_,t,D⟩:=a.fr b f (q b λe=>K o _ m w8 e.symm);exact⟨K,t,D⟩
structure aaX(D C:Ctx):Prop where
 P:D.P=C.P
 gl:D.gl=C.gl
 np:D.np=C.np
 cl:∀n l,C.gl n=some l->ae 0 l=true
def aaX.GL{D C:q}(h:aaX D C){g:Gh}(a:GL C g):GL D g:=⟨λn l b=>a.1 n l (by rw[<-h.gl];exact b),by rw[h.np];exact a.2⟩
def GL.bh{C:q}{g g':Gh}(c:GL C g)(f:∀n l,C.gl n=J l->ae 0 l=eT)(a:(g.bh 0).le g'):GL C g':=⟨λn l d=>⟨((c.1 n l d).1.bh (f n l d)).D a,(congrFun a.pl n).trans (c.1 n l d).2⟩,c.2.imp id λe b=>(congrFun a.pl b).trans (e b)⟩
noncomputable def pFn(D:q)(f:Q)(args:LA)(O:St):n (AV×St):=
 match X2 eF args O with
 |U=>U|J (a,b)=>if ae 0 a=eT then match ai D f a []with|J (v,[])=>J (v,b)|_=>U else U
def aaX.mU{D C:q}(h:aaX D C){f:Q}{args:K Value}{w:World}{R:Value->World->Prop}(a:Does D.P f args w R):Does C.P f args w R:=by rw[<-h.P];exact a
def JG{D C:Ctx}(hs:aaX D C)(y:fZ D (ai D))(f:Q):POK C f (pFn D f):=by
 intro args O v G h g w b u F A;unfold pFn at h;split at h;·cases h
 ·rename_i e H B;split at h
  ·rename_i hb;split at h;·rename_i v2 h2;cases h;obtain⟨i,a,p⟩:=wz F eF B u;have c:=a.wr;have q:WR (i.bh 0) w []:=⟨w8,c.im,c.uf,λo x s=>by simp at s,λo I x M s=>by simp at s⟩;have j:=GL.bh (hs.GL (A.D a.le)) (λn l E=>hs.cl n l (by rw[<-hs.gl];exact E)) (g':=i.bh 0) ⟨w8,Z0 _,λ_ _=>w8,λ_ _=>w8,λ_ _ _ h=>h⟩;refine hs.mU ((y f e [] _ [] h2 (i.bh 0) w b (p.bh hb) q j).D λK L ⟨t,d,m⟩=>?_);obtain⟨hf,k⟩:=Oa c d;exact⟨_,a.N hf,m.D k⟩
   ·cases h
  ·cases h
noncomputable def pRo(D:q)(f:Q)(args:LA)(O:St):n (AV×St):=
 match X2 eF args O with
 |J (.da o 0::a,b)=>match b[o]? with
  |J (.cP l c)=>if ae 0 a=eT/\ae 0 l=eT then match ai D f (.da 0 0::a) [.cP l c]with|J (v,Y)=>if j0 0 v=eT/\Y=[.cP l c]then J (v,b)else U|U=>U else U
  |_=>U
 |_=>U
def axT{D C:Ctx}(hs:aaX D C)(B:fZ D (ai D))(f:FuncId):POK C f (pRo D f):=by
 intro args O v K h g w a A I E;unfold pRo at h;split at h
 ·rename_i o j L F;split at h
  ·rename_i l M u;split at h
   ·rename_i hb;split at h
    ·rename_i v2 Y h2;split at h
     ·rename_i t;obtain⟨q,rfl⟩:=t;cases h;obtain⟨d,b,s⟩:=wz I eF F A;have i:=b.wr;have k:=GL.bh (hs.GL (E.D b.le)) (λn l G=>hs.cl n l (by rw[<-hs.gl];exact G)) (afY d o);have c:VRs (d.ef o) (.da 0 0::j) a:=by
       cases s with
       |cV _ v1 _ l1 x y=>
        cases x with
        |da o off H=>exact .cV _ _ _ _ (.da (g:=d.ef o) 0 0 Nat.zero_lt_one) ((y.bh hb.1).D (afY d o))
      refine hs.mU ((B f _ _ _ _ h2 (d.ef o) w a c (ayz i u hb.2) k).D λP Q ⟨N,e,p⟩=>?_);obtain⟨hf,m⟩:=anV i u hb.2 e;exact⟨_,b.N hf,(p.bh q).D m⟩
     ·cases h
    ·cases h
   ·cases h
  ·cases h
 ·cases h
variable{D:Ctx}{PK:PkI}
def acn:Ok ([]:St):=w8
def azW{f:Q}{args:K Sh}{res:Sh}(h:bZ D PK f (.dp args res))(c:cls args=eT){azs:LA}(b:Mt V0 args azs):∃v,M V0 res v/\∀O,pFn D f azs O=J (v,O):=by have a:=Mt.af b c;obtain⟨v,e,hv⟩:=h [] azs azs [] acn (a.E _) acn b;refine⟨v,hv,λO=>?_⟩;unfold pFn;rw[a.E];dsimp only;rw[N a.cl,e]
end Go.Ev
namespace Go.Ev
open List renaming length→z
open Bool renaming true→eT, false→eF
open Option renaming some→J, none→U
open Go.IntKind renaming i64→r
variable{C:Ctx}
structure T3 where
 c:Int
 f:FuncId
 x:LA
 y:LA
def T3.B(t:T3):LA:=[.cQ .u8 t.c,.dv (.func t.f) t.x t.y]
theorem T3.dt(t:T3):z t.B=2:=w8
inductive Dw(C:Ctx)(n:Nat):List T3->St->Int->St->Prop|db (S:St):Dw C n [] S 0 S|mn (t:T3) (l:List T3) (S S':St):ae n t.x=true->ae n t.y=true->S.length=n->S'.length=n->Ok S'->(∀G,Ok (S++G)->ai C t.f (t.x++t.y) (S++G)=some (.cW true,S'++G))->Dw C n (t::l) S t.c S'|no (t:T3) (l:List T3) (S S' S'':St) (r:Int):ae n t.x=true->ae n t.y=true->S.length=n->S'.length=n->Ok S'->(∀G,Ok (S++G)->ai C t.f (t.x++t.y) (S++G)=some (.cW false,S'++G))->Dw C n l S' r S''->Dw C n (t::l) S r S''
def T3.ao(t:T3):AO:=.cP [.cQ .u8 t.c,.dv (.func t.f) t.x t.y] FZ
def afI{n k:P}(h:n<=k){x:AO}(a:x.below n=eT):x.below k=eT:=by
 cases x with
 |em=>rfl|cP l c=>exact aP h l a|dz b=>simp only[k9,a02]at a⊢;exact⟨aP h _ a.1,aP h _ a.2⟩
def amQ{S:St}{x:AO}(a:Ok S)(b:x.below (z S+1)=eT):Ok (S++[x]):=QJ a (by simp[b])
def abO (n:Nat) (d:K T3):∀(l:K T3) (i:Nat) (S S':St) (cB:Int) (G:St),Dw C n l S cB S'->d.drop i=l->i<=d.length->S.length=n->d.length<=1000->Ok (S++G)->(∀x∈G,k9 (n+G.length) x=eT)->
  ∃v,aG C (ai C) 17 [5,6,7] ji [(5,.sl d.length (d.flatMap T3.B)),(6,.cQ r d.length),(7,.cQ r i)] (S++G)=J (.ea,[(2,.cQ .u8 cB)],S'++v)\/(cB=0/\aG C (ai C) 17 [5,6,7] ji [(5,.sl d.length (d.flatMap T3.B)),(6,.cQ r d.length),(7,.cQ r i)] (S++G)=J (.dq 0,[],S'++v))
 |[],i,S,S',cB,G,R,g,hi,Q,L,hok,I=>by
  cases R;have:i=d.length:=by have:=congrArg List.length g;simp at this;omega
  subst this;refine⟨G,.inr ⟨w8,?_⟩⟩;rw[aB (he:=w8)];have h:¬((d.length:Int)<(d.length:Int)):=(by omega);simp only[ji,h,EVX,seval]
 |t::l,i,S,S',cB,G,R,g,hi,Q,L,hok,I=>by
  have f:i<d.length:=by
   by_cases h:i<d.length;·exact h
   ·rw[aC0 (by omega)]at g;cases g
  have u:d[i]?=J t:=by rw[aB6 f]at g;rw[a01 f];exact congrArg J (List.cons.inj g).1
  have B:d.drop (i+1)=l:=by rw[aB6 f]at g;exact(List.cons.inj g).2
  have h:((i:Int)<(d.length:Int)):=(by omega);have H:(0:Int)<=(i:Int):=(by omega);have Z:=wrS i (by omega);have fl:=bz T3.dt d;have o:=iy T3.dt u;have Y:t.B=[.cQ .u8 t.c,.dv (.func t.f) t.x t.y]:=w8;rw[Y]at o;simp only[a05,a88]at o;generalize(d.drop (i+1)).flatMap T3.B=R' at o;generalize P:d.flatMap T3.B=F at fl o⊢;cases R with
  |mn _ _ _ _ y A a b c e=>
   have q:=λX=>e (G++X);simp only[<-aB2]at q;refine⟨G++[t.ao],.inl ?_⟩;have m:Ok ((S++G)++[t.ao]):=amQ hok (by
    have j:n<=(S++G).length+1:=by rw[a03];omega
    simp only[T3.ao,k9,ae,j0,aP j _ y,aP j _ A,aD0])
   have e2:=q [t.ao] m;unfold T3.ao at e2⊢;rw[aB (he:=w8)];generalize W:aG C (ai C) 17 [5,6,7] ji=k at*;rw[<-aB2];have V:(S'++G).length=(S++G).length:=(by rw[a03,a03,a,b]);generalize S++G=T at*;generalize S'++G=E at*;have O:∀X:AO,(E++[X])[T.length]?=J X:=λX=>by rw[<-V];exact aA _ _
   simp only[O,ji,h,H,f,fl,o,e2,kV,EVX,seval]
  |no _ _ _ w _ _ y A a b c e N=>
   have q:=λX=>e (G++X);simp only[<-aB2]at q;have m:Ok ((S++G)++[t.ao]):=amQ hok (by
    have j:n<=(S++G).length+1:=by rw[a03];omega
    simp only[T3.ao,k9,ae,j0,aP j _ y,aP j _ A,aD0])
   have e2:=q [t.ao] m;have s:∀z∈G++[t.ao],k9 (n+(G++[t.ao]).length) z=eT:=λz p=>by
    rw[a03];rcases aE4.mp p with p|p;·exact afI (by simp) (I z p)
    ·simp only[aC7]at p;subst p;have j:n<=n+(G.length+1):=(by omega);simp only[T3.ao,k9,ae,j0,aH3,aP j _ y,aP j _ A,aD0]
   have D:Ok (w++(G++[t.ao])):=QJ c (by
    rw[b,aB0];exact s)
   obtain⟨v,M⟩:=abO n d l (i+1) w S' cB (G++[t.ao]) N B (by omega) b L D s;refine⟨v,?_⟩;have tail:aG C (ai C) 17 [5,6,7] ji [(5,.sl d.length F),(6,.cQ r d.length),(7,.cQ r i)] (S++G)=aG C (ai C) 17 [5,6,7] ji [(5,.sl d.length F),(6,.cQ r d.length),(7,.cQ r (i+1:Nat))] (w++(G++[t.ao])):=by rw[aB (he:=w8)];unfold T3.ao at e2⊢;generalize W:aG C (ai C) 17 [5,6,7] ji=k at*;rw[<-aB2];generalize S++G=T at*;generalize w++G=E at*;simp only[ji,h,H,f,fl,o,e2,Z,kV,EVX,seval]
   rw[tail];rw[P]at M;exact M
def Dw.ot{n:P}{l:K T3}{S S':St}{f:W}(R:Dw C n l S f S')(h:z S=n)(hok:Ok S):z S'=n/\Ok S':=by
 induction R with
 |db S=>exact⟨h,hok⟩|mn t l S S' _ _ _ b c _=>exact⟨b,c⟩|no t l S d S' f _ _ _ b c _ _ a=>exact a b c
def T3.nv(t:T3):Prop:=(∀Y d,bI Y d t.x=J (t.x,[]))/\∀Y d,bI Y d t.y=J (t.y,[])
def aju:∀(l:K T3),(∀t∈l,t.nv)->∀Y d,bI Y d (l.flatMap T3.B)=J (l.flatMap T3.B,[])|[],_,Y,d=>w8|t::l,h,Y,d=>by have c:=aju l (λt b=>h t (by simp[b])) Y d;obtain⟨a,h2⟩:=h t (by simp);rw[aF0,show t.B=[.cQ .u8 t.c,.dv (.func t.f) t.x t.y]from w8,a05,a05,a88,aN,aN,GZ,auM,a,h2,c];rfl
def PT(g:Has C LD FM){a:K T3}{S S':St}{q:W}(R:Dw C (z S) a S q S')(hok:Ok S)(j:z a<=1000)(d:∀t∈a,t.nv):ai C LD [.eB (z a) (a.flatMap T3.B)] S=J (.cQ .u8 q,S'):=by
 obtain⟨i,b⟩:=R.ot w8 hok;have c:X2 eF [.eB (z a) (a.flatMap T3.B)] S=J ([.sl (z a) (a.flatMap T3.B)],S):=by simp only[iY,aN,mg,arC,aju a d,K9,aB3]
 rw[g.go c];obtain⟨l,h⟩:=abO (z S) a a 0 S S' q [] R w8 (w _) w8 j (by rw[aB3];exact hok) (λx k=>by cases k);rw[aB3,show((0:P):W)=0 from w8]at h;have e:=λv=>bu b (vs:=[.cQ .u8 v]) w8;rw[i]at e;rcases h with h|⟨f,h⟩;·simp only[FM,h,e,X,seval]
 ·subst f;simp only[FM,h,e,X,seval]
structure jC where
 v:AV
 a1:Int
 a2:AV
 ks:AV
 pn:LU
 pv:Int
 pl:Int
 ph:AV
 aw:Int
 am:LU
 aq:Int
 x0:AV
 x1:AV
 x2:AV
 x3:AV
 x4:AV
 e0:AV
 e1:AV
 e2:AV
 e3:AV
 e4:AV
 e5:AV
 bU:Int
 bx:Int
def jC.B(F:jC):LA:=[F.v,.cQ r F.a1,F.a2,F.ks,.cU F.pn,.cQ r F.pv,.cQ r F.pl,F.ph,.cQ r F.aw,.cU F.am,.cQ r F.aq,F.x0,F.x1,F.x2,F.x3,F.x4,F.e0,F.e1,F.e2,F.e3,F.e4,F.e5,.cQ r F.bU,.cQ r F.bx]
structure ChkHas(C:Ctx):Prop where
 ly:Has C vk F9
 pb:Has C Az Ai
 ff:Has C CO Cf
 f2:Has C jB qi
 mC:Has C wL Hf
 hX:Has C qR Dc
 k1:Has C uC EI
 hh:Has C uK AZ
 lg:Has C vg F8
variable{Y:St}{o:Nat}{F:jC}
def ach(H:ChkHas C)(d:Ok Y)(a:Y[o]?=J (.cP F.B FZ)):ai C vk [.da o 0] Y=J (.cW (F.aq== -1),Y):=by have c:=kK o Y;rw[H.ly.go c];have e:=λb=>bP Y [.cW b];unfold jC.B at a;simp only[F9,a,e,X,seval]
def apB(H:ChkHas C)(g:Ok Y)(a:Y[o]?=J (.cP F.B FZ)):ai C Az [.da o 0] Y=J (.cW (y (F.aq<0)||(y (0<=F.pl)&&y (F.pl<(z F.am:W)))),Y):=by
 have f:=kK o Y;rw[H.pb.go f];have d:=λb=>bP Y [.cW b];unfold jC.B at a;by_cases c:F.aq<0;·simp only[Ai,a,d,c,j9,aJ6,X,seval]
 by_cases e:(0:W)<=F.pl;·simp only[Ai,a,d,c,e,j9,j6,Bool.false_or,aE0,X,seval]
 ·simp only[Ai,a,d,c,e,j6,aJ0,X,seval]
def aoP(H:ChkHas C)(f:Ok Y)(a:Y[o]?=J (.cP F.B FZ)):ai C CO [.da o 0] Y=J (.cW (y (0<=F.pl)&&y ((z F.am:W)<F.pl)),Y):=by
 have e:=kK o Y;rw[H.ff.go e];have d:=λb=>bP Y [.cW b];unfold jC.B at a;by_cases c:(0:W)<=F.pl;·simp only[Cf,a,d,c,j9,aE0,X,seval]
 ·simp only[Cf,a,d,c,j6,aJ0,X,seval]
def aa8(H:ChkHas C)(d:Ok Y)(a:Y[o]?=J (.cP F.B FZ)):ai C uK [.da o 0] Y=J (.cW (F.bU !=F.pv),Y):=by have c:=kK o Y;rw[H.hh.go c];have e:=λb=>bP Y [.cW b];unfold jC.B at a;simp only[AZ,a,e,X,seval]
def abv(H:ChkHas C)(e:Ok Y)(a:Y[o]?=J (.cP F.B FZ)){b:T}(d:ai C qM [.cQ r F.bx,.cQ r F.aw] Y=J (.cW b,Y)):ai C vg [.da o 0] Y=J (.cW b,Y):=by have c:=kK o Y;rw[H.lg.go c];have f:=λb=>bP Y [.cW b];unfold jC.B at a;simp only[F8,a,f,d,X,seval]
def Z9(H:ChkHas C)(e:Ok Y)(a:Y[o]?=J (.cP F.B FZ)){b:T}(d:ai C lC [F.v,.cX [F.e0,F.e1,F.e2,F.e3,F.e4,F.e5],.cX [.cQ r F.a1,F.a2],F.ks] Y=J (.cW b,Y)):ai C uC [.da o 0] Y=J (.cW !b,Y):=by have c:=kK o Y;rw[H.k1.go c];have f:=λb=>bP Y [.cW b];unfold jC.B at a;simp only[EI,a,f,d,X,seval]
def YA(H:ChkHas C)(e:Ok Y)(a:Y[o]?=J (.cP F.B FZ))(l:LA)(d:F.ph=.sl 0 l):ai C jB [.da o 0] Y=J (.cW eF,Y):=by have c:=kK o Y;rw[H.f2.go c];have f:=λb=>bP Y [.cW b];unfold jC.B at a;rw[d]at a;simp only[qi,a,f,X,seval]
def acr(H:ChkHas C)(j:Ok Y)(a:Y[o]?=J (.cP F.B FZ))(n:P)(l:LA)(i:F.ph=.sl n l)(k:n≠0){d dg:LU}{b:T}(e:ai C BF [F.ph,.cU [115,104,97,50,53,54]] Y=J (.de [.cU d,.cW b],Y))(g:ai C vJ [.cU F.am] Y=J (.cU dg,Y)):ai C jB [.da o 0] Y=J (.cW (!b|| !decide (d=dg)),Y):=by
 have h:=kK o Y;rw[H.f2.go h];have f:=λb=>bP Y [.cW b];unfold jC.B at a;rw[i]at a e;have c:((n:W)==0)=eF:=by rw[beq_eq_false_iff_ne];omega
 cases b;·simp only[qi,a,f,c,e,K1,aJ6,X,seval]
 ·simp only[qi,a,f,c,e,g,pW,K3,Bool.false_or,X,seval]
def jC.fj(F:jC)(r0 r1 r2 r3 r4:AV):jC:={F with x0:=r0,x1:=r1,x2:=r2,x3:=r3,x4:=r4}
def jC.gx(F:jC)(r0 r1 r2 r3 r4 r5:AV):jC:={F with e0:=r0,e1:=r1,e2:=r2,e3:=r3,e4:=r4,e5:=r5}
structure One(x:AV):Prop where
 fl:x.Q=true
 cl:x.cP=[x]
 nv:NV x
def Ok.kj{Y:St}(h:Ok Y)(o:P){cs:LA}{fz:Fz}(a:ae (z Y) cs=eT):Ok (Y.set o (.cP cs fz)):=Ok.bd h o a
def aeK (H:ChkHas C) (c:Ok Y) (a:Y[o]?=J (.cP F.B FZ)) {r0 r1 r2 r3 r4:AV} (k0:One r0) (i:One r1) (j:One r2) (k:One r3) (l:One r4) (hb:ae (z Y) (F.fj r0 r1 r2 r3 r4).B=eT) {n e:W} (hr:ai C jE [.cU F.am] Y=J (.de [.cX [r0,r1,r2,r3,r4],.cQ r n,.cQ r e],Y)):
  ai C wL [.da o 0] Y=J (.cW (e !=0),Y.set o (.cP (F.fj r0 r1 r2 r3 r4).B FZ)):=by
 have h:=kK o Y;rw[H.mC.go h];have d:=Ok.kj c o (fz:=FZ) hb;have f:=λb L=>bu d (vs:=[.cW b]) w8 L;rw[a99]at f;have g:=λL=>aj a L;have m:=λL y=>gZ a L y;obtain⟨a0,b0,_⟩:=k0;obtain⟨a1,b1,_⟩:=i;obtain⟨a2,p,_⟩:=j;obtain⟨a3,q,_⟩:=k;obtain⟨a4,s,_⟩:=l;unfold jC.fj jC.B at*;simp only[Hf,a,f,hr,g,m,a0,a1,a2,a3,a4,w9,aA,aS,X,seval]
def Uj (H:ChkHas C) (c:Ok Y) (a:Y[o]?=J (.cP F.B FZ)) {r0 r1 r2 r3 r4 r5:AV} (k0:One r0) (i:One r1) (j:One r2) (k:One r3) (l:One r4) (m:One r5) (hb:ae (z Y) (F.gx r0 r1 r2 r3 r4 r5).B=eT) {e:W} (hr:ai C xu [.cX [F.x0,F.x1,F.x2,F.x3,F.x4]] Y=J (.de [.cX [r0,r1,r2,r3,r4,r5],.cQ r e],Y)):
  ai C qR [.da o 0] Y=J (.cW (e !=0),Y.set o (.cP (F.gx r0 r1 r2 r3 r4 r5).B FZ)):=by
 have h:=kK o Y;rw[H.hX.go h];have d:=Ok.kj c o (fz:=FZ) hb;have f:=λb L=>bu d (vs:=[.cW b]) w8 L;rw[a99]at f;have g:=λL=>aj a L;have n:=λL y=>gZ a L y;obtain⟨a0,b0,_⟩:=k0;obtain⟨a1,b1,_⟩:=i;obtain⟨a2,p,_⟩:=j;obtain⟨a3,q,_⟩:=k;obtain⟨a4,s,_⟩:=l;obtain⟨a5,t,_⟩:=m;unfold jC.gx jC.B at*;simp only[Dc,a,f,hr,g,n,a0,a1,a2,a3,a4,a5,w9,aA,aS,X,seval]
def jC.co(F:jC)(a b:W):jC:={F with bU:=a,bx:=b}
def asx(a b:P):g (.da a b) (.da a b)=eT:=by simp[g]
def apk (H:Has C D7 IE) (n:Ok Y) (w:Y[o]?=J (.cP F.B FZ)) {a t:Nat} (u:Y[a]?=J (.cP [.da o 0] FZ)) {S t1 t2 t3 t4 t5 t6 t7 t8:AV} (A:Y[t]?=J (.cP [S,t1,t2,t3,t4,t5,t6,t7,t8] FZ)) (j:a≠t) (h:o≠t) (m:a≠o) {v x e:Int} {r2 r3 r4 r5 c d f:AV} (K:One r2) (L:One r3) (M:One r4) (N:One r5) (O:One c) (P:One d) (Q:One f)
  (hb:ae (z Y) [r2,r3,r4,r5,c,d,f]=eT) (l:ae (z Y) (F.co v x).B=eT) (hr:ai C qc [.cX [F.e0,F.e1,F.e2,F.e3,F.e4]] Y=J (.de [.cX [.cQ r v,.cQ r x,r2,r3,r4,r5,c,d,f],.cQ r e],Y)):
  ai C D7 [.da a 0,.da t 0] Y=J (.cW (e !=0),(Y.set t (.cP [.cQ r v,.cQ r x,r2,r3,r4,r5,c,d,f] FZ)).set o (.cP (F.co v x).B FZ)):=by
 have I:=ML a t Y;rw[H.go I];have k:ae (z Y) [.cQ r v,.cQ r x,r2,r3,r4,r5,c,d,f]=eT:=by simp only[ae,j0,aE0]at hb⊢;exact hb
 have p:=Ok.kj n t (fz:=FZ) k;have R:=Ok.kj p o (cs:=(F.co v x).B) (fz:=FZ) (by rw[a99];exact l);have B:=λb=>bP ((Y.set t (.cP [.cQ r v,.cQ r x,r2,r3,r4,r5,c,d,f] FZ)).set o (.cP (F.co v x).B FZ)) [.cW b];rw[a99,a99]at B;obtain⟨a2,T,_⟩:=K;obtain⟨a3,V,_⟩:=L;obtain⟨a4,W,_⟩:=M;obtain⟨a5,X,_⟩:=N;obtain⟨a6,Z,_⟩:=O;obtain⟨a7,b7,_⟩:=P;obtain⟨a8,b8,_⟩:=Q;have q:=aH u j (.cP [.cQ r v,.cQ r x,r2,r3,r4,r5,c,d,f] FZ);have s:=bF A (.cP [.cQ r v,.cQ r x,r2,r3,r4,r5,c,d,f] FZ);have g:=aH w h (.cP [.cQ r v,.cQ r x,r2,r3,r4,r5,c,d,f] FZ);have i:=λy=>bF g y;have D:=λy=>aH q m y;have E:=λy=>aH s (λe=>h e.symm) y;unfold jC.co jC.B at*;simp only[IE,w,u,A,hr,B,q,s,g,i,D,E,a2,a3,a4,a5,a6,a7,a8,w9,aF5,QD,asx,EVX,seval]
def apm (m:R C yA Ce) (s:Ok Y) (h:Y[o]?=J (.cP F.B FZ)) {a t:P} (g:Y[a]?=J (.cP [.da o 0] FZ)) {w t1 t2:AV} (i:Y[t]?=J (.cP [w,t1,t2] FZ)) (d:a≠t) (f:o≠t) (q:a≠o) {v x e:W} {r2:AV} (u:One r2)
  (hb:ae (z Y) [r2]=eT) (n:ae (z Y) (F.co F.bU x).B=eT) (hr:ai C AC [.cX [F.e0,F.e1,F.e2,F.e3,F.e4]] Y=J (.de [.cX [.cQ r v,.cQ r x,r2],.cQ r e],Y)):
  ai C yA [.da a 0,.da t 0] Y=J (.cW (e !=0),(Y.set t (.cP [.cQ r v,.cQ r x,r2] FZ)).set o (.cP (F.co F.bU x).B FZ)):=by
 have p:=ML a t Y;rw[m.go p];have j:=λb=>bP ((Y.set t (.cP [.cQ r v,.cQ r x,r2] FZ)).set o (.cP (F.co F.bU x).B FZ)) [.cW b];rw[a99,a99]at j;obtain⟨a2,y,_⟩:=u;have k:=aH g d (.cP [.cQ r v,.cQ r x,r2] FZ);have l:=bF i (.cP [.cQ r v,.cQ r x,r2] FZ);have c:=aH h f (.cP [.cQ r v,.cQ r x,r2] FZ);unfold jC.co jC.B at*;simp only[Ce,h,g,i,hr,j,k,l,c,a2,w9,X,seval]
end Go.Ev
namespace Go.Ev
open List renaming length→z
open Bool renaming true→eT, false→eF
open Option renaming some→J, none→U
open Go.IntKind renaming i64→r
variable{C:Ctx}
def QS(B:St)(F:jC)(T:LA):St:=B++[.cP F.B FZ,.cP [.da (z B) 0] FZ,.cP T FZ]
def jm(B F T):z (QS B F T)=z B+3:=by simp[QS]
def Pz(B F T)(G:St):(QS B F T++G)[z B]?=J (.cP F.B FZ):=by unfold QS;rw[aB2,aA];rfl
def ayH(B F T)(G:St):(QS B F T++G)[z B+1]?=J (.cP [.da (z B) 0] FZ):=by unfold QS;rw[aB2,aI];rfl
def ayI(B F T)(G:St):(QS B F T++G)[z B+2]?=J (.cP T FZ):=by unfold QS;rw[aB2,aI];rfl
def QV(B F T)(a:jC)(G:St):(QS B F T++G).set (z B) (.cP a.B FZ)=QS B a T++G:=by unfold QS;rw[aB2];simp
def alG(B F T)(a:LA)(G:St):(QS B F T++G).set (z B+2) (.cP a FZ)=QS B F a++G:=by unfold QS;rw[aB2,cZ];simp
def awM(B F T)(G:St){i:P}{x:AO}(h:B[i]?=J x):(QS B F T++G)[i]?=J x:=aj (aj h _) G
structure yK(x:AV):Prop extends One x where
 b0:below 0 x=true
def yK.b{x:AV}(h:yK x)(n:P):j0 n x=eT:=d (w _) _ h.b0
def Ext(O Y:St):Prop:=∀(i:P) (x:AO),O[i]?=J x->Y[i]?=J x
def mt(c:W)(f:Q)(o:P):T3:=⟨c,f,[.da o 0],[]⟩
def apT(c:W)(f:Q)(a t:P):T3:=⟨c,f,[],[.da a 0,.da t 0]⟩
def awh(c f o):(mt c f o).nv:=⟨λ_ _=>w8,λ_ _=>w8⟩
def am2(c f a t):(apT c f a t).nv:=⟨λ_ _=>w8,λ_ _=>w8⟩
def Dw.bE{n:P}(t:T3)(l:K T3){S S':St}(b:T)(e:ae n t.x=eT)(f:ae n t.y=eT)(d:z S=n)(c:z S'=n)(hok:Ok S')(h:∀G,Ok (S++G)->ai C t.f (t.x++t.y) (S++G)=J (.cW b,S'++G)){Q:W->St->Prop}(i:b=eT->Q t.c S')(g:b=eF->∃j a,Dw C n l S' j a/\Q j a):∃j a,Dw C n (t::l) S j a/\Q j a:=by
 cases b with
 |true=>exact⟨_,_,.mn t l S S' e f d c hok h,i w8⟩|false=>obtain⟨j,a,R,q⟩:=g w8;exact⟨j,a,.no t l S S' a j e f d c hok h R,q⟩
def z5:LA:=[.cQ .u8 0,.cQ r 0,.cU [],.cY,.cY]
def zT:LA:=[.cQ r 0,.cQ r 0,.cY,.cY,.cY,.cQ r 0,.cY,.cQ r 0,.cU []]
def zTn:LA:=[.cQ r 0,.cQ r 0,.sl 0 [],.sl 0 [],.sl 0 [],.cQ r 0,.sl 0 [],.cQ r 0,.cU []]
def zS:LA:=[.cQ r 0,.cQ r 0,.cY]
def zSn:LA:=[.cQ r 0,.cQ r 0,.sl 0 []]
structure InF where
 v:AV
 a1:Int
 a2:AV
 ks:AV
 pn:LU
 pv:Int
 pl:Int
 ph:AV
 aw:Int
 am:LU
 aq:Int
def InF.F(I:InF):jC:=⟨I.v,I.a1,I.a2,I.ks,I.pn,I.pv,I.pl,I.ph,I.aw,I.am,I.aq,.cQ .u8 0,.cQ r 0,.cU [],.cY,.cY,.cQ .u8 0,.cQ r 0,.cU [],.cY,.cY,.cY,0,0⟩
def InF.ct(I:InF):LA:=[.cU I.pn,.cQ r I.pv,.cQ r I.pl,I.ph]
def InF.ak(I:InF):LA:=[.cQ r I.a1,I.a2]
structure InF.ok(I:InF)(n:Nat):Prop where
 v:NV I.v\/∃p,I.v=.da p 0/\p<n
 a2:yK I.a2
 ks:yK I.ks
 ph:below 0 I.ph=true
structure Told(C:Ctx)(O:St)(I:InF)where
 x0:AV
 x1:AV
 x2:AV
 x3:AV
 x4:AV
 n1:Int
 e1:Int
 r0:AV
 r1:AV
 r2:AV
 r3:AV
 r4:AV
 r5:AV
 e2:Int
 en:Bool
 jj:yK x0
 jl:yK x1
 jr:yK x2
 js:yK x3
 jt:yK x4
 ky:yK r0
 kB:yK r1
 kI:yK r2
 kN:yK r3
 kO:yK r4
 kS:yK r5
 rd:∀Y,Ok Y->ai C jE [.cU I.am] Y=some (.de [.cX [x0,x1,x2,x3,x4],.cQ .i64 n1,.cQ .i64 e1],Y)
 sg:e1=0->∀Y,Ok Y->ai C xu [.cX [x0,x1,x2,x3,x4]] Y=some (.de [.cX [r0,r1,r2,r3,r4,r5],.cQ .i64 e2],Y)
 cN:e1=0->e2=0->∀Y,Ok Y->Ext O Y->ai C lC [I.v,.cX [r0,r1,r2,r3,r4,r5],.cX I.ak,I.ks] Y=some (.cW en,Y)
structure OO(C:Ctx)(O:St)(I:InF)extends Told C O I where
 tv:Int
 tx:Int
 t2:AV
 t3:AV
 t4:AV
 t5:AV
 t6:AV
 t7:AV
 t8:AV
 e3:Int
 ov:Bool
 od:Bool
 h2:yK t2
 h3:yK t3
 h4:yK t4
 h5:yK t5
 h6:yK t6
 h7:yK t7
 h8:yK t8
 tg:e1=0->e2=0->∀Y,Ok Y->ai C qc [.cX [r0,r1,r2,r3,r4]] Y=some (.de [.cX [.cQ .i64 tv,.cQ .i64 tx,t2,t3,t4,t5,t6,t7,t8],.cQ .i64 e3],Y)
 gS:∀Y,Ok Y->ai C qM [.cQ .i64 tx,.cQ .i64 I.aw] Y=some (.cW ov,Y)
 m8:∀Y o F,Ok Y->Y[o]?=some (.cP (jC.B F) FZ)->F.ph=I.ph->F.am=I.am->ai C jB [.da o 0] Y=some (.cW od,Y)
def OO.T{C:q}{O:St}{I:InF}(t:OO C O I):LA:=[.cQ r t.tv,.cQ r t.tx,t.t2,t.t3,t.t4,t.t5,t.t6,t.t7,t.t8]
structure OM(C:Ctx)(O:St)(I:InF)extends Told C O I where
 sv:Int
 sx:Int
 s2:AV
 e3:Int
 ov:Bool
 h2:yK s2
 sn:e1=0->e2=0->∀Y,Ok Y->ai C AC [.cX [r0,r1,r2,r3,r4]] Y=some (.de [.cX [.cQ .i64 sv,.cQ .i64 sx,s2],.cQ .i64 e3],Y)
 gS:∀Y,Ok Y->ai C qM [.cQ .i64 sx,.cQ .i64 I.aw] Y=some (.cW ov,Y)
def OM.S{C:q}{O:St}{I:InF}(t:OM C O I):LA:=[.cQ r t.sv,.cQ r t.sx,t.s2]
def XT(size:W)(e1 e2 e3:W)(en ov:T):W:=
 if size== -1 then 2 else if y (size<0)then 3 else if e1 !=0 then 6 else if e2 !=0 then 7 else if e3 !=0 then 7 else if !en then 8 else if ov then 10 else 0
def OM.c{C:q}{O:St}{I:InF}(t:OM C O I):W:=XT I.aq t.e1 t.e2 t.e3 t.en t.ov
def acR(o a t:P):K T3:=[mt 2 vk o,mt 3 Az o,mt 6 wL o,mt 7 qR o,apT 7 yA a t,mt 8 uC o,mt 10 vg o]
def roleC(size pl dl:W)(od:T)(e1 e2 e3:W)(en:T)(tv pv:W)(ov:T):W:=
 if size== -1 then 2 else if y (size<0)||(y (0<=pl)&&y (pl<dl))then 3 else if y (0<=pl)&&y (dl<pl)then 4 else if od then 5 else if e1 !=0 then 6 else if e2 !=0 then 7 else if e3 !=0 then 7 else if !en then 8 else if tv !=pv then 9 else if ov then 10 else 0
def OO.c{C:q}{O:St}{I:InF}(t:OO C O I):W:=roleC I.aq I.pl (z I.am) t.od t.e1 t.e2 t.e3 t.en t.tv I.pv t.ov
structure VE(C:Ctx):Prop extends ChkHas C where
 dr:Has C LD FM
 bS:Has C D6 nI
 n7:Has C D7 IE
 kl:Has C tX iI
 n9:Has C yA Ce
def acJ(o a t:P):K T3:=[mt 2 vk o,mt 3 Az o,mt 4 CO o,mt 5 jB o,mt 6 wL o,mt 7 qR o,apT 7 D7 a t,mt 8 uC o,mt 9 uK o,mt 10 vg o]
def apj{O:St}(L F T)(G:St):Ext O (QS (O++L) F T++G):=λi x h=>awM _ F T G (aj h L)
def TJ{B F T}(hB:Ok B)(a:ae (z B+3) (jC.B F)=eT)(b:ae 0 T=eT):Ok (QS B F T):=by
 unfold QS;refine QJ hB ?_;have h3:y (z B<z B+3)=eT:=by simp
 simp only[K6,aC6,k9,a94,a96,aC4,Nat.reduceAdd,aP (w _) _ b,a,ae,j0,h3,j]
def aah{I:InF}{n m:P}(h:I.ok n)(a:n<=m):ae m I.F.B=eT:=by
 have hv:j0 m I.v=eT:=by
  rcases h.v with h|⟨p,e,b⟩;·exact d (w _) _ h.cl
  ·rw[e];simp only[j0,s];omega
 simp only[jC.B,InF.F,ae,j0,hv,h.a2.b,h.ks.b,d (w _) _ h.ph,j]
def awH{I:InF}{n:P}(h:I.ok n)(k:P)(a:n<=k):j0 k I.v=eT:=by
 rcases h.v with h|⟨p,e,b⟩;·exact d (w _) _ h.cl
 ·rw[e];simp only[j0,s];omega
section
variable{O:St}{I:InF}
def Told.F1(t:Told C O I):jC:=I.F.fj t.x0 t.x1 t.x2 t.x3 t.x4
def Told.F2(t:Told C O I):jC:=t.F1.gx t.r0 t.r1 t.r2 t.r3 t.r4 t.r5
def Told.j3(t:Told C O I){n:P}(h:I.ok n){k:P}(a:n<=k):ae k t.F1.B=eT:=by simp only[Told.F1,jC.fj,jC.B,InF.F,ae,j0,awH h k a,h.a2.b,h.ks.b,d (w _) _ h.ph,t.jj.b,t.jl.b,t.jr.b,t.js.b,t.jt.b,j]
def Told.j4(t:Told C O I){n:P}(h:I.ok n){k:P}(a:n<=k):ae k t.F2.B=eT:=by simp only[Told.F2,Told.F1,jC.fj,jC.gx,jC.B,InF.F,ae,j0,awH h k a,h.a2.b,h.ks.b,d (w _) _ h.ph,t.jj.b,t.jl.b,t.jr.b,t.js.b,t.jt.b,t.ky.b,t.kB.b,t.kI.b,t.kN.b,t.kO.b,t.kS.b,j]
def Told.j5(t:Told C O I){n:P}(h:I.ok n){k:P}(c:n<=k)(a b:W):ae k (t.F2.co a b).B=eT:=by simp only[Told.F2,Told.F1,jC.fj,jC.gx,jC.co,jC.B,InF.F,ae,j0,awH h k c,h.a2.b,h.ks.b,d (w _) _ h.ph,t.jj.b,t.jl.b,t.jr.b,t.js.b,t.jt.b,t.ky.b,t.kB.b,t.kI.b,t.kN.b,t.kO.b,t.kS.b,j]
def OO.oj(t:OO C O I):ae 0 t.T=eT:=by simp only[OO.T,ae,j0,t.h2.b,t.h3.b,t.h4.b,t.h5.b,t.h6.b,t.h7.b,t.h8.b,j]
def awF{n:P}(h:I.ok n):ae 0 I.ct=eT:=by simp only[InF.ct,ae,j0,h.ph,j]
def atS{n:P}(h:I.ok n):ae 0 I.ak=eT:=by simp only[InF.ak,ae,j0,h.a2.b,j]
def acI(I:InF):St:=[.cP I.ct FZ,.cP I.ak FZ,.cP zT FZ]
def aoC(H:VE C){B:St}(okB:Ok B)(hB:z O<=z B)(o:∀F T G,Ext O (QS B F T++G))(hI:I.ok (z O))(t:OO C O I):∃j d,Dw C (z B+3) (acJ (z B) (z B+1) (z B+2)) (QS B I.F zT) j d/\j=t.c/\∃n k,d=QS B n k/\(j=0->k=t.T):=by
 have ok0:Ok (QS B I.F zT):=TJ okB (aah hI (by omega)) w8;have g:Ok (QS B t.F1 zT):=TJ okB (t.j3 hI (by omega)) w8;have i:Ok (QS B t.F2 zT):=TJ okB (t.j4 hI (by omega)) w8;have c:Ok (QS B (t.F2.co t.tv t.tx) t.T):=TJ okB (t.j5 hI (by omega) _ _) t.oj;have hf:ae (z B+3) [.da (z B) 0]=eT:=by simp[ae,j0]
 have e:ae (z B+3) [.da (z B+1) 0,.da (z B+2) 0]=eT:=by simp[ae,j0]
 have b:∀(F T) (G:St),z B+3<=z (QS B F T++G):=λF T G=>by rw[a03,jm];omega
 unfold OO.c roleC;refine Dw.bE _ _ (I.aq== -1) hf w8 (jm ..) (jm ..) ok0 (λG a=>ach H.toChkHas a (Pz ..)) (λh=>⟨by rw[N h];rfl,_,_,w8,λh=>by cases h⟩) (λn1=>?_);rw[E (by rw[n1];decide)];refine Dw.bE _ _ (y (I.aq<0)||(y (0<=I.pl)&&y (I.pl<(z I.am:W)))) hf w8 (jm ..) (jm ..) ok0 (λG a=>apB H.toChkHas a (Pz ..)) (λh=>⟨by rw[N h];rfl,_,_,w8,λh=>by cases h⟩) (λp=>?_);rw[E (by rw[p];decide)];refine Dw.bE _ _ (y (0<=I.pl)&&y ((z I.am:W)<I.pl)) hf w8 (jm ..) (jm ..) ok0 (λG a=>aoP H.toChkHas a (Pz ..)) (λh=>⟨by rw[N h];rfl,_,_,w8,λh=>by cases h⟩) (λq=>?_);rw[E (by rw[q];decide)];refine Dw.bE _ _ t.od hf w8 (jm ..) (jm ..) ok0 (λG a=>t.m8 _ _ I.F a (Pz ..) w8 w8) (λh=>⟨by rw[N h];rfl,_,_,w8,λh=>by cases h⟩) (λs=>?_);rw[E (by rw[s];decide)];refine Dw.bE _ _ (t.e1 !=0) (S':=QS B t.F1 zT) hf w8 (jm ..) (jm ..) g (λG a=>?_) (λh=>⟨by rw[N h];rfl,_,_,w8,λh=>by cases h⟩) (λl=>?_);·have:=aeK H.toChkHas a (Pz B I.F zT G) t.jj.toOne t.jl.toOne t.jr.toOne t.js.toOne t.jt.toOne (t.j3 hI (by have:=b I.F zT G;omega)) (t.rd _ a);rw[QV]at this;exact this
 have e1:t.e1=0:=by simpa using l
 rw[E (by rw[l];decide)];refine Dw.bE _ _ (t.e2 !=0) (S':=QS B t.F2 zT) hf w8 (jm ..) (jm ..) i (λG a=>?_) (λh=>⟨by rw[N h];rfl,_,_,w8,λh=>by cases h⟩) (λm=>?_);·have:=Uj H.toChkHas a (Pz B t.F1 zT G) t.ky.toOne t.kB.toOne t.kI.toOne t.kN.toOne t.kO.toOne t.kS.toOne (t.j4 hI (by have:=b t.F1 zT G;omega)) (t.sg e1 _ a);rw[QV]at this;exact this
 have e2:t.e2=0:=by simpa using m
 rw[E (by rw[m];decide)];refine Dw.bE _ _ (t.e3 !=0) (S':=QS B (t.F2.co t.tv t.tx) t.T) w8 e (jm ..) (jm ..) c (λG a=>?_) (λh=>⟨by rw[N h];rfl,_,_,w8,λh=>by cases h⟩) (λu=>?_);·have x:=b t.F2 zT G;have:=apk H.n7 a (Pz B t.F2 zT G) (ayH B t.F2 zT G) (ayI B t.F2 zT G) (by omega) (by omega) (by omega) t.h2.toOne t.h3.toOne t.h4.toOne t.h5.toOne t.h6.toOne t.h7.toOne t.h8.toOne (by simp only[ae,t.h2.b,t.h3.b,t.h4.b,t.h5.b,t.h6.b,t.h7.b,t.h8.b,aD0]) (t.j5 hI (by omega) _ _) (t.tg e1 e2 _ a);rw[alG,QV]at this;exact this
 rw[E (by rw[u];decide)];refine Dw.bE _ _ (!t.en) hf w8 (jm ..) (jm ..) c (λG a=>Z9 H.toChkHas a (Pz ..) (t.cN e1 e2 _ a (o _ _ _))) (λh=>⟨by rw[N h];rfl,_,_,w8,λh=>by cases h⟩) (λv=>?_);rw[E (by rw[v];decide)];refine Dw.bE _ _ (t.tv !=I.pv) hf w8 (jm ..) (jm ..) c (λG a=>aa8 H.toChkHas a (Pz ..)) (λh=>⟨by rw[N h];rfl,_,_,w8,λh=>by cases h⟩) (λw=>?_);rw[E (by rw[w];decide)];refine Dw.bE _ _ t.ov hf w8 (jm ..) (jm ..) c (λG a=>abv H.toChkHas a (Pz ..) (t.gS _ a)) (λh=>⟨by rw[N h];rfl,_,_,w8,λh=>by cases h⟩) (λf=>?_);rw[E (by rw[f];decide)];exact⟨0,_,.db _,w8,_,_,w8,λ_=>w8⟩
def OM.oi(t:OM C O I):ae 0 t.S=eT:=by simp only[OM.S,ae,j0,t.h2.b,j]
def aoQ(H:VE C)(f:I.pl= -1){B:St}(okB:Ok B)(hB:z O<=z B)(p:∀F T G,Ext O (QS B F T++G))(hI:I.ok (z O))(t:OM C O I):∃x d,Dw C (z B+3) (acR (z B) (z B+1) (z B+2)) (QS B I.F zS) x d/\x=t.c/\∃o l,d=QS B o l/\(x=0->l=t.S):=by
 have ok0:Ok (QS B I.F zS):=TJ okB (aah hI (by omega)) w8;have i:Ok (QS B t.F1 zS):=TJ okB (t.j3 hI (by omega)) w8;have j:Ok (QS B t.F2 zS):=TJ okB (t.j4 hI (by omega)) w8;have c:Ok (QS B (t.F2.co 0 t.sx) t.S):=TJ okB (t.j5 hI (by omega) _ _) t.oi;have hf:ae (z B+3) [.da (z B) 0]=eT:=by simp[ae,j0]
 have e:ae (z B+3) [.da (z B+1) 0,.da (z B+2) 0]=eT:=by simp[ae,j0]
 have b:∀(F T) (G:St),z B+3<=z (QS B F T++G):=λF T G=>by rw[a03,jm];omega
 unfold OM.c XT;refine Dw.bE _ _ (I.aq== -1) hf w8 (jm ..) (jm ..) ok0 (λG a=>ach H.toChkHas a (Pz ..)) (λh=>⟨by rw[N h];rfl,_,_,w8,λh=>by cases h⟩) (λn1=>?_);rw[E (by rw[n1];decide)]
 refine Dw.bE _ _ (y (I.aq<0)) hf w8 (jm ..) (jm ..) ok0 (λG a=>by
  have:=apB H.toChkHas a (Pz B I.F zS G);rw[show I.F.pl= -1 from f,show y ((0:W)<= -1)=eF from w8,aJ0,Bool.or_false]at this;exact this) (λh=>⟨by rw[N h];rfl,_,_,w8,λh=>by cases h⟩) (λq=>?_)
 rw[E (by rw[q];decide)];refine Dw.bE _ _ (t.e1 !=0) (S':=QS B t.F1 zS) hf w8 (jm ..) (jm ..) i (λG a=>?_) (λh=>⟨by rw[N h];rfl,_,_,w8,λh=>by cases h⟩) (λm=>?_);·have:=aeK H.toChkHas a (Pz B I.F zS G) t.jj.toOne t.jl.toOne t.jr.toOne t.js.toOne t.jt.toOne (t.j3 hI (by have:=b I.F zS G;omega)) (t.rd _ a);rw[QV]at this;exact this
 have e1:t.e1=0:=by simpa using m
 rw[E (by rw[m];decide)];refine Dw.bE _ _ (t.e2 !=0) (S':=QS B t.F2 zS) hf w8 (jm ..) (jm ..) j (λG a=>?_) (λh=>⟨by rw[N h];rfl,_,_,w8,λh=>by cases h⟩) (λn=>?_);·have:=Uj H.toChkHas a (Pz B t.F1 zS G) t.ky.toOne t.kB.toOne t.kI.toOne t.kN.toOne t.kO.toOne t.kS.toOne (t.j4 hI (by have:=b t.F1 zS G;omega)) (t.sg e1 _ a);rw[QV]at this;exact this
 have e2:t.e2=0:=by simpa using n
 rw[E (by rw[n];decide)];refine Dw.bE _ _ (t.e3 !=0) (S':=QS B (t.F2.co 0 t.sx) t.S) w8 e (jm ..) (jm ..) c (λG a=>?_) (λh=>⟨by rw[N h];rfl,_,_,w8,λh=>by cases h⟩) (λs=>?_);·have v:=b t.F2 zS G;have:=apm H.n9 a (Pz B t.F2 zS G) (ayH B t.F2 zS G) (ayI B t.F2 zS G) (by omega) (by omega) (by omega) t.h2.toOne (by simp only[ae,t.h2.b,aD0]) (t.j5 hI (by omega) _ _) (t.sn e1 e2 _ a);rw[alG,QV]at this;exact this
 rw[E (by rw[s];decide)];refine Dw.bE _ _ (!t.en) hf w8 (jm ..) (jm ..) c (λG a=>Z9 H.toChkHas a (Pz ..) (t.cN e1 e2 _ a (p _ _ _))) (λh=>⟨by rw[N h];rfl,_,_,w8,λh=>by cases h⟩) (λu=>?_);rw[E (by rw[u];decide)];refine Dw.bE _ _ t.ov hf w8 (jm ..) (jm ..) c (λG a=>abv H.toChkHas a (Pz ..) (t.gS _ a)) (λh=>⟨by rw[N h];rfl,_,_,w8,λh=>by cases h⟩) (λg=>?_);rw[E (by rw[g];decide)];exact⟨0,_,.db _,w8,_,_,w8,λ_=>w8⟩
end
def awG{I:InF}(h:NV I.ph):NV (.cX I.ct):=.cX (.cV (.cU _) (.cV (.cQ _ _) (.cV (.cQ _ _) (.cV h .db))))
def awE{I:InF}{n:P}(h:I.ok n):NV (.cX I.ak):=.cX (.cV (.cQ _ _) (.cV h.a2.nv .db))
def avT{I:InF}{n:P}(h:I.ok n):(∀O d,cu O d I.v=J (I.v,[])):=by
 rcases h.v with h|⟨p,e,_⟩;·exact h.nf
 ·intro O d;rw[e];rfl
def Ia{n:P}{rs:K XR}{e:As}{Y:St}{vs:LA}(h:aZ e Y rs=J vs)(h2:NVs vs):iF n rs (J (.ea,e,Y))=J (dG vs,K4 n vs Y):=by rw[zO,h];dsimp only;rw[h2.E]
def oV{n:P}{rs:K XR}{e:As}{Y O3:St}{vs vs':LA}(h:aZ e Y rs=J vs)(h2:X2 eF vs Y=J (vs',O3)):iF n rs (J (.ea,e,Y))=J (dG vs',K4 n vs' O3):=by rw[zO,h];dsimp only;rw[h2]
section
variable{O:St}{I:InF}
def ads (H:VE C) (c:Ok O) (hI:I.ok (z O)) (i:yK I.ph) (hv:I.v.Q=eT/\I.v.cP=[I.v]) (t:OO C O I):
  ai C D6 [I.v,.cX I.ct,.cX I.ak,I.ks,.cQ r I.aw,.cU I.am,.cQ r I.aq] O=J (.de [.cX (if t.c=0 then t.T else zTn),.cQ .u8 t.c],O):=by
 have m:z (O++acI I)=z O+3:=by simp[acI]
 have okB:Ok (O++acI I):=c.H (by simp only[acI,K6,aC6,k9,awF hI,atS hI,aE0];rfl);obtain⟨cB,p,R,hr,a,d,B,e⟩:=aoC H okB (by omega) (λF T G=>apj _ F T G) hI t;have E:X2 eF [I.v,.cX I.ct,.cX I.ak,I.ks,.cQ r I.aw,.cU I.am,.cQ r I.aq] O=J ([I.v,.cX I.ct,.cX I.ak,I.ks,.cQ r I.aw,.cU I.am,.cQ r I.aq],O):=by have n1:=avT hI;have K:=(awG i.nv).nf;have M:=(awE hI).nf;have N:=hI.ks.nv.nf;show(match eX O 12 [I.v,.cX I.ct,.cX I.ak,I.ks,.cQ r I.aw,.cU I.am,.cQ r I.aq]with|J (l,fs)=>J (l,K9 O fs)|U=>U)=_;rw[show eX O 12 [I.v,.cX I.ct,.cX I.ak,I.ks,.cQ r I.aw,.cU I.am,.cQ r I.aq]=bI O (eX O 11) [I.v,.cX I.ct,.cX I.ak,I.ks,.cQ r I.aw,.cU I.am,.cQ r I.aq]from w8];simp only[bI,n1,K,M,N];rfl
 rw[H.bS.go E];have ok0:Ok (QS (O++acI I) I.F zT):=TJ okB (aah hI (by omega)) w8
 have g:=R;rw[<-jm (O++acI I) I.F zT]at g;have first:=PT H.dr g ok0 (by simp[acJ]) (by
  intro x j;simp only[acJ,aC8,aI5,K8]at j;rcases j with rfl|rfl|rfl|rfl|rfl|rfl|rfl|rfl|rfl|rfl<;>first|exact awh .. |exact am2 ..)
 rw[B]at first
 rw[m]at first
 rw[show(acJ (z O+3) (z O+3+1) (z O+3+2)).length=10 from w8]at first
 have go:∀F T,QS (O++acI I) F T=O++[.cP I.ct FZ,.cP I.ak FZ,.cP zT FZ,.cP F.B FZ,.cP [.da (z O+3) 0] FZ,.cP T FZ]:=λF T=>by unfold QS;rw[m,aB2];rfl
 rw[go,go]at first
 simp only[acJ,mt,apT,T3.B,aF0,aK7,a05,a88,aB3,aI8,Nat.reduceAdd]at first
 have n:=λ(vs:LA) (h:ae 0 vs=eT) L=>bu c (vs:=vs) h L;obtain⟨vf,o⟩:=hv;obtain⟨⟨k1,k2,_⟩,_⟩:=hI.a2;obtain⟨⟨k3,k,_⟩,_⟩:=hI.ks;obtain⟨⟨k5,k6,_⟩,_⟩:=i;rw[<-hr];obtain⟨⟨a2,S,q⟩,_⟩:=t.h2;obtain⟨⟨a3,V,s⟩,_⟩:=t.h3;obtain⟨⟨a4,W,u⟩,_⟩:=t.h4;obtain⟨⟨a5,X,v⟩,_⟩:=t.h5;obtain⟨⟨a6,Y,w⟩,_⟩:=t.h6;obtain⟨⟨a7,Z,y⟩,_⟩:=t.h7;obtain⟨⟨a8,b8,A⟩,_⟩:=t.h8;have P:=t.oj;have Q:NVs t.T:=.cV (.cQ _ _) (.cV (.cQ _ _) (.cV q (.cV s (.cV u (.cV v (.cV w (.cV y (.cV A .db))))))));by_cases b:cB=0
 ·rw[if_pos b];have e:=e b;subst e;have body:gu C (ai C) nI.W nI.ap (oH 0 [I.v,.cX I.ct,.cX I.ak,I.ks,.cQ r I.aw,.cU I.am,.cQ r I.aq]) O=J (.ea,[(14,.da (z O+2) 0),(15,.cQ .u8 0)],O++[.cP I.ct FZ,.cP I.ak FZ,.cP t.T FZ,.cP a.B FZ,.cP [.da (z O+3) 0] FZ,.cP t.T FZ]):=by subst b;unfold InF.F jC.B InF.ct InF.ak zT OO.T at*;simp only[nI,first,o,k,a2,a3,a4,a5,a6,a7,a8,w9,aA,EVX,seval]
  have res:aZ [(14,.da (z O+2) 0),(15,.cQ .u8 0)] (O++[.cP I.ct FZ,.cP I.ak FZ,.cP t.T FZ,.cP a.B FZ,.cP [.da (z O+3) 0] FZ,.cP t.T FZ]) nI.an=J [.cX t.T,.cQ .u8 0]:=by unfold OO.T;simp only[nI,aZ,aI,EVX,seval]
  rw[body,Ia res (.cV (.cX Q) (.cV (.cQ _ _) .db)),n _ (by rw[ae,j0,P];rfl),b];rfl
 ·rw[if_neg b];have f:(cB !=0)=eT:=by rw[bne_iff_ne];exact b
  have body:gu C (ai C) nI.W nI.ap (oH 0 [I.v,.cX I.ct,.cX I.ak,I.ks,.cQ r I.aw,.cU I.am,.cQ r I.aq]) O=J (.ea,[(14,.da (z O+2) 0),(15,.cQ .u8 cB)],O++[.cP I.ct FZ,.cP I.ak FZ,.cP zT FZ,.cP a.B FZ,.cP [.da (z O+3) 0] FZ,.cP d FZ]):=by unfold InF.F jC.B InF.ct InF.ak zT at*;simp only[nI,first,f,o,k,w9,aA,EVX,seval]
  have res:aZ [(14,.da (z O+2) 0),(15,.cQ .u8 cB)] (O++[.cP I.ct FZ,.cP I.ak FZ,.cP zT FZ,.cP a.B FZ,.cP [.da (z O+3) 0] FZ,.cP d FZ]) nI.an=J [.cX zT,.cQ .u8 cB]:=by unfold zT;simp only[nI,aZ,aI,EVX,seval]
  have D:X2 eF [.cX zT,.cQ .u8 cB] (O++[.cP I.ct FZ,.cP I.ak FZ,.cP zT FZ,.cP a.B FZ,.cP [.da (z O+3) 0] FZ,.cP d FZ])=J ([.cX zTn,.cQ .u8 cB],O++[.cP I.ct FZ,.cP I.ak FZ,.cP zT FZ,.cP a.B FZ,.cP [.da (z O+3) 0] FZ,.cP d FZ]):=w8;rw[body,oV res D,n _ w8];rfl
def BN(I:InF)(a b c d e f:AV):LA:=[a,b,I.ks,c,d,.cQ r I.a1,I.a2,e,f]
def acQ(I:InF)(a b c d e f:AV):St:=[.cP (BN I a b c d e f) FZ,.cP zS FZ]
def Wi (H:VE C) (j:Ok O) (hI:I.ok (z O)) (hv:I.v.Q=eT/\I.v.cP=[I.v]) (s:I.pn=[]/\I.pv=0/\I.pl= -1/\I.ph=.cY) (t:OM C O I) {a b c d e f:AV} (m:yK a) (n:yK b) (h3:yK c) (h4:yK d) (h7:yK e) (h8:yK f):
  ai C tX [I.v,.cX (BN I a b c d e f),.cQ r I.aw,.cU I.am,.cQ r I.aq] O=J (.de [.cX (if t.c=0 then t.S else zSn),.cQ .u8 t.c],O):=by
 have X:ae 0 (BN I a b c d e f)=eT:=by simp only[BN,ae,j0,m.b,n.b,h3.b,h4.b,h7.b,h8.b,hI.ks.b,hI.a2.b,aD0]
 have Y:NV (.cX (BN I a b c d e f)):=.cX (.cV m.nv (.cV n.nv (.cV hI.ks.nv (.cV h3.nv (.cV h4.nv (.cV (.cQ _ _) (.cV hI.a2.nv (.cV h7.nv (.cV h8.nv .db)))))))));have y:z (O++acQ I a b c d e f)=z O+2:=by simp[acQ]
 have okB:Ok (O++acQ I a b c d e f):=j.H (by simp only[acQ,K6,aC6,k9,X,aE0];rfl);obtain⟨cB,N,R,hr,g,k,Q,o⟩:=aoQ H s.2.2.1 okB (by omega) (λF T G=>apj _ F T G) hI t;have V:X2 eF [I.v,.cX (BN I a b c d e f),.cQ r I.aw,.cU I.am,.cQ r I.aq] O=J ([I.v,.cX (BN I a b c d e f),.cQ r I.aw,.cU I.am,.cQ r I.aq],O):=by have n1:=avT hI;have W:=Y.nf;show(match eX O 12 [I.v,.cX (BN I a b c d e f),.cQ r I.aw,.cU I.am,.cQ r I.aq]with|J (l,fs)=>J (l,K9 O fs)|U=>U)=_;rw[show eX O 12 [I.v,.cX (BN I a b c d e f),.cQ r I.aw,.cU I.am,.cQ r I.aq]=bI O (eX O 11) [I.v,.cX (BN I a b c d e f),.cQ r I.aw,.cU I.am,.cQ r I.aq]from w8];simp only[bI,n1,W];rfl
 rw[H.kl.go V];have ok0:Ok (QS (O++acQ I a b c d e f) I.F zS):=TJ okB (aah hI (by omega)) w8
 have q:=R;rw[<-jm (O++acQ I a b c d e f) I.F zS]at q;have first:=PT H.dr q ok0 (by simp[acR]) (by
  intro x u;simp only[acR,aC8,aI5,K8]at u;rcases u with rfl|rfl|rfl|rfl|rfl|rfl|rfl<;>first|exact awh .. |exact am2 ..)
 rw[Q]at first
 rw[y]at first
 rw[show(acR (z O+2) (z O+2+1) (z O+2+2)).length=7 from w8]at first
 have go:∀F T,QS (O++acQ I a b c d e f) F T=O++[.cP (BN I a b c d e f) FZ,.cP zS FZ,.cP F.B FZ,.cP [.da (z O+2) 0] FZ,.cP T FZ]:=λF T=>by unfold QS;rw[y,aB2];rfl
 rw[go,go]at first
 simp only[acR,mt,apT,T3.B,aF0,aK7,a05,a88,aB3,aI8,Nat.reduceAdd]at first
 have K:=λ(vs:LA) (h:ae 0 vs=eT) L=>bu j (vs:=vs) h L;obtain⟨vf,M⟩:=hv;obtain⟨A,B,D,E⟩:=s;obtain⟨⟨k1,v,_⟩,_⟩:=hI.a2;obtain⟨⟨k3,w,_⟩,_⟩:=hI.ks;obtain⟨⟨f0,g0,_⟩,_⟩:=m;obtain⟨⟨f1,g1,_⟩,_⟩:=n;obtain⟨⟨f3,g3,_⟩,_⟩:=h3;obtain⟨⟨f4,g4,_⟩,_⟩:=h4;obtain⟨⟨f7,g7,_⟩,_⟩:=h7;obtain⟨⟨f8,g8,_⟩,_⟩:=h8;rw[<-hr];obtain⟨⟨a2,b2,P⟩,_⟩:=t.h2;have Z:=t.oi;have tn:NVs t.S:=.cV (.cQ _ _) (.cV (.cQ _ _) (.cV P .db));by_cases i:cB=0
 ·rw[if_pos i];have o:=o i;subst o;have body:gu C (ai C) iI.W iI.ap (oH 0 [I.v,.cX (BN I a b c d e f),.cQ r I.aw,.cU I.am,.cQ r I.aq]) O=J (.ea,[(10,.da (z O+1) 0),(11,.cQ .u8 0)],O++[.cP (BN I a b c d e f) FZ,.cP t.S FZ,.cP g.B FZ,.cP [.da (z O+2) 0] FZ,.cP t.S FZ]):=by
   subst i;unfold InF.F jC.B BN zS OM.S at*;simp only[iI,A,B,D,E]at first⊢
   simp only[first,M,v,w,a2,w9,aA,EVX,seval]
  have res:aZ [(10,.da (z O+1) 0),(11,.cQ .u8 0)] (O++[.cP (BN I a b c d e f) FZ,.cP t.S FZ,.cP g.B FZ,.cP [.da (z O+2) 0] FZ,.cP t.S FZ]) iI.an=J [.cX t.S,.cQ .u8 0]:=by unfold OM.S;simp only[iI,aZ,aI,EVX,seval]
  rw[body,Ia res (.cV (.cX tn) (.cV (.cQ _ _) .db)),K _ (by rw[ae,j0,Z];rfl),i];rfl
 ·rw[if_neg i];have p:(cB !=0)=eT:=by rw[bne_iff_ne];exact i
  have body:gu C (ai C) iI.W iI.ap (oH 0 [I.v,.cX (BN I a b c d e f),.cQ r I.aw,.cU I.am,.cQ r I.aq]) O=J (.ea,[(10,.da (z O+1) 0),(11,.cQ .u8 cB)],O++[.cP (BN I a b c d e f) FZ,.cP zS FZ,.cP g.B FZ,.cP [.da (z O+2) 0] FZ,.cP k FZ]):=by
   unfold InF.F jC.B BN zS at*;simp only[iI,A,B,D,E]at first⊢
   simp only[first,p,M,v,w,w9,aA,EVX,seval]
  have res:aZ [(10,.da (z O+1) 0),(11,.cQ .u8 cB)] (O++[.cP (BN I a b c d e f) FZ,.cP zS FZ,.cP g.B FZ,.cP [.da (z O+2) 0] FZ,.cP k FZ]) iI.an=J [.cX zS,.cQ .u8 cB]:=by unfold zS;simp only[iI,aZ,aI,EVX,seval]
  have S:X2 eF [.cX zS,.cQ .u8 cB] (O++[.cP (BN I a b c d e f) FZ,.cP zS FZ,.cP g.B FZ,.cP [.da (z O+2) 0] FZ,.cP k FZ])=J ([.cX zSn,.cQ .u8 cB],O++[.cP (BN I a b c d e f) FZ,.cP zS FZ,.cP g.B FZ,.cP [.da (z O+2) 0] FZ,.cP k FZ]):=w8;rw[body,oV res S,K _ w8];rfl
end
variable{V:Val}
def Ac{d:LA}(h:Ms V [] d):d=[]:=by cases h;rfl
def En{s:Sh}{t:K Sh}{d:LA}(h:Ms V (s::t) d)(a:s.ef=eT):∃v b,d=v::b/\M V s v/\Ms V t b:=by
 cases h with
 |ef _ _ v b _ h3 h4=>exact⟨v,b,w8,h3,h4⟩|jv=>cases a|jg=>cases a
def wR{t:K Sh}{d:LA}(h:Ms V (.df::t) d):∃s b,d=.cU s::b/\z s<=LB/\Ms V t b:=by
 obtain⟨v,b,rfl,h3,h4⟩:=En h w8;cases h3 with
 |df s hs=>exact⟨s,b,w8,hs,h4⟩
def yD{k:i}{t:K Sh}{d:LA}(h:Ms V (.cQ k::t) d):∃n b,d=.cQ k n::b/\Ms V t b:=by
 obtain⟨v,b,rfl,h3,h4⟩:=En h w8;cases h3 with
 |cQ k n=>exact⟨n,b,w8,h4⟩
def auL{t:K Sh}{d:LA}(h:Ms V (.cW::t) d):∃n b,d=.cW n::b/\Ms V t b:=by
 obtain⟨v,b,rfl,h3,h4⟩:=En h w8;cases h3 with
 |cW n=>exact⟨n,b,w8,h4⟩
def amK{t:K Sh}{d:LA}(h:Ms V (.jv::t) d):∃(j:JV) (b:LA),d=j.B++b/\Ms V t b:=by
 cases h with
 |ef _ _ _ _ a=>cases a|jv _ j b h=>exact⟨j,b,w8,h⟩
def amJ{d:Type}{e:K Sh}{f:d->LA}{P:d->Prop}(h:∀j,Ms V e j->∃x,j=f x/\P x):∀{rs:K LA},MRs V e rs->∃xs:K d,rs=xs.map f/\∀x∈xs,P x
 |_,.db _=>⟨[],w8,λx g=>by cases g⟩
 |_,.cV _ j rs hr a=>by
  obtain⟨x,rfl,i⟩:=h j hr;obtain⟨xs,rfl,c⟩:=amJ h a;exact⟨x::xs,w8,λy b=>by
   rcases aC8.mp b with rfl|b;·exact i
   ·exact c y b⟩
def aeD{a:Type}{e:K Sh}{f:a->LA}{P:a->Prop}(h:∀i,Ms V e i->∃x,i=f x/\P x){v:AV}(c:M V (.ew e) v):∃xs:K a,v=.sl (z xs) (xs.flatMap f)/\z xs<=8192/\∀x∈xs,P x:=by
 cases c with
 |ew _ rs b hr=>obtain⟨xs,rfl,d⟩:=amJ h hr;rw[aD8]at b⊢;exact⟨xs,by rw[B],b,d⟩
def CX{a:Type}{e:K Sh}{f:a->LA}{P:a->Prop}(h:∀d,Ms V e d->∃x,d=f x/\P x){t:K Sh}{d:LA}(c:Ms V (.ew e::t) d):∃(xs:K a) (b:LA),d=.sl (z xs) (xs.flatMap f)::b/\z xs<=8192/\(∀x∈xs,P x)/\Ms V t b:=by obtain⟨v,b,rfl,h3,h4⟩:=En c w8;obtain⟨xs,rfl,h5,h6⟩:=aeD h h3;exact⟨xs,b,w8,h5,h6,h4⟩
def aig(d:LA)(h:Ms V [.df] d):∃s,d=sC s/\True:=by obtain⟨s,b,rfl,_,a⟩:=wR h;rw[Ac a];exact⟨s,w8,trivial⟩
def aqL(d:LA)(h:Ms V [.df,.df] d):∃s,d=pC s/\True:=by obtain⟨s,b,rfl,_,a⟩:=wR h;obtain⟨u,b,rfl,_,h2⟩:=wR a;rw[Ac h2];exact⟨(s,u),w8,trivial⟩
def az8(d:LA)(h:Ms V [.df,.cQ r,.ew [.df,.df],.jv] d):∃t,d=TgV.B t/\z t.hs<=1099511627776:=by obtain⟨s,b,rfl,_,a⟩:=wR h;obtain⟨n,b,rfl,h2⟩:=yD a;obtain⟨hs,b,rfl,c,_,h3⟩:=CX aqL h2;obtain⟨j,b,rfl,h4⟩:=amK h3;rw[Ac h4,aB3];exact⟨⟨s,n,hs,j⟩,w8,show z hs<=_ by omega⟩
def az7(d:LA)(h:Ms V [.df,.cQ r,.ew [.df],.cW,.ew [.df],.ew [.df]] d):∃t,d=RoV.B t/\t.ok:=by obtain⟨s,b,rfl,_,a⟩:=wR h;obtain⟨n,b,rfl,h2⟩:=yD a;obtain⟨a1,b,rfl,l1,_,h3⟩:=CX aig h2;obtain⟨c,b,rfl,h4⟩:=auL h3;obtain⟨a2,b,rfl,l2,_,h5⟩:=CX aig h4;obtain⟨a3,b,rfl,l3,_,h6⟩:=CX aig h5;rw[Ac h6];exact⟨⟨s,n,a1,c,a2,a3⟩,w8,⟨show z a1<=_ by omega,show z a2<=_ by omega,show z a3<=_ by omega⟩⟩
def ayp:Sh:=.cX [.cQ r,.cQ r,.ew [.df,.cQ r,.ew [.df,.df],.jv],.ew [.df,.df],.ew [.df,.cQ r,.ew [.df],.cW,.ew [.df],.ew [.df]],.cQ r,.ew [.df],.cQ r,.df]
def aqM(d:LA)(h:Ms V0 Ik d):∃t,d=RoV.B t/\t.ok/\Ms V0 Ik t.B:=by obtain⟨t,rfl,k⟩:=az7 d h;exact⟨t,w8,k,h⟩
def axs(d:LA)(h:Ms V0 alx d):∃t,d=TgV.B t/\z t.hs<=1099511627776/\Ms V0 alx t.B:=by obtain⟨t,rfl,k⟩:=az8 d h;exact⟨t,w8,k,h⟩
def ae3:K Sh:=[.ew [.df,.df],.ew Ik,.cQ r,.ew [.df],.cQ r,.df]
def aau(q:LA)(h:Ms V0 ae3 q):∃d:Hw,q=d.B/\d.ok/\adl d:=by
 obtain⟨v,b,rfl,e,a⟩:=En h w8;obtain⟨ks,rfl,l1,i⟩:=aeD (f:=pC) (P:=λx:PS=>z x.1<=LB/\z x.2<=LB) (λq h=>by
  obtain⟨s,b,rfl,a1,a⟩:=wR h;obtain⟨u,b,rfl,a2,h2⟩:=wR a;rw[Ac h2];exact⟨(s,u),w8,a1,a2⟩) e
 obtain⟨l,b,rfl,l2,q3,h2⟩:=CX aqM a;obtain⟨th,b,rfl,h3⟩:=yD h2;obtain⟨v,b,rfl,g,h4⟩:=En h3 w8;obtain⟨ids,rfl,l3,_⟩:=aeD aig g;obtain⟨n,b,rfl,h5⟩:=yD h4;obtain⟨p,b,rfl,j,h6⟩:=wR h5;rw[Ac h6];exact⟨⟨ks,l,th,ids,n,p⟩,w8,⟨show z ks<=_ by omega,show z l<=_ by omega,λx c=>(q3 x c).1,show z ids<=_ by omega⟩,⟨λx c=>(q3 x c).2,l2,e,⟨l1,i⟩,g,j⟩⟩
def aqP{v:AV}(h:M V0 ayp v):∃t:dV,v=.cX t.B/\t.ok:=by
 cases h with
 |cX _ v h=>obtain⟨a,b,rfl,i⟩:=yD h;obtain⟨e,b,rfl,h2⟩:=yD i;obtain⟨l,b,rfl,l1,q1,h3⟩:=CX axs h2;obtain⟨d,rfl,f,g⟩:=aau b h3;exact⟨⟨a,e,l,d⟩,w8,⟨show z l<=_ by omega,λx c=>(q1 x c).1,f,⟨λx c=>(q1 x c).2,l1,g⟩⟩⟩
def ahU:Sh:=.cX [.jv,.ew [.df,.df]]
def agf{v:AV}(h:M V ahU v):∃(j:JV) (l:K PS),v=.cX (j.B++[.sl (z l) (l.flatMap pC)])/\z l<=8192:=by
 cases h with
 |cX _ v h=>obtain⟨j,b,rfl,a⟩:=amK h;obtain⟨l,b,rfl,l1,_,h2⟩:=CX aqL a;rw[Ac h2];exact⟨j,l,w8,l1⟩
def LQ{v:AV}(h:M V .jv v):∃j:JV,v=j.av:=by
 cases h with
 |jv j=>exact⟨j,w8⟩
def amv{v:AV}(h:M V .df v):∃s:LU,v=.cU s:=by
 cases h with
 |df s _=>exact⟨s,w8⟩
def zD{v:AV}(h:M V .cW v):∃b:T,v=.cW b:=by
 cases h with
 |cW b=>exact⟨b,w8⟩
def OY{s:Sh}{k:i}{v:AV}(h:M V (.de [s,.cQ k]) v):∃x n,v=.de [x,.cQ k n]/\M V s x:=by
 cases h with
 |de _ _ h=>
  cases h with
  |cV _ _ x b a h2=>
   cases h2 with
   |cV _ _ y b h3 h4=>
    cases h4;cases h3 with
    |cQ k n=>exact⟨x,n,w8,a⟩
def az6{s:Sh}{k a:i}{v:AV}(h:M V (.de [s,.cQ k,.cQ a]) v):∃x n m,v=.de [x,.cQ k n,.cQ a m]/\M V s x:=by
 cases h with
 |de _ _ h=>
  cases h with
  |cV _ _ x b c h2=>
   cases h2 with
   |cV _ _ y b h3 h4=>
    cases h4 with
    |cV _ _ z b h5 h6=>
    cases h6;cases h3 with
    |cQ k n=>cases h5 with|cQ a m=>exact⟨x,n,m,w8,c⟩
def amI{a:Type}{e:K Sh}{f:a->LA}:∀(l:K a),(∀x∈l,Ms V e (f x))->MRs V e (l.map f)|[],_=>.db _|x::l,h=>.cV _ _ _ (h x (by simp)) (amI l λy b=>h y (by simp[b]))
def aci{a:Type}{e:K Sh}{f:a->LA}(l:K a)(h:∀x∈l,Ms V e (f x))(b:z l<=8192):M V (.ew e) (.sl (z l) (l.flatMap f)):=by have:=M.ew e (l.map f) (by rw[aD8];exact b) (amI l h);rwa[aD8,<-B]at this
def Ad(n:P){l:LA}(h:NV (.sl n l)):yK (.sl n l):=⟨⟨w8,w8,h⟩,h.cl⟩
def KT(k:i)(n:W):yK (.cQ k n):=⟨⟨w8,w8,.cQ _ _⟩,w8⟩
def amR(s:LU):yK (.cU s):=⟨⟨w8,w8,.cU _⟩,w8⟩
def JV.h0(j:JV):∃a b c d e,j.B=[a,b,c,d,e]/\yK a/\yK b/\yK c/\yK d/\yK e:=by have f:=j.af;have h2:=j.aL;obtain⟨k,n,t,ns,is,a1,a3,a2,a4,rfl⟩:=j.ex;rw[JV.bO]at*;refine⟨_,_,_,_,_,w8,KT _ _,KT _ _,amR _,Ad _ (f _ (by simp)),Ad _ (f _ (by simp))⟩
def uQ(l:K LU):Prop:=z l<=8192/\∀s∈l,z s<=LB
def DC(hs:K PS):Prop:=z hs<=8192/\∀x∈hs,z x.1<=LB/\z x.2<=LB
end Go.Ev
namespace Go.Ev
open List renaming length→z
open Bool renaming true→eT, false→eF
open Option renaming some→J, none→U
open Go.IntKind renaming i64→r
variable{C:Ctx}
def aga(d:R C jO gB)(a b:LU)(e:z a<=LB)(hb:z b<=LB)(O:St)(f:Ok O):∃q:T,ai C jO [.cU a,.cU b] O=J (.cW q,O)/\(q=eT->z b<=z a):=by
 simp only[LB]at e hb;rw[d.go (NVs.E (.cV (.cU _) (.cV (.cU _) .db)) _)];by_cases h:z b<=z a;·have c:((z a:W)>=(z b:W)):=(by omega);have h2:IntKind.i64.wrap ((z a:W)-z b)=((z a-z b:P):W):=wrE (by omega);have h3:(0:W)<=((z a-z b:P):W):=(by omega);have h4:z a-z b<=z a/\z a<=z a:=(by omega);refine⟨y (a.drop (z a-z b)=b),?_,λ_=>h⟩;simp only[gB,c,h2,h3,h4,aK8,ajY,aC5,Option.map_none,p,k,bP,X,seval]
 ·have c:¬((z a:W)>=(z b:W)):=(by omega);refine⟨eF,?_,λhf=>by cases hf⟩;simp only[gB,c,bP,X,seval]
theorem afX(g:R C gK jK)(i:R C jO gB)(a b:LU)(c:z a<=LB)(hb:z b<=LB)(O:St)(f:Ok O):∃(t:LU) (q:T),ai C gK [.cU a,.cU b] O=J (.de [.cU t,.cW q],O)/\z t<=LB:=by
 obtain⟨q,e,j⟩:=aga i a b c hb O f;rw[g.go (NVs.E (.cV (.cU _) (.cV (.cU _) .db)) _)];cases q with
 |false=>refine⟨a,eF,?_,c⟩;simp only[jK,e,bP,X,seval]|true=>have h:=j w8;have d:=c;simp only[LB]at d hb;have h2:IntKind.i64.wrap ((z a:W)-z b)=((z a-z b:P):W):=wrE (by omega);have h3:(0:W)<=((z a-z b:P):W):=(by omega);have h4:z a-z b<=z a:=(by omega);refine⟨(a.take (z a-z b)).drop 0,eT,?_,by simp;omega⟩;simp only[jK,e,h2,h3,h4,w,aC5,Option.map_none,p,k,bP,X,seval]
def agX(PK:PkI)(a:R C gK jK)(d:R C jO gB):bZ C PK gK (.dp [.df,.df] (.de [.df,.cW])):=
 qw a w8 λe b=>by obtain⟨x,y,rfl,c,h2⟩:=agd b;grind [afX,Mt,M]
variable{PK:PkI}
def fA{f:Q}{args:K Sh}{res:Sh}(h:bZ C PK f (.dp args res)){azs:LA}(c:NVs azs)(b:Mt V0 args azs){O:St}(a:Ok O):∃v,ai C f azs O=J (v,O)/\M V0 res v:=h O azs azs O a (c.E O) a b
def BK{V:Val}{k:i}{v:AV}(h:M V (.cQ k) v):∃n,v=.cQ k n:=by cases h;exact⟨_,w8⟩
def Qj{V:Val}{v:AV}(h:M V .cW v):∃n,v=.cW n:=by cases h;exact⟨_,w8⟩
def ayN:K W:=[0,31,59,90,120,151,181,212,243,273,304,334,365]
def bef:LA:=ayN.map (.cQ r)
def ajX(i:P)(h:i<13):∃x,(bef.drop i).head? =J (.cQ r x):=by unfold bef;rw[aI3,aF7,a01 (show i<z ayN from h)];exact⟨_,w8⟩
structure aaj(C:Ctx)(PK:PkI):Prop where
 mT:Has C Zq xN
 gW:Has C Dk jD
 nu:C.gl zu=some bef
 lw:bZ C PK Zr (.dp [.cQ .i64] .cW)
 nl:bZ C PK Qb (.dp [.cQ .i64,.cQ .i64] .cW)
 gk:bZ C PK WL (.dp [.cQ .i64] (.cQ .i64))
 j7:bZ C PK LP (.dp [.df] (.cQ .i64))
def ap8(H:aaj C PK)(y m:W)(O:St)(h:Ok O):∃d,ai C Zq [.cQ r y,.cQ r m] O=J (.cQ r d,O)/\(1<=d->1<=m/\m<=12):=by
 rw[H.mT.go (NVs.E (.cV (.cQ _ _) (.cV (.cQ _ _) .db)) _)];by_cases a:y<1970;·exact⟨0,by simp only[xN,a,bP,X,seval],by omega⟩
 by_cases h2:y>9999;·exact⟨0,by simp only[xN,a,h2,bP,X,seval],by omega⟩
 by_cases h3:m<1;·exact⟨0,by simp only[xN,a,h2,h3,bP,X,seval],by omega⟩
 by_cases h4:m>12;·exact⟨0,by simp only[xN,a,h2,h3,h4,bP,X,seval],by omega⟩
 have hb:=H.nu;have i:IntKind.i64.wrap (m-1)=m-1:=wrE (by omega);have a1:0<=m:=by omega
 have a2:0<=m-1:=by omega
 have bl:bef.length=13:=w8;have l1:m.toNat<13:=by omega
 have l2:(m-1).toNat<13:=by omega
 have l3:m.toNat<=bef.length:=by omega
 have l4:(m-1).toNat<=bef.length:=by omega
 obtain⟨x,f⟩:=ajX m.toNat l1;obtain⟨z,g⟩:=ajX (m-1).toNat l2;obtain⟨b,j,e⟩:=fA H.lw (.cV (.cQ r y) .db) (.cV _ _ _ _ (.cQ _ _) .db) h;obtain⟨b,rfl⟩:=Qj e;have c:∀E,avA C E (.g zu)=.ec bef:=λE=>by show AV.ec ((C.gl zu).getD [])=_;rw[hb];rfl
 cases h5:(m==(2:W))with
 |false=>refine⟨IntKind.i64.wrap (x-z),?_,by omega⟩;simp only[xN,a,h2,h3,h4,h5,i,a1,a2,l1,l2,l3,l4,f,g,c,aC5,k,bP,X,seval]
 |true=>
  cases b with
  |true=>refine⟨IntKind.i64.wrap (IntKind.i64.wrap (x-z)+1),?_,by omega⟩;simp only[xN,a,h2,h3,h4,h5,i,a1,a2,l1,l2,l3,l4,f,g,j,c,aC5,k,bP,X,seval]|false=>refine⟨IntKind.i64.wrap (x-z),?_,by omega⟩;simp only[xN,a,h2,h3,h4,h5,i,a1,a2,l1,l2,l3,l4,f,g,j,c,aC5,k,bP,X,seval]
def PB(Q:Prop)(v:AV):Prop:=∃b:T,v=.cW b/\(b=eT->Q)
def PB.no{Q:Prop}:PB Q (.cW eF):=⟨eF,w8,λh=>by cases h⟩
def PB.mn{Q:Prop}(h:Q):PB Q (.cW eT):=⟨eT,w8,λ_=>h⟩
structure Nv(C:Ctx)(PK:PkI):Prop where
 kg:Has C Qa aV
 i7:Has C OV GV
 ju:Has C Zp sO
 kr:Has C kW Zc
 gs:bZ C PK Gw (.dp [.df] .cW)
 g7:bZ C PK vK (.dp [.ew [.df]] .cW)
def adg(H:Nv C PK)(s:LU)(O:St)(a:Ok O):∃b:T,ai C OV [.cU s] O=J (.cW b,O)/\(b=eT->z s<=4096):=by
 rw[H.i7.go (NVs.E (.cV (.cU _) .db) _)];by_cases h:(z s:W)<=4096;·obtain⟨v,c,h2⟩:=fA H.gs (.cV (.cU s) .db) (.cV _ _ _ _ (.df s (by simp only[LB];omega)) .db) a;obtain⟨b,rfl⟩:=Qj h2;exact⟨b,by simp only[GV,h,c,bP,X,seval],λ_=>by omega⟩
 ·exact⟨eF,by simp only[GV,h,bP,X,seval],λhf=>by cases hf⟩
def acX(ns:K LU)(i:P)(h:i<z ns):(ns.map AV.cU).drop i=.cU ns[i]::(ns.map AV.cU).drop (i+1):=by rw[aB6 (l:=ns.map AV.cU) (by simpa using h),List.getElem_map]
def ZP (H:Nv C PK) (ns:K LU) (o:z ns<=8192) (O:St) (a:Ok O):∀(n i:P),i+n=z ns->
  (aG C (ai C) 99 [89,90,91] jA [(89,.sl (z ns) (ns.map .cU)),(90,.cQ r (z ns)),(91,.cQ r i)] O=J (.dq 1,[],O)/\∀x∈ns.drop i,z x<=4096)\/
  aG C (ai C) 99 [89,90,91] jA [(89,.sl (z ns) (ns.map .cU)),(90,.cQ r (z ns)),(91,.cQ r i)] O=J (.ea,[(2,.cW eF)],O)
 |0,i,hi=>by left;refine⟨?_,by rw[aK9 (by omega)];simp⟩;rw[aB (he:=w8)];have h:¬((i:W)<(z ns:W)):=(by omega);simp only[jA,h,X,seval]
 |n+1,i,hi=>by
  have h:((i:W)<(z ns:W)):=(by omega);have h2:i<z ns:=(by omega);have h3:(0:W)<=i:=(by omega);have l:=wrS i (by omega);have sl:z (ns.map AV.cU)=z ns:=(by simp);have f:=acX ns i h2;have k:ns.drop i=ns[i]::ns.drop (i+1):=aB6 h2;generalize ns[i]=x at f k;obtain⟨b,e,hb⟩:=adg H x O a;have c:=ZP H ns o O a n (i+1) (by omega);cases b with
  |false=>right;rw[aB (he:=w8)];simp only[jA,h,h2,h3,sl,f,e,X,seval]
  |true=>
   rcases c with⟨c,p⟩|c
   ·left;refine⟨?_,λy g=>?_⟩;·rw[aB (he:=w8)];generalize m:aG C (ai C) 99 [89,90,91] jA=d at*;simp only[jA,h,h2,h3,l,sl,f,e,c,X,seval]
    ·rw[k]at g;rcases aC8.mp g with rfl|g;·exact hb w8
     ·exact p y g
   ·right;rw[aB (he:=w8)];generalize m:aG C (ai C) 99 [89,90,91] jA=d at*;simp only[jA,h,h2,h3,l,sl,f,e,c,X,seval]
def afw(k:W)(t:LU)(ns:K LU)(is:K JV):Prop:=z t<=4096/\(∀x∈ns,z x<=4096)/\(k≠4->k≠5->is=[])
set_option maxHeartbeats 4000000 in
def aox(H:Nv C PK)(k n:W)(t:LU)(ns:List LU)(is:List JV)(M:z ns<=z is)(h3:k=5->z is<=z ns)(h2:z is<=8192)(h4:StB t ns)(O:St)(s:Ok O):∃v,ai C Qa [(K0 k n t ns is M h3 h2 h4).av] O=J (v,O)/\PB (afw k t ns is) v:=by
 rw[H.kg.go (NVs.E (.cV (JV.nv _) .db) _)];have b:=λ(q:Bool)=>bu s (vs:=[.cW q]) w8;have ca:(K0 k n t ns is M h3 h2 h4).av=.cX [.cQ .u8 k,.cQ r n,.cU t,.sl (z ns) (ns.map .cU),.sl (z is) (aO is)]:=by unfold j8;rw[JV.bO]
 have d:∀{cB:Option (AV×St)},cB=J (.cW eF,O)->∃v,cB=J (v,O)/\PB (afw k t ns is) v:=λh=>⟨_,h,PB.no⟩;have o:∀{cB:Option (AV×St)},cB=J (.cW eT,O)->afw k t ns is->∃v,cB=J (v,O)/\PB (afw k t ns is) v:=λh g=>⟨_,h,PB.mn g⟩
 let B:W->AO:=λk=>.cP [.cQ .u8 k,.cQ r n,.cU t,.sl (z ns) (ns.map .cU),.sl (z is) (aO is)] FZ
 have okB:∀k,Ok (O++[.cP [.cQ .u8 k,.cQ r n,.cU t,.sl (z ns) (ns.map .cU),.sl (z is) (aO is)] FZ]):=λk=>QJ s (by simp[k9,ae,j0,aP (a97 _) _ (xH ns),aP (a97 _) _ (iZ is)]);have x:t=[]->z t<=4096:=λh=>by rw[h];simp
 have D:¬(z ns:W)>0->ns=[]:=λh=>aB7 (by omega);have E:¬(z is:W)>0->is=[]:=λh=>aB7 (by omega);have sl:z (ns.map AV.cU)=z ns:=by simp
 by_cases j:k=1
 ·subst j;cases a:decide (t=[])with
  |false=>exact d (by simp only[aV,ca,a,AV.cP,K1,pW,b,X,seval])|true=>
  have l:t=[]:=(by simpa using a);by_cases c:(z ns:W)>0;·exact d (by simp only[aV,ca,a,c,bC,AV.cP,j9,K3,K1,pW,b,X,seval])
  have i:=D c;by_cases f:(z is:W)>0;·exact d (by simp only[aV,ca,a,c,f,bC,AV.cP,j9,j6,K3,K1,pW,b,X,seval])
  cases G:(n==0)with
  |true=>exact o (by simp only[aV,ca,a,c,f,G,bC,AV.cP,j6,K3,K1,pW,b,X,seval]) ⟨x l,by rw[i];simp,λ_ _=>E f⟩|false=>
  cases p:(n==1)with
  |true=>exact o (by simp only[aV,ca,a,c,f,G,p,bC,AV.cP,j6,K3,K1,pW,b,X,seval]) ⟨x l,by rw[i];simp,λ_ _=>E f⟩|false=>exact d (by simp only[aV,ca,a,c,f,G,p,bC,AV.cP,j6,K3,K1,pW,b,X,seval])
 by_cases j:k=2
 ·subst j;cases a:decide (t=[])with
  |false=>exact d (by simp only[aV,ca,a,AV.cP,K1,pW,b,X,seval])|true=>
  have l:t=[]:=(by simpa using a);by_cases c:(z ns:W)>0;·exact d (by simp only[aV,ca,a,c,bC,AV.cP,j9,K3,K1,pW,b,X,seval])
  have i:=D c;by_cases f:(z is:W)>0;·exact d (by simp only[aV,ca,a,c,f,bC,AV.cP,j9,j6,K3,K1,pW,b,X,seval])
  exact o (by simp only[aV,ca,a,c,f,bC,AV.cP,j6,K3,K1,pW,b,X,seval]) ⟨x l,by rw[i];simp,λ_ _=>E f⟩
 by_cases j:k=3
 ·subst j;cases e:(n !=0)with
  |true=>exact d (by simp only[aV,ca,e,AV.cP,K3,b,X,seval])|false=>
  by_cases c:(z ns:W)>0;·exact d (by simp only[aV,ca,e,c,bC,AV.cP,j9,K3,K1,b,X,seval])
  have i:=D c;by_cases f:(z is:W)>0;·exact d (by simp only[aV,ca,e,c,f,bC,AV.cP,j9,j6,K1,b,X,seval])
  obtain⟨Q,L,S⟩:=adg H t _ (okB 3);cases Q with
  |true=>exact o (by simp only[aV,ca,e,c,f,L,bC,AV.cP,j6,K1,b,X,seval]) ⟨S w8,by rw[i];simp,λ_ _=>E f⟩|false=>exact d (by simp only[aV,ca,e,c,f,L,bC,AV.cP,j6,K1,b,X,seval])
 by_cases j:k=4
 ·subst j;cases e:(n !=0)with
  |true=>exact d (by simp only[aV,ca,e,AV.cP,K3,b,X,seval])|false=>
  cases a:decide (t=[])with
  |false=>exact d (by simp only[aV,ca,e,a,AV.cP,K1,pW,b,X,seval])|true=>
  have l:t=[]:=(by simpa using a);by_cases c:(z ns:W)>0;·exact d (by simp only[aV,ca,e,a,c,bC,AV.cP,j9,K3,K1,pW,b,X,seval])
  have i:=D c;exact o (by simp only[aV,ca,e,a,c,bC,AV.cP,j6,K3,K1,pW,b,X,seval]) ⟨x l,by rw[i];simp,λh _=>X1 w8 h⟩
 by_cases j:k=5
 ·subst j;cases e:(n !=0)with
  |true=>exact d (by simp only[aV,ca,e,AV.cP,K3,b,X,seval])|false=>
  cases a:decide (t=[])with
  |false=>exact d (by simp only[aV,ca,e,a,AV.cP,K1,pW,b,X,seval])|true=>
  have l:t=[]:=(by simpa using a);cases y:((z ns:W) !=z is)with
  |true=>exact d (by simp only[aV,ca,e,a,y,bC,AV.cP,K3,K1,pW,b,X,seval])|false=>
  obtain⟨T,F,I⟩:=fA H.g7 (.cV (.sl (z ns) (xH ns)) .db) (.cV _ _ _ _ (by
   obtain⟨rs,r1,r2,r3⟩:=acK (V:=V0) ns h4.ns;rw[<-r1,<-r2];exact .ew _ rs (by rw[r1];simp only[LS];omega) r3) .db) (okB 5)
  obtain⟨P,rfl⟩:=Qj I;cases P with
  |false=>exact d (by simp only[aV,ca,e,a,y,F,bC,AV.cP,K3,K1,pW,b,X,seval])|true=>
  have m:=ZP H ns (by omega) _ (okB 5) (z ns) 0 (by omega);simp only[aB1,aB8]at m;rcases m with⟨m,R⟩|m;·exact o (by simp only[aV,ca,e,a,y,F,m,bC,AV.cP,K3,K1,pW,b,X,seval]) ⟨x l,R,λ_ h=>X1 w8 h⟩
  ·exact d (by simp only[aV,ca,e,a,y,F,m,bC,AV.cP,K3,K1,pW,b,X,seval])
 have u:(k !=1)=eT:=by simpa using‹¬k=1›
 have q1:(k==1)=eF:=by simpa using‹¬k=1›
 have w:(k !=2)=eT:=by simpa using‹¬k=2›
 have q2:(k==2)=eF:=by simpa using‹¬k=2›
 have A:(k !=3)=eT:=by simpa using‹¬k=3›
 have q3:(k==3)=eF:=by simpa using‹¬k=3›
 have N:(k !=4)=eT:=by simpa using‹¬k=4›
 have q4:(k==4)=eF:=by simpa using‹¬k=4›
 have K:(k !=5)=eT:=by simpa using‹¬k=5›
 have q5:(k==5)=eF:=by simpa using‹¬k=5›
 cases e:(n !=0)with
 |true=>exact d (by simp only[aV,ca,u,w,e,AV.cP,K3,b,X,seval])|false=>
 cases a:decide (t=[])with
 |false=>exact d (by simp only[aV,ca,u,w,A,e,a,AV.cP,K1,pW,b,X,seval])|true=>
 by_cases c:(z ns:W)>0;·exact d (by simp only[aV,ca,u,w,A,K,e,a,c,bC,AV.cP,j9,K3,K1,pW,b,X,seval])
 by_cases f:(z is:W)>0;·exact d (by simp only[aV,ca,u,w,A,N,K,e,a,c,f,bC,AV.cP,j9,j6,K3,K1,pW,b,X,seval])
 exact d (by simp only[aV,ca,u,w,A,N,K,q1,q2,q3,q4,q5,e,a,c,f,bC,AV.cP,j6,K3,K1,pW,b,X,seval])
mutual
def JW.hx:JW->P|.mk _ _ _ _ is=>Tq is+1
def Tq:K JW->P|[]=>0|j::l=>j.hx+Tq l
end
mutual
def JW.hk:JW->Prop|.mk k n t ns is=>(z t<=4096/\(∀x∈ns,z x<=4096)/\(k≠4->k≠5->is=[]))/\abV is
def abV:K JW->Prop|[]=>True|j::l=>j.hk/\abV l
end
def Em(L:W):AO:=.cP [.cQ r L] FZ
def awK(C:q)(j:JV):Prop:=∀(nested L:W) (O:St) (o:P),Ok O->0<=L->L<=8192->O[o]?=J (Em L)->∃(b:T) (a:W),ai C Zp [j.av,.cQ r nested,.da o 0] O=J (.cW b,O.set o (Em a))/\(b=eT->0<=a/\(j.w.hx:W)+a<=L/\j.w.hk)
def ais (is:List JV) (M:z is<=8192) (u:∀j∈is,awK C j) (nested:W) (o:Nat) (O:St) (D:o<z O):∀(n i:Nat),i+n=z is->∀(L:W) (Y:St),Ok Y->0<=L->L<=8192->z O<=z Y->Y.take (z O)=O.set o (Em L)->
  ∃(f:W) (k:St),k.take (z O)=O.set o (Em f)/\
  ((aG C (ai C) 47 [1,2,34,35,36] nH [(1,.cQ r nested),(2,.da o 0),(34,.sl (z is) (aO is)),(35,.cQ r (z is)),(36,.cQ r i)] Y=J (.dq 0,[],k)/\0<=f/\(Tq ((is.drop i).map (·.w)):W)+f<=L/\abV ((is.drop i).map (·.w)))\/
   aG C (ai C) 47 [1,2,34,35,36] nH [(1,.cQ r nested),(2,.da o 0),(34,.sl (z is) (aO is)),(35,.cQ r (z is)),(36,.cQ r i)] Y=J (.ea,[(6,.cW eF)],k))
 |0,i,hi,L,Y,g,s,h8,B,p=>by
  refine⟨L,Y,p,.inl ⟨?_,s,?_,?_⟩⟩;·rw[aB (he:=w8)];have h:¬((i:W)<(z is:W)):=(by omega);simp only[nH,h,X,seval]
  ·rw[aK9 (by omega)];simp[Tq]
  ·rw[aK9 (by omega)];trivial
 |n+1,i,hi,L,Y,g,s,h8,B,p=>by
  have h:((i:W)<(z is:W)):=(by omega);have h2:i<z is:=(by omega);have Q:=wrS i (by omega);have H:(0:W)<=(i:W):=(by omega);have d2:=Dn is i h2;have sl:=jH is;have hj:is[i]∈is:=aD5 h2;have v:is.drop i=is[i]::is.drop (i+1):=aB6 h2;generalize is[i]=j at*;generalize aO (is.drop (i+1))=R at*;have l:=JV.dt j;have F:=JV.Q j;have G:(j.B++R).take 5=j.B:=by rw[<-l];simp
  have E:5<=z (j.B++R):=(by simp[l]);have m:j.B.take 5=j.B:=a98 (by rw[JV.dt];exact Z0 _);have P:5<=z j.B:=by rw[JV.dt];exact Z0 _
  have I:∀a b c d e:AV,w9 [a,b,c,d,e] 0 j.B=j.B:=λa b c d e=>by simp[w9,l]
  have t:Ok (Y++[.cP j.B FZ]):=g.H (by rw[K6,show k9 0 (.cP j.B FZ)=eT from j.aL];rfl);have x:Y[o]?=J (Em L):=by
   have:(Y.take (z O))[o]?=J (Em L):=by rw[p];simp[D]
   grind
  obtain⟨b,f,q,N⟩:=u j hj (IntKind.i64.wrap (nested-1)) L _ o t s h8 (aj x _);rw[gZ x]at q;have t2:(Y.set o (Em f)++[AO.cP j.B FZ]:St).take (z O)=O.set o (Em f):=(by rw[qO _ _ _ (by simpa using B),Z1,p,aF5]);have w:=λL=>aU (w8:z Y=_) L;have s1:=λL y=>fV (w8:z Y=_) L y;unfold j8 at q;cases b with
  |false=>refine⟨f,_,t2,.inr ?_⟩;rw[aB (he:=w8)];simp only[nH,h,h2,H,d2,sl,q,w,s1,l,F,G,E,m,I,a90,AV.cP,X,seval]
  |true=>
   obtain⟨q1,q2,q3⟩:=N w8;obtain⟨K,k,e1,e2⟩:=ais is M u nested o O D n (i+1) (by omega) f _ ((g.cg o w8).H (by rw[K6,show k9 0 (.cP j.B FZ)=eT from j.aL];rfl)) q1 (by omega) (by simp;omega) t2;refine⟨K,k,e1,?_⟩;have hs:∀co,aG C (ai C) 47 [1,2,34,35,36] nH [(1,.cQ r nested),(2,.da o 0),(34,.sl (z is) (aO is)),(35,.cQ r (z is)),(36,.cQ r (i+1:Nat))] (Y.set o (Em f)++[AO.cP j.B FZ])=co->aG C (ai C) 47 [1,2,34,35,36] nH [(1,.cQ r nested),(2,.da o 0),(34,.sl (z is) (aO is)),(35,.cQ r (z is)),(36,.cQ r i)] Y=co:=λco e=>by rw[aB (he:=w8)];generalize S:aG C (ai C) 47 [1,2,34,35,36] nH=T at*;simp only[nH,h,h2,Q,H,d2,sl,q,w,s1,e,l,F,G,E,m,I,a90,AV.cP,X,seval]
   rcases e2 with⟨e2,e3,e4,e5⟩|e2
   ·refine .inl ⟨hs _ e2,e3,?_,?_⟩;·rw[v,aC9,Tq];omega
    ·rw[v,aC9];exact⟨q3,e5⟩
   ·exact .inr (hs _ e2)
def JV.lz(k n:W)(t:LU)(ns:K LU)(is:K JV)(a:z ns<=z is)(h3:k=5->z is<=z ns)(h2:z is<=8192)(h4:StB t ns)(x:JV)(b:x∈is):L x.w<L (K0 k n t ns is a h3 h2 h4).w:=by show L x.w<L (JW.mk k n t ns (is.map (·.w)));have:L x.w<L (is.map (·.w)):=e (f b);simp;omega
def X6(H:Nv C PK):∀(m:Nat) (j:JV),SizeOf.sizeOf j.w<m->awK C j
 |0,j,I=>X1 I (by omega)
 |m+1,j,I=>by
  intro nested L O o s h0 h8 D;obtain⟨k,n,t,ns,is,a,h3,h2,h4,rfl⟩:=j.ex;have P:∀x∈is,awK C x:=λx X=>X6 H m x (by have:=JV.lz k n t ns is a h3 h2 h4 x X;omega);have W:o<z O:=(a00.mp D).1;have l:IntKind.i64.wrap (L-1)=L-1:=wrE (by omega);have K:X2 eF [(K0 k n t ns is a h3 h2 h4).av,.cQ r nested,.da o 0] O=J ([(K0 k n t ns is a h3 h2 h4).av,.cQ r nested,.da o 0],O):=by rw[iY,aN,(JV.nv _).nf,aN,aN];rfl
  have f:Ok (O.set o (Em (L-1))++[.cP (K0 k n t ns is a h3 h2 h4).B FZ]):=(s.cg o w8).H (by grind [k9,JV.aL]);obtain⟨v,i,pb⟩:=aox H k n t ns is a h3 h2 h4 _ f;have B:=λ(q:Bool) u L=>QK s o (x:=Em u) w8 [.cW q] w8 L;have ca:(K0 k n t ns is a h3 h2 h4).av=.cX [.cQ .u8 k,.cQ r n,.cU t,.sl (z ns) (ns.map .cU),.sl (z is) (aO is)]:=by unfold j8;rw[JV.bO]
  have gl:=λu L=>aj (bF D (Em u)) L;have d:=λL=>aj D L;have g:=λL y=>gZ D L y;have tk:=λ(q:Bool) S u (h:Z3 (z O) S=O.set o (Em u))=>Du (vs:=[.cW q]) s (x:=Em u) w8 w8 h;have M:=ais is h2 P nested o O W (z is) 0 (by omega) (L-1);rw[JV.bO]at f;rw[ca,JV.bO]at i;rw[ca]at K;rw[ca,H.ju.go K];have N:(O.set o (Em (L-1))++[AO.cP [.cQ .u8 k,.cQ r n,.cU t,.sl (z ns) (ns.map .cU),.sl (z is) (aO is)] FZ]:St).take (z O)=O.set o (Em (L-1)):=by simp_all
  dsimp only[Em]at*;by_cases e:L-1<0;·exact⟨eF,L-1,by simp only[sO,e,l,d,g,gl,B,AV.cP,AV.Q,w9,EVX,seval],λh=>by cases h⟩
  obtain⟨b,rfl,hb⟩:=pb;cases b with
  |false=>exact⟨eF,L-1,by simp only[sO,e,i,l,d,g,gl,B,AV.cP,AV.Q,w9,qy,EVX,seval],λh=>by cases h⟩|true=>
  obtain⟨b1,R,E⟩:=hb w8;have gd:∀(c:Nat),abV (is.map (·.w))->Tq (is.map (·.w))=c->(K0 k n t ns is a h3 h2 h4).w.hx=c+1/\(K0 k n t ns is a h3 h2 h4).w.hk:=λc V T=>by
   refine⟨?_,⟨b1,R,λx y=>?_⟩,V⟩;·show Tq (is.map (·.w))+1=_;rw[T]
   ·rw[E x y];rfl
  have fin:k≠4->k≠5->0<=L-1/\((K0 k n t ns is a h3 h2 h4).w.hx:Int)+(L-1)<=L/\(K0 k n t ns is a h3 h2 h4).w.hk:=λx y=>by obtain⟨e1,e2⟩:=gd 0 (by rw[E x y];trivial) (by rw[E x y];rfl);rw[e1];exact⟨by omega,by omega,e2⟩
  by_cases F:k=4
  ·subst F;cases p:(nested==0)with
   |true=>exact⟨eF,L-1,by simp only[sO,e,i,p,l,d,g,gl,B,AV.cP,AV.Q,w9,qy,EVX,seval],λh=>by cases h⟩|false=>
   obtain⟨w,Q,A,q⟩:=M _ f (by omega) (by omega) (by simp) N;simp only[aB1,aB8]at q;rcases q with⟨q,q1,q2,q3⟩|q;·have tq:=tk eT _ _ A;obtain⟨e1,e2⟩:=gd _ q3 w8;refine⟨eT,w,by simp only[sO,e,i,p,q,tq,l,d,g,gl,AV.cP,AV.Q,w9,qy,EVX,seval],λ_=>⟨q1,by rw[e1];omega,e2⟩⟩
   ·have tq:=tk eF _ _ A;exact⟨eF,w,by simp only[sO,e,i,p,q,tq,l,d,g,gl,AV.cP,AV.Q,w9,qy,EVX,seval],λh=>by cases h⟩
  by_cases G:k=5
  ·subst G;cases p:(nested==0)with
   |true=>exact⟨eF,L-1,by simp only[sO,e,i,p,l,d,g,gl,B,AV.cP,AV.Q,w9,qy,EVX,seval],λh=>by cases h⟩|false=>
   obtain⟨w,Q,A,q⟩:=M _ f (by omega) (by omega) (by simp) N;simp only[aB1,aB8]at q;rcases q with⟨q,q1,q2,q3⟩|q;·have tq:=tk eT _ _ A;obtain⟨e1,e2⟩:=gd _ q3 w8;refine⟨eT,w,by simp only[sO,e,i,p,q,tq,l,d,g,gl,AV.cP,AV.Q,w9,qy,EVX,seval],λ_=>⟨q1,by rw[e1];omega,e2⟩⟩
   ·have tq:=tk eF _ _ A;exact⟨eF,w,by simp only[sO,e,i,p,q,tq,l,d,g,gl,AV.cP,AV.Q,w9,qy,EVX,seval],λh=>by cases h⟩
  have Y:(k !=4)=eT:=(by simpa using F);have Z:(k !=5)=eT:=(by simpa using G);exact⟨eT,L-1,by simp only[sO,e,i,Y,Z,l,d,g,gl,B,AV.cP,AV.Q,w9,qy,EVX,seval],λ_=>fin F G⟩
def X5(H:Nv C PK)(j:JV)(O:St)(a:Ok O):∃b:T,ai C kW [j.av] O=J (.cW b,O)/\(b=eT->j.w.hx<=8192/\j.w.hk):=by
 have d:Ok (O++[.cP j.B FZ,Em 8192]):=a.H (by rw[K6,show k9 0 (.cP j.B FZ)=eT from j.aL];rfl);obtain⟨b,k,q,l⟩:=X6 H _ j (aK6 _) 12 8192 _ (z O+1) d (by omega) (by omega) (by rw[aI];rfl);refine⟨b,?_,λh=>?_⟩
 ·have e:X2 eF [j.av] O=J ([j.av],O):=NVs.E (.cV j.nv .db) _;have i:=λ(q:T)=>bu a (vs:=[.cW q]) w8;have g:=JV.dt j;have c:j.B.take 5=j.B:=a98 (by rw[JV.dt];exact Z0 _);have f:5<=z j.B:=by rw[JV.dt];exact Z0 _
  unfold j8 at*;dsimp only[Em]at*;rw[H.kr.go e];simp only[Zc,q,g,c,i,AV.cP,w9,X,seval]
 grind
def bT:Fz:=⟨eF,J (321,eT)⟩
def uT:Fz:=⟨eF,J (5,eF)⟩
structure BldHas(C:Ctx):Prop where
 k7:∀(O:St) (o:Nat) (b:AV),O[o]?=some (.cP [.ep,b] bT)->ai C iq [.da o 0] O=some (.dT,O.set o (.cP [.da o 0,b] bT))
 k8:∀(O:St) (o:Nat) (b:AV),O[o]?=some (.cP [.da o 0,b] bT)->ai C iq [.da o 0] O=some (.dT,O)
 md:∀(O:St) (o:Nat) (p:AV),O[o]?=some (.cP [p,.cY] bT)->ai C gY [.da o 0] O=some (.cU [],O)
 me:∀(O:St) (o q:Nat) (p:AV) (w:LU),O[o]?=some (.cP [p,.dj q 0 w.length 1] bT)->O[q]?=some (.cP (ofBytes w) uT)->w≠[]->w.length<=1099511627776->ai C gY [.da o 0] O=some (.cU w,O.set q .em)
 nq:Has C qL kU
 mm:Has C ik rZ
def Bk(Y:St)(o:P)(w:LU)(qo:n P):Prop:=∃p b,Y[o]?=J (.cP [p,b] bT)/\(p=.ep\/p=.da o 0)/\((qo=U/\w=[]/\b=.cY)\/∃q,qo=J q/\q≠o/\w≠[]/\b=.dj q 0 (z w) 1/\Y[q]?=J (.cP (ofBytes w) uT))
structure TrB(o:Nat)(Y:St)(qo:Option Nat)(Y':St)(qo':Option Nat):Prop where
 ok:Ok Y'
 dt:Y.length<=Y'.length
 bp:∀i x,i≠o->qo≠some i->Y[i]?=some x->Y'[i]?=some x
 q:∀i,qo'=some i->qo=some i\/Y.length<=i
def TrB.ax{o:P}{Y:St}{qo:n P}(h:Ok Y):TrB o Y qo Y qo:=⟨h,Z0 _,λ_ _ _ _ h=>h,λ_ h=>.inl h⟩
def TrB.N{o:P}{Y Y1 Y2:St}{qo q1 q2:n P}(h:TrB o Y qo Y1 q1)(k:TrB o Y1 q1 Y2 q2):TrB o Y qo Y2 q2 where
 ok:=k.ok
 dt:=aF2 h.dt k.dt
 bp:=λi x hi hq hx=>k.bp i x hi (λe=>by
  grind [TrB]) (h.bp i x hi hq hx)
 q:=λi e=>by grind [TrB]
def TrB.H{o:P}{Y:St}{qo:n P}(h:Ok Y){L:St}(a:L.all (k9 (z Y+z L))=eT):TrB o Y qo (Y++L) qo:=⟨h.eD a,by simp,λ_ _ _ _ b=>aj b L,λ_ e=>.inl e⟩
def Bk.H{o:P}{Y:St}{qo:n P}{w:LU}(h:Bk Y o w qo)(L:St):Bk (Y++L) o w qo:=by obtain⟨p,b,a,h2,h3⟩:=h;refine⟨p,b,aj a L,h2,?_⟩;grind
def Bk.lt{o:P}{Y:St}{qo:n P}{w:LU}(h:Bk Y o w qo):o<z Y:=by obtain⟨p,b,a,h2,h3⟩:=h;exact(a00.mp a).1
def Bk.n4{o:P}{Y:St}{qo:n P}{w:LU}(h:Bk Y o w qo){i:P}(e:qo=J i):i<z Y:=by obtain⟨p,b,a,h2,h3⟩:=h;grind
def aaI{o:P}{Y S:St}{qo a:n P}{w:LU}(vs:LA)(j:o<z Y)(h:TrB o Y qo S a)(b:Bk S o w a):TrB o Y qo (K4 (z Y) vs S) a/\Bk (K4 (z Y) vs S) o w a:=by
 unfold K4;split;·exact⟨h,b⟩
 split
 ·rename_i d;rw[a02]at d;have g:z (S.take (z Y))=z Y:=by have:=h.dt;simp;omega
  have e:∀i,i<z Y->(S.take (z Y))[i]?=S[i]?:=λi hi=>by rw[aE3,N hi]
  obtain⟨p,c,f,h2,h3⟩:=b;refine⟨⟨?_,by rw[g];exact Z0 _,λi x hi k l=>?_,h.q⟩,p,c,by rw[e _ j];exact f,h2,?_⟩;·unfold Ok;rw[g];exact d.2
  ·grind [TrB]
  ·rcases h3 with h3|⟨q,e1,e2,e3,e4,e5⟩;·exact .inl h3
   ·refine .inr ⟨q,e1,e2,e3,e4,?_⟩;have hb:=aB0.mp d.2 (.cP [p,c] bT) (a06 (by rw[e _ j];exact f));have:q<z Y:=by rw[e4]at hb;simp only[k9,ae,j0,a02,s]at hb;exact hb.2.1
    rw[e _ this];exact e5
 ·exact⟨h,b⟩
end Go.Ev
