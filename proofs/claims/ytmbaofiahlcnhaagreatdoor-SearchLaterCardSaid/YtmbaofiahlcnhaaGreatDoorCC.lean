/- Code. No conditions. -/
import Derived.Test.YtmbaofiahlcnhaaGreatDoorCB
import Derived.Test.YtmbaofiahlcnhaaGreatDoorCA
import Derived.Test.YtmbaofiahlcnhaaGreatDoorEC
set_option linter.unusedVariables false
set_option linter.unusedSimpArgs false
set_option linter.defProp false
namespace Go.Ev
open Option renaming some→J, none→U
open List renaming length→z
open Bool renaming true→eT, false→eF
open Go.IntKind renaming i64→r
set_option maxRecDepth 100000
variable{C:Ctx}
def G8{Y:St}{q n sz:Nat}{l:LA}{fz:Fz}(b:Y[q]?=J (.cH l fz))(a:z l=n*sz)(ns:NVs l):bI Y (dS Y 11) (.dj q 0 n sz)=J (.sl n l,[q]):=by
 have c:dS Y 11 l=J (l,[]):=by show aZ Y (dS Y 10) l=_;exact ns.nf _ _
 unfold bI;grind
def tu{Y:St}{q:Nat}{l:LA}(a:Y[q]?=J (.cH l FZ)):freeze Y [q]=Y.set q (.cH l ⟨eT,U⟩):=by unfold freeze;rw[a];rfl
def AY{O S:St}{vs:LA}{x:AO}{o:Nat}(a:Ok O)(c:x.below 0=eT)(hv:ae 0 vs=eT)(h:S.take (z O)=O.set o x):tidy (z O) vs S=O.set o x:=by
 unfold tidy;have d:z (S.take (z O))=z O:=by rw[h];simp
 have hok:(S.take (z O)).all (AO.below (z O))=eT:=by have:=a.co o c;grind [Ok]
 by_cases b:z S=z O;·grind
 ·rw[if_neg b,hok,aK (a99 _) _ hv];exact h
def adk(Y:St)(n0:Nat)(is:List JV)(x:AV):Prop:=(is=[]/\x=.cY)\/(is≠[]/\∃q,x=.dj q 0 (z is) 5/\Y[q]?=J (.cH (aJ is) FZ)/\n0+2<=q)
structure atm(s:LU)(O:St)(o:Nat)(r:RV)(is:List JV)(x:AV)(Y:St):Prop where
 m3:Ok Y
 hr:Y[o]?=some (r.o s)
 ly:Y[O.length]?=some kG
 hv:Y[O.length+1]?=some (.cH [.cU .u8 4,.cU .i64 0,.cV [],.cY,x] FZ)
 nW:adk Y O.length is x
 lx:Y.take O.length=O.set o (r.o s)
def awT(s:LU)(O:St)(o:Nat)(ct:Int)(x:RX):Prop:=∃(b:RV) (e:Int) (a:St) (l:LA),x=J (.ef,[(2,.c8 (z O) 0),(3,.cU r e)],a)/\0<=b.bU/\ct<=b.aD/\(e=0->b.aD<=8192)/\a.take (z O)=O.set o (b.o s)/\
 a[z O]?=J (.cH l FZ)/\(l=[.cU .u8 0,.cU r 0,.cV [],.cY,.cY]\/∃(is:List JV) (q:Nat),z is<=8192/\l=[.cU .u8 4,.cU r 0,.cV [],.cY,.dj q 0 (z is) 5]/\a[q]?=J (.cH (aJ is) FZ)/\z O+2<=q)
def Ok.bd{O:St}(h:Ok O)(o:Nat){x:AO}(b:x.below (z O)=eT):Ok (O.set o x):=by
 unfold Ok at*;rw[a96];rw[a97]at*;intro y a;rcases List.mem_or_eq_of_mem_set a with a|rfl;·exact h y a
 ·exact b
def ahy {Y:St} {n0 o:Nat} {is:List JV} {x:AV} (j:JV) (c:AO) (h:adk Y n0 is x) (hok:Ok Y) (e:z is<=8192) (f:o<n0) {y i w:AO} (b:Y[o]?=J y) (h2:Y[n0]?=J i) (h3:Y[n0+1]?=J w):
  ∃a:St,tX (Y++[c]) 5 80 U x 1 j.B=J (.dj (z Y+1) 0 (z is+1) 5,a++[c,.cH (aJ (is++[j])) FZ])/\z a=z Y/\a[o]?=J y/\a[n0]?=J i/\a[n0+1]?=J w/\a.take n0=Y.take n0/\Ok a:=by
 rcases h with⟨e1,e2⟩|⟨e1,q,e2,e3,e4⟩;·subst e1;subst e2;refine⟨Y,?_,rfl,b,h2,h3,rfl,hok⟩;rw[J7 _ U j.B (by omega) (by omega) (by omega)];simp[aJ]
 ·subst e2;have d:(Y++[c])[q]?=J (.cH (aJ is) FZ):=aj e3 _;refine⟨Y.set q .eq,?_,by simp,aG b (by omega) _,aG h2 (by omega) _,aG h3 (by omega) _,dK _ _ _ (by omega) _,hok.bd _ rfl⟩;rw[MR j.B d (by omega) (jF is) (by omega) (by omega),fK e3,Jj];simp[aJ]
def acs (H:ReadHas C) (s:LU) (hs:z s<1099511627777) (m:Nat) (hV:ahs C s m) (O:St) (o:Nat) (g:o<z O):∀(k:Nat) (du:RV) (is:List JV) (x:AV) (Y:St),atm s O o du is x Y->0<=du.bU->(z is:Int)<=du.aD->du.aD<=8192->8192<=du.aD+k->8192<=du.aD+m->
  awT s O o du.aD (aH C (ai C) 53 [0,2,4] cZ [(0,.c8 o 0),(2,.c8 (z O) 0),(4,.c8 (z O+1) 0)] Y)
 |k,du,is,x,Y,I,ha,ac,ad,F,hm=>by
  obtain⟨hok,hr,hres,hv,his,hpre⟩:=I;obtain⟨j,e,r1,v1,v2,v3,v4⟩:=hV du Y o hok hr ha (by omega) hm;have T1:z (Y.set o (r1.o s))=z Y:=(by simp);have hr1:=aX hr (r1.o s);have a:=aG hres (show z O≠o by omega) (r1.o s);have A:=aG hv (show z O+1≠o by omega) (r1.o s);have Z:=hok.co o (RV.below s r1);have d:(Y.set o (r1.o s)).take (z O)=O.set o (r1.o s):=(by rw[List.take_set,hpre,aB8]);have w:adk (Y.set o (r1.o s)) (z O) is x:=by
   rcases his with h|⟨e1,q,e2,e3,e4⟩;·exact .inl h
   ·exact .inr ⟨e1,q,e2,aG e3 (by omega) _,e4⟩
  have nl:z O+1<z Y:=(a00.mp hv).1;generalize aa:Y.set o (r1.o s)=S1 at*;have K:=JV.dt j;have G:=JV.C j;have V:j.B.take 5=j.B:=a95 (by rw[JV.dt];exact a06 _);have je:5<=z j.B:=by rw[JV.dt];exact a06 _
  have d5:∀l:LA,z l=5->l.drop 5=[]:=λl h=>az1 (by omega);have b1:=λL=>aj A L;have c1:=λL=>aj a L;have p1:=λL y=>fK a L y;dsimp only[kG]at*;rw[aA (he:=rfl)];cases ce:(e !=0)
  ·have e0:e=0:=(by simpa using ce);subst e0;obtain⟨w1,w2⟩:=v4 rfl;obtain⟨E,a1,a2,a3,a4,a5,a6,a7⟩:=ahy j (.cH j.B FZ) w Z (by omega) g hr1 a A;rw[T1]at a1 a2;have R:=λL=>aj a5 L;have N:=λL y=>fK a5 L y;have u:Ok ((E++[AO.cH j.B FZ,AO.cH (aJ (is++[j])) FZ]:St).set (z O+1) (.cH [.cU .u8 4,.cU r 0,.cV [],.cY,.dj (z Y+1) 0 (z is+1) 5] FZ)):=by refine Ok.bd (a7.H (by simp only[a07,az6,AO.below,JV.ay,gY,aA5])) _ ?_;rw[a04,a2];simp[AO.below,ae,below]
   rw[N]at u;have hr3:=aG a3 (show o≠z O+1 by omega) (.cH [.cU .u8 4,.cU r 0,.cV [],.cY,.dj (z Y+1) 0 (z is+1) 5] FZ);have t:=aG a4 (show z O≠z O+1 by omega) (.cH [.cU .u8 4,.cU r 0,.cV [],.cY,.dj (z Y+1) 0 (z is+1) 5] FZ);have T:=aX a5 (.cH [.cU .u8 4,.cU r 0,.cV [],.cY,.dj (z Y+1) 0 (z is+1) 5] FZ);have p:(E.set (z O+1) (.cH [.cU .u8 4,.cU r 0,.cV [],.cY,.dj (z Y+1) 0 (z is+1) 5] FZ)).take (z O)=O.set o (r1.o s):=(by rw[dK _ _ _ (by omega),a6,d]);have T3:z (E.set (z O+1) (.cH [.cU .u8 4,.cU r 0,.cV [],.cY,.dj (z Y+1) 0 (z is+1) 5] FZ))=z Y:=(by simp[a2]);generalize n:E.set (z O+1) (.cH [.cU .u8 4,.cU r 0,.cV [],.cY,.dj (z Y+1) 0 (z is+1) 5] FZ)=P at*;obtain⟨r2,b,e2,M,X,m3,m4⟩:=XY H s hs 4 r1 v2 _ u o (aj hr3 _);rw[fK hr3]at M;have hr4:=aX hr3 (r2.o s);have c:=aG t (show z O≠o by omega) (r2.o s);have B:=aG T (show z O+1≠o by omega) (r2.o s);have Q:z (P.set o (r2.o s))=z Y:=(by simp[T3]);have D:=u.co o (RV.below s r2);rw[fK hr3]at D;have f:(P.set o (r2.o s)).take (z O)=O.set o (r2.o s):=(by rw[List.take_set,p,aB8]);generalize ab:P.set o (r2.o s)=v at*;have c4:=λL=>aj c L;have p4:=λL y=>fK c L y;have v5:=λL=>aj B L;have oq:∀y L,(v.set (z O) y++L)[z O]?=J y:=λy L=>aj (aX c y) L;have pq:∀y L,(v.set (z O) y++L).take (z O)=O.set o (r2.o s):=λy L=>by rw[oD _ _ _ (by simp[Q];omega),dK _ _ _ (a06 _),f]
   have S:∀y L,(v.set (z O) y++(AO.cH j.B FZ::AO.cH (aJ (is++[j])) FZ::L))[z Y+1]?=J (.cH (aJ (is++[j])) FZ):=λy L=>by rw[vY (by simp[Q])];rfl
   cases i:(e2 !=0)
   ·have e0:e2=0:=(by simpa using i);subst e0;cases b
    ·
     refine⟨r2,0,v.set (z O) (.cH [.cU .u8 4,.cU r 0,.cV [],.cY,.dj (z Y+1) 0 (z is+1) 5] FZ)++[.cH j.B FZ,.cH (aJ (is++[j])) FZ],_,?_,X,by omega,λ_=>by omega,pq _ _,oq _ _,.inr ⟨is++[j],z Y+1,by simp;omega,by simp,S _ _,by omega⟩⟩;generalize F:aH C (ai C) 53 [0,2,4] cZ=W at*;simp only[cZ,v1,b1,a1,R,N,n,M,c4,p4,v5,K,G,V,splice,d5,ce,AV.cH,AV.C,JV.av,EVX,seval]
    ·
     have I2:atm s O o r2 (is++[j]) (.dj (z Y+1) 0 (z is+1) 5) (v++[.cH j.B FZ,.cH (aJ (is++[j])) FZ]):=by
      refine⟨D,aj hr4 _,aj c _,aj B _,.inr ⟨by simp,z Y+1,by simp,?_,by omega⟩,?_⟩;·rw[vY Q];rfl
      ·rw[oD _ _ _ (by omega),f]
     have af:0<k:=(by omega);obtain⟨k,rfl⟩:∃k',k=k'+1:=⟨k-1,by omega⟩;have ih:=acs H s hs m hV O o g k r2 (is++[j]) _ _ I2 X (by simp;omega) (by omega) (by omega) (by omega);obtain⟨r',e',Y',l,i1,i2,i3,i4,i5,i6,i7⟩:=ih;refine⟨r',e',Y',l,?_,i2,by omega,i4,i5,i6,i7⟩;generalize F:aH C (ai C) 53 [0,2,4] cZ=W at*;simp only[cZ,v1,b1,a1,R,N,n,M,K,G,V,splice,d5,ce,AV.cH,AV.C,JV.av,i1,EVX,seval]
   ·refine⟨r2,e2,v.set (z O) (.cH [.cU .u8 0,.cU r 0,.cV [],.cY,.cY] FZ)++[.cH j.B FZ,.cH (aJ (is++[j])) FZ],_,?_,X,by omega,λh=>absurd h (by simpa using i),pq _ _,oq _ _,.inl rfl⟩;generalize F:aH C (ai C) 53 [0,2,4] cZ=W at*;simp only[cZ,v1,b1,a1,R,N,n,M,c4,p4,K,G,V,splice,d5,ce,i,AV.cH,AV.C,JV.av,EVX,seval]
  ·refine⟨r1,e,S1.set (z O) (.cH [.cU .u8 0,.cU r 0,.cV [],.cY,.cY] FZ)++[.cH j.B FZ],_,?_,v2,v3,λh=>absurd h (by simpa using ce),?_,aj (aX a _) _,.inl rfl⟩;·generalize F:aH C (ai C) 53 [0,2,4] cZ=W at*;simp only[cZ,v1,c1,p1,K,G,splice,d5,ce,AV.cH,AV.C,JV.av,EVX,seval]
   ·rw[oD _ _ _ (by simp[T1];omega),dK _ _ _ (a06 _),d]
def Js {O Y:St} {o:Nat} {x:AO} (a:Ok O) (f:x.below 0=eT) (e:Int) (E:As) (h2:look E 2=.c8 (z O) 0) (h3:look E 3=.cU r e) (b:Y.take (z O)=O.set o x) (d:Y[z O]?=J (.cH [.cU .u8 0,.cU r 0,.cV [],.cY,.cY] FZ)):
  mD (z O) [.eS 2 eT 5,.fX 3] (J (.ef,E,Y))=J (.df [JV.aa.av,.cU r e],O.set o x):=by
 rw[xx];have:aU E Y [.eS 2 eT 5,.fX 3]=J [.da [.cU .u8 0,.cU r 0,.cV [],.cY,.cY],.cU r e]:=by simp only[aU,h2,h3,d,pt,ay9,a90,a94,List.take];rfl
 rw[this];have c:hand eF [.da [.cU .u8 0,.cU r 0,.cV [],.cY,.cY],.cU r e] Y=J ([JV.aa.av,.cU r e],Y):=by rw[lF,aO,bG,aO,aO,aO,aO,aO,dO,qY,JV.av,JV.ba];rfl
 dsimp only;rw[c];dsimp only[bW];rw[AY a f (by rw[ae,JV.av,below,JV.ay];rfl) b]
def ano {O Y:St} {o:Nat} {x:AO} (a:Ok O) (h:x.below 0=eT) (e:Int) (E:As) (h2:look E 2=.c8 (z O) 0) (h3:look E 3=.cU r e) (b:Y.take (z O)=O.set o x) (is:List JV) (his:z is<=8192) (q:Nat) (f:Y[z O]?=J (.cH [.cU .u8 4,.cU r 0,.cV [],.cY,.dj q 0 (z is) 5] FZ)) (c:Y[q]?=J (.cH (aJ is) FZ)) (g:z O+2<=q):
  mD (z O) [.eS 2 eT 5,.fX 3] (J (.ef,E,Y))=J (.df [(JV.mk 4 0 [] [] is (by simp) (by omega) his (StB.de lb0)).av,.cU r e],O.set o x):=by
 rw[xx];have:aU E Y [.eS 2 eT 5,.fX 3]=J [.da [.cU .u8 4,.cU r 0,.cV [],.cY,.dj q 0 (z is) 5],.cU r e]:=by simp only[aU,h2,h3,f,pt,ay9,a90,a94,List.take];rfl
 rw[this];have d:hand eF [.da [.cU .u8 4,.cU r 0,.cV [],.cY,.dj q 0 (z is) 5],.cU r e] Y=J ([(JV.mk 4 0 [] [] is (by simp) (by omega) his (StB.de lb0)).av,.cU r e],Y.set q (.cH (aJ is) ⟨eT,U⟩)):=by rw[lF,aO,bG,aO,aO,aO,aO,aO,dO,G8 c (jF is) (GY is),qY,JV.av,JV.bB,<-tu c];rfl
 dsimp only;rw[d];dsimp only[bW];rw[AY a h (by rw[ae,JV.av,below,JV.ay];rfl) (by rw[dK _ _ _ (by omega),b])]
def aos(H:ReadHas C)(B:Has C vT qJ)(s:LU)(hs:z s<1099511627777)(m:Nat)(D:ahs C s m):aqz C vT s m:=by
 intro du O o a c E F R T;have G:o<z O:=(a00.mp c).1;have K:=jM o O;have n:Ok (O++[.cH [.cU .u8 0,.cU r 0,.cV [],.cY,.cY] FZ,.cH [.cU .u8 4,.cU r 0,.cV [],.cY,.cY] FZ]):=a.H rfl;obtain⟨r1,e,n1,i,W,X⟩:=vI H.toNextHas s hs du E _ n o (aj c _);rw[fK c]at n1;have f:=λx L=>aj (aX c x) L;rw[B.go K];have d:z (O.set o (r1.o s))=z O:=by simp
 have q0:=λL=>bK d L;have q1:=λL k=>vY d L k;have v:=λL y=>iF d L y;have e0:∀L:St,(O.set o (r1.o s)++L).take (z O)=O.set o (r1.o s):=λL=>by grind
 have q2:∀(x:AO) (L:St),(O.set o (r1.o s)++x::L)[z O]?=J x:=λx L=>by rw[q0];rfl
 have I:atm s O o r1 [] .cY (O.set o (r1.o s)++[kG,.cH [.cU .u8 4,.cU r 0,.cV [],.cY,.cY] FZ]):=by refine⟨(a.co o (RV.below s r1)).H rfl,f _ _,by rw[q0];rfl,by rw[q1];rfl,.inl ⟨rfl,rfl⟩,e0 _⟩
 obtain⟨r2,e2,w,l,M,N,V,P,t,u,b⟩:=acs H s hs m D O o G 8192 r1 [] .cY _ I i (by simp;omega) (by omega) (by omega) (by omega);cases ce:(e !=0)
 ·have A:e=0:=(by simpa using ce);subst A;cases p:(r1.k==4)
  ·have hi:∃j:JV,mD (z O) [.eS 2 eT 5,.fX 3] (J (.ef,[(2,.c8 (z O) 0),(3,.cU r e2)],w))=J (.df [j.av,.cU r e2],O.set o (r2.o s)):=by
    rcases b with b|⟨is,q,b,i8,Q,g⟩;·subst b;exact⟨_,Js a (RV.below s r2) e2 _ rfl rfl t u⟩
    ·subst i8;exact⟨_,ano a (RV.below s r2) e2 _ rfl rfl t is b q u Q g⟩
   obtain⟨j,hj⟩:=hi;refine⟨j,e2,r2,?_,N,by omega,P⟩;rw[<-hj];dsimp only[RV.o,RV.B,kG]at*;congr 1;simp only[qJ,n1,f,p,M,splice,EVX,seval]
  ·refine⟨JV.er 4 0 [] lb0,0,r1,?_,i,by omega,λ_=>by omega⟩;have tk:=AY (S:=O.set o (r1.o s)++[AO.cH [.cU .u8 4,.cU r 0,.cV [],.cY,.cY] FZ,AO.cH [.cU .u8 4,.cU r 0,.cV [],.cY,.cY] FZ]) a (RV.below s r1) (vs:=[.da [.cU .u8 4,.cU r 0,.cV [],.sl 0 [],.sl 0 []],.cU r 0]) rfl (e0 _);dsimp only[RV.o,RV.B,kG]at*;simp only[qJ,n1,f,q0,q1,v,p,splice,tk,aU,bG,dO,AV.cH,AV.C,JV.av,JV.cz,EVX,seval]
 ·refine⟨JV.aa,e,r1,?_,i,by omega,λh=>absurd h (by simpa using ce)⟩;have hj:=Js a (RV.below s r1) e [(2,.c8 (z O) 0),(3,.cU r e)] rfl rfl (e0 _) (q2 (.cH [.cU .u8 0,.cU r 0,.cV [],.cY,.cY] FZ) [.cH [.cU .u8 4,.cU r 0,.cV [],.cY,.cY] FZ]);rw[<-hj];dsimp only[RV.o,RV.B,kG]at*;congr 1;simp only[qJ,n1,q0,v,ce,splice,EVX,seval]
def Dx(l:List (LU×Int)):List (AV×AV):=l.map λp=>(.cV p.1,.cU r p.2)
def aoz(l:List (LU×Int))(i:Nat)(s:LU)(n:Int):(Dx l).set i (.cV s,.cU r n)=Dx (l.set i (s,n)):=by simp[Dx,List.map_set]
def alC(l:List (LU×Int))(s:LU)(n:Int):Dx l++[(.cV s,.cU r n)]=Dx (l++[(s,n)]):=by simp[Dx]
def ZL(s:LU):∀(l:List (LU×Int)) (k:Nat),lZ (.cV s) (Dx l) k=J U\/∃(i:Nat) (n:Int),lZ (.cV s) (Dx l) k=J (J (i,.cU r n))/\k<=i/\i<k+z l
 |[],k=>.inl rfl
 |p::l,k=>by
  have a:Dx (p::l)=(.cV p.1,.cU r p.2)::Dx l:=rfl;rw[a];simp only[lZ,Z8];cases mF s p.1
  ·rcases ZL s l (k+1)with h|⟨i,n,h,b,h2⟩;·left;exact h
   ·right;refine⟨i,n,h,by omega,?_⟩;rw[a90];omega
  ·right;refine⟨k,p.2,rfl,a06 _,?_⟩;rw[a90];omega
def lookA(O:St)(d m k:AV):Option AV:=match mapOf O m with
 |J a=>match lZ k a 0 with|J (J (_,v))=>J v|J U=>J d|U=>U
 |U=>U
def awM(O:St):Option AV->Option Out|J v=>J (.ew v O)|U=>U
def AZ(O:St)(v:AV):awM O (J v)=J (.ew v O):=rfl
def Xn(a:XA->AV)(n0:Nat)(O:St)(d:AV)(m k:XA):aB C a n0 O (.gR d m k eF)=awM O (lookA O d (a m) (a k)):=by
 rw[aB.eq_32];unfold lookA;cases mapOf O (a m)with
 |none=>rfl
 |some b=>
  dsimp only;cases lZ (a k) b 0 with
  |none=>rfl
  |some x=>
   cases x with
   |none=>rfl|some q=>rfl
def aqh(O:St)(m k v:AV):Option St:=match m with
 |.ec d=>match O[d]? with
  |J (.ec a)=>match k with
   |.cV s=>match lZ (.cV s) a 0 with|J (J (i,_))=>J (O.set d (.ec (a.set i (.cV s,v))))|J U=>J (O.set d (.ec (a++[(.cV s,v)])))|U=>U
   |_=>U
  |_=>U
 |_=>U
def awm:Option St->Option Out|J O=>J (.ew .dT O)|U=>U
def V5(O:St):awm (J O)=J (.ew .dT O):=rfl
def aoc(a:XA->AV)(n0:Nat)(O:St)(m k v:XA):aB C a n0 O (.gT m k v)=awm (aqh O (a m) (a k) (a v)):=by
 rw[aB.eq_33];unfold aqh;cases a m<;>try rfl
 dsimp only;rename_i d;cases O[d]? with
 |none=>rfl
 |some x=>
  cases x<;>try rfl
  dsimp only;cases a k<;>try rfl
  dsimp only;rename_i b s;cases lZ (.cV s) b 0 with
  |none=>rfl
  |some x=>
   cases x with
   |none=>rfl|some q=>rfl
def afZ{O:St}{p:Nat}{l:List (LU×Int)}(h:O[p]?=J (.ec (Dx l)))(s:LU):∃n:Int,∀L:St,lookA (O++L) (.cU r 0) (.ec p) (.cV s)=J (.cU r n):=by
 rcases ZL s l 0 with f|⟨i,n,f,_,_⟩;·exact⟨0,λL=>by simp only[lookA,mapOf,aj h,f]⟩
 ·exact⟨n,λL=>by simp only[lookA,mapOf,aj h,f]⟩
def asn{O:St}{p:Nat}{l:List (LU×Int)}(h:O[p]?=J (.ec (Dx l)))(s:LU)(n:Int):∃a:List (LU×Int),∀L:St,aqh (O++L) (.ec p) (.cV s) (.cU r n)=J (O.set p (.ec (Dx a))++L):=by
 rcases ZL s l 0 with f|⟨i,b,f,_,_⟩;·exact⟨l++[(s,n)],λL=>by simp only[aqh,aj h,f,fK h,alC]⟩
 ·exact⟨l.set i (s,n),λL=>by simp only[aqh,aj h,f,fK h,aoz]⟩
def aif(k:Nat)(l:List (LU×Int)):(AO.ec (Dx l)).below k=eT:=by
 show(ae k ((Dx l).map (·.1))&&ae k ((Dx l).map (·.2)))=eT
 induction l with
 |nil=>rfl|cons p l a=>rw[a01]at a;show(ae k (.cV p.1::(Dx l).map (·.1))&&ae k (.cU r p.2::(Dx l).map (·.2)))=eT;rw[ae,ae,a.1,a.2];rfl
def agy:AO:=.cH [.cV [],.cU .u8 0,.cU r 0,.cV [],.cY,.cY] FZ
def zEL:EL:=(⟨[],lb0⟩,JV.aa)
def aba:elC zEL=[.cV [],.cU .u8 0,.cU r 0,.cV [],.sl 0 [],.sl 0 []]:=by simp[elC,zEL,JV.ba]
def aig (H:ReadHas C) (hC:Has C nZ dV) (s:LU) (hs:z s<1099511627777) (m:Nat) (hV:ahs C s m) (du:RV) (O:St) (o p:Nat) (l:List (LU×Int)) (a:Ok O) (c:O[o]?=J (du.o s)) (hp:O[p]?=J (.ec (Dx l))) (F:0<=du.bU) (aa:0<=du.aD) (hm:8192<=du.aD+m):
  ∃(x:EL) (e:Int) (d:RV),ai C nZ [.c8 o 0,.ec p] O=J (.df [.da (elC x),.cU r e],O.set o (d.o s))/\0<=d.bU/\du.aD<=d.aD/\(e=0->du.aD<d.aD/\d.aD<=8192):=by
 have hn:hand eF [.c8 o 0,.ec p] O=J ([.c8 o 0,.ec p],O):=rfl;have G:Ok (O++[agy]):=a.H rfl;obtain⟨e0,w,we⟩:=FM H.eh s du (O++[agy]) o (aj c _);obtain⟨r1,e1,x1,x2,x3,x4⟩:=abB H s hs 6 du F _ G o (aj c _);rw[fK c]at x1;have t:=aX c (r1.o s);have I:Ok (O.set o (r1.o s)++[agy]):=(a.co o (RV.below s r1)).H rfl;obtain⟨r2,e2,E,S,y3,y4⟩:=vI H.toNextHas s hs r1 x2 _ I o (aj t _);rw[fK t,aB8]at E;have u:=aX c (r2.o s);have K:Ok (O.set o (r2.o s)++[agy]):=(a.co o (RV.below s r2)).H rfl;obtain⟨j,e3,r3,N,T,z3,z4⟩:=hV r2 _ o K (aj u _) S (by omega) (by omega);rw[fK u,aB8]at N;have i:=λL=>aj c L;have f:∀(x:AO) (v:x.below 0=eT) (e:Int) (L:St),tidy (z O) [.da [.cV [],.cU .u8 0,.cU r 0,.cV [],.sl 0 [],.sl 0 []],.cU r e] (O.set o x++L)=O.set o x:=λx v e L=>Oj a o v _ rfl L;have M:∀(x:AO) (v:x.below 0=eT) (y:LA) (P:ae 0 y=eT) (e:Int) (L:St),tidy (z O) [.da y,.cU r e] (O.set o x++L)=O.set o x:=λx v y P e L=>Oj a o v _ (by rw[ae,below,P];rfl) L;have A:∀(e:Int) (L:St),tidy (z O) [.da [.cV [],.cU .u8 0,.cU r 0,.cV [],.sl 0 [],.sl 0 []],.cU r e] (O++L)=O:=λe L=>bz a rfl L;have t1:=λe L=>f (r1.o s) (RV.below s r1) e L;have t2:=λe L=>f (r2.o s) (RV.below s r2) e L;have t3:=λe L=>f (r3.o s) (RV.below s r3) e L;have t4:=λe L=>M (r3.o s) (RV.below s r3) (elC (du.t,j)) (Kz _) e L;have nf:=λY d=>(ajA (du.t,j)).nf Y d;have b:=set_self c;have R:=JV.dt j;have Q:=JV.C j;have jt:j.B.take 5=j.B:=a95 (by rw[JV.dt];exact a06 _);have je:5<=z j.B:=by rw[JV.dt];exact a06 _
 have Z:=jB (du.t,j);have X:=oZ (du.t,j);have et:(elC (du.t,j)).take 6=elC (du.t,j):=a95 (by rw[jB];exact a06 _);have d5:∀l:LA,z l=5->l.drop 5=[]:=λl h=>az1 (by omega);have W:AV.cV du.t.1::j.B=elC (du.t,j):=rfl;rw[hC.go hn];dsimp only[RV.o,RV.B,agy]at*;cases g:(du.k !=10)
 ·
  obtain⟨n,go⟩:=afZ hp du.t;cases q:decide (n>0)
  ·cases k:(e1 !=0)
   ·cases B:(e2 !=0)
    ·cases D:(e3 !=0);·have V:e3=0:=(by simpa using D);subst V;refine⟨(du.t,j),0,r3,?_,T,by omega,λ_=>by have:=z4 rfl;omega⟩;simp only[dV,g,q,go,↓Xn,AZ,k,B,D,x1,E,N,i,t4,nf,R,Q,jt,Z,X,et,W,d5,aaS,nM,aaT,zM,aU,bG,AV.cH,JV.av,a96,splice,EVX,seval]
     ·refine⟨zEL,e3,r3,?_,T,by omega,λh=>absurd h (by simpa using D)⟩;simp only[dV,g,q,go,↓Xn,AZ,k,B,D,x1,E,N,i,t3,R,Q,d5,aba,aaS,nM,aaT,zM,aU,bG,dO,AV.cH,AV.C,JV.av,a96,splice,EVX,seval]
    ·refine⟨zEL,e2,r2,?_,S,by omega,λh=>absurd h (by simpa using B)⟩;simp only[dV,g,q,go,↓Xn,AZ,k,B,x1,E,i,t2,d5,aba,nM,zM,aU,bG,dO,AV.cH,AV.C,splice,EVX,seval]
   ·refine⟨zEL,e1,r1,?_,x2,by omega,λh=>absurd h (by simpa using k)⟩;simp only[dV,g,q,go,↓Xn,AZ,k,x1,i,t1,d5,aba,nM,zM,aU,bG,dO,AV.cH,AV.C,splice,EVX,seval]
  ·refine⟨zEL,7,du,?_,F,by omega,λh=>absurd h (by omega)⟩;rw[b];simp only[dV,g,q,go,↓Xn,AZ,i,A,d5,aba,aU,bG,dO,AV.cH,AV.C,splice,EVX,seval]
 ·refine⟨zEL,e0,du,?_,F,by omega,λh=>absurd h we⟩;rw[b];simp only[dV,g,w,i,A,d5,aba,aU,bG,dO,AV.cH,AV.C,splice,EVX,seval]
structure SortHas(C:Ctx):Prop where
 kq:SK C iD EG
 lp:Su C DU IZ
def atx(Y:St)(n0:Nat)(xs:List EL)(x:AV):Prop:=(xs=[]/\x=.cY)\/(xs≠[]/\∃q,x=.dj q 0 (z xs) 6/\Y[q]?=J (.cH (dH xs) FZ)/\n0+2<=q)
def al4(xs:List EL)(x:EL):dH (xs++[x])=dH xs++elC x:=by simp[dH]
def atE {Y:St} {n0:Nat} {xs:List EL} {x:AV} (y:EL) (c:AO) (h:atx Y n0 xs x) (hok:Ok Y) (d:z xs<=8192):
  ∃a:St,tX (Y++[c]) 6 96 U x 1 (elC y)=J (.dj (z Y+1) 0 (z xs+1) 6,a++[c,.cH (dH (xs++[y])) FZ])/\z a=z Y/\(∀(i:Nat) (w:AO),i<n0+2->Y[i]?=J w->a[i]?=J w)/\a.take n0=Y.take n0/\Ok a:=by
 rcases h with⟨e1,e2⟩|⟨e1,q,e2,e3,e4⟩;·subst e1;subst e2;refine⟨Y,?_,rfl,λ_ _ _ h=>h,rfl,hok⟩;rw[J7 _ U (elC y) (by omega) (by omega) (by omega)];simp[dH]
 ·subst e2;have b:(Y++[c])[q]?=J (.cH (dH xs) FZ):=aj e3 _;refine⟨Y.set q .eq,?_,by simp,λi w hi h=>aG h (by omega) _,dK _ _ _ (by omega) _,hok.bd _ rfl⟩;rw[MR (elC y) b (by omega) (Gn xs) (by omega) (by omega),fK e3,al4];simp
structure atp(s:LU)(O:St)(o:Nat)(r:RV)(xs:List EL)(x:AV)(Y:St):Prop where
 m3:Ok Y
 hr:Y[o]?=some (r.o s)
 ly:Y[O.length]?=some kG
 oy:∃l,Y[O.length+1]?=some (.ec (Dx l))
 oF:atx Y O.length xs x
 lx:Y.take O.length=O.set o (r.o s)
def awW(s:LU)(O:St)(o:Nat)(ct:Int)(x:RX):Prop:=∃(c:RV) (e:Int) (a:St) (l:LA),x=J (.ef,[(2,.c8 (z O) 0),(3,.cU r e)],a)/\0<=c.bU/\ct<=c.aD/\(e=0->c.aD<=8192)/\a.take (z O)=O.set o (c.o s)/\
 a[z O]?=J (.cH l FZ)/\(l=[.cU .u8 0,.cU r 0,.cV [],.cY,.cY]\/∃(b:List EL) (q1 q2:Nat),z b<=8192/\l=[.cU .u8 5,.cU r 0,.cV [],.dj q1 0 (z b) 1,.dj q2 0 (z b) 5]/\a[q1]?=J (.cH (kL b) FZ)/\a[q2]?=J (.cH (vJ b) FZ)/\z O+2<=q1/\z O+2<=q2/\q1≠q2)
def Xx (H:ReadHas C) (W:SortHas C) (hM:Has C nZ dV) (s:LU) (hs:z s<1099511627777) (m:Nat) (hV:ahs C s m) (O:St) (o:Nat) (N:o<z O):∀(k:Nat) (du:RV) (xs:List EL) (x:AV) (Y:St),atp s O o du xs x Y->0<=du.bU->(z xs:Int)<=du.aD->du.aD<=8192->8192<=du.aD+k->8192<=du.aD+m->
  awW s O o du.aD (aH C (ai C) 59 [0,2,5,6] bJ [(0,.c8 o 0),(2,.c8 (z O) 0),(5,x),(6,.ec (z O+1))] Y)
 |k,du,xs,x,Y,I,ha,ah,ak,R,hm=>by
  obtain⟨hok,hr,hres,⟨ml,hmap⟩,hxs,hpre⟩:=I;obtain⟨j,e,r1,v1,v2,v3,v4⟩:=aig H hM s hs m hV du Y o (z O+1) ml hok hr hmap ha (by omega) hm;have Z:z (Y.set o (r1.o s))=z Y:=(by simp);have hr1:=aX hr (r1.o s);have d:=aG hres (show z O≠o by omega) (r1.o s);have w:=aG hmap (show z O+1≠o by omega) (r1.o s);have aa:=hok.co o (RV.below s r1);have i:(Y.set o (r1.o s)).take (z O)=O.set o (r1.o s):=(by rw[List.take_set,hpre,aB8]);have P:atx (Y.set o (r1.o s)) (z O) xs x:=by
   rcases hxs with h|⟨e1,q,e2,e3,e4⟩;·exact .inl h
   ·exact .inr ⟨e1,q,e2,aG e3 (by omega) _,e4⟩
  have nl:z O+1<z Y:=(a00.mp hmap).1;generalize ac:Y.set o (r1.o s)=S1 at*;have T:=jB j;have S:=oZ j;have jt:(elC j).take 6=elC j:=a95 (by rw[jB];exact a06 _);have je:6<=z (elC j):=by rw[jB];exact a06 _
  have eh:(elC j).head? =J (.cV j.1.1):=rfl;have d6:∀l:LA,z l=6->l.drop 6=[]:=λl h=>az1 (by omega);have c1:=λL=>aj d L;have p1:=λL y=>fK d L y;dsimp only[kG]at*;rw[aA (he:=rfl)];cases ce:(e !=0)
  ·have e0:e=0:=(by simpa using ce);subst e0;obtain⟨w1,w2⟩:=v4 rfl;obtain⟨Q,a1,a2,a3,a6,a7⟩:=atE j (.cH (elC j) FZ) P aa (by omega);rw[Z]at a1 a2;have hr2:=a3 o _ (by omega) hr1;have E:=a3 (z O) _ (by omega) d;have c:=a3 (z O+1) _ (by omega) w;have g2:=λL=>bK (a2.trans Z.symm) L;obtain⟨n,lk⟩:=afZ c j.1.1;obtain⟨f,up⟩:=asn c j.1.1 (IntKind.i64.wrap (n+1));have G:Ok ((Q++[AO.cH (elC j) FZ,AO.cH (dH (xs++[j])) FZ]:St).set (z O+1) (.ec (Dx f))):=(by exact Ok.bd (a7.H (by simp only[a07,az6,AO.below,Kz,wG,aA5])) _ (aif _ _));rw[fK c]at G;have hr3:=aG hr2 (show o≠z O+1 by omega) (.ec (Dx f));have F:=aG E (show z O≠z O+1 by omega) (.ec (Dx f));have A:=aX c (.ec (Dx f));have D:(Q.set (z O+1) (.ec (Dx f))).take (z O)=O.set o (r1.o s):=(by rw[dK _ _ _ (by omega),a6,i]);have T3:z (Q.set (z O+1) (.ec (Dx f)))=z Y:=(by simp[a2]);generalize ad:Q.set (z O+1) (.ec (Dx f))=X at*;obtain⟨r2,b,e2,V,m2,m3,m4⟩:=XY H s hs 2 r1 v2 _ G o (aj hr3 _);rw[fK hr3]at V;have hr4:=aX hr3 (r2.o s);have a:=aG F (show z O≠o by omega) (r2.o s);have B:=aG A (show z O+1≠o by omega) (r2.o s);have M:z (X.set o (r2.o s))=z Y:=(by simp[T3]);have K:=G.co o (RV.below s r2);rw[fK hr3]at K;have g:(X.set o (r2.o s)).take (z O)=O.set o (r2.o s):=(by rw[List.take_set,D,aB8]);generalize af:X.set o (r2.o s)=p at*;have c4:=λL=>aj a L;have p4:=λL y=>fK a L y;have u:(p++[AO.cH (elC j) FZ,AO.cH (dH (xs++[j])) FZ]:St)[z Y+1]?=J (.cH (dH (xs++[j])) FZ):=by rw[vY M];rfl
   cases v:(e2 !=0)
   ·have e0:e2=0:=(by simpa using v);subst e0;cases b
    ·
     have bl:z Y+1<z (p++[AO.cH (elC j) FZ,AO.cH (dH (xs++[j])) FZ]:St):=(a00.mp u).1;obtain⟨ab,q1,q2,t,k1,k2,k3,k4,k5,k6,k7,k8⟩:=ags W.kq W.lp (z Y+1) _ K bl (z xs+1) (by omega) U (xs++[j]) (by simp) (by omega);unfold row at k2 k3;rw[set_self u]at k2;have tl:∀y:AO,(t.take (z (p++[AO.cH (elC j) FZ,AO.cH (dH (xs++[j])) FZ]:St))).take (z O)=O.set o (r2.o s):=λ_=>by rw[k3,dK _ _ _ (by omega),oD _ _ _ (by omega),g]
     have tk:t.take (z O)=O.set o (r2.o s):=by have:=tl .eq;rw[List.take_take,aF7 (by simp[M];omega)]at this;exact this
     have rz:t[z O]?=J (.cH [.cU .u8 0,.cU r 0,.cV [],.cY,.cY] FZ):=by
      have h1:(t.take (z (p++[AO.cH (elC j) FZ,AO.cH (dH (xs++[j])) FZ]:St)))[z O]?=J (.cH [.cU .u8 0,.cU r 0,.cV [],.cY,.cY] FZ):=by rw[k3];exact aG (aj a _) (by omega) _
      rw[aA4]at h1;rwa[if_pos (by simp[M];omega)]at h1
     have ll:z O<z (p++[AO.cH (elC j) FZ,AO.cH (dH (xs++[j])) FZ]:St):=by simp[M];omega
     refine⟨r2,0,t.set (z O) (.cH [.cU .u8 5,.cU r 0,.cV [],.dj q1 0 (z xs+1) 1,.dj q2 0 (z xs+1) 5] FZ),_,?_,m2,by omega,λ_=>by omega,by rw[dK _ _ _ (a06 _),tk],aX rz _,.inr ⟨ab,q1,q2,by rw[k1];omega,by rw[k1],aG k4 (by omega) _,aG k5 (by omega) _,by omega,by omega,k8⟩⟩;generalize R:aH C (ai C) 59 [0,2,5,6] bJ=kk at*;simp only[bJ,v1,a1,g2,lk,up,V,k2,rz,T,S,jt,eh,splice,d6,ce,AV.cH,AV.C,↓Xn,↓aoc,AZ,V5,EVX,seval]
    ·
     have I2:atp s O o r2 (xs++[j]) (.dj (z Y+1) 0 (z xs+1) 6) (p++[.cH (elC j) FZ,.cH (dH (xs++[j])) FZ]):=by refine⟨K,aj hr4 _,aj a _,⟨f,aj B _⟩,.inr ⟨by simp,z Y+1,by simp,u,by omega⟩,?_⟩;rw[oD _ _ _ (by omega),g]
     have al:0<k:=(by omega);obtain⟨k,rfl⟩:∃k',k=k'+1:=⟨k-1,by omega⟩;have ih:=Xx H W hM s hs m hV O o N k r2 (xs++[j]) _ _ I2 m2 (by simp;omega) (by omega) (by omega) (by omega);obtain⟨r',e',t,l,i1,i2,i3,i4,i5,i6,i7⟩:=ih;refine⟨r',e',t,l,?_,i2,by omega,i4,i5,i6,i7⟩;generalize R:aH C (ai C) 59 [0,2,5,6] bJ=kk at*;simp only[bJ,v1,a1,g2,lk,up,V,i1,T,S,jt,eh,splice,d6,ce,AV.cH,↓Xn,↓aoc,AZ,V5,EVX,seval]
   ·refine⟨r2,e2,p.set (z O) (.cH [.cU .u8 0,.cU r 0,.cV [],.cY,.cY] FZ)++[.cH (elC j) FZ,.cH (dH (xs++[j])) FZ],_,?_,m2,by omega,λh=>absurd h (by simpa using v),?_,aj (aX a _) _,.inl rfl⟩;·generalize R:aH C (ai C) 59 [0,2,5,6] bJ=kk at*;simp only[bJ,v1,a1,g2,lk,up,V,c4,p4,T,S,jt,eh,splice,d6,ce,v,AV.cH,AV.C,↓Xn,↓aoc,AZ,V5,EVX,seval]
    ·rw[oD _ _ _ (by simp[M];omega),dK _ _ _ (a06 _),g]
  ·refine⟨r1,e,S1.set (z O) (.cH [.cU .u8 0,.cU r 0,.cV [],.cY,.cY] FZ)++[.cH (elC j) FZ],_,?_,v2,v3,λh=>absurd h (by simpa using ce),?_,aj (aX d _) _,.inl rfl⟩;·generalize R:aH C (ai C) 59 [0,2,5,6] bJ=kk at*;simp only[bJ,v1,c1,p1,T,S,splice,d6,ce,AV.cH,AV.C,EVX,seval]
   ·rw[oD _ _ _ (by simp[Z];omega),dK _ _ _ (a06 _),i]
def ahR{Y:St}{q1 q2:Nat}{l1 l2:LA}(b:Y[q1]?=J (.cH l1 FZ))(h2:Y[q2]?=J (.cH l2 FZ))(a:q1≠q2):freeze Y [q1,q2]=(Y.set q1 (.cH l1 ⟨eT,U⟩)).set q2 (.cH l2 ⟨eT,U⟩):=by unfold freeze;rw[b];exact tu (aG h2 (λe=>a e.symm) _)
def abo(xs:List EL)(h:z xs<=8192):JV:=.mk 5 0 [] (xs.map (·.1.1)) (xs.map (·.2)) (by simp) (by simp) (by simpa using h) ⟨lb0,λx a=>by
 grind⟩
def adO {O Y:St} {o:Nat} {x:AO} (c:Ok O) (h:x.below 0=eT) (e:Int) (E:As) (h2:look E 2=.c8 (z O) 0) (h3:look E 3=.cU r e) (d:Y.take (z O)=O.set o x) (xs:List EL) (hxs:z xs<=8192) (q1 q2:Nat) (g:Y[z O]?=J (.cH [.cU .u8 5,.cU r 0,.cV [],.dj q1 0 (z xs) 1,.dj q2 0 (z xs) 5] FZ)) (a:Y[q1]?=J (.cH (kL xs) FZ)) (b:Y[q2]?=J (.cH (vJ xs) FZ)) (n1:z O+2<=q1) (j:z O+2<=q2) (ne:q1≠q2):
  mD (z O) [.eS 2 eT 5,.fX 3] (J (.ef,E,Y))=J (.df [(abo xs hxs).av,.cU r e],O.set o x):=by
 rw[xx];have:aU E Y [.eS 2 eT 5,.fX 3]=J [.da [.cU .u8 5,.cU r 0,.cV [],.dj q1 0 (z xs) 1,.dj q2 0 (z xs) 5],.cU r e]:=by simp only[aU,h2,h3,g,pt,ay9,a90,a94,List.take];rfl
 rw[this];have i:NVs (kL xs):=by have:=aq5 (xs.map (·.1.1));rw[List.map_map]at this;exact this
 have f:hand eF [.da [.cU .u8 5,.cU r 0,.cV [],.dj q1 0 (z xs) 1,.dj q2 0 (z xs) 5],.cU r e] Y=J ([(abo xs hxs).av,.cU r e],(Y.set q1 (.cH (kL xs) ⟨eT,U⟩)).set q2 (.cH (vJ xs) ⟨eT,U⟩)):=by rw[lF,aO,bG,aO,aO,aO,aO,aO,G8 a (by rw[KY,aB5]) i,G8 b (PR xs) (GY _),qY,<-ahR a b ne];unfold abo JV.av;rw[JV.bB,aB0,aB0,List.map_map];rfl
 dsimp only;rw[f];dsimp only[bW];rw[AY c h (by rw[ae,JV.av,below,JV.ay];rfl) (by rw[dK _ _ _ (by omega),dK _ _ _ (by omega),d])]
def ain(H:ReadHas C)(A:SortHas C)(F:Has C nZ dV)(E:Has C rZ nP)(s:LU)(hs:z s<1099511627777)(m:Nat)(G:ahs C s m):aqz C rZ s m:=by
 intro du O o a d K M X Y;have N:o<z O:=(a00.mp d).1;have P:=jM o O;have q:Ok (O++[.cH [.cU .u8 0,.cU r 0,.cV [],.cY,.cY] FZ]):=a.H rfl;obtain⟨r1,e,n1,p,n3,n4⟩:=vI H.toNextHas s hs du K _ q o (aj d _);rw[fK d]at n1;have f:=λx L=>aj (aX d x) L;rw[E.go P];have c:z (O.set o (r1.o s))=z O:=by simp
 have q0:=λL=>bK c L;have q1:=λL k=>vY c L k;have w:=λL y=>iF c L y;have e0:∀L:St,(O.set o (r1.o s)++L).take (z O)=O.set o (r1.o s):=λL=>by grind
 have q2:∀(x:AO) (L:St),(O.set o (r1.o s)++x::L)[z O]?=J x:=λx L=>by rw[q0];rfl
 have I:atp s O o r1 [] .cY (O.set o (r1.o s)++[kG,.ec []]):=by refine⟨(a.co o (RV.below s r1)).H rfl,f _ _,by rw[q0];rfl,⟨[],by rw[q1];rfl⟩,.inl ⟨rfl,rfl⟩,e0 _⟩
 obtain⟨r2,e2,B,l,Q,R,Z,T,u,v,b⟩:=Xx H A F s hs m G O o N 8192 r1 [] .cY _ I p (by simp;omega) (by omega) (by omega) (by omega);cases ce:(e !=0)
 ·have D:e=0:=(by simpa using ce);subst D;cases t:(r1.k==2)
  ·have hi:∃j:JV,mD (z O) [.eS 2 eT 5,.fX 3] (J (.ef,[(2,.c8 (z O) 0),(3,.cU r e2)],B))=J (.df [j.av,.cU r e2],O.set o (r2.o s)):=by
    rcases b with b|⟨W,q1,q2,hxs,b,i8,V,g,i,n⟩;·subst b;exact⟨_,Js a (RV.below s r2) e2 _ rfl rfl u v⟩
    ·subst b;exact⟨_,adO a (RV.below s r2) e2 _ rfl rfl u W hxs q1 q2 v i8 V g i n⟩
   obtain⟨j,hj⟩:=hi;refine⟨j,e2,r2,?_,R,by omega,T⟩;rw[<-hj];dsimp only[RV.o,RV.B,kG]at*;congr 1;simp only[nP,n1,f,c,t,Q,EVX,seval]
  ·refine⟨JV.er 5 0 [] lb0,0,r1,?_,p,by omega,λ_=>by omega⟩;have tk:=AY (S:=O.set o (r1.o s)++[AO.cH [.cU .u8 5,.cU r 0,.cV [],.cY,.cY] FZ]) a (RV.below s r1) (vs:=[.da [.cU .u8 5,.cU r 0,.cV [],.sl 0 [],.sl 0 []],.cU r 0]) rfl (e0 _);dsimp only[RV.o,RV.B,kG]at*;simp only[nP,n1,f,q0,w,t,splice,tk,aU,bG,dO,AV.cH,AV.C,JV.av,JV.cz,EVX,seval]
 ·refine⟨JV.aa,e,r1,?_,p,by omega,λh=>absurd h (by simpa using ce)⟩;have hj:=Js a (RV.below s r1) e [(2,.c8 (z O) 0),(3,.cU r e)] rfl rfl (e0 _) (q2 (.cH [.cU .u8 0,.cU r 0,.cV [],.cY,.cY] FZ) []);rw[<-hj];dsimp only[RV.o,RV.B,kG]at*;congr 1;simp only[nP,n1,q0,w,ce,splice,EVX,seval]
structure Oy(C:Ctx):Prop extends ReadHas C,SortHas C where
 lb:Has C nZ dV
 et:Has C rZ nP
 br:Has C vT qJ
 ky:Has C yQ bC
def Sr(H:Oy C)(s:LU)(hs:z s<1099511627777):∀m:Nat,ahs C s m|0=>ad8 H.ky H.eh s 0 (λh=>absurd h (by omega)) (λh=>absurd h (by omega))|m+1=>ad8 H.ky H.eh s (m+1) (λ_=>aos H.toReadHas H.br s hs m (Sr H s hs m)) (λ_=>ain H.toReadHas H.toSortHas H.lb H.et s hs m (Sr H s hs m))
def alT (H:Oy C) (B:Has C iL uZ) (s:LU) (O:St) (g:Ok O):
  ∃(j:JV) (p e:Int),ai C iL [.cV s] O=J (.df [j.av,.cU r p,.cU r e],O):=by
 have A:∀(j:LA) (hj:ae 0 j=eT) (p e:Int) (L:St),tidy (z O) [.da j,.cU r p,.cU r e] (O++L)=O:=λj hj p e L=>bz g (by rw[ae,below,hj];rfl) L;have l:=λp e L=>A [.cU .u8 0,.cU r 0,.cV [],.sl 0 [],.sl 0 []] rfl p e L;rw[B.go (NVs.e (.cW (.cV _) .de) _)];by_cases h:(65536:Int)<(z s:Int);·refine⟨JV.aa,0,5,?_⟩;simp only[uZ,h,l,aU,bG,dO,AV.cH,AV.C,JV.av,JV.ba,splice,EVX,seval]
 have hs:z s<1099511627777:=by omega
 have ok0:∀du:RV,Ok (O++[kG,du.o s]):=λdu=>g.H rfl;have y:∀du:RV,(O++[kG,du.o s]:St)[z O+1]?=J (du.o s):=λdu=>by rw[aN];rfl
 have s0:∀du f:RV,(O++[kG,du.o s]:St).set (z O+1) (f.o s)=O++[kG,f.o s]:=λdu f=>by rw[fF];rfl
 obtain⟨r1,e1,n1,F,x,N⟩:=vI H.toNextHas s hs ⟨0,0,0,0,0,⟨[],lb0⟩,0,0,0⟩ (aG1 _) _ (ok0 _) (z O+1) (y _);rw[s0]at n1;obtain⟨j,e2,r2,v1,v2,v3,v4⟩:=Sr H s hs 8192 r1 _ (z O+1) (ok0 r1) (y _) F (by rw[x];exact aG1 _) (by rw[x];decide);rw[s0]at v1;have u:∀du:RV,Ok (O++[.cH j.B FZ,du.o s]):=λdu=>g.H (by rw[a07,a07,RV.below,show AO.below 0 (.cH j.B FZ)=eT from j.ay];rfl);have G:∀du:RV,(O++[AO.cH j.B FZ,du.o s]:St)[z O+1]?=J (du.o s):=λdu=>by rw[aN];rfl
 have s1:∀du f:RV,(O++[AO.cH j.B FZ,du.o s]:St).set (z O+1) (f.o s)=O++[AO.cH j.B FZ,f.o s]:=λdu f=>by rw[fF];rfl
 obtain⟨r3,e3,q,P,Q,R⟩:=vI H.toNextHas s hs r2 v2 _ (u _) (z O+1) (G _);rw[s1]at q;have K:=λp e L=>A j.B j.ay p e L;have nf:=λY f=>j.af.nf Y f;have k:=JV.dt j;have n:=JV.C j;have E:j.B.take 5=j.B:=a95 (by rw[JV.dt];exact a06 _);have M:5<=z j.B:=by rw[JV.dt];exact a06 _
 have D:j.B.drop 5=[]:=az1 (by omega);have v:∀a b c d e:AV,splice j.B 0 [a,b,c,d,e]=[a,b,c,d,e]:=λa b c d e=>by simp[splice,D]
 have o:∀a b c d e:AV,splice [a,b,c,d,e] 0 j.B=j.B:=λa b c d e=>by simp[splice,k]
 have I:splice j.B 0 j.B=j.B:=by simp[splice]
 dsimp only[RV.o,RV.B,kG]at*;cases i:(e1 !=0)
 ·cases m:(e2 !=0)
  ·cases t:(e3 !=0)
   ·cases w:(r3.k !=11);·refine⟨j,0,0,?_⟩;simp only[uZ,h,n1,v1,q,i,m,t,w,K,nf,k,n,E,I,o,aU,bG,AV.cH,AV.C,JV.av,EVX,seval]
    ·refine⟨JV.aa,r3.cD,11,?_⟩;simp only[uZ,h,n1,v1,q,i,m,t,w,l,k,n,v,o,aU,bG,dO,AV.cH,AV.C,JV.av,JV.ba,EVX,seval]
   ·refine⟨JV.aa,r3.cD,e3,?_⟩;simp only[uZ,h,n1,v1,q,i,m,t,l,k,n,v,o,aU,bG,dO,AV.cH,AV.C,JV.av,JV.ba,EVX,seval]
  ·refine⟨JV.aa,r2.cD,e2,?_⟩;simp only[uZ,h,n1,v1,i,m,l,k,n,v,o,aU,bG,dO,AV.cH,AV.C,JV.av,JV.ba,EVX,seval]
 ·refine⟨JV.aa,r1.cD,e1,?_⟩;simp only[uZ,h,n1,i,l,aU,bG,dO,AV.cH,AV.C,JV.av,JV.ba,splice,EVX,seval]
def Vk(ns:List LU)(i:Nat)(h:i<z ns):(ns.map AV.cV).drop i=.cV ns[i]::(ns.map AV.cV).drop (i+1):=by rw[ay6 (by simpa using h)];simp
def Vl(ns:List LU):z (ns.map AV.cV)=z ns:=by simp
def MW (ns:List LU) (j:z ns<=8192) (O:St):∀(n i:Nat),i+n=z ns->1<=i->
  aH C (ai C) 20 [0,3] dE [(0,.sl (z ns) (ns.map .cV)),(3,.cU r i)] O=J (.dq 0,[],O)\/aH C (ai C) 20 [0,3] dE [(0,.sl (z ns) (ns.map .cV)),(3,.cU r i)] O=J (.ef,[(2,.cX eF)],O)
 |0,i,hi,f=>by rw[aA (he:=rfl)];have h:¬((i:Int)<(z ns:Int)):=(by omega);left;simp only[dE,h,EVX,seval]
 |n+1,i,hi,f=>by
  have h:((i:Int)<(z ns:Int)):=(by omega);have h2:i<z ns:=(by omega);have h3:i-1<z ns:=(by omega);have d:IntKind.i64.wrap ((i:Int)-1)=((i-1:Nat):Int):=wrE (by omega);have e:=wrS i (by omega);have b:(0:Int)<=((i-1:Nat):Int):=(by omega);have c:(0:Int)<=(i:Int):=(by omega);have d1:=Vk ns (i-1) h3;have d2:=Vk ns i h2;have sl:=Vl ns;have a:=MW ns j O n (i+1) (by omega) (by omega);rw[aA (he:=rfl)];generalize l:aH C (ai C) 20 [0,3] dE=k at*;cases hb:Op.bytesLess ns[i-1] ns[i];·right;simp only[dE,h,h2,h3,d,b,c,d1,d2,sl,hb,a88,aG6,EVX,seval]
  ·rcases a with a|a;·left;simp only[dE,h,h2,h3,d,e,b,c,d1,d2,sl,hb,a,a88,aG6,EVX,seval]
   ·right;simp only[dE,h,h2,h3,d,e,b,c,d1,d2,sl,hb,a,a88,aG6,EVX,seval]
def aeN(ns:List LU):NV (.sl (z ns) (ns.map .cV)):=.sl _ (uU ns)
def Yf(c:Has C sF rJ)(ns:List LU)(d:z ns<=8192)(O:St):∃b:Bool,ai C sF [.sl (z ns) (ns.map .cV)] O=J (.cX b,O):=by
 rw[c.go (NVs.e (.cW (aeN ns) .de) _)];by_cases a:ns=[]
 ·subst a;refine⟨eT,?_⟩;have h:¬((1:Int)<0):=(by omega);have e:aH C (ai C) 20 [0,3] dE [(0,.sl 0 []),(3,.cU r 1)] O=J (.dq 0,[],O):=by rw[aA (he:=rfl)];simp only[dE,h,ay1,EVX,seval]
  simp only[rJ,a94,List.map_nil,e,EVX,seval]
 ·have f:1<=z ns:=by
   cases ns with
   |nil=>exact absurd rfl a|cons=>simp
  rcases MW (C:=C) ns d O (z ns-1) 1 (by omega) (a06 _)with h|h;·refine⟨eT,?_⟩;simp only[ay1]at h;simp only[rJ,h,EVX,seval]
  ·refine⟨eF,?_⟩;simp only[ay1]at h;simp only[rJ,h,EVX,seval]
def ZY (ns:List LU) (x:LU) (e:z ns<=8192) (O:St):∀(n i:Nat),i+n=z ns->
  aH C (ai C) 19 [0,1,7,8] aW [(0,.sl (z ns) (ns.map .cV)),(1,.cV x),(7,.cU r (z ns)),(8,.cU r i)] O=J (.dq 0,[],O)\/∃k:Nat,k<z ns/\aH C (ai C) 19 [0,1,7,8] aW [(0,.sl (z ns) (ns.map .cV)),(1,.cV x),(7,.cU r (z ns)),(8,.cU r i)] O=J (.ef,[(4,.cU r k)],O)
 |0,i,hi=>by rw[aA (he:=rfl)];have h:¬((i:Int)<(z ns:Int)):=(by omega);left;simp only[aW,h,EVX,seval]
 |n+1,i,hi=>by
  have h:((i:Int)<(z ns:Int)):=(by omega);have h2:i<z ns:=(by omega);have c:=wrS i (by omega);have b:(0:Int)<=(i:Int):=(by omega);have d2:=Vk ns i h2;have sl:=Vl ns;have a:=ZY ns x e O n (i+1) (by omega);rw[aA (he:=rfl)];generalize j:aH C (ai C) 19 [0,1,7,8] aW=k at*;by_cases hb:x=ns[i];·right;refine⟨i,h2,?_⟩;simp only[aW,h,h2,b,d2,sl,<-hb,a88,aG6,decide_true,EVX,seval]
  ·rcases a with a|⟨f,g,a⟩;·left;simp only[aW,h,h2,c,b,d2,sl,hb,a,a88,aG6,decide_false,EVX,seval]
   ·right;refine⟨f,g,?_⟩;simp only[aW,h,h2,c,b,d2,sl,hb,a,a88,aG6,decide_false,EVX,seval]
def slices_Index(a:Has C oQ jR)(ns:List LU)(x:LU)(b:z ns<=8192)(O:St):∃k:Int,ai C oQ [.sl (z ns) (ns.map .cV),.cV x] O=J (.cU r k,O)/\k<z ns:=by
 rw[a.go (NVs.e (.cW (aeN ns) (.cW (.cV _) .de)) _)];rcases ZY (C:=C) ns x b O (z ns) 0 (by omega)with h|⟨k,c,h⟩;·refine⟨-1,?_,by omega⟩;simp only[ay1]at h;simp only[jR,h,EVX,seval]
 ·refine⟨k,?_,by omega⟩;simp only[ay1]at h;simp only[jR,h,EVX,seval]
def atZ (c:Has C lD xn) (ns:List LU) (x:LU) (O:St) (a b:Nat) (d:O[a]?=J (.cH [.sl (z ns) (ns.map .cV)] FZ)) (hb:O[b]?=J (.cH [.cV x] FZ)) (i:Nat) (hi:i<z ns):
  ∃h:Bool,ai C lD [.cU r i,.c8 a 0,.c8 b 0] O=J (.cX h,O):=by
 have e:hand eF [.cU r i,.c8 a 0,.c8 b 0] O=J ([.cU r i,.c8 a 0,.c8 b 0],O):=rfl;have f:(0:Int)<=(i:Int):=by omega
 have d2:=Vk ns i hi;have sl:=Vl ns;rw[c.go e];refine⟨!(Op.bytesLess ns[i] x),?_⟩;simp only[xn,d,hb,hi,f,d2,sl,a88,aG6,EVX,seval]
def Og (d:Has C lD xn) (ns:List LU) (p:z ns<=8192) (x:LU) (O:St) (a b:Nat) (e:O[a]?=J (.cH [.sl (z ns) (ns.map .cV)] FZ)) (hb:O[b]?=J (.cH [.cV x] FZ)):∀(n i j:Nat),i<=j->j<=z ns->j-i<=n->
  ∃N:Nat,N<=z ns/\aH C (ai C) 26 [1,5,6] jT [(1,.ea (.func lD) [] [.c8 a 0,.c8 b 0]),(5,.cU r i),(6,.cU r j)] O=J (.dq 0,[(5,.cU r N)],O)
 |n,i,j,w,hj,A=>by
  rw[aA (he:=rfl)];by_cases h:i<j
  ·have c:((i:Int)<(j:Int)):=(by omega);obtain⟨n,rfl⟩:∃m,n=m+1:=⟨n-1,by omega⟩;obtain⟨N,q⟩:=atZ d ns x O a b e hb ((i+j)/2) (by omega);have g:=Og d ns p x O a b e hb n ((i+j)/2+1) j (by omega) hj (by omega);have l:=Og d ns p x O a b e hb n i ((i+j)/2) (by omega) (by omega) (by omega);have s:IntKind.i64.wrap ((i:Int)+(j:Int))=((i+j:Nat):Int):=wrE (by omega);have t:IntKind.u64.wrap ((i+j:Nat):Int)=((i+j:Nat):Int):=wu64 (by omega) (by omega);have u:((i+j:Nat):Int).fdiv (2^min 1 IntKind.u64.bits)=(((i+j)/2:Nat):Int):=by show((i+j:Nat):Int).fdiv 2=_;grind
   have v:IntKind.i64.wrap ((((i+j)/2:Nat)):Int)=(((i+j)/2:Nat):Int):=wrE (by omega);have y:IntKind.i64.wrap ((((i+j)/2:Nat))+1:Int)=(((i+j)/2+1:Nat):Int):=wrE (by omega);have n1:¬((1:Int)<0):=(by omega);generalize D:aH C (ai C) 26 [1,5,6] jT=k at*;generalize E:(i+j)/2=m at*;cases N;·obtain⟨o,r1,f⟩:=g;refine⟨o,r1,?_⟩;simp only[jT,c,s,t,u,v,y,n1,q,jH,f,a98,a09,EVX,seval]
   ·obtain⟨o,r1,f⟩:=l;refine⟨o,r1,?_⟩;simp only[jT,c,s,t,u,v,n1,q,jH,f,a98,a09,EVX,seval]
  ·have c:¬((i:Int)<(j:Int)):=(by omega);refine⟨i,by omega,?_⟩;simp only[jT,c,EVX,seval]
def sort_Search (e:Has C Jg I7) (d:Has C lD xn) (ns:List LU) (g:z ns<=8192) (x:LU) (O:St) (a b:Nat) (f:O[a]?=J (.cH [.sl (z ns) (ns.map .cV)] FZ)) (hb:O[b]?=J (.cH [.cV x] FZ)):
  ∃h:Nat,h<=z ns/\ai C Jg [.cU r (z ns),.ea (.func lD) [] [.c8 a 0,.c8 b 0]] O=J (.cU r h,O):=by
 have c:hand eF [.cU r (z ns),.ea (.func lD) [] [.c8 a 0,.c8 b 0]] O=J ([.cU r (z ns),.ea (.func lD) [] [.c8 a 0,.c8 b 0]],O):=rfl;obtain⟨h,r1,q⟩:=Og d ns g x O a b f hb (z ns) 0 (z ns) (by omega) (by omega) (by omega);refine⟨h,r1,?_⟩;rw[e.go c];simp only[ay1]at q;simp only[I7,q,EVX,seval]
structure Yi(C:Ctx):Prop where
 nA:Has C sF rJ
 mc:Has C oQ jR
 kp:Has C Jg I7
 f1:Has C lD xn
 j4:Has C Ui Fb
def aiY (H:Yi C) (ns:List LU) (c:z ns<=8192) (x:LU) (O:St) (d:Ok O):
  ∃(k:Int) (b:Bool),ai C Ui [.sl (z ns) (ns.map .cV),.cV x] O=J (.df [.cU r k,.cX b],O)/\(b=eT->0<=k)/\k<=z ns:=by
 have e:∀(k:Int) (b:Bool) (L:St),tidy (z O) [.cU r k,.cX b] (O++L)=O:=λk b L=>bz d rfl L;rw[H.j4.go (NVs.e (.cW (aeN ns) (.cW (.cV _) .de)) _)];obtain⟨b,hb⟩:=Yf H.nA ns c (O++[.cH [.sl (z ns) (ns.map .cV)] FZ,.cH [.cV x] FZ]);obtain⟨k,f,i⟩:=slices_Index H.mc ns x c (O++[.cH [.sl (z ns) (ns.map .cV)] FZ,.cH [.cV x] FZ]);obtain⟨j,r1,hr⟩:=sort_Search H.kp H.f1 ns c x (O++[.cH [.sl (z ns) (ns.map .cV)] FZ,.cH [.cV x] FZ]) (z O) (z O+1) (by rw[aF];rfl) (by rw[aN];rfl);cases b;·refine⟨k,decide (k>=0),?_,by simp,by omega⟩;simp only[Fb,hb,f,e,EVX,seval]
 ·by_cases h:j<z ns;·have a:((j:Int)<(z ns:Int)):=(by omega);have g:(0:Int)<=(j:Int):=(by omega);have d2:=Vk ns j h;have sl:=Vl ns;refine⟨j,decide (ns[j]=x),?_,λ_=>by omega,by omega⟩;simp only[Fb,hb,hr,e,h,a,g,d2,sl,a88,aG6,EVX,seval]
  ·have a:¬((j:Int)<(z ns:Int)):=(by omega);refine⟨j,eF,?_,λh=>absurd h (by decide),by omega⟩;simp only[Fb,hb,hr,e,a,EVX,seval]
def Zp(a b:AV)(l m:LA):wE (a::l) (b::m)=(diff a b||wE l m):=by rw[wE]
def ad1:∀(l m:List LU),z l=z m->wE (l.map .cV) (m.map .cV)=eF->l=m
 |[],[],_,_=>rfl|[],_::_,h,_=>by simp at h
 |_::_,[],h,_=>by simp at h
 |a::l,b::m,h,c=>by
  rw[az3,az3,Zp,aE2]at c;have d:a=b:=by have:=c.1;unfold diff at this;rw[kZ]at this;simpa using this
  rw[d,ad1 l m (by simpa using h) c.2]
mutual
def JW.cE:∀(x y:JW) (R b:LA),wE (x.B++R) (y.B++b)=eF->x=y/\wE R b=eF
 |.mk k n t ns is,.mk e f g c a,R,b,h=>by
  rw[JW.B,JW.B]at h;simp only[a09,a98,Zp,aE2]at h;obtain⟨d,h2,h3,h4,h5,h6⟩:=h;unfold diff at d h2 h3 h4 h5;have e1:k=e:=(by simpa using d);have e2:n=f:=(by simpa using h2);have e3:t=g:=by rw[kZ]at h3;simpa using h3
  rw[aE2]at h4 h5;have e4:ns=c:=ad1 _ _ (by simpa using h4.1) h4.2;have e5:is=a:=BO.cE is a (by simpa using h5.1) h5.2;exact⟨by rw[e1,e2,e3,e4,e5],h6⟩
def BO.cE:∀(l m:List JW),z l=z m->wE (BO l) (BO m)=eF->l=m
 |[],[],_,_=>rfl|[],_::_,h,_=>by simp at h
 |_::_,[],h,_=>by simp at h
 |a::l,b::m,h,c=>by rw[BO,BO]at c;obtain⟨d,h2⟩:=JW.cE a b _ _ c;rw[d,BO.cE l m (by simpa using h) h2]
end
def JV.k1{x y:JV}(h:x.w≠y.w)(R a:LA):wE (x.B++R) (y.B++a)=eT:=by
 cases b:wE (x.B++R) (y.B++a);·exact absurd (JW.cE x.w y.w R a b).1 h
 ·rfl
def JV.di(j:JV):∃(k n:Int) (t:LU) (ns:List LU) (is:List JV),j.B=[.cU .u8 k,.cU r n,.cV t,.sl (z ns) (ns.map .cV),.sl (z is) (aJ is)]/\z ns<=8192/\z is<=8192/\(∀x∈is,SizeOf.sizeOf x.w<SizeOf.sizeOf j.w)/\∃a h3 h2 h4,j=JV.mk k n t ns is a h3 h2 h4:=by obtain⟨k,n,t,ns,is,a,h3,h2,h4,rfl⟩:=j.ex;refine⟨k,n,t,ns,is,JV.bB ..,by omega,h2,?_,a,h3,h2,h4,rfl⟩;intro x b;show SizeOf.sizeOf x.w<SizeOf.sizeOf (JW.mk k n t ns (is.map (·.w)));have:SizeOf.sizeOf x.w<SizeOf.sizeOf (is.map (·.w)):=List.sizeOf_lt_of_mem (List.mem_map_of_mem b);simp;omega
def Abv(is:List JV)(x:AV):Prop:=x=.ev\/∃(a:JV) (R:LA),x=.em (a.B++R)/\ae 0 R=eT/\∀j∈is,SizeOf.sizeOf j.w<SizeOf.sizeOf a.w
def Abv.nv{is:List JV}{x:AV}(h:Abv is x):NV x:=by
 rcases h with rfl|⟨a,R,rfl,b,_⟩;·exact⟨λ_ _=>rfl,rfl⟩
 ·exact⟨λ_ _=>rfl,by rw[below];exact Dj _ _ a.ay b⟩
def atA(np:Bool){is:List JV}{x:AV}(h:Abv is x)(j:JV)(hj:j∈is)(R:LA):Ac np .eql 3 eF (.em (j.B++R)) x=J (.cX eF):=by
 rcases h with rfl|⟨a,b,rfl,_,hs⟩;·cases np<;>rfl
 ·have c:=JV.k1 (x:=j) (y:=a) (by
   intro e;have:=hs j hj;rw[e]at this;omega) R b
  obtain⟨k,n,t,ns,d,e1,_⟩:=j.di;obtain⟨m,o,p,g,f,e2,_⟩:=a.di;have hb:Ac np .eql 3 eF (.em (j.B++R)) (.em (a.B++b))=binOp .eql 3 eF (.em (j.B++R)) (.em (a.B++b)):=by
   cases np;·rfl
   ·unfold Ac;rw[show ait (.em (j.B++R)) (.em (a.B++b))=eF from by rw[e1,e2];rfl]
  rw[hb];show xy .eql (eqA 3 eF (.em (j.B++R)) (.em (a.B++b)))=_;have i:Ot (j.B++R)=eT:=by rw[e1];rfl
  have l:Ot (a.B++b)=eT:=by rw[e2];rfl
  show(if wE (j.B++R) (a.B++b)&&(Ot (j.B++R)&&Ot (a.B++b))then J eF else U).map AV.cX=_;rw[c,i,l];rfl
def AP(is:List JV)(i:Nat)(h:i<z is):(aJ is).drop (i*5)=is[i].B++aJ (is.drop (i+1)):=by
 induction is generalizing i with
 |nil=>simp at h
 |cons j l a=>
  cases i with
  |zero=>simp[aJ]|succ i=>rw[aJ,aF9,Nat.one_mul,aI3,<-JV.dt j,List.drop_append,aH2 (by omega),a98];rw[show z j.B+i*z j.B-z j.B=i*5 from by rw[JV.dt];omega];have:=a i (by simpa using h);simpa using this
def ao7(is:List JV):NV (.sl (z is) (aJ is)):=.sl _ (gY is)
def TZ (is:List JV) (E:z is<=8192) (lv:Int) (x:AV) (f:Abv is x)
  (d:∀(b:List JV) (g:Int) (u:AV) (O:St),(∃j∈is,∀y∈b,SizeOf.sizeOf y.w<SizeOf.sizeOf j.w)->z b<=8192->Abv b u->ai C oU [.sl (z b) (aJ b),.cU r g,u,.cX eF] O=J (.cX eF,O)) (O:St):∀(n i:Nat),i+n=z is->
  aH C (ai C) 55 [0,1,2,3,13,14] iU [(0,.sl (z is) (aJ is)),(1,.cU r lv),(2,x),(3,.cX eF),(13,.cU r (z is)),(14,.cU r i)] O=J (.dq 0,[],O)
 |0,i,hi=>by rw[aA (he:=rfl)];have h:¬((i:Int)<(z is:Int)):=(by omega);simp only[iU,h,EVX,seval]
 |n+1,i,hi=>by
  have h:((i:Int)<(z is:Int)):=(by omega);have h2:i<z is:=(by omega);have s:=wrS i (by omega);have q:(0:Int)<=(i:Int):=(by omega);have d2:=AP is i h2;have sl:=jF is;have p:=TZ is E lv x f d O n (i+1) (by omega);have hj:is[i]∈is:=aB3 h2;generalize is[i]=j at*;generalize A:aJ (is.drop (i+1))=R at*;have e:ae 0 R=eT:=by rw[<-A];exact gY _
  have ne:=atA C.np f j hj R;obtain⟨k,m,t,ns,b,e1,l1,l2,hs,_⟩:=j.di;have ca:=d b (IntKind.i64.wrap (lv+1)) x O ⟨j,hj,hs⟩ l2 (by
   rcases f with h|⟨a,w,h,hb,D⟩;·exact .inl h
   ·exact .inr ⟨a,w,h,hb,λy F=>Nat.lt_trans (hs y F) (D j hj)⟩)
  have cb:=d b (IntKind.i64.wrap (lv+1)) (.em (j.B++R)) O ⟨j,hj,hs⟩ l2 (.inr ⟨j,R,rfl,e,hs⟩);have l:((j.B++R).drop 4).head? =J (.sl (z b) (aJ b)):=by rw[e1];rfl
  have o:4<=z (j.B++R):=by rw[a04,JV.dt];omega
  rw[aA (he:=rfl)];generalize G:aH C (ai C) 55 [0,1,2,3,13,14] iU=H at*;generalize hv:IntKind.i64.wrap (BitVec.ofInt IntKind.i64.bits lv&&&BitVec.ofInt IntKind.i64.bits (IntKind.i64.wrap (lv-1))).toNat=v;cases c:(v==0);·simp only[iU,h,h2,s,q,d2,sl,ne,hv,c,ca,l,o,p,a88,EVX,seval]
  ·simp only[iU,h,h2,s,q,d2,sl,ne,hv,c,cb,l,o,p,a88,EVX,seval]
def QF(e:Has C oU wz):∀(k:Nat) (is:List JV) (lv:Int) (x:AV) (O:St),(∀y∈is,SizeOf.sizeOf y.w<k)->z is<=8192->Abv is x->ai C oU [.sl (z is) (aJ is),.cU r lv,x,.cX eF] O=J (.cX eF,O)
 |k,is,lv,x,O,i,l,f=>by
  have g:=TZ is l lv x f (C:=C) (λc d o h hs a b=>by
   obtain⟨j,hj,hs⟩:=hs;have p:=i j hj;obtain⟨k,rfl⟩:∃n,k=n+1:=⟨k-1,by omega⟩;exact QF e k c d o h (λy m=>by have:=hs y m;omega) a b) O (z is) 0 (by omega)
  rw[e.go (NVs.e (.cW (ao7 is) (.cW (.cU _ _) (.cW f.nv (.cW (.cX _) .de)))) _)];simp only[ay1]at g;simp only[wz,g,EVX,seval]
def afx(a:Has C oU wz)(is:List JV)(b:z is<=8192)(lv:Int)(O:St):ai C oU [.sl (z is) (aJ is),.cU r lv,.ev,.cX eF] O=J (.cX eF,O):=
 QF a (SizeOf.sizeOf (is.map (·.w))) is lv .ev O (λy c=>List.sizeOf_lt_of_mem (List.mem_map_of_mem c)) b (.inl rfl)
def pG{O S:St}{vs:LA}(a:Ok O)(hv:ae 0 vs=eT)(h:S.take (z O)=O):tidy (z O) vs S=O:=by have c:AO.below 0 .eq=eT:=rfl;have b:O.set (z O) .eq=O:=List.set_eq_of_length_le (a06 _);have:=AY (o:=z O) (x:=.eq) a c hv (by rw[b,h]);rw[this,b]
def YJ(C:Ctx):Prop:=∀(ns:List LU) (O:St),z ns<=8192->Ok O->ai C iC [.sl (z ns) (ns.map .cV)] O=J (.sl (z ns) (ns.map .cV),O)
def agG(a b c d:Nat):same (.dj a b c d) (.dj a b c d)=eT:=by simp[same]
def adk.cE{Y:St}{n0:Nat}{is:List JV}{x:AV}(h:adk Y n0 is x):same x x=eT:=by
 rcases h with⟨_,rfl⟩|⟨_,q,rfl,_⟩;·rfl
 ·exact agG ..
theorem adk.flat{Y:St}{n0:Nat}{is:List JV}{x:AV}(h:adk Y n0 is x):x.C=eT:=by rcases h with⟨_,rfl⟩|⟨_,q,rfl,_⟩<;>rfl
def ack{Y:St}{n0 m:Nat}{is:List JV}{x:AV}(h:adk Y n0 is x)(k n:Int)(t:LU)(ns:List LU)(d:m<=n0):∃a,hand eF [.da [.cU .u8 k,.cU r n,.cV t,.sl (z ns) (ns.map .cV),x]] Y=J ([.da [.cU .u8 k,.cU r n,.cV t,.sl (z ns) (ns.map .cV),.sl (z is) (aJ is)]],a)/\a.take m=Y.take m:=by
 rcases h with⟨rfl,rfl⟩|⟨_,q,rfl,b,c⟩;·refine⟨Y,?_,rfl⟩;rw[lF,aO,bG,aO,aO,aO,aO,aO,dO,qY];rfl
 ·refine⟨_,?_,dK Y m q (by omega) (.cH (aJ is) ⟨eT,U⟩)⟩;rw[lF,aO,bG,aO,aO,aO,aO,aO,G8 b (jF is) (GY is),qY,<-tu b];rfl
structure akM(O:St)(b:AO)(hd:LA)(is:List JV)(x:AV)(Y:St):Prop where
 m3:Ok Y
 hb:Y[O.length]?=some b
 ly:Y[O.length+1]?=some kG
 hv:Y[O.length+1+1]?=some (.cH (hd++[x]) FZ)
 nW:adk Y (O.length+1) is x
 lx:Y.take O.length=O
def akD{O S T:St}{n m:Nat}(h:n<=m)(e:S.take m=T.take m):S.take n=T.take n:=by have:=congrArg (List.take n) e;rwa[List.take_take,List.take_take,aF7 h]at this
def afs (is:List JV) (H:z is<=8192) (m:LA) (k n0:Int) (t:LU) (ns:List LU) (p:m=[.cU .u8 k,.cU r n0,.cV t,.sl (z ns) (ns.map .cV)]) (O:St) (b:AO)
  (A:∀j∈is,∀Y:St,Ok Y->ai C lC [j.av] Y=J (j.av,Y)):∀(n i:Nat),i+n=z is->∀(x:AV) (Y:St),akM O b m (is.take i) x Y->
  ∃(v:AV) (g:St),aH C (ai C) 32 [2,3,17,18,19] iJ [(2,.c8 (z O+1) 0),(3,.c8 (z O+1+1) 0),(17,.sl (z is) (aJ is)),(18,.cU r (z is)),(19,.cU r i)] Y=J (.dq 0,[(2,.c8 (z O+1) 0),(3,.c8 (z O+1+1) 0)],g)/\akM O b m is v g
 |0,i,hi,x,Y,I=>by have h:¬((i:Int)<(z is:Int)):=(by omega);refine⟨x,Y,?_,by rw[a95 (by omega)]at I;exact I⟩;rw[aA (he:=rfl)];simp only[iJ,h,EVX,seval]
 |n+1,i,hi,x,Y,I=>by
  obtain⟨hok,hb,hres,hv,his,hpre⟩:=I;have h:((i:Int)<(z is:Int)):=(by omega);have h2:i<z is:=(by omega);have V:=wrS i (by omega);have S:(0:Int)<=(i:Int):=(by omega);have d2:=AP is i h2;have sl:=jF is;have hj:is[i]∈is:=aB3 h2;have K:is.take (i+1)=is.take i++[is[i]]:=(by rw[aC5 h2]);generalize is[i]=j at*;generalize aJ (is.drop (i+1))=R at*;have l:=JV.dt j;have P:=JV.C j;have Q:(j.B++R).take 5=j.B:=by rw[<-l];simp
  have M:5<=z (j.B++R):=(by simp[l]);have s:j.B.take 5=j.B:=a95 (by rw[JV.dt];exact a06 _);have N:5<=z j.B:=by rw[JV.dt];exact a06 _
  have T:∀a b c d e:AV,splice [a,b,c,d,e] 0 j.B=j.B:=λa b c d e=>by simp[splice,l]
  have u:Ok (Y++[.cH j.B FZ]):=hok.H (by rw[a07,show AO.below 0 (.cH j.B FZ)=eT from j.ay];rfl);have q:=A j hj _ u;have sx:=his.cE;obtain⟨w,a1,a2,a3,a4,a5,a6,a7⟩:=ahy (o:=z O) j (.cH j.B FZ) his hok (by simp;omega) (by omega) hb hres hv;have lt:z (is.take i)=i:=by simp;omega
  rw[lt]at a1;have b1:=λL=>aj hv L;have E:=λL=>aj a5 L;have B:=λL y=>fK a5 L y;have F:=λL=>bK (rfl:z Y=_) L;have s1:=λL y=>iF (rfl:z Y=_) L y;subst p;dsimp only[List.cons_append,List.nil_append]at*;have f:Ok ((w++[AO.cH j.B FZ,AO.cH (aJ (is.take i++[j])) FZ]:St).set (z O+1+1) (.cH [.cU .u8 k,.cU r n0,.cV t,.sl (z ns) (ns.map .cV),.dj (z Y+1) 0 (i+1) 5] FZ)):=by refine Ok.bd (a7.H (by simp only[a07,az6,AO.below,JV.ay,gY,aA5])) _ ?_;rw[a04,a2];have:=aK (a99 (z Y+2)) _ (uU ns);simp only[AO.below,ae,below,a90,a94,this];simp
  rw[B]at f;have Z:z O+1+1<z Y:=(a00.mp hv).1;have D:akM O b [.cU .u8 k,.cU r n0,.cV t,.sl (z ns) (ns.map .cV)] (is.take (i+1)) (.dj (z Y+1) 0 (i+1) 5) (w.set (z O+1+1) (.cH [.cU .u8 k,.cU r n0,.cV t,.sl (z ns) (ns.map .cV),.dj (z Y+1) 0 (i+1) 5] FZ)++[.cH j.B FZ,.cH (aJ (is.take i++[j])) FZ]):=by
   rw[K];refine⟨f,aj (aG a3 (by omega) _) _,aj (aG a4 (by omega) _) _,aj (aX a5 _) _,.inr ⟨by simp,z Y+1,by simp[lt],?_,by omega⟩,?_⟩;·rw[vY (by rw[a96,a2])];rfl
   ·rw[oD _ _ _ (by rw[a96,a2];omega),dK _ _ _ (by omega)];exact(akD (O:=O) (by omega) a6).trans hpre
  obtain⟨v,g,e1,e2⟩:=afs is H _ k n0 t ns rfl O b A n (i+1) (by omega) _ _ D;refine⟨v,g,?_,e2⟩;rw[aA (he:=rfl)];generalize W:aH C (ai C) 32 [2,3,17,18,19] iJ=X at*;unfold JV.av at q;simp only[iJ,h,h2,V,S,d2,sl,q,sx,a1,b1,E,B,F,s1,e1,l,P,Q,M,s,T,a88,AV.cH,AV.C,EVX,seval]
def MH(c:YJ C)(i:Has C lC Bl):∀(m:Nat) (j:JV) (O:St),SizeOf.sizeOf j.w<m->Ok O->ai C lC [j.av] O=J (j.av,O)
 |0,j,O,l,_=>absurd l (by omega)
 |m+1,j,O,l,a=>by
  obtain⟨k,n,t,ns,is,e1,l1,l2,hs,F,h2,hj⟩:=j.di;have u:∀x∈is,∀Y:St,Ok Y->ai C lC [x.av] Y=J (x.av,Y):=λx y Y e=>MH c i m x Y (by have:=hs x y;omega) e;have f:Ok (O++[.cH j.B FZ,.cH [.cU .u8 0,.cU r 0,.cV [],.cY,.cY] FZ]):=a.H (by rw[a07,show AO.below 0 (.cH j.B FZ)=eT from j.ay];rfl)
  have cl:=c ns _ l1 f;have g:Ok (O++[.cH j.B FZ,kG,.cH [.cU .u8 k,.cU r n,.cV t,.sl (z ns) (ns.map .cV),.cY] FZ]):=a.H (by
   rw[a07,show AO.below 0 (.cH j.B FZ)=eT from j.ay];simp[kG,AO.below,ae,below,uU])
  obtain⟨b,d,q1,q2⟩:=afs is l2 _ k n t ns rfl O (.cH j.B FZ) u (z is) 0 (by omega) .cY _ ⟨g,by rw[aF];rfl,by rw[aN];rfl,by rw[aF1,aN];rfl,.inl ⟨rfl,rfl⟩,by simp⟩
  obtain⟨hok,hb,hres,hv,his,hpre⟩:=q2;obtain⟨B,v,o⟩:=ack (m:=z O) (is:=is) (n0:=z O+1) (Y:=d.set (z O+1) (.cH [.cU .u8 k,.cU r n,.cV t,.sl (z ns) (ns.map .cV),b] FZ)) (x:=b) (by
   rcases his with h|⟨e1,q,e2,e3,e4⟩;·exact .inl h
   ·exact .inr ⟨e1,q,e2,aG e3 (by omega) _,e4⟩) k n t ns (by omega)
  have p:=his.flat
  rw[dK _ _ _ (by omega),hpre]at o;have A:=pG (vs:=[.da [.cU .u8 k,.cU r n,.cV t,.sl (z ns) (ns.map .cV),.sl (z is) (aJ is)]]) a (by simp[ae,below,uU,gY]) o;have s:=aX hres (.cH [.cU .u8 k,.cU r n,.cV t,.sl (z ns) (ns.map .cV),b] FZ);have w:hand eF [j.av] O=J ([j.av],O):=NVs.e (.cW j.nv .de) _;unfold JV.av at*;rw[i.go w];have b1:∀(E:As),look E 2=.c8 (z O+1) 0->mD (z O) [.eS 2 eT 5] (J (.ef,E,d.set (z O+1) (.cH [.cU .u8 k,.cU r n,.cV t,.sl (z ns) (ns.map .cV),b] FZ)))=J (.da [.cU .u8 k,.cU r n,.cV t,.sl (z ns) (ns.map .cV),.sl (z is) (aJ is)],O):=λE h2=>by
   rw[xx];have:aU E (d.set (z O+1) (.cH [.cU .u8 k,.cU r n,.cV t,.sl (z ns) (ns.map .cV),b] FZ)) [.eS 2 eT 5]=J [.da [.cU .u8 k,.cU r n,.cV t,.sl (z ns) (ns.map .cV),b]]:=by simp only[aU,h2,s,pt,ay9,a90,a94,List.take];rfl
   rw[this];dsimp only;rw[v];dsimp only[bW];rw[A]
  rw[e1]at cl q1 hb;generalize G:mD=D at*;dsimp only[List.cons_append,List.nil_append,kG,Int.natCast_zero,Int.cast_ofNat_Int]at*;simp only[Bl,e1,cl,q1,hres,hv,p,AV.cH,aF1,splice,EVX,seval];refine b1 _ ?_;rfl
def abW (g:Has C oU wz) (is:List JV) (P:z is<=8192) (s:LA) (k n0:Int) (t:LU) (ns:List LU) (u:s=[.cU .u8 k,.cU r n0,.cV t,.sl (z ns) (ns.map .cV)]) (O:St) (b:AO)
  (D:∀j∈is,∀Y:St,Ok Y->ai C lC [j.av] Y=J (j.av,Y)):∀(n i:Nat),i+n=z is->∀(x:AV) (Y:St),akM O b s (is.take i) x Y->
  ∃(A:AV) (p:St),aH C (ai C) 36 [2,3,17,18,19] nV [(2,.c8 (z O+1) 0),(3,.c8 (z O+1+1) 0),(17,.sl (z is) (aJ is)),(18,.cU r (z is)),(19,.cU r i)] Y=J (.dq 0,[(2,.c8 (z O+1) 0),(3,.c8 (z O+1+1) 0)],p)/\akM O b s is A p
 |0,i,hi,x,Y,I=>by have h:¬((i:Int)<(z is:Int)):=(by omega);refine⟨x,Y,?_,by rw[a95 (by omega)]at I;exact I⟩;rw[aA (he:=rfl)];simp only[nV,h,EVX,seval]
 |n+1,i,hi,x,Y,I=>by
  obtain⟨hok,hb,hres,hv,his,hpre⟩:=I;have h:((i:Int)<(z is:Int)):=(by omega);have h2:i<z is:=(by omega);have w2:=wrS i (by omega);have Z:(0:Int)<=(i:Int):=(by omega);have d2:=AP is i h2;have sl:=jF is;have hj:is[i]∈is:=aB3 h2;have Q:is.take (i+1)=is.take i++[is[i]]:=(by rw[aC5 h2]);generalize is[i]=j at*;generalize aJ (is.drop (i+1))=R at*;have l:=JV.dt j;have V:=JV.C j;have W:(j.B++R).take 5=j.B:=by rw[<-l];simp
  have S:5<=z (j.B++R):=(by simp[l]);have v:j.B.take 5=j.B:=a95 (by rw[JV.dt];exact a06 _);have T:5<=z j.B:=by rw[JV.dt];exact a06 _
  have sp:∀a b c d e:AV,splice [a,b,c,d,e] 0 j.B=j.B:=λa b c d e=>by simp[splice,l]
  have w:Ok (Y++[.cH j.B FZ]):=hok.H (by rw[a07,show AO.below 0 (.cH j.B FZ)=eT from j.ay];rfl);have q:=D j hj _ w;obtain⟨k1,n1,t1,X,f,f1,f2,H,_⟩:=j.di;have en:=afx g f H 1 (Y++[.cH j.B FZ]);have K:(j.B.drop 4).head? =J (.sl (z f) (aJ f)):=by rw[f1];rfl
  have f5:4<=z j.B:=by rw[l];omega
  have sx:=his.cE;obtain⟨B,a1,a2,a3,a4,a5,a6,a7⟩:=ahy (o:=z O) j (.cH j.B FZ) his hok (by simp;omega) (by omega) hb hres hv;have lt:z (is.take i)=i:=by simp;omega
  rw[lt]at a1;have b1:=λL=>aj hv L;have G:=λL=>aj a5 L;have E:=λL y=>fK a5 L y;have M:=λL=>bK (rfl:z Y=_) L;have s1:=λL y=>iF (rfl:z Y=_) L y;subst u;dsimp only[List.cons_append,List.nil_append]at*;have m:Ok ((B++[AO.cH j.B FZ,AO.cH (aJ (is.take i++[j])) FZ]:St).set (z O+1+1) (.cH [.cU .u8 k,.cU r n0,.cV t,.sl (z ns) (ns.map .cV),.dj (z Y+1) 0 (i+1) 5] FZ)):=by refine Ok.bd (a7.H (by simp only[a07,az6,AO.below,JV.ay,gY,aA5])) _ ?_;rw[a04,a2];have:=aK (a99 (z Y+2)) _ (uU ns);simp only[AO.below,ae,below,a90,a94,this];simp
  rw[E]at m;have nl:z O+1+1<z Y:=(a00.mp hv).1;have F:akM O b [.cU .u8 k,.cU r n0,.cV t,.sl (z ns) (ns.map .cV)] (is.take (i+1)) (.dj (z Y+1) 0 (i+1) 5) (B.set (z O+1+1) (.cH [.cU .u8 k,.cU r n0,.cV t,.sl (z ns) (ns.map .cV),.dj (z Y+1) 0 (i+1) 5] FZ)++[.cH j.B FZ,.cH (aJ (is.take i++[j])) FZ]):=by
   rw[Q];refine⟨m,aj (aG a3 (by omega) _) _,aj (aG a4 (by omega) _) _,aj (aX a5 _) _,.inr ⟨by simp,z Y+1,by simp[lt],?_,by omega⟩,?_⟩;·rw[vY (by rw[a96,a2])];rfl
   ·rw[oD _ _ _ (by rw[a96,a2];omega),dK _ _ _ (by omega)];exact(akD (O:=O) (by omega) a6).trans hpre
  obtain⟨A,p,e1,e2⟩:=abW g is P _ k n0 t ns rfl O b D n (i+1) (by omega) _ _ F;refine⟨A,p,?_,e2⟩;rw[aA (he:=rfl)];generalize hk:aH C (ai C) 36 [2,3,17,18,19] nV=kk at*;unfold JV.av at q;simp only[nV,h,h2,w2,Z,d2,sl,q,en,K,sx,a1,b1,G,E,M,s1,e1,l,V,W,S,v,sp,a88,AV.cH,AV.C,EVX,seval]
structure CopyHas(C:Ctx):Prop where
 cl:YJ C
 nF:Has C lC Bl
 j1:Has C oU wz
 f0:Has C BM SC
def LG(H:CopyHas C)(j:JV)(O:St)(a:Ok O):ai C BM [j.av] O=J (j.av,O):=by
 obtain⟨k,n,t,ns,is,e1,l1,l2,hs,y,h2,hj⟩:=j.di;have o:∀x∈is,∀Y:St,Ok Y->ai C lC [x.av] Y=J (x.av,Y):=λx B Y d=>MH H.cl H.nF _ x Y (aH0 _) d;have e:Ok (O++[.cH j.B FZ,.cH [.cU .u8 0,.cU r 0,.cV [],.cY,.cY] FZ]):=a.H (by rw[a07,show AO.below 0 (.cH j.B FZ)=eT from j.ay];rfl)
 have cl:=H.cl ns _ l1 e;have f:Ok (O++[.cH j.B FZ,kG,.cH [.cU .u8 k,.cU r n,.cV t,.sl (z ns) (ns.map .cV),.cY] FZ]):=a.H (by
  rw[a07,show AO.below 0 (.cH j.B FZ)=eT from j.ay];simp[kG,AO.below,ae,below,uU])
 obtain⟨b,c,q1,q2⟩:=abW H.j1 is l2 _ k n t ns rfl O (.cH j.B FZ) o (z is) 0 (by omega) .cY _ ⟨f,by rw[aF];rfl,by rw[aN];rfl,by rw[aF1,aN];rfl,.inl ⟨rfl,rfl⟩,by simp⟩
 obtain⟨hok,hb,hres,hv,his,hpre⟩:=q2;obtain⟨v,p,g⟩:=ack (m:=z O) (is:=is) (n0:=z O+1) (Y:=c.set (z O+1) (.cH [.cU .u8 k,.cU r n,.cV t,.sl (z ns) (ns.map .cV),b] FZ)) (x:=b) (by
  rcases his with h|⟨e1,q,e2,e3,e4⟩;·exact .inl h
  ·exact .inr ⟨e1,q,e2,aG e3 (by omega) _,e4⟩) k n t ns (by omega)
 have i:=his.flat
 rw[dK _ _ _ (by omega),hpre]at g;have u:=pG (vs:=[.da [.cU .u8 k,.cU r n,.cV t,.sl (z ns) (ns.map .cV),.sl (z is) (aJ is)]]) a (by simp[ae,below,uU,gY]) g;have l:=aX hres (.cH [.cU .u8 k,.cU r n,.cV t,.sl (z ns) (ns.map .cV),b] FZ);have s:hand eF [j.av] O=J ([j.av],O):=NVs.e (.cW j.nv .de) _;unfold JV.av at*;rw[H.f0.go s];have b1:∀(E:As),look E 2=.c8 (z O+1) 0->mD (z O) [.eS 2 eT 5] (J (.ef,E,c.set (z O+1) (.cH [.cU .u8 k,.cU r n,.cV t,.sl (z ns) (ns.map .cV),b] FZ)))=J (.da [.cU .u8 k,.cU r n,.cV t,.sl (z ns) (ns.map .cV),.sl (z is) (aJ is)],O):=λE h2=>by
  rw[xx];have:aU E (c.set (z O+1) (.cH [.cU .u8 k,.cU r n,.cV t,.sl (z ns) (ns.map .cV),b] FZ)) [.eS 2 eT 5]=J [.da [.cU .u8 k,.cU r n,.cV t,.sl (z ns) (ns.map .cV),b]]:=by simp only[aU,h2,l,pt,ay9,a90,a94,List.take];rfl
  rw[this];dsimp only;rw[p];dsimp only[bW];rw[u]
 rw[e1]at cl q1 hb;generalize A:mD=w at*;dsimp only[List.cons_append,List.nil_append,kG,Int.natCast_zero,Int.cast_ofNat_Int]at*;simp only[SC,e1,cl,q1,hres,hv,i,AV.cH,aF1,splice,EVX,seval];refine b1 _ ?_;rfl
def amj(H:CopyHas C)(F:Yi C)(u:Has C Ej Az)(j:JV)(x:LU)(O:St)(g:Ok O):∃(w:JV) (b:Bool),ai C Ej [j.av,.cV x] O=J (.df [w.av,.cX b],O):=by
 obtain⟨k,n,t,ns,is,e1,l1,l2,hs,K,h2,hj⟩:=j.di;have v:hand eF [j.av,.cV x] O=J ([j.av,.cV x],O):=NVs.e (.cW j.nv (.cW (.cV _) .de)) _;have m:∀(b:Bool) (L:St),tidy (z O) [.da [.cU .u8 0,.cU r 0,.cV [],.sl 0 [],.sl 0 []],.cX b] (O++L)=O:=λb L=>bz g rfl L;have h:Ok (O++[.cH j.B FZ,.cH [.cU .u8 0,.cU r 0,.cV [],.cY,.cY] FZ]):=g.H (by rw[a07,show AO.below 0 (.cH j.B FZ)=eT from j.ay];rfl);obtain⟨a,b,q1,q2,q3⟩:=aiY F ns l1 x _ h;rw[u.go v];unfold JV.av;rw[e1]at q1 h;rw[e1];cases i:(k !=5)
 ·cases b;·refine⟨JV.aa,eF,?_⟩;rw[JV.ba];simp only[Az,i,q1,m,aU,bG,dO,AV.cH,AV.C,splice,EVX,seval]
  ·have q:=q2 rfl;obtain⟨a,rfl⟩:=Int.eq_ofNat_of_zero_le q;by_cases s:a<z is
   ·have f:¬((z is:Int)<=(a:Int)):=(by omega);have d2:=AP is a s;have sl:=jF is;generalize is[a]=y at*;generalize aJ (is.drop (a+1))=R at*;have l:=JV.dt y;have G:=JV.C y;have I:(y.B++R).take 5=y.B:=by rw[<-l];simp
    have D:5<=z (y.B++R):=(by simp[l]);have o:y.B.take 5=y.B:=a95 (by rw[JV.dt];exact a06 _);have E:5<=z y.B:=by rw[JV.dt];exact a06 _
    have A:∀a b c d e:AV,splice [a,b,c,d,e] 0 y.B=y.B:=λa b c d e=>by simp[splice,l]
    have p:=LG H y _ h;have B:∀(b:Bool) (L:St),tidy (z O) [.da y.B,.cX b] (O++L)=O:=λb L=>bz g (by rw[ae,below,y.ay];rfl) L;have nf:=λY N=>y.af.nf Y N;refine⟨y,eT,?_⟩;unfold JV.av at p;simp only[Az,i,q1,s,f,q,d2,sl,p,l,G,I,D,o,A,B,nf,a88,aU,bG,AV.cH,EVX,seval]
   ·have f:((z is:Int)<=(a:Int)):=(by omega);refine⟨JV.aa,eF,?_⟩;rw[JV.ba];simp only[Az,i,q1,f,m,aU,bG,dO,AV.cH,AV.C,splice,EVX,seval]
 ·refine⟨JV.aa,eF,?_⟩;rw[JV.ba];simp only[Az,i,m,aU,bG,dO,AV.cH,AV.C,splice,EVX,seval]
def Z7:∀is:List JV,aJ is=is.flatMap JV.B
 |[]=>by rw[aJ];rfl
 |j::l=>by rw[aJ,Z7 l,aC7]
def aac (k n:Int) (t:LU) (ns:List LU) (I:AV) (d:z ns<=1099511627776) (O:St) (X:AO) (a:X=.cH [.cU .u8 k,.cU r n,.cV t,.sl (z ns) (ns.flatMap sC),I] FZ):∀(m i:Nat),i+m=z ns->
  aH C (ai C) 81 [2,3,5] jc [(2,.c8 (z O) 0),(3,.c8 (z O+1) 0),(5,.cU r i)] (O++[X,X])=J (.dq 0,[(2,.c8 (z O) 0),(3,.c8 (z O+1) 0)],O++[X,X])
 |0,i,hi=>by rw[aA (he:=rfl)];have h:¬((i:Int)<(z ns:Int)):=(by omega);have fl:=bZ Ob ns;rw[aB5]at fl;subst a;simp only[jc,h,bP,aF,EVX,seval]
 |m+1,i,hi=>by rw[aA (he:=rfl)];have h:((i:Int)<(z ns:Int)):=(by omega);have h2:i<z ns:=(by omega);have hb:ns[i]?=J ns[i]:=a02 h2;have e:=wrS i (by omega);have h3:(0:Int)<=i:=(by omega);have fl:=bZ Ob ns;have fd:=kK Ob hb;obtain⟨p,b⟩:∃p,p=ns[i]:=⟨_,rfl⟩;rw[<-b,aB5]at fd;rw[aB5]at fl;have pc:sC p=[.cV p]:=rfl;have f:=aac k n t ns I d O X a m (i+1) (by omega);subst a;generalize g:aH C (ai C) 81 [2,3,5] jc=k at*;simp only[jc,h,h2,h3,e,fl,fd,pc,bP,f,aF,aN,a09,aB5,EVX,seval]
def ad7 (k n:Int) (t:LU) (N:AV) (is:List JV) (u:z is<=8192) (O:St) (X:AO) (f:X=.cH [.cU .u8 k,.cU r n,.cV t,N,.sl (z is) (is.flatMap JV.B)] FZ) (o:Ok (O++[X,X])) (l:∀j∈is,∀Y,Ok Y->ai C ji [j.av,j.av] Y=J (.cX eT,Y)):∀(m i:Nat),i+m=z is->
  aH C (ai C) 81 [2,3,6] kC [(2,.c8 (z O) 0),(3,.c8 (z O+1) 0),(6,.cU r i)] (O++[X,X])=J (.dq 2,[],O++[X,X])
 |0,i,hi=>by rw[aA (he:=rfl)];have h:¬((i:Int)<(z is:Int)):=(by omega);subst f;simp only[kC,h,bP,aF,EVX,seval]
 |m+1,i,hi=>by
  rw[aA (he:=rfl)];have h:((i:Int)<(z is:Int)):=(by omega);have h2:i<z is:=(by omega);have hb:is[i]?=J is[i]:=a02 h2;have v:=wrS i (by omega);have h3:(0:Int)<=i:=(by omega);have fl:=bZ JV.dt is;have fd:=kK JV.dt hb;have q:=l is[i] (aB3 h2) _ o;obtain⟨p,g⟩:∃p,p=is[i]:=⟨_,rfl⟩;rw[<-g]at fd q;unfold JV.av at q;obtain⟨a,b,c,d,e,pc⟩:∃a b c d e,p.B=[a,b,c,d,e]:=by
   have:=JV.dt p
   match h:p.B,this with
   |[a,b,c,d,e],_=>exact⟨a,b,c,d,e,rfl⟩
  have y:([a,b,c,d,e]:LA).all AV.C=eT:=by rw[<-pc];exact JV.C p
  rw[pc]at fd q;have w:=ad7 k n t N is u O X f o l m (i+1) (by omega);subst f;generalize x:aH C (ai C) 81 [2,3,6] kC=k at*;simp only[kC,h,h2,h3,v,fl,fd,q,bP,w,aF,aN,a09,aG8,List.take_zero,EVX,seval]
def XJ(c:Has C ji qH):∀(m:Nat) (j:JV) (O:St),SizeOf.sizeOf j.w<m->Ok O->ai C ji [j.av,j.av] O=J (.cX eT,O)
 |0,j,O,e,_=>absurd e (by omega)
 |m+1,j,O,e,a=>by
  obtain⟨k,n,t,ns,is,e1,l1,l2,hs,p,h2,hj⟩:=j.di;have h:∀x∈is,∀Y:St,Ok Y->ai C ji [x.av,x.av] Y=J (.cX eT,Y):=λx l Y b=>XJ c m x Y (by have:=hs x l;omega) b
  have f:hand eF [j.av,j.av] O=J ([j.av,j.av],O):=NVs.e (.cW j.nv (.cW j.nv .de)) _;rw[auP,Z7]at e1;have d:Ok (O++[.cH j.B FZ,.cH j.B FZ]):=a.H (by
   have:AO.below 0 (.cH j.B FZ)=eT:=j.ay;grind)
  rw[e1]at d;have g:=aac (C:=C) k n t ns (.sl (z is) (is.flatMap JV.B)) (by omega) O _ rfl (z ns) 0 (by omega);have lq:=ad7 (C:=C) k n t (.sl (z ns) (ns.flatMap sC)) is l2 O _ rfl d h (z is) 0 (by omega);simp only[ay1]at g lq;have fl:=bZ Ob ns;have i:=bZ JV.dt is;rw[aB5]at fl;have o:=bz a (vs:=[.cX eT]) rfl;unfold JV.av at f⊢;rw[c.go f,e1];simp only[qH,g,lq,bP,o,aF,aN,AV.cH,a09,EVX,seval]
def aix(b:Has C ji qH)(j:JV)(O:St)(a:Ok O):ai C ji [j.av,j.av] O=J (.cX eT,O):=XJ b _ j O (aH0 _) a
def rC(n:Int)(hs:List PS)(j:JV):LA:=.cU r n::.sl (z hs) (hs.flatMap pC)::j.B
theorem agm(n:Int)(hs:List PS)(j:JV):ae 0 (rC n hs j)=eT:=by unfold rC;have h:below 0 (.sl (z hs) (hs.flatMap pC))=eT:=(wL hs).cl;rw[ae,ae,h,j.ay];rfl
def auJ(n:Int)(hs:List PS)(j:JV):z (rC n hs j)=7:=by simp[rC,JV.dt]
def aiy(g:Has C Ah zX)(i:Has C nJ nG)(l:Has C ji qH)(n:Int)(hs:List PS)(m:z hs<=1099511627776)(j:JV)(O:St)(f:Ok O):ai C Ah [.da (rC n hs j),.da (rC n hs j)] O=J (.cX eT,O):=by
 have nv:NV (.da (rC n hs j)):=.da (.cW (.cU _ _) (.cW (wL hs) j.af));have k:Ok (O++[.cH (rC n hs j) FZ,.cH (rC n hs j) FZ]):=f.H (by
  grind [AO.below,agm])
 rw[g.go (NVs.e (.cW nv (.cW nv .de)) _)];have q1:=V8 i hs m;have q2:=aix l j _ k;unfold JV.av at q2;obtain⟨a,b,c,d,e,pc⟩:∃a b c d e,j.B=[a,b,c,d,e]:=by
  have:=JV.dt j
  match h:j.B,this with
  |[a,b,c,d,e],_=>exact⟨a,b,c,d,e,rfl⟩
 have p:([a,b,c,d,e]:LA).all AV.C=eT:=by rw[<-pc];exact JV.C j
 have o:=bz f (vs:=[.cX eT]) rfl;unfold rC at q2⊢;rw[pc]at q2⊢;simp only[zX,q1,q2,o,aF,aN,AV.cH,a09,aG8,EVX,seval]
structure RoV where
 E:LU
 cp:Int
 O:List LU
 bS:Bool
 bb:List LU
 bN:List LU
def tC(ns:List LU):AV:=.sl (z ns) (ns.flatMap sC)
def RoV.B(d:RoV):LA:=[.cV d.E,.cU r d.cp,tC d.O,.cX d.bS,tC d.bb,tC d.bN]
theorem RoV.dt(d:RoV):z d.B=6:=rfl
def aq8(ns:List LU):below 0 (tC ns)=eT:=(nz ns).cl
theorem RoV.ay(d:RoV):ae 0 d.B=eT:=by unfold RoV.B;simp[ae,aq8,below]
structure RoV.ok(r:RoV):Prop where
 O:r.O.length<=1099511627776
 bb:r.bb.length<=1099511627776
 bN:r.bN.length<=1099511627776
def acU:∀l:LA,(∀v∈l,same v v=eT)->xk l l=eT
 |[],_=>by simp[xk]
 |v::l,h=>by rw[xk,h v (by simp),acU l λx a=>h x (by simp[a])];rfl
def arT(n:Nat)(l:LA)(h:∀v∈l,same v v=eT):same (.sl n l) (.sl n l)=eT:=by rw[same,acU l h];simp
def aex(ns:List LU):same (tC ns) (tC ns)=eT:=arT _ _ λv hv=>by obtain⟨s,_,hs⟩:=aG2.mp hv;simp only[sC,aB2]at hs;rw[hs];exact Oe _
def RoV.cE(d:RoV):∀v∈d.B,Ev.same v v=eT:=λv hv=>by
 simp only[RoV.B,az4,aE8,or_false]at hv;rcases hv with rfl|rfl|rfl|rfl|rfl|rfl;·exact Oe _
 ·exact Oc _ _
 ·exact aex _
 ·exact Pz _
 ·exact aex _
 ·exact aex _
structure JU where
 ak:List PS
 ap:List RoV
 cp:Int
 O:List LU
 dd:Int
 b4:LU
def JU.B(d:JU):LA:=[.sl (z d.ak) (d.ak.flatMap pC),.sl (z d.ap) (d.ap.flatMap RoV.B),.cU r d.cp,tC d.O,.cU r d.dd,.cV d.b4]
structure JU.ok(d:JU):Prop where
 ak:d.ak.length<=1099511627776
 ap:d.ap.length<=1099511627776
 cx:∀r∈d.ap,r.ok
 O:d.O.length<=1099511627776
def XL(l:List RoV):below 0 (.sl (z l) (l.flatMap RoV.B))=eT:=gu (λd=>d.ay) l
theorem JU.af(d:JU):NVs d.B:=.cW (wL d.ak) (.cW (.sl _ (XL d.ap)) (.cW (.cU _ _) (.cW (nz d.O) (.cW (.cU _ _) (.cW (.cV _) .de)))))
theorem JU.ay(d:JU):ae 0 d.B=eT:=d.af.cl
structure TgV where
 fk:LU
 n:Int
 hs:List PS
 j:JV
def TgV.B(t:TgV):LA:=.cV t.fk::rC t.n t.hs t.j
theorem TgV.dt(t:TgV):z t.B=8:=by rw[TgV.B,a90,auJ]
theorem TgV.ay(t:TgV):ae 0 t.B=eT:=by rw[TgV.B,ae,agm];rfl
structure fB where
 bL:Int
 bw:Int
 br:List TgV
 bj:JU
def fB.B(t:fB):LA:=.cU r t.bL::.cU r t.bw::.sl (z t.br) (t.br.flatMap TgV.B)::t.bj.B
def Ll:List Sh:=[.ds,.cU r,.eB [.ds],.cX,.eB [.ds],.eB [.ds]]
def aiW:List Sh:=[.ds,.cU r,.eB [.ds,.ds],.jv]
abbrev TsM(l:List LU):Prop:=M V0 (.eB [.ds]) (.sl (z l) (l.flatMap sC))
structure ahf(d:JU):Prop where
 ap:∀x∈d.ap,Ms V0 Ll x.B
 rl:d.ap.length<=8192
 km:M V0 (.eB [.ds,.ds]) (.sl d.ak.length (d.ak.flatMap pC))
 ak:d.ak.length<=8192/\∀x∈d.ak,x.1.length<=LB/\x.2.length<=LB
 O:TsM d.O
 b4:d.b4.length<=LB
structure YW(T:fB):Prop where
 br:∀t∈T.br,Ms V0 aiW t.B
 ll:T.br.length<=8192
 bj:ahf T.bj
structure fB.ok(t:fB):Prop where
 br:t.br.length<=1099511627776
 cx:∀x∈t.br,x.hs.length<=1099511627776
 bj:t.bj.ok
 g:YW t
theorem fB.af(t:fB):NVs t.B:=.cW (.cU _ _) (.cW (.cU _ _) (.cW (.sl _ (gu (λd=>d.ay) t.br)) t.bj.af))
structure lJ where
 th:Int
 O:List LU
def lJ.B(a:lJ):LA:=[.cU r a.th,.sl (z a.O) (a.O.flatMap sC)]
theorem lJ.dt(a:lJ):z a.B=2:=rfl
def Si(l:List LU):ae 0 (l.flatMap sC)=eT:=gu (λ_=>rfl) l
theorem lJ.below(a:lJ):ae 0 a.B=eT:=by simp only[lJ.B,ae,Ev.below,Si];rfl
def Yl(a:lJ):NV (.da a.B):=.da (.cW (.cU _ _) (.cW (.sl _ (Si _)) .de))
structure nI where
 E:LU
 cg:Int
 I:Int
 aL:List PS
def nI.B(p:nI):LA:=[.cV p.E,.cU r p.cg,.cU r p.I,.sl (z p.aL) (p.aL.flatMap pC)]
structure iK where
 id:LU
 hP:LU
 e7:LU
def iK.B(k:iK):LA:=[.cV k.id,.cV k.hP,.cV k.e7]
theorem iK.dt(k:iK):z k.B=3:=rfl
def ah7(l:List iK):NV (.sl (z l) (l.flatMap iK.B)):=.sl _ (gu (λ_=>rfl) l)
def afY(k:iK):Bool:=decide (300<z k.id)||decide (300<z k.hP)||decide (300<z k.e7)
def xK(l:List iK):Bool:=decide (60<z l)||l.any afY
def AQ (l:List iK) (o:z l<=60) (O:St):∀(n i:Nat),i+n=z l->
  aH C (ai C) 38 [0,3] cu [(0,.sl (z l) (l.flatMap iK.B)),(3,.cU r i)] O=if(l.drop i).any afY then J (.ef,[(2,.cX eT)],O)else J (.dq 0,[],O)
 |0,i,hi=>by rw[aA (he:=rfl)];have h:¬((i:Int)<(z l:Int)):=(by omega);have e:l.drop i=[]:=az1 (by omega);simp only[cu,h,e,List.any_nil,bP,EVX,seval]
 |n+1,i,hi=>by
  rw[aA (he:=rfl)];have h:((i:Int)<(z l:Int)):=(by omega);have h2:i<z l:=(by omega);have hb:l[i]?=J l[i]:=a02 h2;have e:l.drop i=l[i]::l.drop (i+1):=ay6 h2;have h3:(0:Int)<=i:=(by omega);have q:=wrS i (by omega);have fl:=bZ iK.dt l;have fd:=kK iK.dt hb;obtain⟨p,g⟩:∃p,p=l[i]:=⟨_,rfl⟩;rw[<-g]at fd e;have pc:p.B=[.cV p.id,.cV p.hP,.cV p.e7]:=rfl;have s:=AQ l o O n (i+1) (by omega);rw[e,List.any_cons,afY];generalize t:aH C (ai C) 38 [0,3] cu=k at*;by_cases d:300<z p.id;·have a:(300:Int)<(z p.id:Int):=(by omega);simp only[cu,h,h2,h3,d,a,fl,fd,pc,bP,aG0,EVX,seval]
  ·have a:¬(300:Int)<(z p.id:Int):=(by omega);by_cases f:300<z p.hP;·have b:(300:Int)<(z p.hP:Int):=(by omega);simp only[cu,h,h2,h3,d,a,f,b,fl,fd,pc,bP,aG0,aE4,EVX,seval]
   ·have b:¬(300:Int)<(z p.hP:Int):=(by omega);by_cases j:300<z p.e7;·have c:(300:Int)<(z p.e7:Int):=(by omega);simp only[cu,h,h2,h3,d,a,f,b,j,c,fl,fd,pc,bP,aG0,aE4,EVX,seval]
    ·have c:¬(300:Int)<(z p.e7:Int):=(by omega);simp only[cu,h,h2,h3,q,d,a,f,b,j,c,s,fl,fd,pc,bP,EVX,seval]
def Rt(d:Has C qO kU)(l:List iK)(O:St):ai C qO [.sl (z l) (l.flatMap iK.B)] O=J (.cX (xK l),O):=by
 rw[d.go (NVs.e (.cW (ah7 l) .de) _)];have fl:=bZ iK.dt l;unfold xK;by_cases c:60<z l;·have a:(60:Int)<(z l:Int):=(by omega);simp only[kU,c,a,bP,aG0,EVX,seval]
 ·have a:¬(60:Int)<(z l:Int):=(by omega);have b:=AQ (C:=C) l (by omega) O (z l) 0 (by omega);simp only[ay1,ay9]at b;cases e:l.any afY<;>rw[e]at b<;>simp only[kU,c,a,b,bP,EVX,seval]
theorem Ok.ab{Y:St}(h:Ok Y){L:St}(a:L.all (AO.below 0)=eT):Ok (Y++L):=h.eG (by
 rw[a97]at*;exactλx b=>AO.au (a99 _) x (a x b))
structure ahl(C:Ctx):Prop where
 m2:Has C Ud Sz
 dc:Has C Qg P6
 fz:VD C jk 3
def WF(l:List iK):AV:=.sl (z l) (l.flatMap iK.B)
def aeW(l:List iK):NV (WF l):=ah7 l
def ab4(l:List iK):below 0 (WF l)=eT:=(aeW l).cl
def acl:AO:=.cH [.eb 136 (.da [])] FZ
def WA(l:List iK):AO:=.cH [.eb 143 (.da [WF l])] FZ
def ara(H:ahl C)(O:St):ai C Ud [] O=J (.c8 (z O) 0,O++[acl]):=by have a:hand eF [] O=J ([],O):=rfl;have tk:∀Y,tidy (z O) [.c8 (z O) 0] Y=Y:=λY=>wW (by simp[ae,below]) Y;rw[H.m2.go a];simp only[Sz,acl,tk,EVX,seval]
def aqa(H:ahl C)(l:List iK)(c:z l<=60)(O:St):ai C Qg [WF l] O=J (.c8 (z O) 0,O++[WA l]):=by
 have tk:∀Y,tidy (z O) [.c8 (z O) 0] Y=Y:=λY=>wW (by simp[ae,below]) Y;have hs:(l.flatMap iK.B).all Wl=eT:=by rw[a97];intro x b;obtain⟨v,_,hv⟩:=aG2.mp b;simp only[iK.B,az4,aE8,or_false]at hv;rcases hv with rfl|rfl|rfl<;>rfl
 have a:=λY=>H.fz (z l) (l.flatMap iK.B) Y (by rw[bZ iK.dt]) (by omega) hs;rw[H.dc.go (NVs.e (.cW (aeW l) .de) _)];simp only[P6,WF,WA,a,tk,EVX,seval]
def PY(h:Bool)(l:List iK):AO:=match h with|eT=>acl|eF=>WA l
open Go.RowKit Classical
def Gh.eo(g:Gh)(o:Nat):Gh:={g with n:=1,ob:=λ_=>g.ob o,bs:=λ_=>g.bs o}
def adM(g:Gh)(o:Nat):(g.aP 0).le (g.eo o):=⟨rfl,a99 _,λ_ h=>(aI1 _ h).elim,λ_ h=>(aI1 _ h).elim,λ_ _ _ h=>h⟩
def aoX{g g':Gh}{w:World}{o b:Nat}{l:LA}{fz:Fz}(h:OR g w o (.cH l fz))(hb:ae 0 l=eT)(a:(g.aP 0).le g')(d:g'.ob b=g.ob o)(h2:g'.bs b=g.bs o)(h3:∀i v,g'.im (g.ob o) i=J v->g.im (g.ob o) i=J v):OR g' w b (.cH l fz):=by obtain⟨c,e,fr,a1,a2,a3,a4,a5,a6⟩:=h;refine⟨c,e,fr,by rw[d];exact a1,by rw[h2];exact a2,a3,λi x f=>?_,a5,λi v hv=>a6 i v (h3 i v (by rw[<-d];exact hv))⟩;obtain⟨v,b1,j⟩:=a4 i x f;exact⟨v,b1,(j.aP (Gj hb f)).D a⟩
def avg{g:Gh}{w:World}{O:St}{o:Nat}{l:LA}{fz:Fz}(c:WR g w O)(e:O[o]?=J (.cH l fz))(hb:ae 0 l=eT):WR (g.eo o) w [.cH l fz]:=
 ⟨rfl,c.im,c.uf,λk x a=>by
  cases k with
  |zero=>cases a;exact aoX (c.bx o _ e) hb (adM g o) rfl rfl λ_ _ h=>h|succ k=>simp at a,λk d x f a b _ _ _=>by
  cases k with
  |zero=>cases d with|zero=>rfl|succ d=>simp at b
  |succ k=>simp at a⟩
def ald{g:Gh}{w L:World}{O:St}{o:Nat}{l:LA}{fz:Fz}(B:WR g w O)(m:O[o]?=J (.cH l fz))(hb:ae 0 l=eT){g':Gh}(a:Goes (g.eo o) [.cH l fz] w g' [.cH l fz] L):Goes g O w {g with im:=g'.im} O L/\(g'.aP 0).le {g with im:=g'.im}:=by
 have I:g'.pl=g.pl:=a.le.pl;have H:g'.ob 0=g.ob o:=a.le.ob 0 (Nat.zero_lt_one);have F:g'.bs 0=g.bs o:=a.le.bs 0 (Nat.zero_lt_one);have A:(g'.aP 0).le {g with im:=g'.im}:=⟨I.symm,a99 _,λo m=>(aI1 _ m).elim,λo m=>(aI1 _ m).elim,λ_ _ _ h=>h⟩;have d:g.le {g with im:=g'.im}:=⟨rfl,a06 _,λ_ _=>rfl,λ_ _=>rfl,λb i v h=>a.le.im b i v h⟩;have q:∀b,b≠g.ob o->ads (g.eo o) [.cH l fz] b:=λb j k x h R e=>by
  cases k with
  |zero=>exact j e.symm|succ k=>simp at h
 refine⟨⟨d,⟨B.n,a.wr.im,λb i v hv=>(a.wr.uf b i v hv).imp (λe=>⟨(congrFun I b).symm.trans e.1,e.2⟩) id,λk x C=>?_,B.inj⟩,a.os,a.cO,a.bX,a.al,λb f K=>?_⟩,A⟩
 ·by_cases p:k=o;·subst p;rw[m]at C;cases C;exact aoX (g:=g') (o:=0) (a.wr.bx 0 _ rfl) hb A H.symm F.symm λ_ _ h=>h
  have E:=B.bx k x C;cases x with
  |eq=>trivial|cH l2 M=>obtain⟨c,e,fr,u,h2,h3,h4,h5,h6⟩:=E;have f:g.ob k<w.heap.size:=(aD0.mp u).1;have j:g.ob k≠g.ob o:=λe=>p (B.inj k o _ _ C m rfl rfl e);obtain⟨_,t,D⟩:=a.fr (g.ob k) f (q _ j);refine⟨c,e,fr,t.trans u,h2,h3,λi y P=>?_,h5,λi v hv=>h6 i v ((D i).symm.trans hv)⟩;obtain⟨v,hv,hr⟩:=h4 i y P;exact⟨v,hv,hr.D d⟩
  |ec Q=>
   obtain⟨s,clock,u,h2⟩:=E;have f:g.ob k<w.heap.size:=(aD0.mp u).1;have j:g.ob k≠g.ob o:=λe=>p (B.inj k o _ _ C m rfl rfl e);obtain⟨_,t,D⟩:=a.fr (g.ob k) f (q _ j);exact⟨s,clock,t.trans u,h2.al,h2.jr,λi k v G=>by
    obtain⟨e,N,E,hv,n⟩:=h2.lT i k v G;exact⟨e,N,E.D d,hv.D d,n⟩⟩
 ·obtain⟨_,t,D⟩:=a.fr b f (q b λe=>K o _ m rfl e.symm);exact⟨K,t,D⟩
structure YU(D C:Ctx):Prop where
 P:D.P=C.P
 gl:D.gl=C.gl
 np:D.np=C.np
 cl:∀n l,C.gl n=some l->ae 0 l=true
def YU.GL{D C:Ctx}(h:YU D C){g:Gh}(a:GL C g):GL D g:=⟨λn l b=>a.1 n l (by rw[<-h.gl];exact b),by rw[h.np];exact a.2⟩
def GL.aP{C:Ctx}{g g':Gh}(c:GL C g)(f:∀n l,C.gl n=J l->ae 0 l=eT)(a:(g.aP 0).le g'):GL C g':=⟨λn l d=>⟨((c.1 n l d).1.aP (f n l d)).D a,(congrFun a.pl n).trans (c.1 n l d).2⟩,c.2.imp id λe b=>(congrFun a.pl b).trans (e b)⟩
noncomputable def pFn(D:Ctx)(f:FuncId)(args:LA)(O:St):Option (AV×St):=
 match hand eF args O with
 |U=>U|J (a,b)=>if ae 0 a=eT then match ai D f a []with|J (v,[])=>J (v,b)|_=>U else U
def YU.lw{D C:Ctx}(h:YU D C){f:FuncId}{args:List Value}{w:World}{R:Value->World->Prop}(a:Does D.P f args w R):Does C.P f args w R:=by rw[<-h.P];exact a
def He{D C:Ctx}(hs:YU D C)(y:eY D (ai D))(f:FuncId):POK C f (pFn D f):=by
 intro args O v G h g w b u F A;unfold pFn at h;split at h;·cases h
 ·rename_i e H B;split at h
  ·rename_i hb;split at h;·rename_i v2 h2;cases h;obtain⟨i,a,p⟩:=tJ F eF B u;have c:=a.wr;have q:WR (i.aP 0) w []:=⟨rfl,c.im,c.uf,λo x s=>by simp at s,λo I x M s=>by simp at s⟩;have j:=GL.aP (hs.GL (A.D a.le)) (λn l E=>hs.cl n l (by rw[<-hs.gl];exact E)) (g':=i.aP 0) ⟨rfl,a06 _,λ_ _=>rfl,λ_ _=>rfl,λ_ _ _ h=>h⟩;refine hs.lw ((y f e [] _ [] h2 (i.aP 0) w b (p.aP hb) q j).D λK L ⟨t,d,m⟩=>?_);obtain⟨hf,k⟩:=KT c d;exact⟨_,a.N hf,m.D k⟩
   ·cases h
  ·cases h
noncomputable def pRo(D:Ctx)(f:FuncId)(args:LA)(O:St):Option (AV×St):=
 match hand eF args O with
 |J (.c8 o 0::a,b)=>match b[o]? with
  |J (.cH l c)=>if ae 0 a=eT/\ae 0 l=eT then match ai D f (.c8 0 0::a) [.cH l c]with|J (v,Y)=>if below 0 v=eT/\Y=[.cH l c]then J (v,b)else U|U=>U else U
  |_=>U
 |_=>U
def auE{D C:Ctx}(hs:YU D C)(B:eY D (ai D))(f:FuncId):POK C f (pRo D f):=by
 intro args O v K h g w a A I E;unfold pRo at h;split at h
 ·rename_i o j L F;split at h
  ·rename_i l M u;split at h
   ·rename_i hb;split at h
    ·rename_i v2 Y h2;split at h
     ·rename_i t;obtain⟨q,rfl⟩:=t;cases h;obtain⟨d,b,s⟩:=tJ I eF F A;have i:=b.wr;have k:=GL.aP (hs.GL (E.D b.le)) (λn l G=>hs.cl n l (by rw[<-hs.gl];exact G)) (adM d o);have c:VRs (d.eo o) (.c8 0 0::j) a:=by
       cases s with
       |cW _ v1 _ l1 x y=>
        cases x with
        |c8 o off H=>exact .cW _ _ _ _ (.c8 (g:=d.eo o) 0 0 Nat.zero_lt_one) ((y.aP hb.1).D (adM d o))
      refine hs.lw ((B f _ _ _ _ h2 (d.eo o) w a c (avg i u hb.2) k).D λP Q ⟨N,e,p⟩=>?_);obtain⟨hf,m⟩:=ald i u hb.2 e;exact⟨_,b.N hf,(p.aP q).D m⟩
     ·cases h
    ·cases h
   ·cases h
  ·cases h
 ·cases h
variable{D:Ctx}{PK:PkI}
def aaf:Ok ([]:St):=rfl
def awI{f:FuncId}{args:List Sh}{res:Sh}(h:dh D PK f (.ez args res))(c:cls args=eT){azs:LA}(b:Mt V0 args azs):∃v,M V0 res v/\∀O,pFn D f azs O=J (v,O):=by have a:=Mt.af b c;obtain⟨v,e,hv⟩:=h [] azs azs [] aaf (a.e _) aaf b;refine⟨v,hv,λO=>?_⟩;unfold pFn;rw[a.e];dsimp only;rw[if_pos a.cl,e]
end Go.Ev
namespace Go.Ev
open Option renaming some→J, none→U
open List renaming length→z
open Bool renaming true→eT, false→eF
open Go.IntKind renaming i64→r
set_option maxRecDepth 100000
variable{C:Ctx}
structure T3 where
 c:Int
 f:FuncId
 x:LA
 y:LA
def T3.B(t:T3):LA:=[.cU .u8 t.c,.ea (.func t.f) t.x t.y]
theorem T3.dt(t:T3):z t.B=2:=rfl
inductive A7(C:Ctx)(n:Nat):List T3->St->Int->St->Prop|de (S:St):A7 C n [] S 0 S|kO (t:T3) (l:List T3) (S S':St):ae n t.x=true->ae n t.y=true->S.length=n->S'.length=n->Ok S'->(∀G,Ok (S++G)->ai C t.f (t.x++t.y) (S++G)=some (.cX true,S'++G))->A7 C n (t::l) S t.c S'|no (t:T3) (l:List T3) (S S' S'':St) (r:Int):ae n t.x=true->ae n t.y=true->S.length=n->S'.length=n->Ok S'->(∀G,Ok (S++G)->ai C t.f (t.x++t.y) (S++G)=some (.cX false,S'++G))->A7 C n l S' r S''->A7 C n (t::l) S r S''
def T3.ao(t:T3):AO:=.cH [.cU .u8 t.c,.ea (.func t.f) t.x t.y] FZ
def ady{n k:Nat}(h:n<=k){x:AO}(a:x.below n=eT):x.below k=eT:=by
 cases x with
 |eq=>rfl|cH l c=>exact aK h l a|ec b=>simp only[AO.below,a01]at a⊢;exact⟨aK h _ a.1,aK h _ a.2⟩
def akb{S:St}{x:AO}(a:Ok S)(b:x.below (z S+1)=eT):Ok (S++[x]):=Vj a (by simp[b])
def ZM (n:Nat) (d:List T3):∀(l:List T3) (i:Nat) (S S':St) (du:Int) (G:St),A7 C n l S du S'->d.drop i=l->i<=z d->z S=n->z d<=1000->Ok (S++G)->(∀x∈G,AO.below (n+z G) x=eT)->
  ∃v,aH C (ai C) 17 [5,6,7] eQ [(5,.sl (z d) (d.flatMap T3.B)),(6,.cU r (z d)),(7,.cU r i)] (S++G)=J (.ef,[(2,.cU .u8 du)],S'++v)\/(du=0/\aH C (ai C) 17 [5,6,7] eQ [(5,.sl (z d) (d.flatMap T3.B)),(6,.cU r (z d)),(7,.cU r i)] (S++G)=J (.dq 0,[],S'++v))
 |[],i,S,S',du,G,R,g,hi,Q,L,hok,I=>by
  cases R;have:i=z d:=by have:=congrArg List.length g;simp at this;omega
  subst this;refine⟨G,.inr ⟨rfl,?_⟩⟩;rw[aA (he:=rfl)];have h:¬((z d:Int)<(z d:Int)):=(by omega);simp only[eQ,h,EVX,seval]
 |t::l,i,S,S',du,G,R,g,hi,Q,L,hok,I=>by
  have f:i<z d:=by
   by_cases h:i<z d;·exact h
   ·rw[az1 (by omega)]at g;cases g
  have u:d[i]?=J t:=by rw[ay6 f]at g;rw[a02 f];exact congrArg J (List.cons.inj g).1
  have B:d.drop (i+1)=l:=by rw[ay6 f]at g;exact(List.cons.inj g).2
  have h:((i:Int)<(z d:Int)):=(by omega);have H:(0:Int)<=(i:Int):=(by omega);have Z:=wrS i (by omega);have fl:=bZ T3.dt d;have o:=kK T3.dt u;have Y:t.B=[.cU .u8 t.c,.ea (.func t.f) t.x t.y]:=rfl;rw[Y]at o;simp only[a09,a98]at o;generalize(d.drop (i+1)).flatMap T3.B=R' at o;generalize P:d.flatMap T3.B=F at fl o⊢;cases R with
  |kO _ _ _ _ y A a b c e=>
   have q:=λX=>e (G++X);simp only[<-ay2]at q;refine⟨G++[t.ao],.inl ?_⟩;have m:Ok ((S++G)++[t.ao]):=akb hok (by
    have j:n<=z (S++G)+1:=by rw[a04];omega
    simp only[T3.ao,AO.below,ae,below,aK j _ y,aK j _ A,az9])
   have e2:=q [t.ao] m;unfold T3.ao at e2⊢;rw[aA (he:=rfl)];generalize W:aH C (ai C) 17 [5,6,7] eQ=k at*;rw[<-ay2];have V:z (S'++G)=z (S++G):=(by rw[a04,a04,a,b]);generalize S++G=T at*;generalize S'++G=E at*;have O:∀X:AO,(E++[X])[z T]?=J X:=λX=>by rw[<-V];exact aF _ _
   simp only[O,eQ,h,H,f,fl,o,e2,jH,EVX,seval]
  |no _ _ _ w _ _ y A a b c e N=>
   have q:=λX=>e (G++X);simp only[<-ay2]at q;have m:Ok ((S++G)++[t.ao]):=akb hok (by
    have j:n<=z (S++G)+1:=by rw[a04];omega
    simp only[T3.ao,AO.below,ae,below,aK j _ y,aK j _ A,az9])
   have e2:=q [t.ao] m;have s:∀dv∈G++[t.ao],AO.below (n+z (G++[t.ao])) dv=eT:=λdv p=>by
    rw[a04];rcases aD3.mp p with p|p;·exact ady (by simp) (I dv p)
    ·simp only[aB2]at p;subst p;have j:n<=n+(z G+1):=(by omega);simp only[T3.ao,AO.below,ae,below,aD8,aK j _ y,aK j _ A,az9]
   have D:Ok (w++(G++[t.ao])):=Vj c (by
    rw[b,a97];exact s)
   obtain⟨v,M⟩:=ZM n d l (i+1) w S' du (G++[t.ao]) N B (by omega) b L D s;refine⟨v,?_⟩;have tail:aH C (ai C) 17 [5,6,7] eQ [(5,.sl (z d) F),(6,.cU r (z d)),(7,.cU r i)] (S++G)=aH C (ai C) 17 [5,6,7] eQ [(5,.sl (z d) F),(6,.cU r (z d)),(7,.cU r (i+1:Nat))] (w++(G++[t.ao])):=by rw[aA (he:=rfl)];unfold T3.ao at e2⊢;generalize W:aH C (ai C) 17 [5,6,7] eQ=k at*;rw[<-ay2];generalize S++G=T at*;generalize w++G=E at*;simp only[eQ,h,H,f,fl,o,e2,Z,jH,EVX,seval]
   rw[tail];rw[P]at M;exact M
def A7.mU{n:Nat}{l:List T3}{S S':St}{f:Int}(R:A7 C n l S f S')(h:z S=n)(hok:Ok S):z S'=n/\Ok S':=by
 induction R with
 |de S=>exact⟨h,hok⟩|kO t l S S' _ _ _ b c _=>exact⟨b,c⟩|no t l S d S' f _ _ _ b c _ _ a=>exact a b c
def T3.nv(t:T3):Prop:=(∀Y d,aZ Y d t.x=J (t.x,[]))/\∀Y d,aZ Y d t.y=J (t.y,[])
def ah3:∀(l:List T3),(∀t∈l,t.nv)->∀Y d,aZ Y d (l.flatMap T3.B)=J (l.flatMap T3.B,[])|[],_,Y,d=>rfl|t::l,h,Y,d=>by have c:=ah3 l (λt b=>h t (by simp[b])) Y d;obtain⟨a,h2⟩:=h t (by simp);rw[aC7,show t.B=[.cU .u8 t.c,.ea (.func t.f) t.x t.y]from rfl,a09,a09,a98,aO,aO,VY,aro,a,h2,c];rfl
def Nc(g:Has C Ja DF){a:List T3}{S S':St}{q:Int}(R:A7 C (z S) a S q S')(hok:Ok S)(j:z a<=1000)(d:∀t∈a,t.nv):ai C Ja [.eC (z a) (a.flatMap T3.B)] S=J (.cU .u8 q,S'):=by
 obtain⟨i,b⟩:=R.mU rfl hok;have c:hand eF [.eC (z a) (a.flatMap T3.B)] S=J ([.sl (z a) (a.flatMap T3.B)],S):=by simp only[lF,aO,qY,aoP,ah3 a d,freeze,ay5]
 rw[g.go c];obtain⟨l,h⟩:=ZM (z S) a a 0 S S' q [] R rfl (a99 _) rfl j (by rw[ay5];exact hok) (λx k=>by cases k);rw[ay5,show((0:Nat):Int)=0 from rfl]at h;have e:=λv=>bz b (vs:=[.cU .u8 v]) rfl;rw[i]at e;rcases h with h|⟨f,h⟩;·simp only[DF,h,e,EVX,seval]
 ·subst f;simp only[DF,h,e,EVX,seval]
structure iH where
 v:AV
 a1:Int
 a2:AV
 ks:AV
 pn:LU
 pv:Int
 pl:Int
 ph:AV
 bm:Int
 am:LU
 al:Int
 x0:AV
 x1:AV
 x2:AV
 x3:AV
 x4:AV
 e0:AV
 e1:AV
 e2:AV
 e3:AV
 e4:AV
 e5:AV
 bL:Int
 bw:Int
def iH.B(F:iH):LA:=[F.v,.cU r F.a1,F.a2,F.ks,.cV F.pn,.cU r F.pv,.cU r F.pl,F.ph,.cU r F.bm,.cV F.am,.cU r F.al,F.x0,F.x1,F.x2,F.x3,F.x4,F.e0,F.e1,F.e2,F.e3,F.e4,F.e5,.cU r F.bL,.cU r F.bw]
structure ChkHas(C:Ctx):Prop where
 ke:Has C rU DZ
 nE:Has C yu xQ
 f8:Has C Ae zU
 eR:Has C iG nC
 lc:Has C ui EO
 hq:Has C oH Au
 je:Has C qX CO
 gs:Has C ru yK
 j2:Has C rQ DY
variable{Y:St}{o:Nat}{F:iH}
def aa9(H:ChkHas C)(d:Ok Y)(a:Y[o]?=J (.cH F.B FZ)):ai C rU [.c8 o 0] Y=J (.cX (F.al== -1),Y):=by have c:=jM o Y;rw[H.ke.go c];have e:=λb=>bi Y [.cX b];unfold iH.B at a;simp only[DZ,a,e,EVX,seval]
def amQ(H:ChkHas C)(g:Ok Y)(a:Y[o]?=J (.cH F.B FZ)):ai C yu [.c8 o 0] Y=J (.cX (decide (F.al<0)||(decide (0<=F.pl)&&decide (F.pl<(z F.am:Int)))),Y):=by
 have f:=jM o Y;rw[H.nE.go f];have d:=λb=>bi Y [.cX b];unfold iH.B at a;by_cases c:F.al<0;·simp only[xQ,a,d,c,decide_true,aG0,EVX,seval]
 by_cases e:(0:Int)<=F.pl;·simp only[xQ,a,d,c,e,decide_true,decide_false,Bool.false_or,aA6,EVX,seval]
 ·simp only[xQ,a,d,c,e,decide_false,aF3,EVX,seval]
def ama(H:ChkHas C)(f:Ok Y)(a:Y[o]?=J (.cH F.B FZ)):ai C Ae [.c8 o 0] Y=J (.cX (decide (0<=F.pl)&&decide ((z F.am:Int)<F.pl)),Y):=by
 have e:=jM o Y;rw[H.f8.go e];have d:=λb=>bi Y [.cX b];unfold iH.B at a;by_cases c:(0:Int)<=F.pl;·simp only[zU,a,d,c,decide_true,aA6,EVX,seval]
 ·simp only[zU,a,d,c,decide_false,aF3,EVX,seval]
def X8(H:ChkHas C)(d:Ok Y)(a:Y[o]?=J (.cH F.B FZ)):ai C ru [.c8 o 0] Y=J (.cX (F.bL !=F.pv),Y):=by have c:=jM o Y;rw[H.gs.go c];have e:=λb=>bi Y [.cX b];unfold iH.B at a;simp only[yK,a,e,EVX,seval]
def Zx(H:ChkHas C)(e:Ok Y)(a:Y[o]?=J (.cH F.B FZ)){b:Bool}(d:ai C qj [.cU r F.bw,.cU r F.bm] Y=J (.cX b,Y)):ai C rQ [.c8 o 0] Y=J (.cX b,Y):=by have c:=jM o Y;rw[H.j2.go c];have f:=λb=>bi Y [.cX b];unfold iH.B at a;simp only[DY,a,f,d,EVX,seval]
def XX(H:ChkHas C)(e:Ok Y)(a:Y[o]?=J (.cH F.B FZ)){b:Bool}(d:ai C jK [F.v,.da [F.e0,F.e1,F.e2,F.e3,F.e4,F.e5],.da [.cU r F.a1,F.a2],F.ks] Y=J (.cX b,Y)):ai C qX [.c8 o 0] Y=J (.cX !b,Y):=by have c:=jM o Y;rw[H.je.go c];have f:=λb=>bi Y [.cX b];unfold iH.B at a;simp only[CO,a,f,d,EVX,seval]
def VZ(H:ChkHas C)(e:Ok Y)(a:Y[o]?=J (.cH F.B FZ))(l:LA)(d:F.ph=.sl 0 l):ai C iG [.c8 o 0] Y=J (.cX eF,Y):=by have c:=jM o Y;rw[H.eR.go c];have f:=λb=>bi Y [.cX b];unfold iH.B at a;rw[d]at a;simp only[nC,a,f,EVX,seval]
def aai(H:ChkHas C)(j:Ok Y)(a:Y[o]?=J (.cH F.B FZ))(n:Nat)(l:LA)(i:F.ph=.sl n l)(k:n≠0){d dg:LU}{b:Bool}(e:ai C zl [F.ph,.cV [115,104,97,50,53,54]] Y=J (.df [.cV d,.cX b],Y))(g:ai C sD [.cV F.am] Y=J (.cV dg,Y)):ai C iG [.c8 o 0] Y=J (.cX (!b|| !decide (d=dg)),Y):=by
 have h:=jM o Y;rw[H.eR.go h];have f:=λb=>bi Y [.cX b];unfold iH.B at a;rw[i]at a e;have c:((n:Int)==0)=eF:=by rw[beq_eq_false_iff_ne];omega
 cases b;·simp only[nC,a,f,c,e,aA2,aG0,EVX,seval]
 ·simp only[nC,a,f,c,e,g,mX,aA8,Bool.false_or,EVX,seval]
def iH.eg(F:iH)(r0 r1 r2 r3 r4:AV):iH:={F with x0:=r0,x1:=r1,x2:=r2,x3:=r3,x4:=r4}
def iH.fc(F:iH)(r0 r1 r2 r3 r4 r5:AV):iH:={F with e0:=r0,e1:=r1,e2:=r2,e3:=r3,e4:=r4,e5:=r5}
structure One(x:AV):Prop where
 fl:x.C=true
 cl:x.cH=[x]
 nv:NV x
def Ok.h9{Y:St}(h:Ok Y)(o:Nat){cs:LA}{fz:Fz}(a:ae (z Y) cs=eT):Ok (Y.set o (.cH cs fz)):=Ok.bd h o a
def acE (H:ChkHas C) (c:Ok Y) (a:Y[o]?=J (.cH F.B FZ)) {r0 r1 r2 r3 r4:AV} (k0:One r0) (i:One r1) (j:One r2) (k:One r3) (l:One r4) (hb:ae (z Y) (F.eg r0 r1 r2 r3 r4).B=eT) {n e:Int} (hr:ai C iL [.cV F.am] Y=J (.df [.da [r0,r1,r2,r3,r4],.cU r n,.cU r e],Y)):
  ai C ui [.c8 o 0] Y=J (.cX (e !=0),Y.set o (.cH (F.eg r0 r1 r2 r3 r4).B FZ)):=by
 have h:=jM o Y;rw[H.lc.go h];have d:=Ok.h9 c o (fz:=FZ) hb;have f:=λb L=>bz d (vs:=[.cX b]) rfl L;rw[a96]at f;have g:=λL=>aj a L;have m:=λL y=>fK a L y;obtain⟨a0,b0,_⟩:=k0;obtain⟨a1,b1,_⟩:=i;obtain⟨a2,p,_⟩:=j;obtain⟨a3,q,_⟩:=k;obtain⟨a4,s,_⟩:=l;unfold iH.eg iH.B at*;simp only[EO,a,f,hr,g,m,a0,a1,a2,a3,a4,splice,aF,dm,EVX,seval]
def Qu (H:ChkHas C) (c:Ok Y) (a:Y[o]?=J (.cH F.B FZ)) {r0 r1 r2 r3 r4 r5:AV} (k0:One r0) (i:One r1) (j:One r2) (k:One r3) (l:One r4) (m:One r5) (hb:ae (z Y) (F.fc r0 r1 r2 r3 r4 r5).B=eT) {e:Int} (hr:ai C uJ [.da [F.x0,F.x1,F.x2,F.x3,F.x4]] Y=J (.df [.da [r0,r1,r2,r3,r4,r5],.cU r e],Y)):
  ai C oH [.c8 o 0] Y=J (.cX (e !=0),Y.set o (.cH (F.fc r0 r1 r2 r3 r4 r5).B FZ)):=by
 have h:=jM o Y;rw[H.hq.go h];have d:=Ok.h9 c o (fz:=FZ) hb;have f:=λb L=>bz d (vs:=[.cX b]) rfl L;rw[a96]at f;have g:=λL=>aj a L;have n:=λL y=>fK a L y;obtain⟨a0,b0,_⟩:=k0;obtain⟨a1,b1,_⟩:=i;obtain⟨a2,p,_⟩:=j;obtain⟨a3,q,_⟩:=k;obtain⟨a4,s,_⟩:=l;obtain⟨a5,t,_⟩:=m;unfold iH.fc iH.B at*;simp only[Au,a,f,hr,g,n,a0,a1,a2,a3,a4,a5,splice,aF,dm,EVX,seval]
def iH.b7(F:iH)(a b:Int):iH:={F with bL:=a,bw:=b}
def apC(a b:Nat):same (.c8 a b) (.c8 a b)=eT:=by simp[same]
def amz (H:Has C BG FV) (n:Ok Y) (w:Y[o]?=J (.cH F.B FZ)) {a t:Nat} (u:Y[a]?=J (.cH [.c8 o 0] FZ)) {S t1 t2 t3 t4 t5 t6 t7 t8:AV} (A:Y[t]?=J (.cH [S,t1,t2,t3,t4,t5,t6,t7,t8] FZ)) (j:a≠t) (h:o≠t) (m:a≠o) {v x e:Int} {r2 r3 r4 r5 c d f:AV} (K:One r2) (L:One r3) (M:One r4) (N:One r5) (O:One c) (P:One d) (Q:One f)
  (hb:ae (z Y) [r2,r3,r4,r5,c,d,f]=eT) (l:ae (z Y) (F.b7 v x).B=eT) (hr:ai C yD [.da [F.e0,F.e1,F.e2,F.e3,F.e4]] Y=J (.df [.da [.cU r v,.cU r x,r2,r3,r4,r5,c,d,f],.cU r e],Y)):
  ai C BG [.c8 a 0,.c8 t 0] Y=J (.cX (e !=0),(Y.set t (.cH [.cU r v,.cU r x,r2,r3,r4,r5,c,d,f] FZ)).set o (.cH (F.b7 v x).B FZ)):=by
 have I:=Jz a t Y;rw[H.go I];have k:ae (z Y) [.cU r v,.cU r x,r2,r3,r4,r5,c,d,f]=eT:=by simp only[ae,below,aA6]at hb⊢;exact hb
 have p:=Ok.h9 n t (fz:=FZ) k;have R:=Ok.h9 p o (cs:=(F.b7 v x).B) (fz:=FZ) (by rw[a96];exact l);have B:=λb=>bi ((Y.set t (.cH [.cU r v,.cU r x,r2,r3,r4,r5,c,d,f] FZ)).set o (.cH (F.b7 v x).B FZ)) [.cX b];rw[a96,a96]at B;obtain⟨a2,T,_⟩:=K;obtain⟨a3,V,_⟩:=L;obtain⟨a4,W,_⟩:=M;obtain⟨a5,X,_⟩:=N;obtain⟨a6,Z,_⟩:=O;obtain⟨a7,b7,_⟩:=P;obtain⟨a8,b8,_⟩:=Q;have q:=aG u j (.cH [.cU r v,.cU r x,r2,r3,r4,r5,c,d,f] FZ);have s:=aX A (.cH [.cU r v,.cU r x,r2,r3,r4,r5,c,d,f] FZ);have g:=aG w h (.cH [.cU r v,.cU r x,r2,r3,r4,r5,c,d,f] FZ);have i:=λy=>aX g y;have D:=λy=>aG q m y;have E:=λy=>aG s (λe=>h e.symm) y;unfold iH.b7 iH.B at*;simp only[FV,w,u,A,hr,B,q,s,g,i,D,E,a2,a3,a4,a5,a6,a7,a8,splice,aB8,Oc,apC,EVX,seval]
def amC (m:Has C vS zQ) (s:Ok Y) (h:Y[o]?=J (.cH F.B FZ)) {a t:Nat} (g:Y[a]?=J (.cH [.c8 o 0] FZ)) {w t1 t2:AV} (i:Y[t]?=J (.cH [w,t1,t2] FZ)) (d:a≠t) (f:o≠t) (q:a≠o) {v x e:Int} {r2:AV} (u:One r2)
  (hb:ae (z Y) [r2]=eT) (n:ae (z Y) (F.b7 F.bL x).B=eT) (hr:ai C yA [.da [F.e0,F.e1,F.e2,F.e3,F.e4]] Y=J (.df [.da [.cU r v,.cU r x,r2],.cU r e],Y)):
  ai C vS [.c8 a 0,.c8 t 0] Y=J (.cX (e !=0),(Y.set t (.cH [.cU r v,.cU r x,r2] FZ)).set o (.cH (F.b7 F.bL x).B FZ)):=by
 have p:=Jz a t Y;rw[m.go p];have j:=λb=>bi ((Y.set t (.cH [.cU r v,.cU r x,r2] FZ)).set o (.cH (F.b7 F.bL x).B FZ)) [.cX b];rw[a96,a96]at j;obtain⟨a2,y,_⟩:=u;have k:=aG g d (.cH [.cU r v,.cU r x,r2] FZ);have l:=aX i (.cH [.cU r v,.cU r x,r2] FZ);have c:=aG h f (.cH [.cU r v,.cU r x,r2] FZ);unfold iH.b7 iH.B at*;simp only[zQ,h,g,i,hr,j,k,l,c,a2,splice,EVX,seval]
end Go.Ev
namespace Go.Ev
open Option renaming some→J, none→U
open List renaming length→z
open Bool renaming true→eT, false→eF
open Go.IntKind renaming i64→r
set_option maxRecDepth 100000
variable{C:Ctx}
def QS(B:St)(F:iH)(T:LA):St:=B++[.cH F.B FZ,.cH [.c8 (z B) 0] FZ,.cH T FZ]
def iq(B F T):z (QS B F T)=z B+3:=by simp[QS]
def MO(B F T)(G:St):(QS B F T++G)[z B]?=J (.cH F.B FZ):=by unfold QS;rw[ay2,aF];rfl
def avo(B F T)(G:St):(QS B F T++G)[z B+1]?=J (.cH [.c8 (z B) 0] FZ):=by unfold QS;rw[ay2,aN];rfl
def avp(B F T)(G:St):(QS B F T++G)[z B+2]?=J (.cH T FZ):=by unfold QS;rw[ay2,aN];rfl
def Ox(B F T)(a:iH)(G:St):(QS B F T++G).set (z B) (.cH a.B FZ)=QS B a T++G:=by unfold QS;rw[ay2];simp
def aj6(B F T)(a:LA)(G:St):(QS B F T++G).set (z B+2) (.cH a FZ)=QS B F a++G:=by unfold QS;rw[ay2,fF];simp
def atr(B F T)(G:St){i:Nat}{x:AO}(h:B[i]?=J x):(QS B F T++G)[i]?=J x:=aj (aj h _) G
structure wB(x:AV):Prop extends One x where
 b0:below 0 x=true
def wB.b{x:AV}(h:wB x)(n:Nat):below n x=eT:=below_mono (a99 _) _ h.b0
def Ext(O Y:St):Prop:=∀(i:Nat) (x:AO),O[i]?=J x->Y[i]?=J x
def mt(c:Int)(f:FuncId)(o:Nat):T3:=⟨c,f,[.c8 o 0],[]⟩
def an6(c:Int)(f:FuncId)(a t:Nat):T3:=⟨c,f,[],[.c8 a 0,.c8 t 0]⟩
def asP(c f o):(mt c f o).nv:=⟨λ_ _=>rfl,λ_ _=>rfl⟩
def ajs(c f a t):(an6 c f a t).nv:=⟨λ_ _=>rfl,λ_ _=>rfl⟩
def A7.bk{n:Nat}(t:T3)(l:List T3){S S':St}(b:Bool)(e:ae n t.x=eT)(f:ae n t.y=eT)(d:z S=n)(c:z S'=n)(hok:Ok S')(h:∀G,Ok (S++G)->ai C t.f (t.x++t.y) (S++G)=J (.cX b,S'++G)){Q:Int->St->Prop}(i:b=eT->Q t.c S')(g:b=eF->∃j a,A7 C n l S' j a/\Q j a):∃j a,A7 C n (t::l) S j a/\Q j a:=by
 cases b with
 |true=>exact⟨_,_,.kO t l S S' e f d c hok h,i rfl⟩|false=>obtain⟨j,a,R,q⟩:=g rfl;exact⟨j,a,.no t l S S' a j e f d c hok h R,q⟩
def z5:LA:=[.cU .u8 0,.cU r 0,.cV [],.cY,.cY]
def zT:LA:=[.cU r 0,.cU r 0,.cY,.cY,.cY,.cU r 0,.cY,.cU r 0,.cV []]
def zTn:LA:=[.cU r 0,.cU r 0,.sl 0 [],.sl 0 [],.sl 0 [],.cU r 0,.sl 0 [],.cU r 0,.cV []]
def zS:LA:=[.cU r 0,.cU r 0,.cY]
def zSn:LA:=[.cU r 0,.cU r 0,.sl 0 []]
structure InF where
 v:AV
 a1:Int
 a2:AV
 ks:AV
 pn:LU
 pv:Int
 pl:Int
 ph:AV
 bm:Int
 am:LU
 al:Int
def InF.F(I:InF):iH:=⟨I.v,I.a1,I.a2,I.ks,I.pn,I.pv,I.pl,I.ph,I.bm,I.am,I.al,.cU .u8 0,.cU r 0,.cV [],.cY,.cY,.cU .u8 0,.cU r 0,.cV [],.cY,.cY,.cY,0,0⟩
def InF.ck(I:InF):LA:=[.cV I.pn,.cU r I.pv,.cU r I.pl,I.ph]
def InF.W(I:InF):LA:=[.cU r I.a1,I.a2]
structure InF.ok(I:InF)(n:Nat):Prop where
 v:NV I.v\/∃p,I.v=.c8 p 0/\p<n
 a2:wB I.a2
 ks:wB I.ks
 ph:below 0 I.ph=true
structure Told(C:Ctx)(O:St)(I:InF)where
 x0:AV
 x1:AV
 x2:AV
 x3:AV
 x4:AV
 n1:Int
 e1:Int
 r0:AV
 r1:AV
 r2:AV
 r3:AV
 r4:AV
 r5:AV
 e2:Int
 en:Bool
 hH:wB x0
 hJ:wB x1
 hK:wB x2
 hL:wB x3
 hM:wB x4
 iN:wB r0
 iQ:wB r1
 iS:wB r2
 iX:wB r3
 i1:wB r4
 i6:wB r5
 rd:∀Y,Ok Y->ai C iL [.cV I.am] Y=some (.df [.da [x0,x1,x2,x3,x4],.cU .i64 n1,.cU .i64 e1],Y)
 sg:e1=0->∀Y,Ok Y->ai C uJ [.da [x0,x1,x2,x3,x4]] Y=some (.df [.da [r0,r1,r2,r3,r4,r5],.cU .i64 e2],Y)
 cK:e1=0->e2=0->∀Y,Ok Y->Ext O Y->ai C jK [I.v,.da [r0,r1,r2,r3,r4,r5],.da I.W,I.ks] Y=some (.cX en,Y)
structure LP(C:Ctx)(O:St)(I:InF)extends Told C O I where
 tv:Int
 tx:Int
 t2:AV
 t3:AV
 t4:AV
 t5:AV
 t6:AV
 t7:AV
 t8:AV
 e3:Int
 ov:Bool
 od:Bool
 h2:wB t2
 h3:wB t3
 h4:wB t4
 h5:wB t5
 h6:wB t6
 h7:wB t7
 h8:wB t8
 tg:e1=0->e2=0->∀Y,Ok Y->ai C yD [.da [r0,r1,r2,r3,r4]] Y=some (.df [.da [.cU .i64 tv,.cU .i64 tx,t2,t3,t4,t5,t6,t7,t8],.cU .i64 e3],Y)
 f7:∀Y,Ok Y->ai C qj [.cU .i64 tx,.cU .i64 I.bm] Y=some (.cX ov,Y)
 lA:∀Y o F,Ok Y->Y[o]?=some (.cH (iH.B F) FZ)->F.ph=I.ph->F.am=I.am->ai C iG [.c8 o 0] Y=some (.cX od,Y)
def LP.T{C:Ctx}{O:St}{I:InF}(t:LP C O I):LA:=[.cU r t.tv,.cU r t.tx,t.t2,t.t3,t.t4,t.t5,t.t6,t.t7,t.t8]
structure LM(C:Ctx)(O:St)(I:InF)extends Told C O I where
 sv:Int
 sx:Int
 s2:AV
 e3:Int
 ov:Bool
 h2:wB s2
 sn:e1=0->e2=0->∀Y,Ok Y->ai C yA [.da [r0,r1,r2,r3,r4]] Y=some (.df [.da [.cU .i64 sv,.cU .i64 sx,s2],.cU .i64 e3],Y)
 f7:∀Y,Ok Y->ai C qj [.cU .i64 sx,.cU .i64 I.bm] Y=some (.cX ov,Y)
def LM.S{C:Ctx}{O:St}{I:InF}(t:LM C O I):LA:=[.cU r t.sv,.cU r t.sx,t.s2]
def Vf(size:Int)(e1 e2 e3:Int)(en ov:Bool):Int:=
 if size== -1 then 2 else if decide (size<0)then 3 else if e1 !=0 then 6 else if e2 !=0 then 7 else if e3 !=0 then 7 else if !en then 8 else if ov then 10 else 0
def LM.c{C:Ctx}{O:St}{I:InF}(t:LM C O I):Int:=Vf I.al t.e1 t.e2 t.e3 t.en t.ov
def aaI(o a t:Nat):List T3:=[mt 2 rU o,mt 3 yu o,mt 6 ui o,mt 7 oH o,an6 7 vS a t,mt 8 qX o,mt 10 rQ o]
def aax(size pl dl:Int)(od:Bool)(e1 e2 e3:Int)(en:Bool)(tv pv:Int)(ov:Bool):Int:=
 if size== -1 then 2 else if decide (size<0)||(decide (0<=pl)&&decide (pl<dl))then 3 else if decide (0<=pl)&&decide (dl<pl)then 4 else if od then 5 else if e1 !=0 then 6 else if e2 !=0 then 7 else if e3 !=0 then 7 else if !en then 8 else if tv !=pv then 9 else if ov then 10 else 0
def LP.c{C:Ctx}{O:St}{I:InF}(t:LP C O I):Int:=aax I.al I.pl (z I.am) t.od t.e1 t.e2 t.e3 t.en t.tv I.pv t.ov
structure SH(C:Ctx):Prop extends ChkHas C where
 cP:Has C Ja DF
 b6:Has C BF kP
 mq:Has C BG FV
 ko:Has C qC gm
 my:Has C vS zQ
def aay(o a t:Nat):List T3:=[mt 2 rU o,mt 3 yu o,mt 4 Ae o,mt 5 iG o,mt 6 ui o,mt 7 oH o,an6 7 BG a t,mt 8 qX o,mt 9 ru o,mt 10 rQ o]
def amy{O:St}(L F T)(G:St):Ext O (QS (O++L) F T++G):=λi x h=>atr _ F T G (aj h L)
def P8{B F T}(hB:Ok B)(a:ae (z B+3) (iH.B F)=eT)(b:ae 0 T=eT):Ok (QS B F T):=by
 unfold QS;refine Vj hB ?_;have h3:decide (z B<z B+3)=eT:=by simp
 simp only[a07,az6,AO.below,a90,a94,az5,Nat.reduceAdd,aK (a99 _) _ b,a,ae,below,h3,az9]
def Yh{I:InF}{n m:Nat}(h:I.ok n)(a:n<=m):ae m I.F.B=eT:=by
 have hv:below m I.v=eT:=by
  rcases h.v with h|⟨p,e,b⟩;·exact below_mono (a99 _) _ h.cl
  ·rw[e];simp only[below,decide_eq_true_eq];omega
 simp only[iH.B,InF.F,ae,below,hv,h.a2.b,h.ks.b,below_mono (a99 _) _ h.ph,az9]
def atl{I:InF}{n:Nat}(h:I.ok n)(k:Nat)(a:n<=k):below k I.v=eT:=by
 rcases h.v with h|⟨p,e,b⟩;·exact below_mono (a99 _) _ h.cl
 ·rw[e];simp only[below,decide_eq_true_eq];omega
section
variable{O:St}{I:InF}
def Told.F1(t:Told C O I):iH:=I.F.eg t.x0 t.x1 t.x2 t.x3 t.x4
def Told.F2(t:Told C O I):iH:=t.F1.fc t.r0 t.r1 t.r2 t.r3 t.r4 t.r5
def Told.hS(t:Told C O I){n:Nat}(h:I.ok n){k:Nat}(a:n<=k):ae k t.F1.B=eT:=by simp only[Told.F1,iH.eg,iH.B,InF.F,ae,below,atl h k a,h.a2.b,h.ks.b,below_mono (a99 _) _ h.ph,t.hH.b,t.hJ.b,t.hK.b,t.hL.b,t.hM.b,az9]
def Told.hT(t:Told C O I){n:Nat}(h:I.ok n){k:Nat}(a:n<=k):ae k t.F2.B=eT:=by simp only[Told.F2,Told.F1,iH.eg,iH.fc,iH.B,InF.F,ae,below,atl h k a,h.a2.b,h.ks.b,below_mono (a99 _) _ h.ph,t.hH.b,t.hJ.b,t.hK.b,t.hL.b,t.hM.b,t.iN.b,t.iQ.b,t.iS.b,t.iX.b,t.i1.b,t.i6.b,az9]
def Told.hV(t:Told C O I){n:Nat}(h:I.ok n){k:Nat}(c:n<=k)(a b:Int):ae k (t.F2.b7 a b).B=eT:=by simp only[Told.F2,Told.F1,iH.eg,iH.fc,iH.b7,iH.B,InF.F,ae,below,atl h k c,h.a2.b,h.ks.b,below_mono (a99 _) _ h.ph,t.hH.b,t.hJ.b,t.hK.b,t.hL.b,t.hM.b,t.iN.b,t.iQ.b,t.iS.b,t.iX.b,t.i1.b,t.i6.b,az9]
def LP.mE(t:LP C O I):ae 0 t.T=eT:=by simp only[LP.T,ae,below,t.h2.b,t.h3.b,t.h4.b,t.h5.b,t.h6.b,t.h7.b,t.h8.b,az9]
def ati{n:Nat}(h:I.ok n):ae 0 I.ck=eT:=by simp only[InF.ck,ae,below,h.ph,az9]
def aqy{n:Nat}(h:I.ok n):ae 0 I.W=eT:=by simp only[InF.W,ae,below,h.a2.b,az9]
def aaw(I:InF):St:=[.cH I.ck FZ,.cH I.W FZ,.cH zT FZ]
def alW(H:SH C){B:St}(okB:Ok B)(hB:z O<=z B)(o:∀F T G,Ext O (QS B F T++G))(hI:I.ok (z O))(t:LP C O I):∃j d,A7 C (z B+3) (aay (z B) (z B+1) (z B+2)) (QS B I.F zT) j d/\j=t.c/\∃n k,d=QS B n k/\(j=0->k=t.T):=by
 have ok0:Ok (QS B I.F zT):=P8 okB (Yh hI (by omega)) rfl;have g:Ok (QS B t.F1 zT):=P8 okB (t.hS hI (by omega)) rfl;have i:Ok (QS B t.F2 zT):=P8 okB (t.hT hI (by omega)) rfl;have c:Ok (QS B (t.F2.b7 t.tv t.tx) t.T):=P8 okB (t.hV hI (by omega) _ _) t.mE;have hf:ae (z B+3) [.c8 (z B) 0]=eT:=by simp[ae,below]
 have e:ae (z B+3) [.c8 (z B+1) 0,.c8 (z B+2) 0]=eT:=by simp[ae,below]
 have b:∀(F T) (G:St),z B+3<=z (QS B F T++G):=λF T G=>by rw[a04,iq];omega
 unfold LP.c aax;refine A7.bk _ _ (I.al== -1) hf rfl (iq ..) (iq ..) ok0 (λG a=>aa9 H.toChkHas a (MO ..)) (λh=>⟨by rw[if_pos h];rfl,_,_,rfl,λh=>by cases h⟩) (λn1=>?_);rw[if_neg (by rw[n1];decide)];refine A7.bk _ _ (decide (I.al<0)||(decide (0<=I.pl)&&decide (I.pl<(z I.am:Int)))) hf rfl (iq ..) (iq ..) ok0 (λG a=>amQ H.toChkHas a (MO ..)) (λh=>⟨by rw[if_pos h];rfl,_,_,rfl,λh=>by cases h⟩) (λp=>?_);rw[if_neg (by rw[p];decide)];refine A7.bk _ _ (decide (0<=I.pl)&&decide ((z I.am:Int)<I.pl)) hf rfl (iq ..) (iq ..) ok0 (λG a=>ama H.toChkHas a (MO ..)) (λh=>⟨by rw[if_pos h];rfl,_,_,rfl,λh=>by cases h⟩) (λq=>?_);rw[if_neg (by rw[q];decide)];refine A7.bk _ _ t.od hf rfl (iq ..) (iq ..) ok0 (λG a=>t.lA _ _ I.F a (MO ..) rfl rfl) (λh=>⟨by rw[if_pos h];rfl,_,_,rfl,λh=>by cases h⟩) (λs=>?_);rw[if_neg (by rw[s];decide)];refine A7.bk _ _ (t.e1 !=0) (S':=QS B t.F1 zT) hf rfl (iq ..) (iq ..) g (λG a=>?_) (λh=>⟨by rw[if_pos h];rfl,_,_,rfl,λh=>by cases h⟩) (λl=>?_);·have:=acE H.toChkHas a (MO B I.F zT G) t.hH.toOne t.hJ.toOne t.hK.toOne t.hL.toOne t.hM.toOne (t.hS hI (by have:=b I.F zT G;omega)) (t.rd _ a);rw[Ox]at this;exact this
 have e1:t.e1=0:=by simpa using l
 rw[if_neg (by rw[l];decide)];refine A7.bk _ _ (t.e2 !=0) (S':=QS B t.F2 zT) hf rfl (iq ..) (iq ..) i (λG a=>?_) (λh=>⟨by rw[if_pos h];rfl,_,_,rfl,λh=>by cases h⟩) (λm=>?_);·have:=Qu H.toChkHas a (MO B t.F1 zT G) t.iN.toOne t.iQ.toOne t.iS.toOne t.iX.toOne t.i1.toOne t.i6.toOne (t.hT hI (by have:=b t.F1 zT G;omega)) (t.sg e1 _ a);rw[Ox]at this;exact this
 have e2:t.e2=0:=by simpa using m
 rw[if_neg (by rw[m];decide)];refine A7.bk _ _ (t.e3 !=0) (S':=QS B (t.F2.b7 t.tv t.tx) t.T) rfl e (iq ..) (iq ..) c (λG a=>?_) (λh=>⟨by rw[if_pos h];rfl,_,_,rfl,λh=>by cases h⟩) (λu=>?_);·have x:=b t.F2 zT G;have:=amz H.mq a (MO B t.F2 zT G) (avo B t.F2 zT G) (avp B t.F2 zT G) (by omega) (by omega) (by omega) t.h2.toOne t.h3.toOne t.h4.toOne t.h5.toOne t.h6.toOne t.h7.toOne t.h8.toOne (by simp only[ae,t.h2.b,t.h3.b,t.h4.b,t.h5.b,t.h6.b,t.h7.b,t.h8.b,az9]) (t.hV hI (by omega) _ _) (t.tg e1 e2 _ a);rw[aj6,Ox]at this;exact this
 rw[if_neg (by rw[u];decide)];refine A7.bk _ _ (!t.en) hf rfl (iq ..) (iq ..) c (λG a=>XX H.toChkHas a (MO ..) (t.cK e1 e2 _ a (o _ _ _))) (λh=>⟨by rw[if_pos h];rfl,_,_,rfl,λh=>by cases h⟩) (λv=>?_);rw[if_neg (by rw[v];decide)];refine A7.bk _ _ (t.tv !=I.pv) hf rfl (iq ..) (iq ..) c (λG a=>X8 H.toChkHas a (MO ..)) (λh=>⟨by rw[if_pos h];rfl,_,_,rfl,λh=>by cases h⟩) (λw=>?_);rw[if_neg (by rw[w];decide)];refine A7.bk _ _ t.ov hf rfl (iq ..) (iq ..) c (λG a=>Zx H.toChkHas a (MO ..) (t.f7 _ a)) (λh=>⟨by rw[if_pos h];rfl,_,_,rfl,λh=>by cases h⟩) (λf=>?_);rw[if_neg (by rw[f];decide)];exact⟨0,_,.de _,rfl,_,_,rfl,λ_=>rfl⟩
def LM.mC(t:LM C O I):ae 0 t.S=eT:=by simp only[LM.S,ae,below,t.h2.b,az9]
def amb(H:SH C)(f:I.pl= -1){B:St}(okB:Ok B)(hB:z O<=z B)(p:∀F T G,Ext O (QS B F T++G))(hI:I.ok (z O))(t:LM C O I):∃x d,A7 C (z B+3) (aaI (z B) (z B+1) (z B+2)) (QS B I.F zS) x d/\x=t.c/\∃o l,d=QS B o l/\(x=0->l=t.S):=by
 have ok0:Ok (QS B I.F zS):=P8 okB (Yh hI (by omega)) rfl;have i:Ok (QS B t.F1 zS):=P8 okB (t.hS hI (by omega)) rfl;have j:Ok (QS B t.F2 zS):=P8 okB (t.hT hI (by omega)) rfl;have c:Ok (QS B (t.F2.b7 0 t.sx) t.S):=P8 okB (t.hV hI (by omega) _ _) t.mC;have hf:ae (z B+3) [.c8 (z B) 0]=eT:=by simp[ae,below]
 have e:ae (z B+3) [.c8 (z B+1) 0,.c8 (z B+2) 0]=eT:=by simp[ae,below]
 have b:∀(F T) (G:St),z B+3<=z (QS B F T++G):=λF T G=>by rw[a04,iq];omega
 unfold LM.c Vf;refine A7.bk _ _ (I.al== -1) hf rfl (iq ..) (iq ..) ok0 (λG a=>aa9 H.toChkHas a (MO ..)) (λh=>⟨by rw[if_pos h];rfl,_,_,rfl,λh=>by cases h⟩) (λn1=>?_);rw[if_neg (by rw[n1];decide)]
 refine A7.bk _ _ (decide (I.al<0)) hf rfl (iq ..) (iq ..) ok0 (λG a=>by
  have:=amQ H.toChkHas a (MO B I.F zS G);rw[show I.F.pl= -1 from f,show decide ((0:Int)<= -1)=eF from rfl,aF3,Bool.or_false]at this;exact this) (λh=>⟨by rw[if_pos h];rfl,_,_,rfl,λh=>by cases h⟩) (λq=>?_)
 rw[if_neg (by rw[q];decide)];refine A7.bk _ _ (t.e1 !=0) (S':=QS B t.F1 zS) hf rfl (iq ..) (iq ..) i (λG a=>?_) (λh=>⟨by rw[if_pos h];rfl,_,_,rfl,λh=>by cases h⟩) (λm=>?_);·have:=acE H.toChkHas a (MO B I.F zS G) t.hH.toOne t.hJ.toOne t.hK.toOne t.hL.toOne t.hM.toOne (t.hS hI (by have:=b I.F zS G;omega)) (t.rd _ a);rw[Ox]at this;exact this
 have e1:t.e1=0:=by simpa using m
 rw[if_neg (by rw[m];decide)];refine A7.bk _ _ (t.e2 !=0) (S':=QS B t.F2 zS) hf rfl (iq ..) (iq ..) j (λG a=>?_) (λh=>⟨by rw[if_pos h];rfl,_,_,rfl,λh=>by cases h⟩) (λn=>?_);·have:=Qu H.toChkHas a (MO B t.F1 zS G) t.iN.toOne t.iQ.toOne t.iS.toOne t.iX.toOne t.i1.toOne t.i6.toOne (t.hT hI (by have:=b t.F1 zS G;omega)) (t.sg e1 _ a);rw[Ox]at this;exact this
 have e2:t.e2=0:=by simpa using n
 rw[if_neg (by rw[n];decide)];refine A7.bk _ _ (t.e3 !=0) (S':=QS B (t.F2.b7 0 t.sx) t.S) rfl e (iq ..) (iq ..) c (λG a=>?_) (λh=>⟨by rw[if_pos h];rfl,_,_,rfl,λh=>by cases h⟩) (λs=>?_);·have v:=b t.F2 zS G;have:=amC H.my a (MO B t.F2 zS G) (avo B t.F2 zS G) (avp B t.F2 zS G) (by omega) (by omega) (by omega) t.h2.toOne (by simp only[ae,t.h2.b,az9]) (t.hV hI (by omega) _ _) (t.sn e1 e2 _ a);rw[aj6,Ox]at this;exact this
 rw[if_neg (by rw[s];decide)];refine A7.bk _ _ (!t.en) hf rfl (iq ..) (iq ..) c (λG a=>XX H.toChkHas a (MO ..) (t.cK e1 e2 _ a (p _ _ _))) (λh=>⟨by rw[if_pos h];rfl,_,_,rfl,λh=>by cases h⟩) (λu=>?_);rw[if_neg (by rw[u];decide)];refine A7.bk _ _ t.ov hf rfl (iq ..) (iq ..) c (λG a=>Zx H.toChkHas a (MO ..) (t.f7 _ a)) (λh=>⟨by rw[if_pos h];rfl,_,_,rfl,λh=>by cases h⟩) (λg=>?_);rw[if_neg (by rw[g];decide)];exact⟨0,_,.de _,rfl,_,_,rfl,λ_=>rfl⟩
end
def atj{I:InF}(h:NV I.ph):NV (.da I.ck):=.da (.cW (.cV _) (.cW (.cU _ _) (.cW (.cU _ _) (.cW h .de))))
def ath{I:InF}{n:Nat}(h:I.ok n):NV (.da I.W):=.da (.cW (.cU _ _) (.cW h.a2.nv .de))
def asu{I:InF}{n:Nat}(h:I.ok n):(∀O d,bI O d I.v=J (I.v,[])):=by
 rcases h.v with h|⟨p,e,_⟩;·exact h.nf
 ·intro O d;rw[e];rfl
def Fj{n:Nat}{rs:List XR}{e:As}{Y:St}{vs:LA}(h:aU e Y rs=J vs)(h2:NVs vs):mD n rs (J (.ef,e,Y))=J (bW vs,tidy n vs Y):=by rw[xx,h];dsimp only;rw[h2.e]
def vO{n:Nat}{rs:List XR}{e:As}{Y O3:St}{vs vs':LA}(h:aU e Y rs=J vs)(h2:hand eF vs Y=J (vs',O3)):mD n rs (J (.ef,e,Y))=J (bW vs',tidy n vs' O3):=by rw[xx,h];dsimp only;rw[h2]
section
variable{O:St}{I:InF}
def abl (H:SH C) (c:Ok O) (hI:I.ok (z O)) (i:wB I.ph) (hv:I.v.C=eT/\I.v.cH=[I.v]) (t:LP C O I):
  ai C BF [I.v,.da I.ck,.da I.W,I.ks,.cU r I.bm,.cV I.am,.cU r I.al] O=J (.df [.da (if t.c=0 then t.T else zTn),.cU .u8 t.c],O):=by
 have m:z (O++aaw I)=z O+3:=by simp[aaw]
 have okB:Ok (O++aaw I):=c.H (by simp only[aaw,a07,az6,AO.below,ati hI,aqy hI,aA6];rfl);obtain⟨dv,p,R,hr,a,d,B,e⟩:=alW H okB (by omega) (λF T G=>amy _ F T G) hI t;have E:hand eF [I.v,.da I.ck,.da I.W,I.ks,.cU r I.bm,.cV I.am,.cU r I.al] O=J ([I.v,.da I.ck,.da I.W,I.ks,.cU r I.bm,.cV I.am,.cU r I.al],O):=by have n1:=asu hI;have K:=(atj i.nv).nf;have M:=(ath hI).nf;have N:=hI.ks.nv.nf;show(match dS O 12 [I.v,.da I.ck,.da I.W,I.ks,.cU r I.bm,.cV I.am,.cU r I.al]with|J (l,fs)=>J (l,freeze O fs)|U=>U)=_;rw[show dS O 12 [I.v,.da I.ck,.da I.W,I.ks,.cU r I.bm,.cV I.am,.cU r I.al]=aZ O (dS O 11) [I.v,.da I.ck,.da I.W,I.ks,.cU r I.bm,.cV I.am,.cU r I.al]from rfl];simp only[aZ,n1,K,M,N];rfl
 rw[H.b6.go E];have ok0:Ok (QS (O++aaw I) I.F zT):=P8 okB (Yh hI (by omega)) rfl
 have g:=R;rw[<-iq (O++aaw I) I.F zT]at g;have first:=Nc H.cP g ok0 (by simp[aay]) (by
  intro x j;simp only[aay,az4,aE8,or_false]at j;rcases j with rfl|rfl|rfl|rfl|rfl|rfl|rfl|rfl|rfl|rfl<;>first|exact asP .. |exact ajs ..)
 rw[B]at first
 rw[m]at first
 rw[show(aay (z O+3) (z O+3+1) (z O+3+2)).length=10 from rfl]at first
 have go:∀F T,QS (O++aaw I) F T=O++[.cH I.ck FZ,.cH I.W FZ,.cH zT FZ,.cH F.B FZ,.cH [.c8 (z O+3) 0] FZ,.cH T FZ]:=λF T=>by unfold QS;rw[m,ay2];rfl
 rw[go,go]at first
 simp only[aay,mt,an6,T3.B,aC7,aH8,a09,a98,ay5,aF1,Nat.reduceAdd]at first
 have n:=λ(vs:LA) (h:ae 0 vs=eT) L=>bz c (vs:=vs) h L;obtain⟨vf,o⟩:=hv;obtain⟨⟨k1,k2,_⟩,_⟩:=hI.a2;obtain⟨⟨k3,k,_⟩,_⟩:=hI.ks;obtain⟨⟨k5,k6,_⟩,_⟩:=i;rw[<-hr];obtain⟨⟨a2,S,q⟩,_⟩:=t.h2;obtain⟨⟨a3,V,s⟩,_⟩:=t.h3;obtain⟨⟨a4,W,u⟩,_⟩:=t.h4;obtain⟨⟨a5,X,v⟩,_⟩:=t.h5;obtain⟨⟨a6,Y,w⟩,_⟩:=t.h6;obtain⟨⟨a7,Z,y⟩,_⟩:=t.h7;obtain⟨⟨a8,b8,A⟩,_⟩:=t.h8;have P:=t.mE;have Q:NVs t.T:=.cW (.cU _ _) (.cW (.cU _ _) (.cW q (.cW s (.cW u (.cW v (.cW w (.cW y (.cW A .de))))))));by_cases b:dv=0
 ·rw[if_pos b];have e:=e b;subst e;have body:eX C (ai C) kP.L kP.aE (lQ 0 [I.v,.da I.ck,.da I.W,I.ks,.cU r I.bm,.cV I.am,.cU r I.al]) O=J (.ef,[(14,.c8 (z O+2) 0),(15,.cU .u8 0)],O++[.cH I.ck FZ,.cH I.W FZ,.cH t.T FZ,.cH a.B FZ,.cH [.c8 (z O+3) 0] FZ,.cH t.T FZ]):=by subst b;unfold InF.F iH.B InF.ck InF.W zT LP.T at*;simp only[kP,first,o,k,a2,a3,a4,a5,a6,a7,a8,splice,aF,EVX,seval]
  have res:aU [(14,.c8 (z O+2) 0),(15,.cU .u8 0)] (O++[.cH I.ck FZ,.cH I.W FZ,.cH t.T FZ,.cH a.B FZ,.cH [.c8 (z O+3) 0] FZ,.cH t.T FZ]) kP.Y=J [.da t.T,.cU .u8 0]:=by unfold LP.T;simp only[kP,aU,aN,EVX,seval]
  rw[body,Fj res (.cW (.da Q) (.cW (.cU _ _) .de)),n _ (by rw[ae,below,P];rfl),b];rfl
 ·rw[if_neg b];have f:(dv !=0)=eT:=by rw[bne_iff_ne];exact b
  have body:eX C (ai C) kP.L kP.aE (lQ 0 [I.v,.da I.ck,.da I.W,I.ks,.cU r I.bm,.cV I.am,.cU r I.al]) O=J (.ef,[(14,.c8 (z O+2) 0),(15,.cU .u8 dv)],O++[.cH I.ck FZ,.cH I.W FZ,.cH zT FZ,.cH a.B FZ,.cH [.c8 (z O+3) 0] FZ,.cH d FZ]):=by unfold InF.F iH.B InF.ck InF.W zT at*;simp only[kP,first,f,o,k,splice,aF,EVX,seval]
  have res:aU [(14,.c8 (z O+2) 0),(15,.cU .u8 dv)] (O++[.cH I.ck FZ,.cH I.W FZ,.cH zT FZ,.cH a.B FZ,.cH [.c8 (z O+3) 0] FZ,.cH d FZ]) kP.Y=J [.da zT,.cU .u8 dv]:=by unfold zT;simp only[kP,aU,aN,EVX,seval]
  have D:hand eF [.da zT,.cU .u8 dv] (O++[.cH I.ck FZ,.cH I.W FZ,.cH zT FZ,.cH a.B FZ,.cH [.c8 (z O+3) 0] FZ,.cH d FZ])=J ([.da zTn,.cU .u8 dv],O++[.cH I.ck FZ,.cH I.W FZ,.cH zT FZ,.cH a.B FZ,.cH [.c8 (z O+3) 0] FZ,.cH d FZ]):=rfl;rw[body,vO res D,n _ rfl];rfl
def zB(I:InF)(a b c d e f:AV):LA:=[a,b,I.ks,c,d,.cU r I.a1,I.a2,e,f]
def aaH(I:InF)(a b c d e f:AV):St:=[.cH (zB I a b c d e f) FZ,.cH zS FZ]
def TN (H:SH C) (j:Ok O) (hI:I.ok (z O)) (hv:I.v.C=eT/\I.v.cH=[I.v]) (s:I.pn=[]/\I.pv=0/\I.pl= -1/\I.ph=.cY) (t:LM C O I) {a b c d e f:AV} (m:wB a) (n:wB b) (h3:wB c) (h4:wB d) (h7:wB e) (h8:wB f):
  ai C qC [I.v,.da (zB I a b c d e f),.cU r I.bm,.cV I.am,.cU r I.al] O=J (.df [.da (if t.c=0 then t.S else zSn),.cU .u8 t.c],O):=by
 have X:ae 0 (zB I a b c d e f)=eT:=by simp only[zB,ae,below,m.b,n.b,h3.b,h4.b,h7.b,h8.b,hI.ks.b,hI.a2.b,az9]
 have Y:NV (.da (zB I a b c d e f)):=.da (.cW m.nv (.cW n.nv (.cW hI.ks.nv (.cW h3.nv (.cW h4.nv (.cW (.cU _ _) (.cW hI.a2.nv (.cW h7.nv (.cW h8.nv .de)))))))));have y:z (O++aaH I a b c d e f)=z O+2:=by simp[aaH]
 have okB:Ok (O++aaH I a b c d e f):=j.H (by simp only[aaH,a07,az6,AO.below,X,aA6];rfl);obtain⟨dv,N,R,hr,g,k,Q,o⟩:=amb H s.2.2.1 okB (by omega) (λF T G=>amy _ F T G) hI t;have V:hand eF [I.v,.da (zB I a b c d e f),.cU r I.bm,.cV I.am,.cU r I.al] O=J ([I.v,.da (zB I a b c d e f),.cU r I.bm,.cV I.am,.cU r I.al],O):=by have n1:=asu hI;have W:=Y.nf;show(match dS O 12 [I.v,.da (zB I a b c d e f),.cU r I.bm,.cV I.am,.cU r I.al]with|J (l,fs)=>J (l,freeze O fs)|U=>U)=_;rw[show dS O 12 [I.v,.da (zB I a b c d e f),.cU r I.bm,.cV I.am,.cU r I.al]=aZ O (dS O 11) [I.v,.da (zB I a b c d e f),.cU r I.bm,.cV I.am,.cU r I.al]from rfl];simp only[aZ,n1,W];rfl
 rw[H.ko.go V];have ok0:Ok (QS (O++aaH I a b c d e f) I.F zS):=P8 okB (Yh hI (by omega)) rfl
 have q:=R;rw[<-iq (O++aaH I a b c d e f) I.F zS]at q;have first:=Nc H.cP q ok0 (by simp[aaI]) (by
  intro x u;simp only[aaI,az4,aE8,or_false]at u;rcases u with rfl|rfl|rfl|rfl|rfl|rfl|rfl<;>first|exact asP .. |exact ajs ..)
 rw[Q]at first
 rw[y]at first
 rw[show(aaI (z O+2) (z O+2+1) (z O+2+2)).length=7 from rfl]at first
 have go:∀F T,QS (O++aaH I a b c d e f) F T=O++[.cH (zB I a b c d e f) FZ,.cH zS FZ,.cH F.B FZ,.cH [.c8 (z O+2) 0] FZ,.cH T FZ]:=λF T=>by unfold QS;rw[y,ay2];rfl
 rw[go,go]at first
 simp only[aaI,mt,an6,T3.B,aC7,aH8,a09,a98,ay5,aF1,Nat.reduceAdd]at first
 have K:=λ(vs:LA) (h:ae 0 vs=eT) L=>bz j (vs:=vs) h L;obtain⟨vf,M⟩:=hv;obtain⟨A,B,D,E⟩:=s;obtain⟨⟨k1,v,_⟩,_⟩:=hI.a2;obtain⟨⟨k3,w,_⟩,_⟩:=hI.ks;obtain⟨⟨f0,g0,_⟩,_⟩:=m;obtain⟨⟨f1,g1,_⟩,_⟩:=n;obtain⟨⟨f3,g3,_⟩,_⟩:=h3;obtain⟨⟨f4,g4,_⟩,_⟩:=h4;obtain⟨⟨f7,g7,_⟩,_⟩:=h7;obtain⟨⟨f8,g8,_⟩,_⟩:=h8;rw[<-hr];obtain⟨⟨a2,b2,P⟩,_⟩:=t.h2;have Z:=t.mC;have tn:NVs t.S:=.cW (.cU _ _) (.cW (.cU _ _) (.cW P .de));by_cases i:dv=0
 ·rw[if_pos i];have o:=o i;subst o;have body:eX C (ai C) gm.L gm.aE (lQ 0 [I.v,.da (zB I a b c d e f),.cU r I.bm,.cV I.am,.cU r I.al]) O=J (.ef,[(10,.c8 (z O+1) 0),(11,.cU .u8 0)],O++[.cH (zB I a b c d e f) FZ,.cH t.S FZ,.cH g.B FZ,.cH [.c8 (z O+2) 0] FZ,.cH t.S FZ]):=by
   subst i;unfold InF.F iH.B zB zS LM.S at*;simp only[gm,A,B,D,E]at first⊢
   simp only[first,M,v,w,a2,splice,aF,EVX,seval]
  have res:aU [(10,.c8 (z O+1) 0),(11,.cU .u8 0)] (O++[.cH (zB I a b c d e f) FZ,.cH t.S FZ,.cH g.B FZ,.cH [.c8 (z O+2) 0] FZ,.cH t.S FZ]) gm.Y=J [.da t.S,.cU .u8 0]:=by unfold LM.S;simp only[gm,aU,aN,EVX,seval]
  rw[body,Fj res (.cW (.da tn) (.cW (.cU _ _) .de)),K _ (by rw[ae,below,Z];rfl),i];rfl
 ·rw[if_neg i];have p:(dv !=0)=eT:=by rw[bne_iff_ne];exact i
  have body:eX C (ai C) gm.L gm.aE (lQ 0 [I.v,.da (zB I a b c d e f),.cU r I.bm,.cV I.am,.cU r I.al]) O=J (.ef,[(10,.c8 (z O+1) 0),(11,.cU .u8 dv)],O++[.cH (zB I a b c d e f) FZ,.cH zS FZ,.cH g.B FZ,.cH [.c8 (z O+2) 0] FZ,.cH k FZ]):=by
   unfold InF.F iH.B zB zS at*;simp only[gm,A,B,D,E]at first⊢
   simp only[first,p,M,v,w,splice,aF,EVX,seval]
  have res:aU [(10,.c8 (z O+1) 0),(11,.cU .u8 dv)] (O++[.cH (zB I a b c d e f) FZ,.cH zS FZ,.cH g.B FZ,.cH [.c8 (z O+2) 0] FZ,.cH k FZ]) gm.Y=J [.da zS,.cU .u8 dv]:=by unfold zS;simp only[gm,aU,aN,EVX,seval]
  have S:hand eF [.da zS,.cU .u8 dv] (O++[.cH (zB I a b c d e f) FZ,.cH zS FZ,.cH g.B FZ,.cH [.c8 (z O+2) 0] FZ,.cH k FZ])=J ([.da zSn,.cU .u8 dv],O++[.cH (zB I a b c d e f) FZ,.cH zS FZ,.cH g.B FZ,.cH [.c8 (z O+2) 0] FZ,.cH k FZ]):=rfl;rw[body,vO res S,K _ rfl];rfl
end
variable{V:Val}
def xM{d:LA}(h:Ms V [] d):d=[]:=by cases h;rfl
def BU{s:Sh}{t:List Sh}{d:LA}(h:Ms V (s::t) d)(a:s.eo=eT):∃v b,d=v::b/\M V s v/\Ms V t b:=by
 cases h with
 |eo _ _ v b _ h3 h4=>exact⟨v,b,rfl,h3,h4⟩|jv=>cases a|jg=>cases a
def uq{t:List Sh}{d:LA}(h:Ms V (.ds::t) d):∃s b,d=.cV s::b/\z s<=LB/\Ms V t b:=by
 obtain⟨v,b,rfl,h3,h4⟩:=BU h rfl;cases h3 with
 |ds s hs=>exact⟨s,b,rfl,hs,h4⟩
def vV{k:IntKind}{t:List Sh}{d:LA}(h:Ms V (.cU k::t) d):∃n b,d=.cU k n::b/\Ms V t b:=by
 obtain⟨v,b,rfl,h3,h4⟩:=BU h rfl;cases h3 with
 |cU k n=>exact⟨n,b,rfl,h4⟩
def arn{t:List Sh}{d:LA}(h:Ms V (.cX::t) d):∃n b,d=.cX n::b/\Ms V t b:=by
 obtain⟨v,b,rfl,h3,h4⟩:=BU h rfl;cases h3 with
 |cX n=>exact⟨n,b,rfl,h4⟩
def ak6{t:List Sh}{d:LA}(h:Ms V (.jv::t) d):∃(j:JV) (b:LA),d=j.B++b/\Ms V t b:=by
 cases h with
 |eo _ _ _ _ a=>cases a|jv _ j b h=>exact⟨j,b,rfl,h⟩
def ak5{d:Type}{e:List Sh}{f:d->LA}{P:d->Prop}(h:∀j,Ms V e j->∃x,j=f x/\P x):∀{rs:List LA},MRs V e rs->∃xs:List d,rs=xs.map f/\∀x∈xs,P x
 |_,.de _=>⟨[],rfl,λx g=>by cases g⟩
 |_,.cW _ j rs hr a=>by
  obtain⟨x,rfl,i⟩:=h j hr;obtain⟨xs,rfl,c⟩:=ak5 h a;exact⟨x::xs,rfl,λy b=>by
   rcases az4.mp b with rfl|b;·exact i
   ·exact c y b⟩
def acx{a:Type}{e:List Sh}{f:a->LA}{P:a->Prop}(h:∀i,Ms V e i->∃x,i=f x/\P x){v:AV}(c:M V (.eB e) v):∃xs:List a,v=.sl (z xs) (xs.flatMap f)/\z xs<=8192/\∀x∈xs,P x:=by
 cases c with
 |eB _ rs b hr=>obtain⟨xs,rfl,d⟩:=ak5 h hr;rw[aB0]at b⊢;exact⟨xs,by rw[List.flatMap],b,d⟩
def Ap{a:Type}{e:List Sh}{f:a->LA}{P:a->Prop}(h:∀d,Ms V e d->∃x,d=f x/\P x){t:List Sh}{d:LA}(c:Ms V (.eB e::t) d):∃(xs:List a) (b:LA),d=.sl (z xs) (xs.flatMap f)::b/\z xs<=8192/\(∀x∈xs,P x)/\Ms V t b:=by obtain⟨v,b,rfl,h3,h4⟩:=BU c rfl;obtain⟨xs,rfl,h5,h6⟩:=acx h h3;exact⟨xs,b,rfl,h5,h6,h4⟩
def afQ(d:LA)(h:Ms V [.ds] d):∃s,d=sC s/\True:=by obtain⟨s,b,rfl,_,a⟩:=uq h;rw[xM a];exact⟨s,rfl,trivial⟩
def ao1(d:LA)(h:Ms V [.ds,.ds] d):∃s,d=pC s/\True:=by obtain⟨s,b,rfl,_,a⟩:=uq h;obtain⟨u,b,rfl,_,h2⟩:=uq a;rw[xM h2];exact⟨(s,u),rfl,trivial⟩
def avU(d:LA)(h:Ms V [.ds,.cU r,.eB [.ds,.ds],.jv] d):∃t,d=TgV.B t/\z t.hs<=1099511627776:=by obtain⟨s,b,rfl,_,a⟩:=uq h;obtain⟨n,b,rfl,h2⟩:=vV a;obtain⟨hs,b,rfl,c,_,h3⟩:=Ap ao1 h2;obtain⟨j,b,rfl,h4⟩:=ak6 h3;rw[xM h4,ay5];exact⟨⟨s,n,hs,j⟩,rfl,show z hs<=_ by omega⟩
def avT(d:LA)(h:Ms V [.ds,.cU r,.eB [.ds],.cX,.eB [.ds],.eB [.ds]] d):∃t,d=RoV.B t/\t.ok:=by obtain⟨s,b,rfl,_,a⟩:=uq h;obtain⟨n,b,rfl,h2⟩:=vV a;obtain⟨a1,b,rfl,l1,_,h3⟩:=Ap afQ h2;obtain⟨c,b,rfl,h4⟩:=arn h3;obtain⟨a2,b,rfl,l2,_,h5⟩:=Ap afQ h4;obtain⟨a3,b,rfl,l3,_,h6⟩:=Ap afQ h5;rw[xM h6];exact⟨⟨s,n,a1,c,a2,a3⟩,rfl,⟨show z a1<=_ by omega,show z a2<=_ by omega,show z a3<=_ by omega⟩⟩
def av8:Sh:=.da [.cU r,.cU r,.eB [.ds,.cU r,.eB [.ds,.ds],.jv],.eB [.ds,.ds],.eB [.ds,.cU r,.eB [.ds],.cX,.eB [.ds],.eB [.ds]],.cU r,.eB [.ds],.cU r,.ds]
def ao2(d:LA)(h:Ms V0 Ll d):∃t,d=RoV.B t/\t.ok/\Ms V0 Ll t.B:=by obtain⟨t,rfl,k⟩:=avT d h;exact⟨t,rfl,k,h⟩
def au9(d:LA)(h:Ms V0 aiW d):∃t,d=TgV.B t/\z t.hs<=1099511627776/\Ms V0 aiW t.B:=by obtain⟨t,rfl,k⟩:=avU d h;exact⟨t,rfl,k,h⟩
def afn:List Sh:=[.eB [.ds,.ds],.eB Ll,.cU r,.eB [.ds],.cU r,.ds]
def ajR(q:LA)(h:Ms V0 afn q):∃d:JU,q=d.B/\d.ok/\ahf d:=by
 obtain⟨v,b,rfl,e,a⟩:=BU h rfl;obtain⟨ks,rfl,l1,i⟩:=acx (f:=pC) (P:=λx:PS=>z x.1<=LB/\z x.2<=LB) (λq h=>by
  obtain⟨s,b,rfl,a1,a⟩:=uq h;obtain⟨u,b,rfl,a2,h2⟩:=uq a;rw[xM h2];exact⟨(s,u),rfl,a1,a2⟩) e
 obtain⟨l,b,rfl,l2,q3,h2⟩:=Ap ao2 a;obtain⟨th,b,rfl,h3⟩:=vV h2;obtain⟨v,b,rfl,g,h4⟩:=BU h3 rfl;obtain⟨ids,rfl,l3,_⟩:=acx afQ g;obtain⟨n,b,rfl,h5⟩:=vV h4;obtain⟨p,b,rfl,j,h6⟩:=uq h5;rw[xM h6];exact⟨⟨ks,l,th,ids,n,p⟩,rfl,⟨show z ks<=_ by omega,show z l<=_ by omega,λx c=>(q3 x c).1,show z ids<=_ by omega⟩,⟨λx c=>(q3 x c).2,l2,e,⟨l1,i⟩,g,j⟩⟩
def ao5{v:AV}(h:M V0 av8 v):∃t:fB,v=.da t.B/\t.ok:=by
 cases h with
 |da _ v h=>obtain⟨a,b,rfl,i⟩:=vV h;obtain⟨e,b,rfl,h2⟩:=vV i;obtain⟨l,b,rfl,l1,q1,h3⟩:=Ap au9 h2;obtain⟨d,rfl,f,g⟩:=ajR b h3;exact⟨⟨a,e,l,d⟩,rfl,⟨show z l<=_ by omega,λx c=>(q1 x c).1,f,⟨λx c=>(q1 x c).2,l1,g⟩⟩⟩
def afy:Sh:=.da [.jv,.eB [.ds,.ds]]
def ae3{v:AV}(h:M V afy v):∃(j:JV) (l:List PS),v=.da (j.B++[.sl (z l) (l.flatMap pC)])/\z l<=8192:=by
 cases h with
 |da _ v h=>obtain⟨j,b,rfl,a⟩:=ak6 h;obtain⟨l,b,rfl,l1,_,h2⟩:=Ap ao1 a;rw[xM h2];exact⟨j,l,rfl,l1⟩
def Ji{v:AV}(h:M V .jv v):∃j:JV,v=j.av:=by
 cases h with
 |jv j=>exact⟨j,rfl⟩
def ajT{v:AV}(h:M V .ds v):∃s:LU,v=.cV s:=by
 cases h with
 |ds s _=>exact⟨s,rfl⟩
def IB{v:AV}(h:M V .cX v):∃b:Bool,v=.cX b:=by
 cases h with
 |cX b=>exact⟨b,rfl⟩
def Xk{s:Sh}{k:IntKind}{v:AV}(h:M V (.df [s,.cU k]) v):∃x n,v=.df [x,.cU k n]/\M V s x:=by
 cases h with
 |df _ _ h=>
  cases h with
  |cW _ _ x b a h2=>
   cases h2 with
   |cW _ _ y b h3 h4=>
    cases h4;cases h3 with
    |cU k n=>exact⟨x,n,rfl,a⟩
def avQ{s:Sh}{k a:IntKind}{v:AV}(h:M V (.df [s,.cU k,.cU a]) v):∃x n m,v=.df [x,.cU k n,.cU a m]/\M V s x:=by
 cases h with
 |df _ _ h=>
  cases h with
  |cW _ _ x b c h2=>
   cases h2 with
   |cW _ _ y b h3 h4=>
    cases h4 with
    |cW _ _ d b h5 h6=>
    cases h6;cases h3 with
    |cU k n=>cases h5 with|cU a m=>exact⟨x,n,m,rfl,c⟩
def ak4{a:Type}{e:List Sh}{f:a->LA}:∀(l:List a),(∀x∈l,Ms V e (f x))->MRs V e (l.map f)|[],_=>.de _|x::l,h=>.cW _ _ _ (h x (by simp)) (ak4 l λy b=>h y (by simp[b]))
def aab{a:Type}{e:List Sh}{f:a->LA}(l:List a)(h:∀x∈l,Ms V e (f x))(b:z l<=8192):M V (.eB e) (.sl (z l) (l.flatMap f)):=by have:=M.eB e (l.map f) (by rw[aB0];exact b) (ak4 l h);rwa[aB0,<-List.flatMap]at this
def xN(n:Nat){l:LA}(h:NV (.sl n l)):wB (.sl n l):=⟨⟨rfl,rfl,h⟩,h.cl⟩
def IJ(k:IntKind)(n:Int):wB (.cU k n):=⟨⟨rfl,rfl,.cU _ _⟩,rfl⟩
def akc(s:LU):wB (.cV s):=⟨⟨rfl,rfl,.cV _⟩,rfl⟩
def JV.hu(j:JV):∃a b c d e,j.B=[a,b,c,d,e]/\wB a/\wB b/\wB c/\wB d/\wB e:=by have f:=j.af;have h2:=j.ay;obtain⟨k,n,t,ns,is,a1,a3,a2,a4,rfl⟩:=j.ex;rw[JV.bB]at*;refine⟨_,_,_,_,_,rfl,IJ _ _,IJ _ _,akc _,xN _ (f _ (by simp)),xN _ (f _ (by simp))⟩
def uy(l:List LU):Prop:=z l<=8192/\∀s∈l,z s<=LB
def Cm(hs:List PS):Prop:=z hs<=8192/\∀x∈hs,z x.1<=LB/\z x.2<=LB
end Go.Ev
namespace Go.Ev
open Option renaming some→J, none→U
open List renaming length→z
open Bool renaming true→eT, false→eF
open Go.IntKind renaming i64→r
set_option maxRecDepth 100000
variable{C:Ctx}
def adY(d:Has C iV fA)(a b:LU)(e:z a<=LB)(hb:z b<=LB)(O:St)(f:Ok O):∃q:Bool,ai C iV [.cV a,.cV b] O=J (.cX q,O)/\(q=eT->z b<=z a):=by
 simp only[LB]at e hb;rw[d.go (NVs.e (.cW (.cV _) (.cW (.cV _) .de)) _)];by_cases h:z b<=z a;·have c:((z a:Int)>=(z b:Int)):=(by omega);have h2:IntKind.i64.wrap ((z a:Int)-z b)=((z a-z b:Nat):Int):=wrE (by omega);have h3:(0:Int)<=((z a-z b:Nat):Int):=(by omega);have h4:z a-z b<=z a/\z a<=z a:=(by omega);refine⟨decide (a.drop (z a-z b)=b),?_,λ_=>h⟩;simp only[fA,c,h2,h3,h4,List.take_length,ahB,az2,Option.map_none,a88,and_self,bi,EVX,seval]
 ·have c:¬((z a:Int)>=(z b:Int)):=(by omega);refine⟨eF,?_,λhf=>by cases hf⟩;simp only[fA,c,bi,EVX,seval]
theorem adL(g:Has C fD iT)(i:Has C iV fA)(a b:LU)(c:z a<=LB)(hb:z b<=LB)(O:St)(f:Ok O):∃(t:LU) (q:Bool),ai C fD [.cV a,.cV b] O=J (.df [.cV t,.cX q],O)/\z t<=LB:=by
 obtain⟨q,e,j⟩:=adY i a b c hb O f;rw[g.go (NVs.e (.cW (.cV _) (.cW (.cV _) .de)) _)];cases q with
 |false=>refine⟨a,eF,?_,c⟩;simp only[iT,e,bi,EVX,seval]|true=>have h:=j rfl;have d:=c;simp only[LB]at d hb;have h2:IntKind.i64.wrap ((z a:Int)-z b)=((z a-z b:Nat):Int):=wrE (by omega);have h3:(0:Int)<=((z a-z b:Nat):Int):=(by omega);have h4:z a-z b<=z a:=(by omega);refine⟨(a.take (z a-z b)).drop 0,eT,?_,by simp;omega⟩;simp only[iT,e,h2,h3,h4,a99,az2,Option.map_none,a88,and_self,bi,EVX,seval]
def aeD(PK:PkI)(a:Has C fD iT)(d:Has C iV fA):dh C PK fD (.ez [.ds,.ds] (.df [.ds,.cX])):=
 nK a rfl λe b=>by obtain⟨x,y,rfl,c,h2⟩:=ae1 b;grind [adL,Mt,M]
variable{PK:PkI}
def gZ{f:FuncId}{args:List Sh}{res:Sh}(h:dh C PK f (.ez args res)){azs:LA}(c:NVs azs)(b:Mt V0 args azs){O:St}(a:Ok O):∃v,ai C f azs O=J (v,O)/\M V0 res v:=h O azs azs O a (c.e O) a b
def Qs{V:Val}{k:IntKind}{v:AV}(h:M V (.cU k) v):∃n,v=.cU k n:=by cases h;exact⟨_,rfl⟩
def NI{V:Val}{v:AV}(h:M V .cX v):∃n,v=.cX n:=by cases h;exact⟨_,rfl⟩
def avu:List Int:=[0,31,59,90,120,151,181,212,243,273,304,334,365]
def bef:LA:=avu.map (.cU r)
def ahA(i:Nat)(h:i<13):∃x,(bef.drop i).head? =J (.cU r x):=by unfold bef;rw[aE6,aC6,a02 (show i<z avu from h)];exact⟨_,rfl⟩
structure Yj(C:Ctx)(PK:PkI):Prop where
 mI:Has C Xc vg
 g1:Has C Em iI
 mH:C.gl wU=some bef
 lz:dh C PK Xd (.ez [.cU .i64] .cX)
 nt:dh C PK Nz (.ez [.cU .i64,.cU .i64] .cX)
 gf:dh C PK Uj (.ez [.cU .i64] (.cU .i64))
 k2:dh C PK Jh (.ez [.ds] (.cU .i64))
def amm(H:Yj C PK)(y m:Int)(O:St)(h:Ok O):∃d,ai C Xc [.cU r y,.cU r m] O=J (.cU r d,O)/\(1<=d->1<=m/\m<=12):=by
 rw[H.mI.go (NVs.e (.cW (.cU _ _) (.cW (.cU _ _) .de)) _)];by_cases a:y<1970;·exact⟨0,by simp only[vg,a,bi,EVX,seval],by omega⟩
 by_cases h2:y>9999;·exact⟨0,by simp only[vg,a,h2,bi,EVX,seval],by omega⟩
 by_cases h3:m<1;·exact⟨0,by simp only[vg,a,h2,h3,bi,EVX,seval],by omega⟩
 by_cases h4:m>12;·exact⟨0,by simp only[vg,a,h2,h3,h4,bi,EVX,seval],by omega⟩
 have hb:=H.mH;have i:IntKind.i64.wrap (m-1)=m-1:=wrE (by omega);have a1:0<=m:=by omega
 have a2:0<=m-1:=by omega
 have bl:z bef=13:=rfl;have l1:m.toNat<13:=by omega
 have l2:(m-1).toNat<13:=by omega
 have l3:m.toNat<=z bef:=by omega
 have l4:(m-1).toNat<=z bef:=by omega
 obtain⟨x,f⟩:=ahA m.toNat l1;obtain⟨q,g⟩:=ahA (m-1).toNat l2;obtain⟨b,j,e⟩:=gZ H.lz (.cW (.cU r y) .de) (.cW _ _ _ _ (.cU _ _) .de) h;obtain⟨b,rfl⟩:=NI e;have c:∀E,avA C E (.g wU)=.em bef:=λE=>by show AV.em ((C.gl wU).getD [])=_;rw[hb];rfl
 cases h5:(m==(2:Int))with
 |false=>refine⟨IntKind.i64.wrap (x-q),?_,by omega⟩;simp only[vg,a,h2,h3,h4,h5,i,a1,a2,l1,l2,l3,l4,f,g,c,az2,and_self,bi,EVX,seval]
 |true=>
  cases b with
  |true=>refine⟨IntKind.i64.wrap (IntKind.i64.wrap (x-q)+1),?_,by omega⟩;simp only[vg,a,h2,h3,h4,h5,i,a1,a2,l1,l2,l3,l4,f,g,j,c,az2,and_self,bi,EVX,seval]|false=>refine⟨IntKind.i64.wrap (x-q),?_,by omega⟩;simp only[vg,a,h2,h3,h4,h5,i,a1,a2,l1,l2,l3,l4,f,g,j,c,az2,and_self,bi,EVX,seval]
def PB(Q:Prop)(v:AV):Prop:=∃b:Bool,v=.cX b/\(b=eT->Q)
def PB.no{Q:Prop}:PB Q (.cX eF):=⟨eF,rfl,λh=>by cases h⟩
def PB.kO{Q:Prop}(h:Q):PB Q (.cX eT):=⟨eT,rfl,λ_=>h⟩
structure J6(C:Ctx)(PK:PkI):Prop where
 lg:Has C Ny aQ
 kI:Has C LY EE
 kc:Has C Xb pX
 kN:Has C kE WN
 hg:dh C PK Ei (.ez [.ds] .cX)
 hC:dh C PK sF (.ez [.eB [.ds]] .cX)
def ab8(H:J6 C PK)(s:LU)(O:St)(a:Ok O):∃b:Bool,ai C LY [.cV s] O=J (.cX b,O)/\(b=eT->z s<=4096):=by
 rw[H.kI.go (NVs.e (.cW (.cV _) .de) _)];by_cases h:(z s:Int)<=4096;·obtain⟨v,c,h2⟩:=gZ H.hg (.cW (.cV s) .de) (.cW _ _ _ _ (.ds s (by simp only[LB];omega)) .de) a;obtain⟨b,rfl⟩:=NI h2;exact⟨b,by simp only[EE,h,c,bi,EVX,seval],λ_=>by omega⟩
 ·exact⟨eF,by simp only[EE,h,bi,EVX,seval],λhf=>by cases hf⟩
def aaP(ns:List LU)(i:Nat)(h:i<z ns):(ns.map AV.cV).drop i=.cV ns[i]::(ns.map AV.cV).drop (i+1):=by rw[ay6 (l:=ns.map AV.cV) (by simpa using h),List.getElem_map]
def XG (H:J6 C PK) (ns:List LU) (o:z ns<=8192) (O:St) (a:Ok O):∀(n i:Nat),i+n=z ns->
  (aH C (ai C) 99 [89,90,91] eU [(89,.sl (z ns) (ns.map .cV)),(90,.cU r (z ns)),(91,.cU r i)] O=J (.dq 1,[],O)/\∀x∈ns.drop i,z x<=4096)\/
  aH C (ai C) 99 [89,90,91] eU [(89,.sl (z ns) (ns.map .cV)),(90,.cU r (z ns)),(91,.cU r i)] O=J (.ef,[(2,.cX eF)],O)
 |0,i,hi=>by left;refine⟨?_,by rw[aH2 (by omega)];simp⟩;rw[aA (he:=rfl)];have h:¬((i:Int)<(z ns:Int)):=(by omega);simp only[eU,h,EVX,seval]
 |n+1,i,hi=>by
  have h:((i:Int)<(z ns:Int)):=(by omega);have h2:i<z ns:=(by omega);have h3:(0:Int)<=i:=(by omega);have l:=wrS i (by omega);have sl:z (ns.map AV.cV)=z ns:=(by simp);have f:=aaP ns i h2;have k:ns.drop i=ns[i]::ns.drop (i+1):=ay6 h2;generalize ns[i]=x at f k;obtain⟨b,e,hb⟩:=ab8 H x O a;have c:=XG H ns o O a n (i+1) (by omega);cases b with
  |false=>right;rw[aA (he:=rfl)];simp only[eU,h,h2,h3,sl,f,e,EVX,seval]
  |true=>
   rcases c with⟨c,p⟩|c
   ·left;refine⟨?_,λy g=>?_⟩;·rw[aA (he:=rfl)];generalize m:aH C (ai C) 99 [89,90,91] eU=d at*;simp only[eU,h,h2,h3,l,sl,f,e,c,EVX,seval]
    ·rw[k]at g;rcases az4.mp g with rfl|g;·exact hb rfl
     ·exact p y g
   ·right;rw[aA (he:=rfl)];generalize m:aH C (ai C) 99 [89,90,91] eU=d at*;simp only[eU,h,h2,h3,l,sl,f,e,c,EVX,seval]
def ado(k:Int)(t:LU)(ns:List LU)(is:List JV):Prop:=z t<=4096/\(∀x∈ns,z x<=4096)/\(k≠4->k≠5->is=[])
set_option maxHeartbeats 4000000 in
def alQ(H:J6 C PK)(k n:Int)(t:LU)(ns:List LU)(is:List JV)(M:z ns<=z is)(h3:k=5->z is<=z ns)(h2:z is<=8192)(h4:StB t ns)(O:St)(s:Ok O):∃v,ai C Ny [(JV.mk k n t ns is M h3 h2 h4).av] O=J (v,O)/\PB (ado k t ns is) v:=by
 rw[H.lg.go (NVs.e (.cW (JV.nv _) .de) _)];have b:=λ(q:Bool)=>bz s (vs:=[.cX q]) rfl;have ca:(JV.mk k n t ns is M h3 h2 h4).av=.da [.cU .u8 k,.cU r n,.cV t,.sl (z ns) (ns.map .cV),.sl (z is) (aJ is)]:=by unfold JV.av;rw[JV.bB]
 have d:∀{du:Option (AV×St)},du=J (.cX eF,O)->∃v,du=J (v,O)/\PB (ado k t ns is) v:=λh=>⟨_,h,PB.no⟩;have o:∀{du:Option (AV×St)},du=J (.cX eT,O)->ado k t ns is->∃v,du=J (v,O)/\PB (ado k t ns is) v:=λh g=>⟨_,h,PB.kO g⟩
 let B:Int->AO:=λk=>.cH [.cU .u8 k,.cU r n,.cV t,.sl (z ns) (ns.map .cV),.sl (z is) (aJ is)] FZ
 have okB:∀k,Ok (O++[.cH [.cU .u8 k,.cU r n,.cV t,.sl (z ns) (ns.map .cV),.sl (z is) (aJ is)] FZ]):=λk=>Vj s (by simp[AO.below,ae,Ev.below,aK (a99 _) _ (uU ns),aK (a99 _) _ (gY is)]);have x:t=[]->z t<=4096:=λh=>by rw[h];simp
 have D:¬(z ns:Int)>0->ns=[]:=λh=>az0 (by omega);have E:¬(z is:Int)>0->is=[]:=λh=>az0 (by omega);have sl:z (ns.map AV.cV)=z ns:=by simp
 by_cases j:k=1
 ·subst j;cases a:decide (t=[])with
  |false=>exact d (by simp only[aQ,ca,a,AV.cH,aA2,mX,b,EVX,seval])|true=>
  have l:t=[]:=(by simpa using a);by_cases c:(z ns:Int)>0;·exact d (by simp only[aQ,ca,a,c,bP,AV.cH,decide_true,aA8,aA2,mX,b,EVX,seval])
  have i:=D c;by_cases f:(z is:Int)>0;·exact d (by simp only[aQ,ca,a,c,f,bP,AV.cH,decide_true,decide_false,aA8,aA2,mX,b,EVX,seval])
  cases G:(n==0)with
  |true=>exact o (by simp only[aQ,ca,a,c,f,G,bP,AV.cH,decide_false,aA8,aA2,mX,b,EVX,seval]) ⟨x l,by rw[i];simp,λ_ _=>E f⟩|false=>
  cases p:(n==1)with
  |true=>exact o (by simp only[aQ,ca,a,c,f,G,p,bP,AV.cH,decide_false,aA8,aA2,mX,b,EVX,seval]) ⟨x l,by rw[i];simp,λ_ _=>E f⟩|false=>exact d (by simp only[aQ,ca,a,c,f,G,p,bP,AV.cH,decide_false,aA8,aA2,mX,b,EVX,seval])
 by_cases j:k=2
 ·subst j;cases a:decide (t=[])with
  |false=>exact d (by simp only[aQ,ca,a,AV.cH,aA2,mX,b,EVX,seval])|true=>
  have l:t=[]:=(by simpa using a);by_cases c:(z ns:Int)>0;·exact d (by simp only[aQ,ca,a,c,bP,AV.cH,decide_true,aA8,aA2,mX,b,EVX,seval])
  have i:=D c;by_cases f:(z is:Int)>0;·exact d (by simp only[aQ,ca,a,c,f,bP,AV.cH,decide_true,decide_false,aA8,aA2,mX,b,EVX,seval])
  exact o (by simp only[aQ,ca,a,c,f,bP,AV.cH,decide_false,aA8,aA2,mX,b,EVX,seval]) ⟨x l,by rw[i];simp,λ_ _=>E f⟩
 by_cases j:k=3
 ·subst j;cases e:(n !=0)with
  |true=>exact d (by simp only[aQ,ca,e,AV.cH,aA8,b,EVX,seval])|false=>
  by_cases c:(z ns:Int)>0;·exact d (by simp only[aQ,ca,e,c,bP,AV.cH,decide_true,aA8,aA2,b,EVX,seval])
  have i:=D c;by_cases f:(z is:Int)>0;·exact d (by simp only[aQ,ca,e,c,f,bP,AV.cH,decide_true,decide_false,aA2,b,EVX,seval])
  obtain⟨Q,L,S⟩:=ab8 H t _ (okB 3);cases Q with
  |true=>exact o (by simp only[aQ,ca,e,c,f,L,bP,AV.cH,decide_false,aA2,b,EVX,seval]) ⟨S rfl,by rw[i];simp,λ_ _=>E f⟩|false=>exact d (by simp only[aQ,ca,e,c,f,L,bP,AV.cH,decide_false,aA2,b,EVX,seval])
 by_cases j:k=4
 ·subst j;cases e:(n !=0)with
  |true=>exact d (by simp only[aQ,ca,e,AV.cH,aA8,b,EVX,seval])|false=>
  cases a:decide (t=[])with
  |false=>exact d (by simp only[aQ,ca,e,a,AV.cH,aA2,mX,b,EVX,seval])|true=>
  have l:t=[]:=(by simpa using a);by_cases c:(z ns:Int)>0;·exact d (by simp only[aQ,ca,e,a,c,bP,AV.cH,decide_true,aA8,aA2,mX,b,EVX,seval])
  have i:=D c;exact o (by simp only[aQ,ca,e,a,c,bP,AV.cH,decide_false,aA8,aA2,mX,b,EVX,seval]) ⟨x l,by rw[i];simp,λh _=>absurd rfl h⟩
 by_cases j:k=5
 ·subst j;cases e:(n !=0)with
  |true=>exact d (by simp only[aQ,ca,e,AV.cH,aA8,b,EVX,seval])|false=>
  cases a:decide (t=[])with
  |false=>exact d (by simp only[aQ,ca,e,a,AV.cH,aA2,mX,b,EVX,seval])|true=>
  have l:t=[]:=(by simpa using a);cases y:((z ns:Int) !=z is)with
  |true=>exact d (by simp only[aQ,ca,e,a,y,bP,AV.cH,aA8,aA2,mX,b,EVX,seval])|false=>
  obtain⟨T,F,I⟩:=gZ H.hC (.cW (.sl (z ns) (uU ns)) .de) (.cW _ _ _ _ (by
   obtain⟨rs,r1,r2,r3⟩:=aaz (V:=V0) ns h4.ns;rw[<-r1,<-r2];exact .eB _ rs (by rw[r1];simp only[LS];omega) r3) .de) (okB 5)
  obtain⟨P,rfl⟩:=NI I;cases P with
  |false=>exact d (by simp only[aQ,ca,e,a,y,F,bP,AV.cH,aA8,aA2,mX,b,EVX,seval])|true=>
  have m:=XG H ns (by omega) _ (okB 5) (z ns) 0 (by omega);simp only[ay1,ay9]at m;rcases m with⟨m,R⟩|m;·exact o (by simp only[aQ,ca,e,a,y,F,m,bP,AV.cH,aA8,aA2,mX,b,EVX,seval]) ⟨x l,R,λ_ h=>absurd rfl h⟩
  ·exact d (by simp only[aQ,ca,e,a,y,F,m,bP,AV.cH,aA8,aA2,mX,b,EVX,seval])
 have u:(k !=1)=eT:=by simpa using‹¬k=1›
 have q1:(k==1)=eF:=by simpa using‹¬k=1›
 have w:(k !=2)=eT:=by simpa using‹¬k=2›
 have q2:(k==2)=eF:=by simpa using‹¬k=2›
 have A:(k !=3)=eT:=by simpa using‹¬k=3›
 have q3:(k==3)=eF:=by simpa using‹¬k=3›
 have N:(k !=4)=eT:=by simpa using‹¬k=4›
 have q4:(k==4)=eF:=by simpa using‹¬k=4›
 have K:(k !=5)=eT:=by simpa using‹¬k=5›
 have q5:(k==5)=eF:=by simpa using‹¬k=5›
 cases e:(n !=0)with
 |true=>exact d (by simp only[aQ,ca,u,w,e,AV.cH,aA8,b,EVX,seval])|false=>
 cases a:decide (t=[])with
 |false=>exact d (by simp only[aQ,ca,u,w,A,e,a,AV.cH,aA2,mX,b,EVX,seval])|true=>
 by_cases c:(z ns:Int)>0;·exact d (by simp only[aQ,ca,u,w,A,K,e,a,c,bP,AV.cH,decide_true,aA8,aA2,mX,b,EVX,seval])
 by_cases f:(z is:Int)>0;·exact d (by simp only[aQ,ca,u,w,A,N,K,e,a,c,f,bP,AV.cH,decide_true,decide_false,aA8,aA2,mX,b,EVX,seval])
 exact d (by simp only[aQ,ca,u,w,A,N,K,q1,q2,q3,q4,q5,e,a,c,f,bP,AV.cH,decide_false,aA8,aA2,mX,b,EVX,seval])
mutual
def JW.g4:JW->Nat|.mk _ _ _ _ is=>PU is+1
def PU:List JW->Nat|[]=>0|j::l=>j.g4+PU l
end
mutual
def JW.gv:JW->Prop|.mk k n t ns is=>(z t<=4096/\(∀x∈ns,z x<=4096)/\(k≠4->k≠5->is=[]))/\ZT is
def ZT:List JW->Prop|[]=>True|j::l=>j.gv/\ZT l
end
def BQ(L:Int):AO:=.cH [.cU r L] FZ
def ato(C:Ctx)(j:JV):Prop:=∀(nested L:Int) (O:St) (o:Nat),Ok O->0<=L->L<=8192->O[o]?=J (BQ L)->∃(b:Bool) (a:Int),ai C Xb [j.av,.cU r nested,.c8 o 0] O=J (.cX b,O.set o (BQ a))/\(b=eT->0<=a/\(j.w.g4:Int)+a<=L/\j.w.gv)
def ag3 (is:List JV) (M:z is<=8192) (u:∀j∈is,ato C j) (nested:Int) (o:Nat) (O:St) (D:o<z O):∀(n i:Nat),i+n=z is->∀(L:Int) (Y:St),Ok Y->0<=L->L<=8192->z O<=z Y->Y.take (z O)=O.set o (BQ L)->
  ∃(f:Int) (k:St),k.take (z O)=O.set o (BQ f)/\
  ((aH C (ai C) 47 [1,2,34,35,36] jw [(1,.cU r nested),(2,.c8 o 0),(34,.sl (z is) (aJ is)),(35,.cU r (z is)),(36,.cU r i)] Y=J (.dq 0,[],k)/\0<=f/\(PU ((is.drop i).map (·.w)):Int)+f<=L/\ZT ((is.drop i).map (·.w)))\/
   aH C (ai C) 47 [1,2,34,35,36] jw [(1,.cU r nested),(2,.c8 o 0),(34,.sl (z is) (aJ is)),(35,.cU r (z is)),(36,.cU r i)] Y=J (.ef,[(6,.cX eF)],k))
 |0,i,hi,L,Y,g,s,h8,B,p=>by
  refine⟨L,Y,p,.inl ⟨?_,s,?_,?_⟩⟩;·rw[aA (he:=rfl)];have h:¬((i:Int)<(z is:Int)):=(by omega);simp only[jw,h,EVX,seval]
  ·rw[aH2 (by omega)];simp[PU]
  ·rw[aH2 (by omega)];trivial
 |n+1,i,hi,L,Y,g,s,h8,B,p=>by
  have h:((i:Int)<(z is:Int)):=(by omega);have h2:i<z is:=(by omega);have Q:=wrS i (by omega);have H:(0:Int)<=(i:Int):=(by omega);have d2:=AP is i h2;have sl:=jF is;have hj:is[i]∈is:=aB3 h2;have v:is.drop i=is[i]::is.drop (i+1):=ay6 h2;generalize is[i]=j at*;generalize aJ (is.drop (i+1))=R at*;have l:=JV.dt j;have F:=JV.C j;have G:(j.B++R).take 5=j.B:=by rw[<-l];simp
  have E:5<=z (j.B++R):=(by simp[l]);have m:j.B.take 5=j.B:=a95 (by rw[JV.dt];exact a06 _);have P:5<=z j.B:=by rw[JV.dt];exact a06 _
  have I:∀a b c d e:AV,splice [a,b,c,d,e] 0 j.B=j.B:=λa b c d e=>by simp[splice,l]
  have t:Ok (Y++[.cH j.B FZ]):=g.H (by rw[a07,show AO.below 0 (.cH j.B FZ)=eT from j.ay];rfl);have x:Y[o]?=J (BQ L):=by
   have:(Y.take (z O))[o]?=J (BQ L):=by rw[p];simp[D]
   grind
  obtain⟨b,f,q,N⟩:=u j hj (IntKind.i64.wrap (nested-1)) L _ o t s h8 (aj x _);rw[fK x]at q;have t2:(Y.set o (BQ f)++[AO.cH j.B FZ]:St).take (z O)=O.set o (BQ f):=(by rw[oD _ _ _ (by simpa using B),List.take_set,p,aB8]);have w:=λL=>bK (rfl:z Y=_) L;have s1:=λL y=>iF (rfl:z Y=_) L y;unfold JV.av at q;cases b with
  |false=>refine⟨f,_,t2,.inr ?_⟩;rw[aA (he:=rfl)];simp only[jw,h,h2,H,d2,sl,q,w,s1,l,F,G,E,m,I,a88,AV.cH,EVX,seval]
  |true=>
   obtain⟨q1,q2,q3⟩:=N rfl;obtain⟨K,k,e1,e2⟩:=ag3 is M u nested o O D n (i+1) (by omega) f _ ((g.co o rfl).H (by rw[a07,show AO.below 0 (.cH j.B FZ)=eT from j.ay];rfl)) q1 (by omega) (by simp;omega) t2;refine⟨K,k,e1,?_⟩;have hs:∀co,aH C (ai C) 47 [1,2,34,35,36] jw [(1,.cU r nested),(2,.c8 o 0),(34,.sl (z is) (aJ is)),(35,.cU r (z is)),(36,.cU r (i+1:Nat))] (Y.set o (BQ f)++[AO.cH j.B FZ])=co->aH C (ai C) 47 [1,2,34,35,36] jw [(1,.cU r nested),(2,.c8 o 0),(34,.sl (z is) (aJ is)),(35,.cU r (z is)),(36,.cU r i)] Y=co:=λco e=>by rw[aA (he:=rfl)];generalize S:aH C (ai C) 47 [1,2,34,35,36] jw=T at*;simp only[jw,h,h2,Q,H,d2,sl,q,w,s1,e,l,F,G,E,m,I,a88,AV.cH,EVX,seval]
   rcases e2 with⟨e2,e3,e4,e5⟩|e2
   ·refine .inl ⟨hs _ e2,e3,?_,?_⟩;·rw[v,az3,PU];omega
    ·rw[v,az3];exact⟨q3,e5⟩
   ·exact .inr (hs _ e2)
def JV.kf(k n:Int)(t:LU)(ns:List LU)(is:List JV)(a:z ns<=z is)(h3:k=5->z is<=z ns)(h2:z is<=8192)(h4:StB t ns)(x:JV)(b:x∈is):SizeOf.sizeOf x.w<SizeOf.sizeOf (JV.mk k n t ns is a h3 h2 h4).w:=by show SizeOf.sizeOf x.w<SizeOf.sizeOf (JW.mk k n t ns (is.map (·.w)));have:SizeOf.sizeOf x.w<SizeOf.sizeOf (is.map (·.w)):=List.sizeOf_lt_of_mem (List.mem_map_of_mem b);simp;omega
def Vu(H:J6 C PK):∀(m:Nat) (j:JV),SizeOf.sizeOf j.w<m->ato C j
 |0,j,I=>absurd I (by omega)
 |m+1,j,I=>by
  intro nested L O o s h0 h8 D;obtain⟨k,n,t,ns,is,a,h3,h2,h4,rfl⟩:=j.ex;have P:∀x∈is,ato C x:=λx X=>Vu H m x (by have:=JV.kf k n t ns is a h3 h2 h4 x X;omega);have W:o<z O:=(a00.mp D).1;have l:IntKind.i64.wrap (L-1)=L-1:=wrE (by omega);have K:hand eF [(JV.mk k n t ns is a h3 h2 h4).av,.cU r nested,.c8 o 0] O=J ([(JV.mk k n t ns is a h3 h2 h4).av,.cU r nested,.c8 o 0],O):=by rw[lF,aO,(JV.nv _).nf,aO,aO];rfl
  have f:Ok (O.set o (BQ (L-1))++[.cH (JV.mk k n t ns is a h3 h2 h4).B FZ]):=(s.co o rfl).H (by grind [AO.below,JV.ay]);obtain⟨v,i,pb⟩:=alQ H k n t ns is a h3 h2 h4 _ f;have B:=λ(q:Bool) u L=>Oj s o (x:=BQ u) rfl [.cX q] rfl L;have ca:(JV.mk k n t ns is a h3 h2 h4).av=.da [.cU .u8 k,.cU r n,.cV t,.sl (z ns) (ns.map .cV),.sl (z is) (aJ is)]:=by unfold JV.av;rw[JV.bB]
  have gl:=λu L=>aj (aX D (BQ u)) L;have d:=λL=>aj D L;have g:=λL y=>fK D L y;have tk:=λ(q:Bool) S u (h:List.take (z O) S=O.set o (BQ u))=>AY (vs:=[.cX q]) s (x:=BQ u) rfl rfl h;have M:=ag3 is h2 P nested o O W (z is) 0 (by omega) (L-1);rw[JV.bB]at f;rw[ca,JV.bB]at i;rw[ca]at K;rw[ca,H.kc.go K];have N:(O.set o (BQ (L-1))++[AO.cH [.cU .u8 k,.cU r n,.cV t,.sl (z ns) (ns.map .cV),.sl (z is) (aJ is)] FZ]:St).take (z O)=O.set o (BQ (L-1)):=by simp_all
  dsimp only[BQ]at*;by_cases e:L-1<0;·exact⟨eF,L-1,by simp only[pX,e,l,d,g,gl,B,AV.cH,AV.C,splice,EVX,seval],λh=>by cases h⟩
  obtain⟨b,rfl,hb⟩:=pb;cases b with
  |false=>exact⟨eF,L-1,by simp only[pX,e,i,l,d,g,gl,B,AV.cH,AV.C,splice,nM,EVX,seval],λh=>by cases h⟩|true=>
  obtain⟨b1,R,E⟩:=hb rfl;have gd:∀(c:Nat),ZT (is.map (·.w))->PU (is.map (·.w))=c->(JV.mk k n t ns is a h3 h2 h4).w.g4=c+1/\(JV.mk k n t ns is a h3 h2 h4).w.gv:=λc V T=>by
   refine⟨?_,⟨b1,R,λx y=>?_⟩,V⟩;·show PU (is.map (·.w))+1=_;rw[T]
   ·rw[E x y];rfl
  have fin:k≠4->k≠5->0<=L-1/\((JV.mk k n t ns is a h3 h2 h4).w.g4:Int)+(L-1)<=L/\(JV.mk k n t ns is a h3 h2 h4).w.gv:=λx y=>by obtain⟨e1,e2⟩:=gd 0 (by rw[E x y];trivial) (by rw[E x y];rfl);rw[e1];exact⟨by omega,by omega,e2⟩
  by_cases F:k=4
  ·subst F;cases p:(nested==0)with
   |true=>exact⟨eF,L-1,by simp only[pX,e,i,p,l,d,g,gl,B,AV.cH,AV.C,splice,nM,EVX,seval],λh=>by cases h⟩|false=>
   obtain⟨w,Q,A,q⟩:=M _ f (by omega) (by omega) (by simp) N;simp only[ay1,ay9]at q;rcases q with⟨q,q1,q2,q3⟩|q;·have tq:=tk eT _ _ A;obtain⟨e1,e2⟩:=gd _ q3 rfl;refine⟨eT,w,by simp only[pX,e,i,p,q,tq,l,d,g,gl,AV.cH,AV.C,splice,nM,EVX,seval],λ_=>⟨q1,by rw[e1];omega,e2⟩⟩
   ·have tq:=tk eF _ _ A;exact⟨eF,w,by simp only[pX,e,i,p,q,tq,l,d,g,gl,AV.cH,AV.C,splice,nM,EVX,seval],λh=>by cases h⟩
  by_cases G:k=5
  ·subst G;cases p:(nested==0)with
   |true=>exact⟨eF,L-1,by simp only[pX,e,i,p,l,d,g,gl,B,AV.cH,AV.C,splice,nM,EVX,seval],λh=>by cases h⟩|false=>
   obtain⟨w,Q,A,q⟩:=M _ f (by omega) (by omega) (by simp) N;simp only[ay1,ay9]at q;rcases q with⟨q,q1,q2,q3⟩|q;·have tq:=tk eT _ _ A;obtain⟨e1,e2⟩:=gd _ q3 rfl;refine⟨eT,w,by simp only[pX,e,i,p,q,tq,l,d,g,gl,AV.cH,AV.C,splice,nM,EVX,seval],λ_=>⟨q1,by rw[e1];omega,e2⟩⟩
   ·have tq:=tk eF _ _ A;exact⟨eF,w,by simp only[pX,e,i,p,q,tq,l,d,g,gl,AV.cH,AV.C,splice,nM,EVX,seval],λh=>by cases h⟩
  have Y:(k !=4)=eT:=(by simpa using F);have Z:(k !=5)=eT:=(by simpa using G);exact⟨eT,L-1,by simp only[pX,e,i,Y,Z,l,d,g,gl,B,AV.cH,AV.C,splice,nM,EVX,seval],λ_=>fin F G⟩
def Vt(H:J6 C PK)(j:JV)(O:St)(a:Ok O):∃b:Bool,ai C kE [j.av] O=J (.cX b,O)/\(b=eT->j.w.g4<=8192/\j.w.gv):=by
 have d:Ok (O++[.cH j.B FZ,BQ 8192]):=a.H (by rw[a07,show AO.below 0 (.cH j.B FZ)=eT from j.ay];rfl);obtain⟨b,k,q,l⟩:=Vu H _ j (aH0 _) 12 8192 _ (z O+1) d (by omega) (by omega) (by rw[aN];rfl);refine⟨b,?_,λh=>?_⟩
 ·have e:hand eF [j.av] O=J ([j.av],O):=NVs.e (.cW j.nv .de) _;have i:=λ(q:Bool)=>bz a (vs:=[.cX q]) rfl;have g:=JV.dt j;have c:j.B.take 5=j.B:=a95 (by rw[JV.dt];exact a06 _);have f:5<=z j.B:=by rw[JV.dt];exact a06 _
  unfold JV.av at*;dsimp only[BQ]at*;rw[H.kN.go e];simp only[WN,q,g,c,i,AV.cH,splice,EVX,seval]
 grind
end Go.Ev
