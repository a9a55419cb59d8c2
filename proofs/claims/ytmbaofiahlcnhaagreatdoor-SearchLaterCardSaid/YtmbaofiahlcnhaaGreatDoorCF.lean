/- Code. No conditions. -/
import Derived.Test.YtmbaofiahlcnhaaGreatDoorCE
import Derived.Test.YtmbaofiahlcnhaaGreatDoorCC
import Derived.Test.YtmbaofiahlcnhaaGreatDoorCB
import Derived.Test.YtmbaofiahlcnhaaGreatDoorCD
import Derived.Test.YtmbaofiahlcnhaaGreatDoorEC
import Derived.Lib.Bytealg
import Derived.Shelf.SlSortCmp.WholeK
set_option linter.unusedVariables false
set_option linter.unusedSimpArgs false
set_option linter.defProp false
namespace Go.Ev
open Option renaming none→U, some→J
open List renaming length→z
open Go.IntKind renaming i64→r
open Bool renaming true→eT, false→eF
set_option maxRecDepth 100000
variable{C:Ctx}{PK:PkI}
def akH(H:P5 C PK)(a b:EL){Y:St}(c:Ok Y):∃(j:JV) (e:Int),tX Y 6 96 U (.eC 1 (elC a)) 1 (elC b)=J (.dj (z Y) 0 2 6,Y++[.cH (dH [a,b]) FZ])/\ai C jW [.dj (z Y) 0 2 6] (Y++[.cH (dH [a,b]) FZ])=J (.df [j.av,.cU r e],Y++[.cH (dH [a,b]) ⟨eT,U⟩]):=by
 have d:Ok (Y++[.cH (dH [a,b]) FZ]):=c.H (by
  have:AO.below 0 (.cH (dH [a,b]) FZ)=eT:=wG _;rw[a07,az6,AO.au (a99 _) _ this];rfl)
 obtain⟨j,e,q2⟩:=aim H [a,b] (by simp) (by simp) (z Y) _ d (by rw[bK rfl];rfl);rw[iF rfl]at q2;refine⟨j,e,?_,q2⟩;rw[Y9 Y (sz:=6) (bytes:=96) U (n:=1) (m:=1) (l:=elC a) (elC b) (by decide) (by rw[jB]) (by decide) (by decide)];simp[dH]
def alH(H:P5 C PK)(d:JU)(hr:∀x∈d.ap,Ms V0 Ll x.B)(hl:z d.ap<=8192)(hk:M V0 (.eB [.ds,.ds]) (.sl (z d.ak) (d.ak.flatMap pC)))(hi:TsM d.O)(hp:z d.b4<=LB)(O:St)(o:Ok O):∃j:JV,ai C xC [.da d.B] O=J (j.av,O):=by
 have dc:d.B=[.sl (z d.ak) (d.ak.flatMap pC),.sl (z d.ap) (d.ap.flatMap RoV.B),.cU r d.cp,.sl (z d.O) (d.O.flatMap sC),.cU r d.dd,.cV d.b4]:=rfl;have Z:=NVs.e (.cW (.da d.af) .de) O;have ok0:Ok (O++[.cH d.B FZ,.cH [.cU .u8 0,.cU r 0,.cV [],.cY,.cY] FZ]):=o.H (by
  have:AO.below 0 (.cH d.B FZ)=eT:=d.ay;rw[a07,this];rfl)
 obtain⟨v1,q1,k1⟩:=gZ H.dc (.cW (wL d.ak) .de) (.cW _ _ _ _ hk .de) ok0;obtain⟨v1,e1,rfl,aa⟩:=Xk k1;obtain⟨f,rfl⟩:=Ji aa;have l:Ok (O++[.cH d.B FZ,.cH [.cU .u8 0,.cU r 0,.cV [],.cY,.cY] FZ,.cH f.B FZ]):=o.H (by
  have h1:AO.below 0 (.cH d.B FZ)=eT:=d.ay;have h2:AO.below 0 (.cH f.B FZ)=eT:=f.ay;simp only[a07,az6,h1,h2];rfl)
 have ab:NVs [.cU r d.cp,.sl (z d.O) (d.O.flatMap sC),.cU r d.dd,.cV d.b4]:=.cW (.cU _ _) (.cW (nz d.O) (.cW (.cU _ _) (.cW (.cV _) .de)));obtain⟨v2,q2,k2⟩:=gZ H.g7 (.cW (.da ab) .de) (.cW _ _ _ _ (.da _ _ (.eo _ _ _ _ rfl (.cU _ _) (.eo _ _ _ _ rfl hi (.eo _ _ _ _ rfl (.cU _ _) (.eo _ _ _ _ rfl (.ds _ hp) .de))))) .de) l;obtain⟨b,rfl⟩:=IB k2;have X:z ([107,101,121,115]:LU)<=LB:=lbs _ (by decide);have lr:z ([114,111,108,101,115]:LU)<=LB:=lbs _ (by decide);have lb:z ([115,117,99,99,105,110,99,116,95,114,111,108,101,115]:LU)<=LB:=lbs _ (by decide);have m:=λ(j:JV) (E:As) (Y:St)=>ae6 (E:=E) (Y:=Y) j o (n:=z O+1);have fj:∀j:JV,j.B.all AV.C=eT:=λj=>by obtain⟨a,b,c,d,e0,x0,y0,z1,z2,z3,z4,z5⟩:=iE j;rw[y0];simp only[a07,az6,z1,z2,z3,z4,z5,az9]
 cases b
 ·
  obtain⟨jb,q3⟩:=abg H d.cp d.O d.dd d.b4 hi hp _ l;obtain⟨j,e,ap,q4⟩:=akH H (⟨_,X⟩,f) (⟨_,lb⟩,jb) l;refine⟨j,?_⟩;have m:=m j;obtain⟨a1,b1,c1,d1,e1,x1,y1,u,v,w,A,B⟩:=iE f;obtain⟨a2,b2,c2,d2,e2,x2,y2,D,F,G,z24,K⟩:=iE jb;obtain⟨a3,b3,c3,d3,e3,x3,y3,N,P,Q,R,V⟩:=iE j;unfold elC at ap;dsimp only at ap;generalize dH [(⟨_,X⟩,f),(⟨_,lb⟩,jb)]=L4 at*;rw[x1]at q1;rw[x2]at q3;rw[x3]at q4;rw[y3]at m;rw[y1]at q2 q3 q4 ap;rw[y2]at ap;rw[dc]at Z q1 q2 q3 q4 ap⊢;simp only[ay2,a09,a98,a04,a90,a94,az5,Nat.reduceAdd]at q1 q2 q3 q4 ap;rw[H.et.go Z];generalize hE:mD=eR;simp only[FY,q1,q2,q3,q4,ap,u,v,w,A,B,D,F,G,z24,K,N,P,Q,R,V,aF,dm,aN,fF,splice,AV.cH,fl5,a09,a98,EVX,seval];rw[<-hE];refine m _ _ ?_ ?_ ?_;·rfl
  ·rw[aN];rfl
  ·simp
 ·
  have ac:Ok (O++[.cH d.B FZ,.cH [.cU .u8 0,.cU r 0,.cV [],.cY,.cY] FZ,.cH f.B FZ,.cH [] FZ]):=by have:=l.H (L:=[.cH [] FZ]) rfl;rwa[ay2]at this
  obtain⟨Y,q,is,I,W⟩:=abX H d.ap hl hr (.c8 (z O+1) 0) (.eC 1 (elC (⟨_,X⟩,f))) (z O+3) _ (z d.ap) 0 (by omega) _ (z O+3) [] ⟨ac,rfl,by rw[aN];rfl,a06 _,λ_ _ _ e=>e⟩;simp only[ay1]at W;have il:z is<=8192:=by rw[I.dt];exact hl
  have hh:hand eF [.dj q 0 (z d.ap) 5] Y=J ([.sl (z d.ap) (aJ is)],Y.set q (.cH (aJ is) ⟨eT,U⟩)):=by rw[lF,aO,G8 I.ed (by rw[jF,I.dt]) (GY is),qY,<-tu I.ed];rfl
  have p:Ok (Y.set q (.cH (aJ is) ⟨eT,U⟩)):=Ok.bd I.ok q (by rw[AO.below];exact aK (a99 _) _ (gY is));obtain⟨v3,q3,k3⟩:=H.br _ _ _ _ I.ok hh p (.cW _ _ _ _ (by rw[<-I.dt];exact .fR is il) .de);obtain⟨jl,rfl⟩:=Ji k3;obtain⟨S,hS⟩:∃S,S=Y.set q (.cH (aJ is) ⟨eT,U⟩):=⟨_,rfl⟩;rw[<-hS]at q3 p;have kp:∀k x,k<z O+3->(O++[AO.cH d.B FZ,.cH [.cU .u8 0,.cU r 0,.cV [],.cY,.cY] FZ,.cH f.B FZ,.cH [] FZ])[k]?=J x->S[k]?=J x:=λk x hk e=>by have:=I.lq;rw[hS];exact aG (I.dx k x hk e) (by omega) _
  have z1:S[z O+1]?=J (.cH [.cU .u8 0,.cU r 0,.cV [],.cY,.cY] FZ):=kp _ _ (by omega) (by rw[aN];rfl);have lS:=(a00.mp (kp (z O+2) (.cH f.B FZ) (by omega) (by rw[aN];rfl))).1;have tS:S.take (z O)=O:=by
   apply aA9;intro i;by_cases h:i<z O;·rw[List.getElem?_take_of_lt h];have e:O[i]?=J O[i]:=a02 h;rw[kp i O[i] (by omega) (aj e _),e]
   ·rw[aA1 (by rw[aB1];omega),aA1 (by omega)]
  obtain⟨j,e,ap,q4⟩:=akH H (⟨_,X⟩,f) (⟨_,lr⟩,jl) p;refine⟨j,?_⟩;have m:=m j;obtain⟨a1,b1,c1,d1,e1,x1,y1,u,v,w,A,B⟩:=iE f;obtain⟨a2,b2,c2,d2,e2,x2,y2,D,F,G,z24,K⟩:=iE jl;obtain⟨a3,b3,c3,d3,e3,x3,y3,N,P,Q,R,V⟩:=iE j;unfold elC at ap W;dsimp only at ap W;generalize dH [(⟨_,X⟩,f),(⟨_,lr⟩,jl)]=L4 at*;rw[x1]at q1;rw[x2]at q3;rw[x3]at q4;rw[y3]at m;rw[y1]at q2 ap W;rw[y2]at ap;rw[dc]at Z q1 q2 W⊢;have mk:∀T:St,mkV T 5 80 (.cU r 0) (.cU r (z d.ap))=J (.ew (.dj (z T) 0 0 5) (T++[.cH [] FZ])):=λT=>if_pos (by omega);have so:=λL (y:AO)=>aD2 (s:=S) (t:=L) (z O+1) y (by omega);have zo:=λL=>aj z1 L;have g1:=λL=>bK (rfl:z S=_) L;have s1:=λL y=>iF (rfl:z S=_) L y;have g2:=λL k=>vY (rfl:z S=_) L k;have s2:=λL k y=>aaU (rfl:z S=_) L k y;rw[H.et.go Z];generalize hE:mD=eR;simp only[FY,q1,q2,W,q3,q4,ap,avY,mk,Option.isSome_some,so,zo,g1,s1,g2,s2,u,v,w,A,B,D,F,G,z24,K,N,P,Q,R,V,aF,dm,aN,fF,splice,AV.cH,fl5,a09,a98,EVX,seval];rw[<-hE];refine m _ _ ?_ ?_ ?_;·rfl
  ·rw[aA3 (by simp;omega),aE5 (by omega)]
  ·rw[aC4 (by simp;omega),dK _ _ _ (by omega),tS]
end Go.Ev
namespace Go.Ev
open Option renaming none→U, some→J
open List renaming length→z
open Go.IntKind renaming i64→r
open Bool renaming true→eT, false→eF
set_option maxRecDepth 100000
variable{C:Ctx}
def aqd(n:Nat)(h:n<18446744073709551616):IntKind.u64.wrap (n:Int)=n:=by simp[IntKind.wrap,IntKind.bits,IntKind.signed];omega
def wO(n:Nat)(h:n<4294967296):IntKind.u32.wrap (n:Int)=n:=by simp[IntKind.wrap,IntKind.bits,IntKind.signed];omega
def aw1:(List.range 256).all (λb=>match VU[b]? with|J c=>decide (b<2^c.toNat)&&decide (c.toNat<=8)|U=>eF)=eT:=by decide+kernel
def aw2(q:Has C rY gI)(x:Nat)(u:x<18446744073709551616):∃L:Nat,x<2^L/\L<=64/\∀O,ai C rY [.cU .u64 x] O=J (.cU r L,O):=by
 have go:=λO=>q.go (O:=O) (NVs.e (.cW (.cU .u64 (x:Int)) .de) _);have f:∀(k y:Nat),(y:Int).fdiv ((2^k:Nat):Int)=((y/2^k:Nat):Int):=λk y=>by rw[aD5 _ (Int.natCast_nonneg _)];rfl
 have f32:∀y:Nat,(y:Int).fdiv (2^min 32 IntKind.u64.bits)=((y/4294967296:Nat):Int):=f 32;have l:∀y:Nat,(y:Int).fdiv (2^min 16 IntKind.u64.bits)=((y/65536:Nat):Int):=f 16;have o:∀y:Nat,(y:Int).fdiv (2^min 8 IntKind.u64.bits)=((y/256:Nat):Int):=f 8;have fin:∀(n y:Nat),y=x/2^n->y<256->n<=56->(∀c:UInt8,VU[y]?=J c->IntKind.i64.wrap (c.toNat:Int)=c.toNat->IntKind.i64.wrap ((n:Int)+c.toNat)=((n+c.toNat:Nat):Int)->IntKind.u8.wrap (y:Int)=y->(0:Int)<=y->∀O,ai C rY [.cU .u64 x] O=J (.cU r (n+c.toNat:Nat),O))->∃L:Nat,x<2^L/\L<=64/\∀O,ai C rY [.cU .u64 x] O=J (.cU r L,O):=λn y s p h2 h=>by
  have t:=a97.mp aw1 y (aD4.mpr p);split at t;·rename_i c a;simp only[a01,decide_eq_true_eq]at t;refine⟨n+c.toNat,?_,by omega,h c a (by rw[w64]<;>omega) (by rw[w64]<;>omega) (by rw[IntKind.wrap_u8];omega) (by omega)⟩;rw[s,Nat.div_lt_iff_lt_mul (Nat.pow_pos (by decide)),Nat.mul_comm,<-Nat.pow_add]at t;exact t.1
  ·cases t
 by_cases m:(4294967296:Int)<=(x:Int)
 ·by_cases j:(65536:Int)<=((x/4294967296:Nat):Int)
  ·by_cases i:(256:Int)<=((x/4294967296/65536:Nat):Int);·refine fin 56 (x/4294967296/65536/256) (by omega) (by omega) (by omega) λc a b d e g O=>?_;rw[go];simp only[gI,m,j,i,f32,l,o,a,b,e,g,a88,EVX,seval];exact congrArg (λv=>J (AV.cU IntKind.i64 v,O)) d
   ·refine fin 48 (x/4294967296/65536) (by omega) (by omega) (by omega) λc a b d e g O=>?_;rw[go];simp only[gI,m,j,i,f32,l,a,b,e,g,a88,EVX,seval];exact congrArg (λv=>J (AV.cU IntKind.i64 v,O)) d
  ·by_cases i:(256:Int)<=((x/4294967296:Nat):Int);·refine fin 40 (x/4294967296/256) (by omega) (by omega) (by omega) λc a b d e g O=>?_;rw[go];simp only[gI,m,j,i,f32,o,a,b,e,g,a88,EVX,seval];exact congrArg (λv=>J (AV.cU IntKind.i64 v,O)) d
   ·refine fin 32 (x/4294967296) (by omega) (by omega) (by omega) λc a b d e g O=>?_;rw[go];simp only[gI,m,j,i,f32,a,b,e,g,a88,EVX,seval];exact congrArg (λv=>J (AV.cU IntKind.i64 v,O)) d
 ·by_cases j:(65536:Int)<=((x:Nat):Int)
  ·by_cases i:(256:Int)<=((x/65536:Nat):Int);·refine fin 24 (x/65536/256) (by omega) (by omega) (by omega) λc a b d e g O=>?_;rw[go];simp only[gI,m,j,i,l,o,a,b,e,g,a88,EVX,seval];exact congrArg (λv=>J (AV.cU IntKind.i64 v,O)) d
   ·refine fin 16 (x/65536) (by omega) (by omega) (by omega) λc a b d e g O=>?_;rw[go];simp only[gI,m,j,i,l,a,b,e,g,a88,EVX,seval];exact congrArg (λv=>J (AV.cU IntKind.i64 v,O)) d
  ·by_cases i:(256:Int)<=((x:Nat):Int);·refine fin 8 (x/256) (by omega) (by omega) (by omega) λc a b d e g O=>?_;rw[go];simp only[gI,m,j,i,o,a,b,e,g,a88,EVX,seval];exact congrArg (λv=>J (AV.cU IntKind.i64 v,O)) d
   ·refine fin 0 (x) (by omega) (by omega) (by omega) λc a b d e g O=>?_;rw[go];simp only[gI,m,j,i,a,b,e,g,a88,EVX,seval];exact congrArg (λv=>J (AV.cU IntKind.i64 v,O)) (by simpa using d)
def p10:LA:=(List.range 20).map λi=>AV.cU .u64 ((10^i:Nat):Int)
def awK:(List.range 65).all (λL=>decide (2^L<=10^(L*78913/262144+1))&&decide (L*78913/262144<20))=eT:=by decide+kernel
structure NdHas(C:Ctx):Prop where
 dt:Has C rY gI
 n2:Has C oN oL
 nD:Has C oM oK
 nd:Has C jV vZ
 gl:C.gl uM=some p10
def aw5(a:Has C oN oL)(L:Nat)(b:L<=64)(O:St):ai C oN [.cU r L] O=J (.cU r (L*78913/262144:Nat),O):=by
 rw[a.go (NVs.e (.cW (.cU _ _) .de) _)];have w:IntKind.i64.wrap ((L:Int)*78913)=((L*78913:Nat):Int):=wrE (by omega);have f:∀y:Nat,(y:Int).fdiv (2^min 18 IntKind.i64.bits)=((y/262144:Nat):Int):=λy=>by rw[aD5 _ (by decide)];rfl
 simp only[oL,w,f,EVX,seval]
def b2i(a:Has C oM oK)(b:Bool)(O:St):ai C oM [.cX b] O=J (.cU r (if b then 1 else 0),O):=by rw[a.go (NVs.e (.cW (.cX _) .de) _)];cases b<;>simp only[oK,aC3,EVX,seval]
def numDigits(H:NdHas C)(u:Nat)(m:u<18446744073709551616):∃d:Nat,u<10^d/\d<=20/\∀O,ai C jV [.cU .u64 u] O=J (.cU r d,O):=by
 obtain⟨L,l1,l3,q1⟩:=aw2 H.dt u m;have t:=a97.mp awK L (aD4.mpr (by omega));simp only[a01,decide_eq_true_eq]at t;obtain⟨t1,t2⟩:=t;have q2:=aw5 H.n2 L l3;generalize L*78913/262144=n at*;have k:p10[n]?=J (.cU .u64 ((10^n:Nat):Int)):=by unfold p10;rw[aC6,List.getElem?_range t2];rfl
 have e:=H.gl;refine⟨n+(if 10^n<=u then 1 else 0),?_,?_,λO=>?_⟩
 ·split;·omega
  ·rename_i h;simpa using Nat.lt_of_not_le h
 ·split<;>omega
 ·rw[H.nd.go (NVs.e (.cW (.cU _ _) .de) _)];have b:=b2i H.nD (decide (10^n<=u)) O;have i:p10.drop n=.cU .u64 ((10^n:Nat):Int)::p10.drop (n+1):=by rw[ay6 (by simp[p10];omega)];congr 1;exact aE0 ((a02 (by simp[p10];omega)).symm.trans k)
  have g:(0:Int)<=(n:Int):=(by omega);have a:n<20:=t2;have j:decide (((10^n:Nat):Int)<=(u:Int))=decide (10^n<=u):=by rw[aH5];simp only[decide_eq_true_eq];omega
  have l:z p10=20:=rfl;have f:n<=20:=(by omega);simp only[vZ,q1,q2,e,i,l,f,g,a,j,b,a88,aD7,decide_eq_true_eq,EVX,seval];refine congrArg (λv=>J (AV.cU IntKind.i64 v,O)) ?_;split<;>(rw[w64]<;>omega)
def sm_at(a:Nat)(h:a<100):gQ[a*2]?=J (gQ.getD (a*2) 0)/\gQ[a*2+1]?=J (gQ.getD (a*2+1) 0):=by
 have e:∀x,x<200->gQ[x]?=J (gQ.getD x 0):=λx b=>by rw[az8,a02 (by omega)];rfl
 exact⟨e _ (by omega),e _ (by omega)⟩
def asf(l:LU)(i:Nat)(b:UInt8)(h:i<z l):splice (ofBytes l) i [.cU .u8 (b.toNat:Int)]=ofBytes (l.set i b):=by unfold splice ofBytes;rw[List.map_set,List.set_eq_take_append_cons_drop,if_pos (by simpa using h)];simp
def Xr(a:Nat)(b:a<100):IntKind.u32.wrap ((a:Int)*2)=((a*2:Nat):Int)/\IntKind.u32.wrap (((a*2:Nat):Int)+1)=((a*2+1:Nat):Int)/\(0:Int)<=((a*2:Nat):Int)/\(0:Int)<=((a*2+1:Nat):Int):=⟨by have:=wO (a*2) (by omega);rw[<-this];rfl,by have:=wO (a*2+1) (by omega);rw[<-this];rfl,by omega,by omega⟩
def ajG (d:Nat) (N:d<=20) (O:St) (q:Nat) {x0:AO} (H:O[q]?=J x0):∀(n i u:Nat) (l:LU),i<=d->i/8=n->u<10^i->u<18446744073709551616->z l=24->∃(t:Nat) (s:LU),t<10^(i%8)/\z s=24/\
  aH C (ai C) 167 [0,1,4] bu [(0,.dj q 1 d 1),(1,.cU .u64 u),(4,.cU r i)] (O.set q (.cH (ofBytes l) FZ))=
   J (.dq 0,[(0,.dj q 1 d 1),(1,.cU .u64 t),(4,.cU r (i%8:Nat))],O.set q (.cH (ofBytes s) FZ))
 |0,i,u,l,hi,Q,p,F,o=>by have e:i%8=i:=Nat.mod_eq_of_lt (by omega);refine⟨u,l,by rw[e];exact p,o,?_⟩;rw[aA (he:=rfl)];have h:¬(8:Int)<=(i:Int):=(by omega);simp only[bu,h,e,EVX,seval]
 |n+1,i,f,l,hi,Q,p,F,o=>by
  have h:(8:Int)<=(i:Int):=(by omega);obtain⟨j,rfl⟩:∃j,i=j+8:=⟨i-8,by omega⟩;have step:∃l2:LU,z l2=24/\aH C (ai C) 167 [0,1,4] bu [(0,.dj q 1 d 1),(1,.cU .u64 f),(4,.cU r (j+8:Nat))] (O.set q (.cH (ofBytes l) FZ))=aH C (ai C) 167 [0,1,4] bu [(0,.dj q 1 d 1),(1,.cU .u64 (f/100000000:Nat)),(4,.cU r j)] (O.set q (.cH (ofBytes l2) FZ)):=by
   have M:∀(x:AO),(O.set q x)[q]?=J x:=λx=>aX H x;obtain⟨m,G⟩:∃x,f%100000000=x:=⟨_,rfl⟩;obtain⟨g,B⟩:∃x,m/10000=x:=⟨_,rfl⟩;obtain⟨ll,E⟩:∃x,m%10000=x:=⟨_,rfl⟩;obtain⟨a1,v⟩:∃x,g/100=x:=⟨_,rfl⟩;obtain⟨a2,w⟩:∃x,g%100=x:=⟨_,rfl⟩;obtain⟨a3,y⟩:∃x,ll/100=x:=⟨_,rfl⟩;obtain⟨a4,A⟩:∃x,ll%100=x:=⟨_,rfl⟩;have t1:(f:Int).tmod 100000000=(m:Int):=by rw[<-G];rfl
   have t2:(f:Int).tdiv 100000000=((f/100000000:Nat):Int):=rfl;have t3:(m:Int).tdiv 10000=(g:Int):=by rw[<-B];rfl
   have t4:(m:Int).tmod 10000=(ll:Int):=by rw[<-E];rfl
   have t5:(g:Int).tdiv 100=(a1:Int):=by rw[<-v];rfl
   have t6:(g:Int).tmod 100=(a2:Int):=by rw[<-w];rfl
   have t7:(ll:Int).tdiv 100=(a3:Int):=by rw[<-y];rfl
   have t8:(ll:Int).tmod 100=(a4:Int):=by rw[<-A];rfl
   have w0:=aqd (f/100000000) (by omega);have w1:=wO m (by omega);have w2:=wO g (by omega);have w3:=wO a1 (by omega);have w4:=wO a3 (by omega);obtain⟨x1,y1,z1,v1⟩:=Xr a1 (by omega);obtain⟨s1,r1⟩:=sm_at a1 (by omega);obtain⟨x2,y2,z2,v2⟩:=Xr a2 (by omega);obtain⟨s2,r2⟩:=sm_at a2 (by omega);obtain⟨x3,y3,z3,v3⟩:=Xr a3 (by omega);obtain⟨s3,r3⟩:=sm_at a3 (by omega);obtain⟨x4,y4,z4,v4⟩:=Xr a4 (by omega);obtain⟨s4,r4⟩:=sm_at a4 (by omega);have iw:∀(k:Int) (co:Nat),k+co=8->0<=k->IntKind.i64.wrap (((j+8:Nat):Int)-k)=((j+co:Nat):Int):=λk co h h0=>by rw[w64]<;>omega
   have R:=iw 1 7 rfl (by decide);have S:=iw 2 6 rfl (by decide);have T:=iw 3 5 rfl (by decide);have V:=iw 4 4 rfl (by decide);have W:=iw 5 3 rfl (by decide);have X:=iw 6 2 rfl (by decide);have Y:=iw 7 1 rfl (by decide);have i8:IntKind.i64.wrap (((j+8:Nat):Int)-8)=(j:Int):=iw 8 0 rfl (by decide);have n8:(0:Int)<=(j:Int):=(by omega);have l8:j<d:=(by omega);have K:1+j+1<=24:=(by omega);have d8:1+j<24:=(by omega);have ng:∀co:Nat,(0:Int)<=((j+co:Nat):Int):=λco=>Int.natCast_nonneg _;have Z:∀co:Nat,co<8->j+co<d:=λco h=>by omega
   have L:∀co:Nat,co<8->1+(j+co)+1<=24:=λco h=>by omega
   have I:∀co:Nat,co<8->1+(j+co)<24:=λco h=>by omega
   refine⟨?_,?_,?_⟩
   rotate_left 2
   ·rw[aA (he:=rfl)];generalize hk:aH C (ai C) 167 [0,1,4] bu=k;simp only[bu,h,M,t1,t2,t3,t4,t5,t6,t7,t8,w0,w1,w2,w3,w4,x1,y1,z1,v1,s1,r1,x2,y2,z2,v2,s2,r2,x3,y3,z3,v3,s3,r3,x4,y4,z4,v4,s4,r4,R,S,T,V,W,X,Y,i8,n8,l8,K,d8,ng,Z,L,I,asf,o,a96,aI,a88,aB8,AV.cH,AV.C,EVX,seval];rfl
   ·simp only[a96,o]
  obtain⟨l2,D,e2⟩:=step;obtain⟨t,s,a,b,c⟩:=ajG d N O q H n j (f/100000000) l2 (by omega) (by omega) (by rw[Nat.div_lt_iff_lt_mul (by decide)];rw[Nat.pow_add]at p;exact p) (by omega) D;rw[Nat.add_mod_right];exact⟨t,s,a,b,e2.trans c⟩
variable{PK:PkI}
def hexD:LU:=[48,49,50,51,52,53,54,55,56,57,97,98,99,100,101,102]
def akE(q:Nat)(w:AV):∀(c:Nat),c<=8->∀(n:Nat) (l:LU) (Y:St),n<4294967296->z l=8->Y[q]?=J (.cH (ofBytes l) FZ)->∃b:LU,z b=8/\aH C (ai C) 23 [0,1,5,6] wQ [(0,.cU .u32 n),(1,w),(5,.c8 q 0),(6,.cU r ((c:Int)-1))] Y=J (.dq 0,[(1,w),(5,.c8 q 0)],Y.set q (.cH (ofBytes b) FZ))
 |0,_,n,l,Y,g,d,a=>by refine⟨l,d,?_⟩;have h:¬((0:Nat):Int)-1>=0:=(by decide);rw[aA (he:=rfl),set_self a];simp only[wQ,h,EVX,seval]
 |c+1,v,n,l,Y,g,d,a=>by
  have e:((c+1:Nat):Int)-1=c:=(by omega);rw[e];have h:(c:Int)>=0:=(by omega);have m:IntKind.u32.wrap (BitVec.ofInt IntKind.u32.bits (n:Int)&&&BitVec.ofInt IntKind.u32.bits 15).toNat=((n%16:Nat):Int):=by have:=amK .u32 rfl n 15 g (by decide);rw[show n&&&15=n%16 from Nat.and_two_pow_sub_one_eq_mod n 4]at this;exact this
  have p:(n:Int).fdiv (2^min 4 IntKind.u32.bits)=((n/16:Nat):Int):=by rw[aD5 _ (by decide)];rfl
  have i:hexD[n%16]?=J (hexD.getD (n%16) 0):=by have:n%16<z hexD:=Nat.mod_lt _ (by decide);rw[az8,a02 this];rfl
  have o:c<8:=(by omega);have l8:c+1<=z (ofBytes l):=by rw[aI];omega
  have np:(0:Int)<=((n%16:Nat):Int):=(by omega);obtain⟨b,s,f⟩:=akE q w c (by omega) (n/16) (l.set c (hexD.getD (n%16) 0)) (Y.set q (.cH (ofBytes (l.set c (hexD.getD (n%16) 0))) FZ)) (by omega) (by simpa using d) (aX a _);refine⟨b,s,?_⟩;have j:=asf l c (hexD.getD (n%16) 0) (by omega);have u:IntKind.i64.wrap ((c:Int)-1)=(c:Int)-1:=by rw[IntKind.wrap_i64];omega
  rw[aB8]at f;unfold hexD at i j f;rw[aA (he:=rfl)];generalize x:aH C (ai C) 23 [0,1,5,6] wQ=k at*;simp only[wQ,h,m,p,i,np,o,l8,a,j,u,f,EVX,seval]
structure PZ(C:Ctx)(PK:PkI):Prop where
 b6:dh C PK xG (.ez [.ds] .cX)
 lr:∀(s:LU) (O:St),Ok O->s.length<=LB->∃l:LU,l.length=32/\ai C Du [.cV s] O=some (.cV l,O)
 kc:Has C ZA JY
 eh:Has C Ub Bd
 mB:Has C Uc Sv
 eW:Has C Xa WH
 dg:Has C Zz YM
 e9:Has C Zy QK
 lX:Has C WZ Hz
 ff:Has C Ij Hy
def asi(H:PZ C PK)(n c:Nat)(h:n<4294967296)(o:1<=c)(d:c<=8)(O:St)(a:Ok O):∃s:LU,z s=c/\ai C Xa [.cU .u32 n,.cU r c] O=J (.cV s,O):=by
 obtain⟨l,p,b⟩:=akE (C:=C) (z O) (.cU r c) c d n [0,0,0,0,0,0,0,0] (O++[.cH (ofBytes [0,0,0,0,0,0,0,0]) FZ]) h rfl (by rw[aF];rfl);rw[dm]at b;have m:ofBytes [0,0,0,0,0,0,0,0]=[.cU .u8 0,.cU .u8 0,.cU .u8 0,.cU .u8 0,.cU .u8 0,.cU .u8 0,.cU .u8 0,.cU .u8 0]:=rfl;rw[m]at b;have k:IntKind.i64.wrap ((c:Int)-1)=(c:Int)-1:=by rw[IntKind.wrap_i64];omega
 have j:∀s L,tidy (z O) [.cV s] (O++L)=O:=λs L=>bz a rfl L;refine⟨l.take c,by rw[aB1];omega,?_⟩;have f:(0:Int)<=(c:Int):=by omega
 have g:¬0=c:=by omega
 have e:bytesOf ((ofBytes l).take c)=J (l.take c):=by rw[show(ofBytes l).take c=ofBytes (l.take c)from by simp[ofBytes,List.map_take]];exact vN _
 have l8:8<=z (ofBytes l):=by rw[aI];omega
 have i:c<=z (ofBytes l):=by rw[aI];omega
 rw[H.eW.go (NVs.e (.cW (.cU _ _) (.cW (.cU _ _) .de)) _)];simp only[WH,k,b,d,f,g,e,l8,i,j,iZ,Nat.sub_zero,aB5,az5,ay9,a99,true_and,and_self,EVX,seval]
def aoC(H:PZ C PK)(n:Int)(O:St):ai C ZA [.cU r n] O=J (.cX (decide (1<=n/\n<=32)),O):=by
 rw[H.kc.go (NVs.e (.cW (.cU _ _) .de) _)];by_cases a:n>=1
 ·by_cases h2:n<=32;·rw[decide_eq_true ⟨a,h2⟩];simp only[JY,a,h2,EVX,seval]
  ·rw[decide_eq_false (λh=>h2 h.2)];simp only[JY,a,h2,EVX,seval]
 ·rw[decide_eq_false (λh=>a h.1)];simp only[JY,a,EVX,seval]
def aha(H:PZ C PK)(b:Nat)(h:1<=b/\b<=32)(O:St):ai C Uc [.cU r b] O=J (.cU r ((b+3)/4:Nat),O):=by
 have a:IntKind.i64.wrap ((b:Int)+3)=((b+3:Nat):Int):=by rw[IntKind.wrap_i64];omega
 have c:((b+3:Nat):Int).tdiv 4=(((b+3)/4:Nat):Int):=rfl;have d:IntKind.i64.wrap (((b+3)/4:Nat):Int)=(((b+3)/4:Nat):Int):=by rw[IntKind.wrap_i64];omega
 rw[H.mB.go (NVs.e (.cW (.cU _ _) .de) _)];simp only[Sv,a,c,d,EVX,seval]
def has_is(H:PZ C PK)(b n:Nat)(h:1<=b/\b<=32)(d:n<4294967296)(O:St):∃f:Bool,ai C Zz [.cU r b,.cU .u32 n] O=J (.cX f,O):=by
 have c:IntKind.u64.wrap (n:Int)=(n:Int):=by rw[IntKind.wrap_u64];omega
 have a:¬(b:Int)<0:=by omega
 rw[H.dg.go (NVs.e (.cW (.cU _ _) (.cW (.cU _ _) .de)) _)];refine⟨(n:Int).fdiv (2^min b IntKind.u64.bits)==0,?_⟩;simp only[YM,c,a,EVX,seval]
def ahb(H:PZ C PK)(th:Int)(ids:List LU)(bits:Int)(pre:LU)(g:z pre<=LB)(O:St)(a:Ok O):∃e:Int,ai C Ub [.da [.cU r th,.sl (z ids) (ids.flatMap sC),.cU r bits,.cV pre]] O=J (.cU r e,O)/\(e=0->(1<=bits/\bits<=32)/\z pre<=64):=by
 have nv:NVs [.cU r th,.sl (z ids) (ids.flatMap sC),.cU r bits,.cV pre]:=.cW (.cU _ _) (.cW (nz ids) (.cW (.cU _ _) (.cW (.cV _) .de)));have d:Ok (O++[.cH [.cU r th,.sl (z ids) (ids.flatMap sC),.cU r bits,.cV pre] FZ]):=a.H (by
  have:AO.below 0 (.cH [.cU r th,.sl (z ids) (ids.flatMap sC),.cU r bits,.cV pre] FZ)=eT:=nv.cl;rw[a07,this];rfl)
 have c:∀e L,tidy (z O) [.cU r e] (O++L)=O:=λe L=>bz a rfl L;have q1:=aoC H bits (O++[.cH [.cU r th,.sl (z ids) (ids.flatMap sC),.cU r bits,.cV pre] FZ]);obtain⟨v2,q2,l⟩:=gZ H.b6 (.cW (.cV pre) .de) (.cW _ _ _ _ (.ds _ g) .de) d;obtain⟨k,rfl⟩:=IB l;rw[H.eh.go (NVs.e (.cW (.da nv) .de) _)];by_cases hb:1<=bits/\bits<=32
 ·rw[decide_eq_true hb]at q1;obtain⟨b,rfl⟩:∃b:Nat,bits=b:=⟨bits.toNat,by omega⟩;have q3:=aha H b (by omega) (O++[.cH [.cU r th,.sl (z ids) (ids.flatMap sC),.cU r b,.cV pre] FZ]);unfold LB at g;have i:IntKind.i64.wrap ((z pre:Int)+1)=((z pre+1:Nat):Int):=by rw[IntKind.wrap_i64];omega
  have j:IntKind.i64.wrap (((z pre+1:Nat):Int)+(((b+3)/4:Nat):Int))=((z pre+1+(b+3)/4:Nat):Int):=by rw[IntKind.wrap_i64];omega
  cases k;·refine⟨3,?_,λh=>by cases h⟩;simp only[Bd,q1,q2,c,splice,AV.cH,AV.C,EVX,seval]
  ·by_cases f:((z pre+1+(b+3)/4:Nat):Int)>64;·refine⟨5,?_,λh=>by cases h⟩;simp only[Bd,q1,q2,q3,i,j,f,c,splice,AV.cH,AV.C,EVX,seval]
   ·refine⟨0,?_,λ_=>⟨hb,by omega⟩⟩;simp only[Bd,q1,q2,q3,i,j,f,c,splice,AV.cH,AV.C,EVX,seval]
 ·rw[decide_eq_false hb]at q1;refine⟨1,?_,λh=>by cases h⟩;simp only[Bd,q1,c,splice,AV.cH,AV.C,EVX,seval]
def akI(x:Int):∃m:Nat,m<4294967296/\IntKind.u32.wrap x=m:=⟨(x%4294967296).toNat,by omega,by rw[IntKind.wrap_u32];omega⟩
def amR(l:LU)(o:z l=32)(w:AV)(O:St):∀(k i:Nat),i+k=4->∀n:Nat,n<4294967296->∃m:Nat,m<4294967296/\aH C (ai C) 35 [1,6,7,8] yg [(1,w),(6,.cV l),(7,.cU .u32 n),(8,.cU r i)] O=J (.dq 0,[(1,w),(7,.cU .u32 m)],O)
 |0,i,hi,n,b=>by have h:¬((i:Int)<4):=(by omega);refine⟨n,b,?_⟩;rw[aA (he:=rfl)];simp only[yg,h,EVX,seval]
 |k+1,i,hi,n,b=>by
  have h:(i:Int)<4:=(by omega);have h2:(i:Int)<(z l:Int):=(by omega);have h3:(0:Int)<=(i:Int):=(by omega);have h4:l[i]?=J (l[i]'(by omega)):=a02 _;have s:IntKind.i64.wrap ((i:Int)+1)=((i+1:Nat):Int):=by rw[IntKind.wrap_i64];omega
  obtain⟨a,t,d⟩:=akI ((n:Int)*2^min 8 IntKind.u32.bits);have e:IntKind.u32.wrap (((l[i]'(by omega)).toNat:Nat):Int)=(((l[i]'(by omega)).toNat:Nat):Int):=by have:=(l[i]'(by omega)).toNat_lt;rw[IntKind.wrap_u32];omega
  obtain⟨c,g,f⟩:=akI (((BitVec.ofInt IntKind.u32.bits (a:Int)|||BitVec.ofInt IntKind.u32.bits (((l[i]'(by omega)).toNat:Nat):Int)).toNat:Nat):Int);obtain⟨m,p,q⟩:=amR l o w O k (i+1) (by omega) c g;refine⟨m,p,?_⟩;rw[aA (he:=rfl)];generalize u:aH C (ai C) 35 [1,6,7,8] yg=v at*;simp only[yg,h,h2,h3,h4,s,d,e,f,q,EVX,seval]
def atK(H:PZ C PK)(path:LU)(h:z path<=LB)(bits:Int)(O:St)(a:Ok O):∃(n:Nat) (e:Int),n<4294967296/\ai C Zy [.cV path,.cU r bits] O=J (.df [.cU .u32 n,.cU r e],O):=by
 have q1:=aoC H bits O;obtain⟨l,f,q2⟩:=H.lr path O a h;obtain⟨m,g,b⟩:=amR (C:=C) l f (.cU r bits) O 4 0 rfl 0 (by decide);simp only[ay1]at b;rw[H.e9.go (NVs.e (.cW (.cV _) (.cW (.cU _ _) .de)) _)];by_cases hb:1<=bits/\bits<=32
 ·rw[decide_eq_true hb]at q1;have i:IntKind.i64.wrap (32-bits)=32-bits:=by rw[IntKind.wrap_i64];omega
  have d:¬(32-bits)<0:=(by omega);refine⟨m/2^min (32-bits).toNat IntKind.u32.bits,0,Nat.lt_of_le_of_lt (Nat.div_le_self _ _) g,?_⟩;have c:(m:Int).fdiv (2^min (32-bits).toNat IntKind.u32.bits)=((m/2^min (32-bits).toNat IntKind.u32.bits:Nat):Int):=by
   rw[aD5 _ (by exact_mod_cast a99 _)];norm_cast
  simp only[QK,q1,q2,b,i,d,c,EVX,seval]
 ·rw[decide_eq_false hb]at q1;refine⟨0,1,by decide,?_⟩;simp only[QK,q1,EVX,seval]
def amO(H:PZ C PK)(th:Int)(ids:List LU)(bits:Int)(pre:LU)(j:z pre<=LB)(n:Nat)(h:n<4294967296)(O:St)(a:Ok O):∃(s:LU) (e:Int),z s<=LB/\ai C WZ [.da [.cU r th,.sl (z ids) (ids.flatMap sC),.cU r bits,.cV pre],.cU .u32 n] O=J (.df [.cV s,.cU r e],O):=by
 have nv:NVs [.cU r th,.sl (z ids) (ids.flatMap sC),.cU r bits,.cV pre]:=.cW (.cU _ _) (.cW (nz ids) (.cW (.cU _ _) (.cW (.cV _) .de)));have c:Ok (O++[.cH [.cU r th,.sl (z ids) (ids.flatMap sC),.cU r bits,.cV pre] FZ]):=a.H (by
  have:AO.below 0 (.cH [.cU r th,.sl (z ids) (ids.flatMap sC),.cU r bits,.cV pre] FZ)=eT:=nv.cl;rw[a07,this];rfl)
 have f:∀s e L,tidy (z O) [.cV s,.cU r e] (O++L)=O:=λs e L=>bz a rfl L;obtain⟨e,q1,i⟩:=ahb H th ids bits pre j _ c;rw[H.lX.go (NVs.e (.cW (.da nv) (.cW (.cU _ _) .de)) _)];by_cases g:e=0
 ·subst g;obtain⟨hb,k⟩:=i rfl;obtain⟨b,rfl⟩:∃b:Nat,bits=b:=⟨bits.toNat,by omega⟩;obtain⟨q,q2⟩:=has_is H b n (by omega) h (O++[.cH [.cU r th,.sl (z ids) (ids.flatMap sC),.cU r b,.cV pre] FZ]);cases q;·refine⟨[],1,by decide,?_⟩;simp only[Hz,q1,q2,f,splice,AV.cH,AV.C,EVX,seval]
  ·have q3:=aha H b (by omega) (O++[.cH [.cU r th,.sl (z ids) (ids.flatMap sC),.cU r b,.cV pre] FZ]);obtain⟨s,hs,q4⟩:=asi H n ((b+3)/4) h (by omega) (by omega) _ c;have s1:sV .add pre [45]=J (.cV (pre++[45])):=if_neg (by simp;omega);have s2:sV .add (pre++[45]) s=J (.cV ((pre++[45])++s)):=if_neg (by simp;omega);refine⟨(pre++[45])++s,0,by unfold LB;simp;omega,?_⟩;simp only[Hz,q1,q2,q3,q4,s1,s2,f,splice,AV.cH,AV.C,EVX,seval]
 ·have d:(e !=0)=eT:=(by simp[g]);refine⟨[],e,by decide,?_⟩;simp only[Hz,q1,d,f,splice,AV.cH,AV.C,EVX,seval]
def amN(H:PZ C PK)(th:Int)(ids:List LU)(bits:Int)(pre path:LU)(k:z pre<=LB)(m:z path<=LB)(O:St)(b:Ok O):∃(s:LU) (e:Int),z s<=LB/\ai C Ij [.da [.cU r th,.sl (z ids) (ids.flatMap sC),.cU r bits,.cV pre],.cV path] O=J (.df [.cV s,.cU r e],O):=by
 have nv:NVs [.cU r th,.sl (z ids) (ids.flatMap sC),.cU r bits,.cV pre]:=.cW (.cU _ _) (.cW (nz ids) (.cW (.cU _ _) (.cW (.cV _) .de)));have a:Ok (O++[.cH [.cU r th,.sl (z ids) (ids.flatMap sC),.cU r bits,.cV pre] FZ]):=b.H (by
  have:AO.below 0 (.cH [.cU r th,.sl (z ids) (ids.flatMap sC),.cU r bits,.cV pre] FZ)=eT:=nv.cl;rw[a07,this];rfl)
 have h:∀s e L,tidy (z O) [.cV s,.cU r e] (O++L)=O:=λs e L=>bz b rfl L;obtain⟨e,q1,-⟩:=ahb H th ids bits pre k _ a;obtain⟨n,f,l,q2⟩:=atK H path m bits _ a;obtain⟨s,g,hs,q3⟩:=amO H th ids bits pre k n l _ a;rw[H.ff.go (NVs.e (.cW (.da nv) (.cW (.cV _) .de)) _)];by_cases i:e=0
 ·subst i;by_cases j:f=0;·subst j;refine⟨s,g,hs,?_⟩;simp only[Hy,q1,q2,q3,h,splice,AV.cH,AV.C,EVX,seval]
  ·have d:(f !=0)=eT:=(by simp[j]);refine⟨[],f,by decide,?_⟩;simp only[Hy,q1,q2,d,h,splice,AV.cH,AV.C,EVX,seval]
 ·have c:(e !=0)=eT:=(by simp[i]);refine⟨[],e,by decide,?_⟩;simp only[Hy,q1,c,h,splice,AV.cH,AV.C,EVX,seval]
def am8(H:P5 C PK):dh C PK xC (.ez [.da afn] .jv):=
 nK H.et rfl λc e=>by
  obtain⟨x,rfl,a⟩:=Ro e;intro O b;cases a with
  |da _ v a=>obtain⟨d,rfl,_,g⟩:=ajR v a;obtain⟨j,q⟩:=alH H d g.ap g.rl g.km g.O g.b4 O b;exact⟨_,q,.jv j⟩
def ajj:List Sh:=[.cU r,.eB [.ds],.cU r,.ds]
def apV(H:PZ C PK):dh C PK Ij (.ez [.da ajj,.ds] (.df [.ds,.cU r])):=
 nK H.ff rfl λd f=>by
  obtain⟨x,y,rfl,a,h2⟩:=ae1 f;obtain⟨p,rfl,h⟩:=wY h2;intro O c;cases a with
  |da _ v a=>obtain⟨th,b,rfl,h3⟩:=vV a;obtain⟨v,b,rfl,g,h4⟩:=BU h3 rfl;obtain⟨ids,rfl,l3,_⟩:=acx afQ g;obtain⟨n,b,rfl,h5⟩:=vV h4;obtain⟨pre,b,rfl,l,h6⟩:=uq h5;rw[xM h6];obtain⟨s,e,hs,q⟩:=amN H th ids n pre p l h O c;exact⟨_,q,.df _ _ (.cW _ _ _ _ (.ds s hs) (.cW _ _ _ _ (.cU _ _) .de))⟩
def am9(a:Has C yT EX)(h2:Has C rX kQ):dh C PK yT (.ez [.ds,.ds] .cX):=
 nK a rfl λc e=>by
  obtain⟨x,y,rfl,g,i⟩:=ae1 e;obtain⟨s,rfl,_⟩:=wY g;obtain⟨t,rfl,_⟩:=wY i;intro O f;have q:∃b,ai C rX [.cV s,.cV t] O=J (.cX b,O):=by
   rw[h2.go (NVs.e (.cW (.cV _) (.cW (.cV _) .de)) _)];by_cases h:(z s:Int)>=(z t:Int);·have d:z t<=z s:=(by omega);have j:(0:Int)<=(z t:Int):=(by omega);refine⟨decide (s.take (z t)=t),?_⟩;simp only[kQ,h,d,j,a99,EVX,seval]
   ·refine⟨eF,?_⟩;simp only[kQ,h,EVX,seval]
  obtain⟨b,q⟩:=q;rw[a.go (NVs.e (.cW (.cV _) (.cW (.cV _) .de)) _)];refine⟨_,?_,.cX b⟩;simp only[EX,q,EVX,seval]
def invV(C:Ctx)(O:St)(x:AV)(m:String)(l:LA):Option Out:=match x with
 |.eb t v=>match methodOf C.P t v m with|J (f,d)=>J (.fh f (d::l) O)|U=>U
 |_=>U
def aob{C:Ctx}{av:XA->AV}{n0:Nat}{O:St}{x:XA}{m:String}{l:List XA}:aB C av n0 O (.gP x m l)=invV C O (av x) m (l.map av):=by unfold invV;simp only[aB];cases av x<;>rfl
structure IsHas(C:Ctx)(PK:PkI):Prop where
 kj:dh C PK zJ (.ez [.da Ll] .cX)
 fk:dh C PK xE (.ez [.ds] .cX)
 n9:dh C PK rV (.ez [.eB [.ds],.ds] .cX)
 b4:dh C PK rW (.ez [.eB [.ds],.ds] .cX)
 m7:∀v,methodOf C.P 376 v "legate/deleg.has"=some (rV,v)
 m8:∀v,methodOf C.P 377 v "legate/deleg.has"=some (rW,v)
 n3:Has C Io Bh
 is:Has C ZB FW
def auj(H:IsHas C PK)(d:RoV)(O:St)(b:Ok O):ai C Io [.da d.B] O=J (if(z d.bb:Int)>0 then .eb 376 (.sl (z d.bb) (d.bb.flatMap sC))else .eb 377 (.sl (z d.bN) (d.bN.flatMap sC)),O):=by
 have a:∀t l L,below 0 (.eb t (.sl (List.length l) (l.flatMap sC)))=eT->tidy (z O) [.eb t (.sl (List.length l) (l.flatMap sC))] (O++L)=O:=λt l L h=>bz b (by rw[ae,h];rfl) L;have c:∀t (l:List LU),below 0 (.eb t (.sl (List.length l) (l.flatMap sC)))=eT:=λt l=>(nz l).cl;have a:=λt l L=>a t l L (c t l);have rc:d.B=[.cV d.E,.cU r d.cp,.sl (z d.O) (d.O.flatMap sC),.cX d.bS,.sl (z d.bb) (d.bb.flatMap sC),.sl (z d.bN) (d.bN.flatMap sC)]:=rfl;rw[H.n3.go (NVs.e (.cW (.da d.af) .de) _),rc];by_cases h:(z d.bb:Int)>0;·simp only[Bh,h,a,splice,AV.cH,AV.C,EVX,seval]
 ·simp only[Bh,h,a,splice,AV.cH,AV.C,EVX,seval]
def avX(H:IsHas C PK)(x:RoV)(hr:Ms V0 Ll x.B)(path:LU)(i:z path<=LB)(O:St)(c:Ok O):∃b:Bool,ai C ZB [.da x.B,.cV path] O=J (.cX b,O):=by
 have a:Ok (O++[.cH x.B FZ]):=c.H (by
  have:AO.below 0 (.cH x.B FZ)=eT:=x.ay;rw[a07,this];rfl)
 have d:∀b L,tidy (z O) [.cX b] (O++L)=O:=λb L=>bz c rfl L;have hs:Mt V0 [.ds] [.cV path]:=.cW _ _ _ _ (.ds _ i) .de;obtain⟨t,q,s⟩:=aav hr;obtain⟨v1,q1,m⟩:=gZ H.kj (.cW (.da x.af) .de) (.cW _ _ _ _ (.da _ _ hr) .de) a;obtain⟨b1,rfl⟩:=IB m;obtain⟨v2,q2,n⟩:=gZ H.fk (.cW (.cV path) .de) hs a;obtain⟨e,rfl⟩:=IB n;have q3:=auj H x _ a;obtain⟨v4,q4,o⟩:=gZ H.n9 (.cW (nz x.bb) (.cW (.cV path) .de)) (.cW _ _ _ _ q hs) a;obtain⟨f,rfl⟩:=IB o;obtain⟨v5,q5,p⟩:=gZ H.b4 (.cW (nz x.bN) (.cW (.cV path) .de)) (.cW _ _ _ _ s hs) a;obtain⟨g,rfl⟩:=IB p;have j:=λ(Y:St) (v:AV) (l:LA)=>(show invV C Y (.eb 376 v) "legate/deleg.has" l=J (.fh rV (v::l) Y)from by unfold invV;dsimp only;rw[H.m7]);have k:=λ(Y:St) (v:AV) (l:LA)=>(show invV C Y (.eb 377 v) "legate/deleg.has" l=J (.fh rW (v::l) Y)from by unfold invV;dsimp only;rw[H.m8]);have rc:x.B=[.cV x.E,.cU r x.cp,.sl (z x.O) (x.O.flatMap sC),.cX x.bS,.sl (z x.bb) (x.bb.flatMap sC),.sl (z x.bN) (x.bN.flatMap sC)]:=rfl;rw[rc]at q1 q2 q3 q4 q5;rw[H.is.go (NVs.e (.cW (.da x.af) (.cW (.cV _) .de)) _),rc];cases b1;·refine⟨eF,?_⟩;simp only[FW,q1,d,splice,AV.cH,AV.C,EVX,seval]
 ·cases e;·refine⟨eF,?_⟩;simp only[FW,q1,q2,d,splice,AV.cH,AV.C,EVX,seval]
  ·by_cases h:(z x.bb:Int)>0;·rw[if_pos h]at q3;refine⟨f,?_⟩;simp only[FW,q1,q2,q3,q4,aob,j,d,splice,AV.cH,AV.C,EVX,seval]
   ·rw[if_neg h]at q3;refine⟨g,?_⟩;simp only[FW,q1,q2,q3,q5,aob,k,d,splice,AV.cH,AV.C,EVX,seval]
def amL:Sh:=.da [.cU r,.eB [.ds]]
structure aj1(C:Ctx)(PK:PkI):Prop extends IsHas C PK where
 kc:dh C PK Il (.ez [.da afn] .cX)
 g7:dh C PK Gs (.ez [.da ajj] .cX)
 lU:dh C PK Ij (.ez [.da ajj,.ds] (.df [.ds,.cU .i64]))
 f0:dh C PK Dl (.ez [amL] amL)
 ff:Has C jC xR
def ai3{v:AV}(h:M V0 amL v):∃a:lJ,v=.da a.B/\uy a.O:=by
 cases h with
 |da _ v h=>
  obtain⟨th,b,rfl,h3⟩:=vV h;obtain⟨ids,b,rfl,l1,l2,h4⟩:=Ap (f:=sC) (P:=λs:LU=>z s<=LB) (λd h=>by
   obtain⟨s,b,rfl,a1,c⟩:=uq h;rw[xM c];exact⟨s,rfl,a1⟩) h3
  rw[xM h4];exact⟨⟨th,ids⟩,rfl,l1,l2⟩
structure GoI(lo:Nat)(Y0 Y:St)(x:AV)(l:List fZ):Prop where
 ok:Ok Y
 ed:Bf Y lo l.length 4 (l.flatMap fZ.B) x
 cx:∀s∈l,uy s.W.O
 ge:lo<=Y.length
 dx:∀k y,k<lo->Y0[k]?=some y->Y[k]?=some y
def adW (H:aj1 C PK) (path:LU) (K:z path<=LB) (rs:List RoV) (G:z rs<=8192) (F:∀du∈rs,Ms V0 Ll du.B) (lo:Nat) (j:St):∀(n i:Nat),i+n=z rs->∀(Y:St) (x:AV) (l:List fZ),GoI lo j Y x l->z l<=i->∃(g:St) (p:AV) (o:List fZ),GoI lo j g p o/\z o<=z rs/\
  aH C (ai C) 64 [1,7,39,40,41] jJ [(1,.cV path),(7,x),(39,.sl (z rs) (rs.flatMap RoV.B)),(40,.cU r (z rs)),(41,.cU r i)] Y=J (.dq 0,[(7,p)],g)
 |0,i,hi,Y,x,l,I,G=>by have h:¬((i:Int)<(z rs:Int)):=(by omega);refine⟨Y,x,l,I,by omega,?_⟩;rw[aA (he:=rfl)];simp only[jJ,h,EVX,seval]
 |n+1,i,hi,Y,x,l,I,Z=>by
  have h:((i:Int)<(z rs:Int)):=(by omega);have h2:i<z rs:=(by omega);have h3:(0:Int)<=i:=(by omega);have M:=wrS i (by omega)
  have hb:rs[i]?=J rs[i]:=a02 h2;have fl:=bZ RoV.dt rs;have fd:=kK RoV.dt hb;have D:=F rs[i] (aB3 h2);obtain⟨du,hx⟩:∃du,du=rs[i]:=⟨_,rfl⟩;rw[<-hx]at fd D;have rc:du.B=[.cV du.E,.cU r du.cp,.sl (z du.O) (du.O.flatMap sC),.cX du.bS,.sl (z du.bb) (du.bb.flatMap sC),.sl (z du.bN) (du.bN.flatMap sC)]:=rfl;have c:Ok (Y++[.cH du.B FZ]):=I.ok.H (by
   have:AO.below 0 (.cH du.B FZ)=eT:=du.ay;rw[a07,az6,AO.au (a99 _) _ this];rfl)
  have Q:GoI lo j (Y++[.cH du.B FZ]) x l:=⟨c,I.ed.D λq w _ _ e=>aj e _,I.cx,by have:=I.ge;simp;omega,λk y f e=>aj (I.dx k y f e) _⟩;obtain⟨b,q1⟩:=avX H.toIsHas du D path K _ c;have B:=λL=>bK (rfl:z Y=_) L;have s1:=λL y=>iF (rfl:z Y=_) L y;cases b;·obtain⟨g,p,o,a,N,A⟩:=adW H path K rs G F lo j n (i+1) (by omega) _ x l Q (by omega);refine⟨g,p,o,a,N,?_⟩;rw[rc]at fd q1 A;rw[aA (he:=rfl)];generalize f:aH C (ai C) 64 [1,7,39,40,41] jJ=V at*;simp only[jJ,h,h2,h3,M,fl,fd,q1,B,s1,A,splice,AV.cH,fl5,a09,EVX,seval]
  ·have O:NVs [.cU r du.cp,.sl (z du.O) (du.O.flatMap sC)]:=.cW (.cU _ _) (.cW (nz _) .de);obtain⟨v,q2,m2⟩:=gZ H.f0 (.cW (.da O) .de) (.cW _ _ _ _ (.da _ _ (.eo _ _ _ _ rfl (.cU _ _) (.eo _ _ _ _ rfl (aav D).1 .de))) .de) c;obtain⟨d,rfl,X⟩:=ai3 m2;obtain⟨st,t⟩:∃st:fZ,st=⟨du.E,d,du.bS⟩:=⟨_,rfl⟩;obtain⟨S,ap,sl,P,so⟩:=VF (bytes:=56) st.B Q.ed (bZ fZ.dt l) (by omega) (by omega) c;have e1:l.flatMap fZ.B++st.B=(l++[st]).flatMap fZ.B:=(by simp);rw[e1]at ap;have u:z S=z Y+1:=by rw[sl];simp
   have R:GoI lo j (S++[.cH ((l++[st]).flatMap fZ.B) FZ]) (.dj (z Y+1) 0 (z l+1) 4) (l++[st]):=by
    refine⟨so.H (by
     have:AO.below 0 (.cH ((l++[st]).flatMap fZ.B) FZ)=eT:=gu fZ.ay _;rw[a07,az6,AO.au (a99 _) _ this];rfl),.inr ⟨by simp,z Y+1,by simp,by rw[bK u];rfl,by have:=I.ge;omega⟩,λs hs=>?_,by have:=I.ge;simp[u];omega,λk y f e=>aj (P k y (.inr f) (aj (I.dx k y f e) _)) _⟩
    rcases aD3.mp hs with hs|hs;·exact I.cx s hs
    ·rw[aB2.mp hs,t];exact X
   have lx:z (Y++[AO.cH du.B FZ])=z Y+1:=(by simp);rw[lx]at ap;have W:d.B=[.cU r d.th,.sl (z d.O) (d.O.flatMap sC)]:=rfl;have sc:st.B=[.cV du.E,.cU r d.th,.sl (z d.O) (d.O.flatMap sC),.cX du.bS]:=by rw[t];rfl
   rw[sc]at ap;rw[W]at q2;have g3:∀L,(S++L)[z Y]?=(S++L)[z Y]?:=λ_=>rfl;have oS:S[z Y]?=J (.cH du.B FZ):=by
    rcases I.ed with⟨_,hx0⟩|⟨_,q,hx0,hq,_⟩;·exact P _ _ (.inl (by rw[hx0];simp)) (by rw[bK rfl];rfl)
    ·refine P _ _ (.inl λe=>?_) (by rw[bK rfl];rfl);rw[hx0]at e;injection e with e;have:=(a00.mp hq).1;omega
   have m:=λL=>aj oS L;cases T:du.bS;·obtain⟨g,p,o,a,N,A⟩:=adW H path K rs G F lo j n (i+1) (by omega) _ _ _ R (by simp;omega);refine⟨g,p,o,a,N,?_⟩;rw[rc]at fd q1 q2 ap m;rw[T]at fd q1 q2 ap m;rw[aA (he:=rfl)];generalize f:aH C (ai C) 64 [1,7,39,40,41] jJ=V at*;simp only[jJ,h,h2,h3,M,fl,fd,q1,q2,ap,m,B,s1,A,splice,AV.cH,fl5,a09,EVX,seval]
   ·refine⟨_,_,_,R,by simp;omega,?_⟩;rw[rc]at fd q1 q2 ap m;rw[T]at fd q1 q2 ap m;rw[aA (he:=rfl)];generalize f:aH C (ai C) 64 [1,7,39,40,41] jJ=V at*;simp only[jJ,h,h2,h3,M,fl,fd,q1,q2,ap,m,B,s1,splice,AV.cH,fl5,a09,EVX,seval]
def ahY{lo:Nat}{c Y:St}{x:AV}{l:List fZ}(I:GoI lo c Y x l){O:St}(b:Ok O)(n:z O<=lo)(p:∀(k:Nat) (y:AO),O[k]?=J y->c[k]?=J y):∃T,hand eF [x] Y=J ([.sl (z l) (l.flatMap fZ.B)],T)/\tidy (z O) [.sl (z l) (l.flatMap fZ.B)] T=O:=by
 have bl:ae 0 [.sl (z l) (l.flatMap fZ.B)]=eT:=by rw[ae,show below 0 (.sl (z l) (l.flatMap fZ.B))=eT from gu fZ.ay l];rfl
 have tk:∀T:St,(∀(k:Nat) (y:AO),k<lo->c[k]?=J y->T[k]?=J y)->z O<=z T->T.take (z O)=O:=λT h t=>by
  apply aA9;intro i;by_cases f:i<z O;·rw[List.getElem?_take_of_lt f];have e:O[i]?=J O[i]:=a02 f;rw[h i _ (by omega) (p i _ e),e]
  ·rw[aA1 (by rw[aB1];omega),aA1 (by omega)]
 rcases I.ed with⟨g,d⟩|⟨g,q,d,j,o⟩;·rw[d];have:l=[]:=az0 g;subst this;exact⟨Y,rfl,pG b bl (tk Y I.dx (aB9 n I.ge))⟩
 ·rw[d];have nv:NVs (l.flatMap fZ.B):=λv hv=>by obtain⟨s,_,hs⟩:=aG2.mp hv;exact(NVs.cW (.cV s.E) (.cW (.cU r s.W.th) (.cW (nz s.W.O) (.cW (.cX s.bS) .de)))) v hs
  refine⟨Y.set q (.cH (l.flatMap fZ.B) ⟨eT,U⟩),?_,pG b bl (tk _ (λk y m e=>aG (I.dx k y m e) (by omega) _) (by have:=I.ge;simp;omega))⟩;rw[lF,aO,G8 j (bZ fZ.dt l) nv,qY,<-tu j];rfl
def ahf.e9{d:JU}(g:ahf d):Ms V0 ajj [.cU r d.cp,.sl (z d.O) (d.O.flatMap sC),.cU r d.dd,.cV d.b4]:=.eo _ _ _ _ rfl (.cU _ _) (.eo _ _ _ _ rfl g.O (.eo _ _ _ _ rfl (.cU _ _) (.eo _ _ _ _ rfl (.ds _ g.b4) .de)))
def ahf.ms{d:JU}(g:ahf d):Ms V0 afn d.B:=.eo _ _ _ _ rfl g.km (.eo _ _ _ _ rfl (aab d.ap g.ap g.rl) g.e9)
def ar5(H:aj1 C PK)(d:JU)(g:ahf d)(path:LU)(w:z path<=LB)(O:St)(f:Ok O):∃l:List fZ,(∀s∈l,uy s.W.O)/\z l<=8192/\ai C jC [.da d.B,.cV path] O=J (.sl (z l) (l.flatMap fZ.B),O):=by
 have u:d.B=[.sl (z d.ak) (d.ak.flatMap pC),.sl (z d.ap) (d.ap.flatMap RoV.B),.cU r d.cp,.sl (z d.O) (d.O.flatMap sC),.cU r d.dd,.cV d.b4]:=rfl;have c:Ok (O++[.cH d.B FZ]):=f.H (by
  have:AO.below 0 (.cH d.B FZ)=eT:=d.ay;rw[a07,this];rfl)
 have hs:Mt V0 [.ds] [.cV path]:=.cW _ _ _ _ (.ds _ w) .de;have j:NVs [.cU r d.cp,.sl (z d.O) (d.O.flatMap sC),.cU r d.dd,.cV d.b4]:=.cW (.cU _ _) (.cW (nz d.O) (.cW (.cU _ _) (.cW (.cV _) .de)));have q:NVs [.cU r d.cp,.sl (z d.O) (d.O.flatMap sC)]:=.cW (.cU _ _) (.cW (nz _) .de);obtain⟨v1,q1,M⟩:=gZ H.kc (.cW (.da d.af) .de) (.cW _ _ _ _ (.da _ _ g.ms) .de) c;obtain⟨b1,rfl⟩:=IB M;obtain⟨v2,q2,N⟩:=gZ H.fk (.cW (.cV path) .de) hs c;obtain⟨D,rfl⟩:=IB N;obtain⟨v3,q3,P⟩:=gZ H.g7 (.cW (.da j) .de) (.cW _ _ _ _ (.da _ _ g.e9) .de) c;obtain⟨F,rfl⟩:=IB P;obtain⟨v4,q4,Q⟩:=gZ H.lU (.cW (.da j) (.cW (.cV path) .de)) (.cW _ _ _ _ (.da _ _ g.e9) hs) c;obtain⟨v4,e4,rfl,p⟩:=Xk Q;obtain⟨rl,rfl⟩:=ajT p;obtain⟨v5,q5,R⟩:=gZ H.f0 (.cW (.da q) .de) (.cW _ _ _ _ (.da _ _ (.eo _ _ _ _ rfl (.cU _ _) (.eo _ _ _ _ rfl g.O .de))) .de) c;obtain⟨b,rfl,G⟩:=ai3 R;have A:GoI (z O+1) (O++[.cH d.B FZ]) (O++[.cH d.B FZ]) .cY []:=⟨c,.inl ⟨rfl,rfl⟩,(λ_ h=>by cases h),(by simp),λ_ _ _ e=>e⟩;obtain⟨Y,x,l,I,K,o⟩:=adW H path w d.ap g.rl g.ap (z O+1) _ (z d.ap) 0 (by omega) _ _ _ A (a06 _);simp only[ay1]at o;obtain⟨T,t1,t2⟩:=ahY I f (aI2 _) (λk y e=>aj e _);have B:b.B=[.cU r b.th,.sl (z b.O) (b.O.flatMap sC)]:=rfl;have t:∀L,tidy (z O) [.sl 0 []] (O++L)=O:=λL=>bz f rfl L;have a:∀(E:As) (L:St),look E 4=.cY->mD (z O) [.fX 4] (J (.ef,E,O++L))=J (.sl 0 [],O):=λE L h=>by refine(vO (vs:=[.cY]) (vs':=[.sl 0 []]) (O3:=O++L) (by simp only[aU,h]) rfl).trans ?_;rw[t];rfl
 rw[u]at q1 q2 q3 q4 q5 o;rw[B]at q5;rw[H.ff.go (NVs.e (.cW (.da d.af) (.cW (.cV _) .de)) _),u];cases b1;·refine⟨[],(λ_ h=>by cases h),by decide,?_⟩;generalize i:mD=m at a⊢;simp only[xR,q1,splice,AV.cH,AV.C,EVX,seval];exact a _ _ rfl
 ·cases D;·refine⟨[],(λ_ h=>by cases h),by decide,?_⟩;generalize i:mD=m at a⊢;simp only[xR,q1,q2,splice,AV.cH,AV.C,EVX,seval];exact a _ _ rfl
  ·cases F
   ·by_cases v:e4=0
    ·subst v;refine⟨[⟨rl,b,eT⟩],(λs hs=>by rw[aB2.mp hs];exact G),(by simp),?_⟩;generalize i:mD=m;simp only[xR,q1,q2,q3,q4,q5,splice,AV.cH,fl5,a09,a98,EVX,seval];rw[<-i];have nv:NVs [.cV rl,.cU r b.th,.sl (z b.O) (b.O.flatMap sC),.cX eT]:=.cW (.cV _) (.cW (.cU _ _) (.cW (nz _) (.cW (.cX _) .de)));refine(vO (vs:=[.eC 1 [.cV rl,.cU r b.th,.sl (z b.O) (b.O.flatMap sC),.cX eT]]) ?_ (anN 1 nv .de _)).trans ?_;·simp only[aU,EVX,seval]
     ·rw[bz f (by rw[ae,show below 0 (.sl 1 [.cV rl,.cU r b.th,.sl (z b.O) (b.O.flatMap sC),.cX eT])=eT from nv.cl];rfl)];rfl
    ·have n:(e4 !=0)=eT:=(by simp[v]);refine⟨[],(λ_ h=>by cases h),by decide,?_⟩;generalize i:mD=m at a⊢;simp only[xR,q1,q2,q3,q4,n,splice,AV.cH,AV.C,EVX,seval];exact a _ _ rfl
   ·refine⟨l,I.cx,aB9 K g.rl,?_⟩;generalize i:mD=m;simp only[xR,q1,q2,q3,o,splice,AV.cH,AV.C,EVX,seval];rw[<-i];refine(vO (vs:=[x]) ?_ t1).trans (by rw[t2];rfl);simp only[aU,EVX,seval]
def acR:Sh:=.da [.cU r,.eB [.ds,.ds],.jv]
def av9{t:TgV}(h:Ms V0 aiW t.B):M V0 acR (.da (rC t.n t.hs t.j)):=by obtain⟨_,_,e,_,h⟩:=BU h rfl;injection e with e1 e2;subst e2;exact .da _ _ h
def ajS{v:AV}(h:M V0 acR v):∃d,v=.da d/\Gf d:=by
 cases h with
 |da _ v h=>obtain⟨n,b,rfl,h2⟩:=vV h;obtain⟨hs,b,rfl,a,_,h3⟩:=Ap ao1 h2;obtain⟨j,b,rfl,h4⟩:=ak6 h3;rw[xM h4,ay5];exact⟨_,rfl,by simp[JV.dt],by simp[JV.C,AV.C],.cW (.cU _ _) (.cW (wL hs) j.af),n,hs,j,rfl,a⟩
structure af0(C:Ctx)(PK:PkI):Prop where
 is:dh C PK uK (.ez [.da [.ds],.da aiW] .cX)
 f0:dh C PK Jd (.ez [acR] acR)
 mc:Has C mJ iO
 j4:Has C vz MK
def aen(n:Int)(hs:List PS)(j:JV):NVs (rC n hs j):=.cW (.cU _ _) (.cW (wL hs) j.af)
theorem TgV.af(t:TgV):NVs t.B:=.cW (.cV _) (aen _ _ _)
def anY (H:af0 C PK) (path:LU) (o:z path<=LB) (l:List TgV) (y:z l<=8192) (m:∀t∈l,Ms V0 aiW t.B) (O:St) (f:Ok O):∀(n i:Nat),i+n=z l->∃x:XE×As,(x=(.dq 0,[])\/∃k,k<z l/\x=(.ef,[(4,.cU r (k:Nat))]))/\
  aH C (ai C) 19 [0,1,7,8] aY [(0,.sl (z l) (l.flatMap TgV.B)),(1,.ea (.func uK) [.da [.cV path]] []),(7,.cU r (z l)),(8,.cU r i)] O=J (x.1,x.2,O)
 |0,i,hi=>by have h:¬((i:Int)<(z l:Int)):=(by omega);refine⟨_,.inl rfl,?_⟩;rw[aA (he:=rfl)];simp only[aY,h,EVX,seval]
 |n+1,i,hi=>by
  have h:((i:Int)<(z l:Int)):=(by omega);have h2:i<z l:=(by omega);have h3:(0:Int)<=i:=(by omega);have p:=wrS i (by omega);have hb:l[i]?=J l[i]:=a02 h2;have fl:=bZ TgV.dt l;have fd:=kK TgV.dt hb;have j:=m l[i] (aB3 h2);obtain⟨t,g⟩:∃t,t=l[i]:=⟨_,rfl⟩;rw[<-g]at fd j;obtain⟨v1,q1,B⟩:=gZ H.is (.cW (.da (.cW (.cV path) .de)) (.cW (.da t.af) .de)) (.cW _ _ _ _ (.da _ _ (.eo _ _ _ _ rfl (.ds _ o) .de)) (.cW _ _ _ _ (.da _ _ j) .de)) f;obtain⟨b1,rfl⟩:=IB B;obtain⟨a,b,c,d,e,x0,E,q,s,u,v,z5⟩:=iE t.j;have D:t.B=[.cV t.fk,.cU r t.n,.sl (z t.hs) (t.hs.flatMap pC),a,b,c,d,e]:=by unfold TgV.B rC;rw[E]
  rw[D]at fd q1;rw[aA (he:=rfl)];cases b1;·obtain⟨x,g,A⟩:=anY H path o l y m O f n (i+1) (by omega);refine⟨x,g,?_⟩;generalize F:aH C (ai C) 19 [0,1,7,8] aY=k at*;simp only[aY,h,h2,h3,p,fl,fd,q1,A,jH,q,s,u,v,z5,fl5,a09,a98,ay5,EVX,seval]
  ·refine⟨_,.inr ⟨i,h2,rfl⟩,?_⟩;simp only[aY,h,h2,h3,p,fl,fd,q1,jH,q,s,u,v,z5,fl5,a09,a98,ay5,EVX,seval]
def au7(H:af0 C PK)(path:LU)(f:z path<=LB)(l:List TgV)(e:z l<=8192)(c:∀t∈l,Ms V0 aiW t.B)(O:St)(a:Ok O):∃x:Int,(x= -1\/∃k:Nat,k<z l/\x=k)/\ai C mJ [.sl (z l) (l.flatMap TgV.B),.ea (.func uK) [.da [.cV path]] []] O=J (.cU r x,O):=by
 have nf:NV (.ea (.func uK) [.da [.cV path]] []):=.ea (.cW (.da (.cW (.cV _) .de)) .de) .de;obtain⟨x,g,b⟩:=anY H path f l e c O a (z l) 0 (by omega);simp only[ay1]at b;rw[H.mc.go (NVs.e (.cW (.sl _ (gu TgV.ay l)) (.cW nf .de)) _)];rcases g with rfl|⟨k,d,rfl⟩;·refine⟨-1,.inl rfl,?_⟩;simp only[iO,b,EVX,seval]
 ·refine⟨k,.inr ⟨k,d,rfl⟩,?_⟩;simp only[iO,b,EVX,seval]
def seven{j:LA}(h:Gf j):∃a b c d e f g:AV,j=[a,b,c,d,e,f,g]/\a.C=eT/\b.C=eT/\c.C=eT/\d.C=eT/\e.C=eT/\f.C=eT/\g.C=eT:=by
 obtain⟨i,hf,_,_⟩:=h
 match j,i with
 |[a,b,c,d,e,f,g],_=>simp only[a07,az6,a01]at hf;exact⟨a,b,c,d,e,f,g,rfl,hf.1,hf.2.1,hf.2.2.1,hf.2.2.2.1,hf.2.2.2.2.1,hf.2.2.2.2.2.1,hf.2.2.2.2.2.2.1⟩
def aqY(H:af0 C PK)(T:fB)(g:YW T)(path:LU)(F:z path<=LB)(O:St)(f:Ok O):∃o:Option LA,(∀du,o=J du->Gf du)/\ai C vz [.da T.B,.cV path] O=J (.df [.da (o.getD nN),.cX o.isSome],O):=by
 have p:T.B=[.cU r T.bL,.cU r T.bw,.sl (z T.br) (T.br.flatMap TgV.B),.sl (z T.bj.ak) (T.bj.ak.flatMap pC),.sl (z T.bj.ap) (T.bj.ap.flatMap RoV.B),.cU r T.bj.cp,.sl (z T.bj.O) (T.bj.O.flatMap sC),.cU r T.bj.dd,.cV T.bj.b4]:=rfl;have i:Ok (O++[.cH T.B FZ,.cH [.cU r 0,.cY,.cU .u8 0,.cU r 0,.cV [],.cY,.cY] FZ]):=f.H (by
  have:AO.below 0 (.cH T.B FZ)=eT:=T.af.cl;rw[a07,this];rfl)
 obtain⟨x,n,q1⟩:=au7 H path F T.br g.ll g.br _ i;rw[H.j4.go (NVs.e (.cW (.da T.af) (.cW (.cV _) .de)) _)];rw[p]at q1⊢;rcases n with rfl|⟨k,l,rfl⟩;·refine⟨U,(λ_ h=>by cases h),?_⟩;generalize j:mD=D;simp only[MK,q1,aF,dm,aN,fF,splice,AV.cH,AV.C,EVX,seval];rw[<-j];refine(vO (vs:=[.da [.cU r 0,.cY,.cU .u8 0,.cU r 0,.cV [],.cY,.cY],.cX eF]) (vs':=[.da nN,.cX eF]) (by simp only[aU,aN,EVX,seval]) rfl).trans ?_;exact congrArg (λt=>J (AV.df [.da nN,.cX eF],t)) (bz f (vs:=[.da nN,.cX eF]) rfl _)
 ·have h3:(0:Int)<=(k:Int):=(by omega);have E:¬(k:Int)<0:=(by omega);have hb:T.br[k]?=J T.br[k]:=a02 l;have fl:=bZ TgV.dt T.br;have fd:=kK TgV.dt hb;have A:=g.br T.br[k] (aB3 l);obtain⟨t,n⟩:∃t,t=T.br[k]:=⟨_,rfl⟩;rw[<-n]at fd A;obtain⟨v2,q2,G⟩:=gZ H.f0 (.cW (.da (aen t.n t.hs t.j)) .de) (.cW _ _ _ _ (av9 A) .de) i;obtain⟨du,rfl,hr⟩:=ajS G;obtain⟨a,b,c,d,e,x0,B,N,P,Q,R,z5⟩:=iE t.j;obtain⟨r1,r2,r3,r4,r5,I,K,m,f1,q,s,u,v,w,y⟩:=seven hr;have L:t.B=[.cV t.fk,.cU r t.n,.sl (z t.hs) (t.hs.flatMap pC),a,b,c,d,e]:=by unfold TgV.B rC;rw[B]
  have rc:rC t.n t.hs t.j=[.cU r t.n,.sl (z t.hs) (t.hs.flatMap pC),a,b,c,d,e]:=by unfold rC;rw[B]
  refine⟨J du,(λ_ h=>by injection h with h;rw[<-h];exact hr),?_⟩;have nv:NVs [.da du,.cX eT]:=.cW (.da hr.af) (.cW (.cX _) .de);rw[m]at q2 nv⊢;rw[L]at fd;rw[rc,p]at q2;generalize j:mD=D;simp only[MK,q1,E,h3,l,fl,fd,q2,N,P,Q,R,z5,f1,q,s,u,v,w,y,aF,dm,aN,fF,splice,AV.cH,fl5,a09,a98,EVX,seval];rw[<-j];refine(Fj (vs:=[.da [r1,r2,r3,r4,r5,I,K],.cX eT]) ?_ nv).trans ?_;·simp only[aU,aN,f1,q,s,u,v,w,y,EVX,seval]
  ·rw[bz f nv.cl];rfl
end Go.Ev
namespace Go.Ev
open Option renaming none→U, some→J
open List renaming length→z
open Go.IntKind renaming i64→r
open Bool renaming true→eT, false→eF
set_option maxRecDepth 100000
def aoZ{D:Ctx}{f:FuncId}{azs:LA}{v:AV}(a:NVs azs)(h:ai D f azs []=J (v,[]))(O:St):pFn D f azs O=J (v,O):=by unfold pFn;rw[a.e O];dsimp only;rw[if_pos a.cl,h]
def aq1{C D:Ctx}{PK:PkI}(j:aj1 D PK)(i:af0 D PK)(m:ai C jC=pFn D jC)(k:ai C vz=pFn D vz)(path:LU)(f:z path<=LB):∃(go:fB->List fZ) (fd:fB->Option LA),(∀T,z (go T)<=8192)/\(∀T x,fd T=J x->Gf x)/\∀y:Bo,y.go=go->y.fd=fd->(∀p a ks d s,z d<=LB->YW (y.K.ro p a ks d s).1)->aqC C path y YW:=by
 have q:∀T:fB,∃l:List fZ,z l<=8192/\(YW T->(∀s∈l,uy s.W.O)/\∀O,ai C jC [.da T.bj.B,.cV path] O=J (.sl (z l) (l.flatMap fZ.B),O)):=λT=>by
  by_cases g:YW T;·obtain⟨l,e,h2,h3⟩:=ar5 j T.bj g.bj path f [] aaf;exact⟨l,h2,λ_=>⟨e,λO=>by rw[m];exact aoZ (.cW (.da T.bj.af) (.cW (.cV _) .de)) h3 O⟩⟩
  ·exact⟨[],a99 _,λh=>absurd h g⟩
 have n:∀T:fB,∃o:Option LA,(∀x,o=J x->Gf x)/\(YW T->∀O,ai C vz [.da T.B,.cV path] O=J (.df [.da (o.getD nN),.cX o.isSome],O)):=λT=>by
  by_cases g:YW T;·obtain⟨o,e,h3⟩:=aqY i T g path f [] aaf;exact⟨o,e,λ_ O=>by rw[k];exact aoZ (.cW (.da T.af) (.cW (.cV _) .de)) h3 O⟩
  ·exact⟨U,(λ_ h=>by cases h),λh=>absurd h g⟩
 obtain⟨go,b⟩:=Classical.axiomOfChoice q;obtain⟨fd,c⟩:=Classical.axiomOfChoice n;refine⟨go,fd,λT=>(b T).1,λT=>(c T).1,λy e1 e2 ro=>⟨λT g=>?_,λT g=>?_,ro,Vx.g⟩⟩;·rw[e1];exact⟨((b T).2 g).1,(b T).1,g.bj.ak,λO _=>((b T).2 g).2 O⟩
 ·rw[e2];exact⟨(c T).1,λO _=>(c T).2 g O⟩
def atI{C:Ctx}{h:Bool}{l:List iK}{R:lN}{now:Int}{K:Ht}(c:Jn C h l R now K)(p:nI)(a:lJ)(ks:List PS)(d:LU)(s:Int)(b:z d<=LB):YW (K.ro p a ks d s).1:=(c.lE p a ks d s b).g
variable{C C1:Ctx}
structure atv(C C1:Ctx):Prop extends SchHas C C1 where
 fk:∀s:LU,s.length<=LB->∃b:Bool,∀O,ai C xE [.cV s] O=some (.cX b,O)
 n7:∀s:LU,s.length<=LB->∃(go:fB->List fZ) (fd:fB->Option LA),(∀T,(go T).length<=8192)/\(∀T r,fd T=some r->Gf r)/\∀z:Bo,z.go=go->z.fd=fd->(∀p a ks d s,d.length<=LB->YW (z.K.ro p a ks d s).1)->aqC C s z YW
def XO (H:atv C C1) (path:LU) (j:z path<=LB):∃(c:Bool) (go:fB->List fZ) (fd:fB->Option LA),∀{K:Ht} {p:Rp},p.c1 C1 K->z p.F<=800000->∀{S:St},Ok S->p.bh S->∀b:QH,
  ∃(x:jY) (f:List bD) (S':St) (d:Option Nat) (n:Nat),ai C oO [.c8 p.r 0,.cV path,.da b.B] S=J (.da x.B,S')/\Stp S S' p (p.to f d)/\(p.to f d).c1 C1 K/\JQ c p.R p.bm (Vh K p b go fd) n p.F=J (x,f)/\ahq x:=by
 obtain⟨c,e⟩:=H.fk path j;obtain⟨go,fd,k,l,m⟩:=H.n7 path j;refine⟨c,go,fd,λ{K p} g o {S} q a b=>?_⟩;have chk:=g.cc.g2;have i:=(JP chk g.cc.am g.gk p.sc).1;obtain⟨n,⟨x,f⟩,h⟩:=amc (Vh K p b go fd) k c p.R p.bm p.F o i.dt;obtain⟨S',d,q1,q2,q3⟩:=am1 H.toSchHas g q a path c e b go fd (m (Vh K p b go fd) rfl rfl λ_ _ _ _ _ s=>atI chk _ _ _ _ _ s) n x f h;exact⟨x,f,S',d,n,q1,q2,q3,h,aiS _ l h⟩
set_option maxHeartbeats 4000000
structure amu(C C1:Ctx):Prop where
 oR:atv C C1
 eN:adn C C1
 m5:ams C
 cE:amB C
 told:Has C Af zW
 gk:adh C
 oJ:Has C Ai zY
 nB:∀O,Ok O->ai C uj [] O=some (.cX true,O)
def ajm(b:QH):NVs b.B:=.cW (.cU _ _) (.cW (.cU _ _) (.cW (.cU _ _) (.cW (.cU _ _) .de)))
def agB{C:Ctx}{call:bH}{n:Nat}(d g:Nat)(p:Bool)(i:XI)(l:List XOp)(A:As)(O:St)(h:look A g=.cX p):qM C call n (og d g p i::l) A O=aaM (J d) A O (opR call (aB C (avA C A) n O i)) (qM C call n l):=by
 have w:lH (og d g p i) A=eT:=by unfold lH og;simp only[h];cases p<;>rfl
 rw[qM];unfold vw;rw[w];rfl
def afq{C:Ctx}{n:Nat}{ss:List St}(d g:Nat)(p:Bool)(i:XI)(l:List XOp)(A:As)(v:AV)(rs:List (As×AV)):gG C n ss (og d g p i::l) ((A,v)::rs)=gG C n ss l rs:=by rw[gG];have:oC C n (og d g p i) A v ss (og d g p i).aT=eT:=rfl;rw[this,aE4,aA6]
def aau(x:jY)(hr:Gf x.du):∃(r1 r2 r3 r4 r5 i j:AV),x.B=[.cU .u8 x.fj,.cU .u8 x.jf,.cU .u8 x.e6,.cV x.b6,r1,r2,r3,r4,r5,i,j,.sl (z x.b3) (x.b3.flatMap sC)]/\r1.C=eT/\r2.C=eT/\r3.C=eT/\r4.C=eT/\r5.C=eT/\i.C=eT/\j.C=eT:=by obtain⟨a,b,c,d,e,f,g,h,k⟩:=seven hr;refine⟨a,b,c,d,e,f,g,?_,k⟩;unfold jY.B;rw[h];rfl
end Go.Ev
namespace Go.Ev
open Option renaming none→U, some→J
open List renaming length→z
open Go.IntKind renaming i64→r
open Bool renaming true→eT, false→eF
set_option maxRecDepth 1000000
noncomputable section
def jD:KF:=(.mk ?k:KsA 378 []).1
def kW:KC:=(.mk ?k:LsA 368 [] 0).1
attribute [local irreducible] kW
def Di:KF:=(.mk ?k:KsA 368 [kW]).1
def xZ:KF:=(.mk ?k:KsA 355 []).1
def WM:KF:=(.mk ?k:KsA 45 []).1
def lK:KC:=(.mk ?k:LsA 174 [] 0).1
attribute [local irreducible] lK
def DI:KF:=(.mk ?k:KsA 174 [lK]).1
def dX:KC:=(.mk ?k:LsA 346 [] 0).1
attribute [local irreducible] dX
def xW:KF:=(.mk ?k:KsA 346 [dX]).1
def pJ:KF:=(.mk ?k:KsA 354 []).1
def ig:KF:=(.mk ?k:KsA 369 []).1
def H6:KF:=(.mk ?k:KsA 379 []).1
def EP:KF:=(.mk ?k:KsA 380 []).1
def lL:KC:=(.mk ?k:LsA 381 [] 0).1
attribute [local irreducible] lL
def kM:KF:=(.mk ?k:KsA 381 [lL]).1
def nU:KC:=(.mk ?k:LsA 387 [] 0).1
attribute [local irreducible] nU
def Fa:KF:=(.mk ?k:KsA 387 [nU]).1
def sN:KF:=(.mk ?k:KsA 388 []).1
def qx:KC:=(.mk ?k:LsA 389 [] 0).1
attribute [local irreducible] qx
def Bi:KF:=(.mk ?k:KsA 389 [qx]).1
def wX:KF:=(.mk ?k:KsA 236 []).1
end
set_option maxRecDepth 100000
variable{C:Ctx}
def bq(a b:Int):(a==b)=eT\/(a==b)=eF:=by cases a==b<;>simp
def ah6(h:Has C Aj jD)(c:Int)(O:St):∃q l u:Int,0<=q/\q<=4/\ai C Aj [.cU .u8 c] O=J (.df [.cU r q,.cU .u8 l,.cU .u8 u],O):=by
 rw[h.go (NVs.e (.cW (.cU _ _) .de) _)];by_cases a:c<128;·exact⟨1,0,0,by omega,by omega,by simp only[jD,a,EVX,seval]⟩
 by_cases b:c<194;·exact⟨0,0,0,by omega,by omega,by simp only[jD,a,b,EVX,seval]⟩
 by_cases d:c<224;·exact⟨2,128,191,by omega,by omega,by simp only[jD,a,b,d,EVX,seval]⟩
 rcases bq c 224 with e|e;·exact⟨3,160,191,by omega,by omega,by simp only[jD,a,b,d,e,EVX,seval]⟩
 rcases bq c 237 with f|f;·exact⟨3,128,159,by omega,by omega,by simp only[jD,a,b,d,e,f,EVX,seval]⟩
 by_cases g:c<240;·exact⟨3,128,191,by omega,by omega,by simp only[jD,a,b,d,e,f,g,EVX,seval]⟩
 rcases bq c 240 with i|i;·exact⟨4,144,191,by omega,by omega,by simp only[jD,a,b,d,e,f,g,i,EVX,seval]⟩
 by_cases j:c<244;·exact⟨4,128,191,by omega,by omega,by simp only[jD,a,b,d,e,f,g,i,j,EVX,seval]⟩
 rcases bq c 244 with k|k;·exact⟨4,128,143,by omega,by omega,by simp only[jD,a,b,d,e,f,g,i,j,k,EVX,seval]⟩
 exact⟨0,0,0,by omega,by omega,by simp only[jD,a,b,d,e,f,g,i,j,k,EVX,seval]⟩
def QE(s:LU)(hs:z s<1099511627777)(i:Nat)(x:Int)(m:x<=4)(hi:i<z s)(O:St):∀(n k:Nat),(k:Int)+n=i+x->k<=z s->∀f l u:Int,∃o,aH C (ai C) 78 [0,1,4,5,7,8,9] kW [(0,.cV s),(1,.cU r i),(4,.cU r f),(5,.cU r x),(7,.cU .u8 l),(8,.cU .u8 u),(9,.cU r k)] O=J o/\((∃q,o=(.dq 0,[(4,.cU r q),(5,.cU r x)],O))\/∃e:Int,e≠0/\o=(.ef,[(4,.cU r 0),(5,.cU r 0),(6,.cU r e)],O))
 |0,k,g,j,f,l,u=>by rw[aA (he:=rfl)];have w:IntKind.i64.wrap ((i:Int)+x)=k:=wrE (by omega);have h:¬((k:Int)<k):=(by omega);exact⟨_,by simp only[kW,w,h,EVX,seval],.inl ⟨f,rfl⟩⟩
 |n+1,k,g,j,f,l,u=>by
  rw[aA (he:=rfl)];have p:=QE s hs i x m hi O n (k+1) (by omega);generalize v:aH C (ai C) 78 [0,1,4,5,7,8,9] kW=K at*;have w:IntKind.i64.wrap ((i:Int)+x)=i+x:=wrE (by omega);have t:=wrS k (by omega);have h:(k:Int)<i+x:=(by omega);have h3:(0:Int)<=k:=(by omega);by_cases c:k=z s;·have a:((k:Int)==(z s:Int))=eT:=(by simp[c]);exact⟨_,by simp only[kW,w,h,a,EVX,seval],.inr ⟨4,by decide,rfl⟩⟩
  have a:((k:Int)==(z s:Int))=eF:=by simp;omega
  have hb:s[k]?=J s[k]:=a02 (by omega);by_cases b:(s[k].toNat:Int)<l;·exact⟨_,by simp only[kW,w,h,a,h3,hb,b,EVX,seval],.inr ⟨12,by decide,rfl⟩⟩
  by_cases d:u<(s[k].toNat:Int);·exact⟨_,by simp only[kW,w,h,a,h3,hb,b,d,EVX,seval],.inr ⟨12,by decide,rfl⟩⟩
  simp only[kW,w,t,h,a,h3,hb,b,d,EVX,seval];exact p (by omega) _ _ _
def ah5(h:Has C GV Di)(g:Has C Aj jD)(s:LU)(hs:z s<1099511627777)(i:Nat)(hi:i<z s)(O:St):∃y N e:Int,ai C GV [.cV s,.cU r i] O=J (.df [.cU r y,.cU r N,.cU r e],O)/\0<=N/\N<=4/\(e=0->1<=N):=by
 rw[h.go (NVs.e (.cW (.cV _) (.cW (.cU _ _) .de)) _)];have a:¬((i:Int)<0):=by omega
 have h2:¬((z s:Int)<i):=by omega
 have h4:((i:Int)==(z s:Int))=eF:=by simp;omega
 have h3:(0:Int)<=i:=by omega
 have hb:s[i]?=J s[i]:=a02 hi;obtain⟨N,l,u,p,d,b⟩:=ah6 g (s[i].toNat:Int) O;have n:=wrS i (by omega);rcases bq N 0 with c|c;·have:N=0:=(by simpa using c);subst this;exact⟨0,0,12,by simp only[Di,a,h2,h3,h4,hb,b,EVX,seval],by omega,by omega,λe=>by cases e⟩
 have q:N≠0:=by simpa using c
 by_cases f:1<N;all_goals
  have j:=λy=>QE (C:=C) s hs i N d hi O (N-1).toNat (i+1) (by omega) (by omega) y l u;have m:¬(IntKind.i64.wrap (N+1)<0):=(by rw[w64]<;>omega);obtain⟨o,e⟩:=Classical.axiomOfChoice j;have e1:=λx=>(e x).1;have e2:=λx=>(e x).2;simp only[Di,a,h2,h3,h4,hb,b,c,f,n,m,e1,EVX,seval];apply Or.elim (e2 _);·rintro⟨k,h⟩;rw[h];exact⟨k,N,0,by simp only[EVX,seval],p,d,λ_=>by omega⟩
  ·rintro⟨e,e0,h⟩;rw[h];exact⟨0,0,e,by simp only[EVX,seval],by omega,by omega,λh=>absurd h e0⟩
def anl(d:Int):(Utf8.encode d).data.toList.length<=4:=by
 unfold Utf8.encode;simp only;repeat' split
 all_goals simp
def aiX(h:Has C Ju xZ)(f:Int)(O:St):∃(t:LU) (e:Int),ai C Ju [.cU r f] O=J (.df [.cV t,.cU r e],O)/\z t<=4:=by
 rw[h.go (NVs.e (.cW (.cU _ _) .de) _)];by_cases a:f<0;·exact⟨[],1,by simp only[xZ,a,EVX,seval],by simp⟩
 by_cases b:1114111<f;·exact⟨[],1,by simp only[xZ,a,b,EVX,seval],by simp⟩
 by_cases c:55296<=f
 ·by_cases d:f<=57343;·exact⟨[],1,by simp only[xZ,a,b,c,d,EVX,seval],by simp⟩
  ·exact⟨_,0,by simp only[xZ,a,b,c,d,EVX,seval],anl (IntKind.i32.wrap f)⟩
 ·exact⟨_,0,by simp only[xZ,a,b,c,EVX,seval],anl (IntKind.i32.wrap f)⟩
def adf(C:Ctx):Prop:=∀(s:LU) (i:Int) (O:St),∃(n:Int) (b:Bool),ai C nY [.cV s,.cU r i] O=J (.df [.cU r n,.cX b],O)
def aar(h:Has C zk sN)(d:adf C)(s:LU)(i:Nat)(hi:i<z s)(O:St):∃(n:Int) (b:Bool),ai C zk [.cV s,.cU r i] O=J (.df [.cU r n,.cX b],O):=by
 rw[h.go (NVs.e (.cW (.cV _) (.cW (.cU _ _) .de)) _)];have h3:(0:Int)<=i:=by omega
 have hb:s[i]?=J s[i]:=a02 hi;obtain⟨n,b,q⟩:=d s i O;by_cases a:(65:Int)<=(s[i].toNat:Int)
 ·by_cases c:(s[i].toNat:Int)<=70;·exact⟨_,_,by simp only[sN,h3,hb,a,c,EVX,seval];rfl⟩
  ·exact⟨n,b,by simp only[sN,h3,hb,a,c,q,EVX,seval]⟩
 ·exact⟨n,b,by simp only[sN,h3,hb,a,q,EVX,seval]⟩
def IL(a b c d:Int)(O:St):∀(k i:Nat),i+k=4->∀n:Int,∃g:Int,aH C (ai C) 18 [3,6,7,8] qx [(3,.cU r n),(6,.sl 4 [.cU r a,.cU r b,.cU r c,.cU r d]),(7,.cU r 4),(8,.cU r i)] O=J (.dq 0,[(3,.cU r g)],O)
 |0,i,hi,n=>by have:i=4:=(by omega);subst this;rw[aA (he:=rfl)];exact⟨n,by simp only[qx,EVX,seval]⟩
 |k+1,i,hi,n=>by have f:=IL a b c d O k (i+1) (by omega);rw[aA (he:=rfl)];generalize h:aH C (ai C) 18 [3,6,7,8] qx=K at*;have:i=0\/i=1\/i=2\/i=3:=(by omega);rcases this with rfl|rfl|rfl|rfl<;>simp only[qx,AV.cH,EVX,seval]<;>exact f _
def Ya(h:Has C BK Bi)(a b c d:Int)(O:St):∃n:Int,ai C BK [.eC 4 [.cU r a,.cU r b,.cU r c,.cU r d]] O=J (.cU r n,O):=by have e:hand eF [.eC 4 [.cU r a,.cU r b,.cU r c,.cU r d]] O=J ([.sl 4 [.cU r a,.cU r b,.cU r c,.cU r d]],O):=rfl;rw[h.go e];obtain⟨n,q⟩:=IL (C:=C) a b c d O 4 0 rfl 0;rw[show((0:Nat):Int)=0 from rfl]at q;exact⟨n,by simp only[Bi,q,EVX,seval]⟩
def nc:((0:Nat):Int)=0/\((1:Nat):Int)=1/\((2:Nat):Int)=2/\((3:Nat):Int)=3/\((4:Nat):Int)=4:=⟨rfl,rfl,rfl,rfl,rfl⟩
def MB(h:Has C zk sN)(p:adf C)(s:LU)(hs:z s<1099511627777)(at_:Nat)(l:at_<=z s)(O:St)(m:Ok O):∀(k i:Nat),i+k=4->(i=0\/at_+i<=z s)->∀a b c d:Int,∃x,aH C (ai C) 43 [0,1,6,10] nU [(0,.cV s),(1,.cU r at_),(6,.c8 (z O) 0),(10,.cU r i)] (O++[.cH [.cU r a,.cU r b,.cU r c,.cU r d] FZ])=J x/\((∃a b c d:Int,at_+4<=z s/\x=(.dq 0,[(6,.c8 (z O) 0)],O++[.cH [.cU r a,.cU r b,.cU r c,.cU r d] FZ]))\/∃(e:Int) (L:St),e≠0/\x=(.ef,[(4,.cU r 0),(5,.cU r e)],O++L))
 |0,i,hi,y,a,b,c,d=>by have:i=4:=(by omega);subst this;rw[aA (he:=rfl)];exact⟨_,by simp only[nU,EVX,seval],.inl ⟨a,b,c,d,by omega,rfl⟩⟩
 |k+1,i,hi,y,a,b,c,d=>by
  have g:=MB h p s hs at_ l O m k (i+1) (by omega);rw[aA (he:=rfl)];generalize B:aH C (ai C) 43 [0,1,6,10] nU=K at*;have w:IntKind.i64.wrap ((at_:Int)+i)=((at_+i:Nat):Int):=wrE (by omega);have t:=wrS i (by omega);have j:(i:Int)<4:=(by omega);have A:(0:Int)<=i:=(by omega);by_cases o:z s<=at_+i;·have o:(z s:Int)<=((at_+i:Nat):Int):=(by omega);exact⟨_,by simp only[nU,j,w,o,EVX,seval];rfl,.inr ⟨4,_,by decide,rfl⟩⟩
  have f:¬(z s:Int)<=((at_+i:Nat):Int):=(by omega);obtain⟨n,u,q⟩:=aar h p s (at_+i) (by omega) (O++[.cH [.cU r a,.cU r b,.cU r c,.cU r d] FZ]);cases u with
  |false=>exact⟨_,by simp only[nU,j,w,f,q,EVX,seval];rfl,.inr ⟨3,_,by decide,rfl⟩⟩|true=>have g:=g (.inr (by omega));have:i=0\/i=1\/i=2\/i=3:=(by omega);rcases this with rfl|rfl|rfl|rfl<;>simp only[Nat.reduceAdd,aH4,nc]at w t g f q<;>simp only[nU,j,A,w,t,f,q,AV.cH,AV.C,splice,EVX,seval]<;>exact g _ _ _ _
def Qx(h:Has C zk sN)(k:Has C BK Bi)(hf:Has C KL Fa)(j:adf C)(s:LU)(hs:z s<1099511627777)(i:Nat)(hi:i<=z s)(O:St)(f:Ok O):∃n e:Int,ai C KL [.cV s,.cU r i] O=J (.df [.cU r n,.cU r e],O)/\(e=0->i+4<=z s):=by
 rw[hf.go (NVs.e (.cW (.cV _) (.cW (.cU _ _) .de)) _)];have g:=λn e:Int=>bz f (vs:=[.cU r n,.cU r e]) rfl;obtain⟨x,q,l⟩:=MB h j s hs i hi O f 4 0 rfl (.inl rfl) 0 0 0 0;rw[show((0:Nat):Int)=0 from rfl]at q;rcases l with⟨a,b,c,d,h4,rfl⟩|⟨e,L,e0,rfl⟩;·obtain⟨n,qn⟩:=Ya k a b c d (O++[.cH [.cU r a,.cU r b,.cU r c,.cU r d] FZ]);exact⟨n,0,by simp only[Fa,q,qn,g,AV.cH,AV.C,splice,EVX,seval],λ_=>h4⟩
 ·exact⟨0,e,by simp only[Fa,q,g,EVX,seval],λh=>absurd h e0⟩
structure yO(C:Ctx):Prop extends BldHas C where
 kb:Has C Aj jD
 f6:Has C GV Di
 b9:Has C Ju xZ
 f3:Has C zk sN
 es:Has C BK Bi
 j6:Has C KL Fa
 jt:Has C DT kM
 mK:Has C LX ig
 lv:Has C Iu H6
 j0:Has C o8 EP
 j9:Has C KN pJ
 lu:Has C CV wX
 g1:Has C BJ xW
 ha:Has C wS DI
 hg:Has C Ei WM
 e7:adf C
 dt:∀(s:LU) (O:St),s.length<=1099511627776->∃(n:Int) (b:Bool),ai C VO [.cV s] O=some (.df [.cU .i64 n,.cX b],O)
def bn(a b:Int):(a !=b)=eF\/(a !=b)=eT:=by cases a !=b<;>simp
def ww:IntKind.i64.wrap 1=1/\IntKind.i64.wrap 2=2:=⟨rfl,rfl⟩
def JI(s:LU)(hs:z s<1099511627777)(f:Int)(O:St):∀(k i:Nat),i+k=2->∀p:Nat,p<=z s->∃x,aH C (ai C) 75 [0,1,7,33,34,35] lL [(0,.cV s),(1,.cU r p),(7,.cU r f),(33,.eC 2 [.cU .u8 92,.cU .u8 117]),(34,.cU r 2),(35,.cU r i)] O=J x/\((∃g:Nat,p<=g/\g<=p+k/\g<=z s/\x=(.dq 0,[(0,.cV s),(1,.cU r g),(7,.cU r f)],O))\/∃e:Int,e≠0/\x=(.ef,[(4,.cU r 0),(5,.cU r 0),(6,.cU r e)],O))
 |0,i,hi,p,l=>by have:i=2:=(by omega);subst this;rw[aA (he:=rfl)];exact⟨_,by simp only[lL,EVX,seval],.inl ⟨p,by omega,by omega,l,rfl⟩⟩
 |k+1,i,hi,p,l=>by
  have o:=JI s hs f O k (i+1) (by omega) (p+1);rw[aA (he:=rfl)];generalize u:aH C (ai C) 75 [0,1,7,33,34,35] lL=K at*;have q:=wrS p (by omega);have m:(0:Int)<=p:=(by omega);have h:i=0\/i=1:=(by omega);rcases bq p (z s) with c|c;·exact⟨_,by rcases h with rfl|rfl<;>simp only[lL,c,AV.cH,EVX,seval]<;>rfl,.inr ⟨4,by decide,rfl⟩⟩
  have t:(p:Int)≠z s:=(by simpa using c);have hb:s[p]?=J s[p]:=a02 (by omega);rcases bn s[p].toNat (if i=0 then 92 else 117)with d|d
  case inr=>exact⟨_,by rcases h with rfl|rfl<;>simp only[if_true,Nat.succ_ne_zero,Nat.one_ne_zero,if_false]at d<;>simp only[lL,c,d,hb,m,AV.cH,EVX,seval]<;>rfl,.inr ⟨12,by decide,rfl⟩⟩
  ·obtain⟨x,j,h2⟩:=o (by omega);refine⟨x,?_,?_⟩;·rcases h with rfl|rfl<;>simp only[Nat.reduceAdd,nc]at j<;>simp only[if_true,Nat.succ_ne_zero,Nat.one_ne_zero,if_false]at d<;>simp only[lL,c,d,hb,m,q,j,ww,AV.cH,EVX,seval]
   ·rcases h2 with⟨g,a,b,e,y⟩|h2;·exact .inl ⟨g,by omega,by omega,e,y⟩
    ·exact .inr h2
def aap(H:yO C)(s:LU)(hs:z s<1099511627777)(i:Nat)(hi:i<=z s)(O:St)(g:Ok O):∃n y e:Int,ai C DT [.cV s,.cU r i] O=J (.df [.cU r n,.cU r y,.cU r e],O)/\(e=0->i<=y/\y<=i+10):=by
 rw[H.jt.go (NVs.e (.cW (.cV _) (.cW (.cU _ _) .de)) _)];obtain⟨n,e,q1,b1⟩:=Qx H.f3 H.es H.j6 H.e7 s hs i hi O g;rcases bn e 0 with c|c
 case inr=>exact⟨0,0,e,by simp only[kM,q1,c,EVX,seval],λh=>by subst h;simp at c⟩
 have e0:e=0:=by simpa using c
 subst e0;have b1:=b1 rfl;have b:IntKind.i64.wrap ((i:Int)+4)=((i+4:Nat):Int):=wrE (by omega);by_cases a:n<55296;·exact⟨n,_,0,by simp only[kM,q1,a,b,EVX,seval];rfl,λ_=>by omega⟩
 by_cases d:57343<n;·exact⟨n,_,0,by simp only[kM,q1,a,d,b,EVX,seval];rfl,λ_=>by omega⟩
 by_cases f:56320<=n;·exact⟨0,0,12,by simp only[kM,q1,a,d,f,b,EVX,seval],λh=>by cases h⟩
 obtain⟨x,l1,l2⟩:=JI (C:=C) s hs n O 2 0 rfl (i+4) b1;rw[nc.1]at l1;rcases l2 with⟨p,t,u,m,rfl⟩|⟨e,e0,rfl⟩
 case inr=>exact⟨0,0,e,by simp only[kM,q1,a,d,f,b,l1,EVX,seval],λh=>absurd h e0⟩
 obtain⟨l,e,q2,q⟩:=Qx H.f3 H.es H.j6 H.e7 s hs p m O g;rcases bn e 0 with c|c
 case inr=>exact⟨0,0,e,by simp only[kM,q1,a,d,f,b,l1,q2,c,EVX,seval],λh=>by subst h;simp at c⟩
 have e0:e=0:=by simpa using c
 subst e0;have o:IntKind.i64.wrap ((p:Int)+4)=((p+4:Nat):Int):=wrE (by omega);by_cases j:l<56320;·exact⟨0,0,12,by simp only[kM,q1,a,d,f,j,b,l1,q2,EVX,seval],λh=>by cases h⟩
 by_cases k:57343<l;·exact⟨0,0,12,by simp only[kM,q1,a,d,f,j,k,b,l1,q2,EVX,seval],λh=>by cases h⟩
 exact⟨_,_,0,by simp only[kM,q1,a,d,f,j,k,b,o,l1,q2,EVX,seval];rfl,λ_=>by omega⟩
def avl(Y:St)(v:AV):Prop:=v=.ep\/v=.ea (.func DT) [] []\/∃(d:Int) (o:Nat),v=.ea (.func o8) [] [.c8 o 0]/\Y[o]?=J (.cH [.cU r d] FZ)
def yH(O L:St)(f:Fn):tidy (z O) [.ea f [] [.c8 (z O) 0]] (O++L)=O++L:=by
 unfold tidy;split;·rfl
 ·simp[ae,below]
def RI(H:yO C)(d:Int)(O:St):ai C Iu [.cU r d] O=J (.ea (.func o8) [] [.c8 (z O) 0],O++[.cH [.cU r d] FZ]):=by rw[H.lv.go (NVs.e (.cW (.cU _ _) .de) _)];simp only[H6,yH,EVX,seval]
def V7(H:yO C)(c:Int)(O:St)(k:Ok O):∃v L,ai C LX [.cU .u8 c] O=J (v,O++L)/\Ok (O++L)/\avl (O++L) v:=by
 rw[H.mK.go (NVs.e (.cW (.cU _ _) .de) _)];have q:=λx=>RI H x O;have fin:∀x,Ok (O++[.cH [.cU r x] FZ])/\avl (O++[.cH [.cU r x] FZ]) (.ea (.func o8) [] [.c8 (z O) 0]):=λx=>⟨k.H rfl,.inr (.inr ⟨x,_,rfl,by rw[bK rfl];rfl⟩)⟩;rcases bq c 34 with a|a;·exact⟨_,_,by simp only[ig,a,q,jH,yH,EVX,seval];rfl,fin _⟩
 rcases bq c 92 with b|b;·exact⟨_,_,by simp only[ig,a,b,q,jH,yH,EVX,seval];rfl,fin _⟩
 rcases bq c 47 with d|d;·exact⟨_,_,by simp only[ig,a,b,d,q,jH,yH,EVX,seval];rfl,fin _⟩
 rcases bq c 98 with e|e;·exact⟨_,_,by simp only[ig,a,b,d,e,q,jH,yH,EVX,seval];rfl,fin _⟩
 rcases bq c 102 with f|f;·exact⟨_,_,by simp only[ig,a,b,d,e,f,q,jH,yH,EVX,seval];rfl,fin _⟩
 rcases bq c 110 with g|g;·exact⟨_,_,by simp only[ig,a,b,d,e,f,g,q,jH,yH,EVX,seval];rfl,fin _⟩
 rcases bq c 114 with h|h;·exact⟨_,_,by simp only[ig,a,b,d,e,f,g,h,q,jH,yH,EVX,seval];rfl,fin _⟩
 rcases bq c 116 with i|i;·exact⟨_,_,by simp only[ig,a,b,d,e,f,g,h,i,q,jH,yH,EVX,seval];rfl,fin _⟩
 rcases bq c 117 with j|j;·exact⟨.ea (.func DT) [] [],[],by simp only[ig,a,b,d,e,f,g,h,i,j,ay5,EVX,seval],by rwa[ay5],.inr (.inl rfl)⟩
 exact⟨.ep,[],by simp only[ig,a,b,d,e,f,g,h,i,j,ay5,EVX,seval],by rwa[ay5],.inl rfl⟩
def aaq(H:yO C)(s:LU)(f:Int)(o:Nat)(d:Int)(Y:St)(b:Y[o]?=J (.cH [.cU r d] FZ)):ai C o8 [.cV s,.cU r f,.c8 o 0] Y=J (.df [.cU r d,.cU r f,.cU r 0],Y):=by have a:hand eF [.cV s,.cU r f,.c8 o 0] Y=J ([.cV s,.cU r f,.c8 o 0],Y):=rfl;rw[H.j0.go a];simp only[EP,b,EVX,seval]
def abq(H:yO C)(s:LU)(hs:z s<1099511627777)(i:Nat)(hi:i<z s)(O:St)(k:Ok O):∃n R e:Int,ai C KN [.cV s,.cU r i] O=J (.df [.cU r n,.cU r R,.cU r e],O)/\(e=0->i<R/\R<=i+12):=by
 rw[H.j9.go (NVs.e (.cW (.cV _) (.cW (.cU _ _) .de)) _)];have t:=λa b c:Int=>bz k (vs:=[.cU r a,.cU r b,.cU r c]) rfl;have h3:(0:Int)<=i:=by omega
 have hb:s[i]?=J s[i]:=a02 hi;by_cases f:(s[i].toNat:Int)<32;·exact⟨0,0,3,by simp only[pJ,h3,hb,f,EVX,seval],λh=>by cases h⟩
 rcases bn s[i].toNat 92 with g|g
 case inr=>
  obtain⟨N,R,e,q,D,E,x⟩:=ah5 H.f6 H.kb s hs i hi O;rcases bn e 0 with d|d
  case inr=>exact⟨0,0,e,by simp only[pJ,h3,hb,f,g,q,d,EVX,seval],λh=>by subst h;simp at d⟩
  have e0:e=0:=(by simpa using d);have x:=x e0;obtain⟨m,rfl⟩:=Int.eq_ofNat_of_zero_le D;have w:IntKind.i64.wrap ((i:Int)+(m:Int))=((i+m:Nat):Int):=wrE (by omega);exact⟨N,((i+m:Nat):Int),0,by simp only[pJ,h3,hb,f,g,q,d,w,EVX,seval],λ_=>by omega⟩
 have l:=wrS i (by omega);have u:IntKind.i64.wrap ((i:Int)+2)=((i+2:Nat):Int):=wrE (by omega);rcases bq ((i+1:Nat):Int) (z s) with d|d;·exact⟨0,0,4,by simp only[pJ,h3,hb,f,g,l,d,EVX,seval],λh=>by cases h⟩
 have A:((i+1:Nat):Int)≠z s:=by simpa using d
 have j:s[i+1]?=J s[i+1]:=a02 (by omega);have h4:(0:Int)<=((i+1:Nat):Int):=by omega
 obtain⟨v,L,q,p,hv⟩:=V7 H s[i+1].toNat O k;rcases hv with rfl|rfl|⟨N,o,rfl,B⟩;·exact⟨0,0,3,by simp only[pJ,h3,h4,hb,j,f,g,l,d,q,t,EVX,seval],λh=>by cases h⟩
 ·obtain⟨n,R,e,q2,y⟩:=aap H s hs (i+2) (by omega) (O++L) p;refine⟨n,R,e,by simp only[pJ,h3,h4,hb,j,f,g,l,u,d,q,q2,jH,t,a98,ay5,EVX,seval],λh=>?_⟩;have:=y h;omega
 ·have q2:=aaq H s ((i+2:Nat):Int) o N (O++L) B;exact⟨N,((i+2:Nat):Int),0,by simp only[pJ,h3,h4,hb,j,f,g,l,u,d,q,q2,jH,t,a98,a09,EVX,seval],λ_=>by omega⟩
def adE(H:BldHas C){o n:Nat}{O Y S:St}{w:LU}{a:Option Nat}(b:Bk S o w a)(t:TrB o Y U S a)(d:n=z O)(f:Y.take n=O)(e:n<=o)(i:n<=z Y)(g:z w<=1099511627776):∃S',ai C fJ [.c8 o 0] S=J (.cV w,S')/\S'.take n=O:=by
 have tk:S.take n=O:=t.cj d f e;obtain⟨p,c,x1,x2,x3⟩:=b;rcases x3 with⟨_,rfl,rfl⟩|⟨q,x3,x4,x5,rfl,x6⟩;·exact⟨S,H.kt _ _ _ x1,tk⟩
 ·refine⟨_,H.ku _ _ _ _ _ x1 x6 x5 g,?_⟩;rcases t.q q x3 with h|h;·cases h
  ·rw[dK _ _ _ (by omega),tk]
def amT(H:yO C){o:Nat}{Y:St}{w:LU}{qo:Option Nat}(b:Bk Y o w qo):ai C CV [.c8 o 0] Y=J (.cU r (z w),Y):=by
 have a:=jM o Y;rw[H.lu.go a];obtain⟨p,c,x1,x2,x3⟩:=b;dsimp only[bT]at x1;rcases x3 with⟨_,rfl,rfl⟩|⟨q,x3,x4,x5,rfl,x6⟩;·simp only[wX,x1,AV.cH,EVX,seval]
 ·simp only[wX,x1,AV.cH,EVX,seval]
def X9 (H:yO C) (s:LU) (hs:z s<1099511627777) (O:St) (o:Nat) (y:z O<=o) (u:St) (v:u.take (z O)=O) (M:z O<=z u):∀(k p:Nat),z s<=p+k->p<=z s+12->∀(Y:St) (w:LU) (qo:Option Nat),Ok Y->Bk Y o w qo->TrB o u U Y qo->z w<=4096->
  ∃x,aH C (ai C) 67 [0,1,7] dX [(0,.cV s),(1,.cU r p),(7,.c8 o 0)] Y=J x/\((∃d,x=(.dq 0,[],d)/\d.take (z O)=O)\/∃(t:LU) (N e:Int) (d:St),x=(.ef,[(4,.cV t),(5,.cU r N),(6,.cU r e)],d)/\d.take (z O)=O/\0<=N/\z t<=4096):=by
 intro k
 induction k with
 |zero=>intro p P A Y w qo f hb i F;rw[aA (he:=rfl)];have c:¬((p:Int)<z s):=(by omega);exact⟨_,by simp only[dX,c,EVX,seval],.inl ⟨_,rfl,i.cj rfl v y⟩⟩
 |succ k Q=>
  intro p P A Y w qo f hb i F;rw[aA (he:=rfl)];generalize S:aH C (ai C) 67 [0,1,7] dX=K at*;have tk:Y.take (z O)=O:=i.cj rfl v y;by_cases c:(p:Int)<z s
  case neg=>exact⟨_,by simp only[dX,c,EVX,seval],.inl ⟨_,rfl,tk⟩⟩
  have a:s[p]?=J s[p]:=a02 (by omega);have j:(0:Int)<=p:=(by omega);rcases bq s[p].toNat 34 with g|g;·obtain⟨I,s1,s2⟩:=adE H.toBldHas hb i rfl v y M (by omega);have R:IntKind.i64.wrap ((p:Int)+1)=p+1:=wrE (by omega);exact⟨_,by simp only[dX,c,g,a,j,s1,R,EVX,seval],.inr ⟨w,p+1,0,I,rfl,s2,by omega,F⟩⟩
  obtain⟨n,N,e,q,b⟩:=abq H s hs p (by omega) Y f;rcases bn e 0 with h|h
  case inr=>exact⟨_,by simp only[dX,c,g,h,a,j,q,EVX,seval],.inr ⟨[],0,e,Y,rfl,tk,by omega,by simp⟩⟩
  have e0:e=0:=(by simpa using h);have b:=b e0;obtain⟨t,E,q2,T⟩:=aiX H.b9 n Y;rcases bn E 0 with l|l
  case inr=>exact⟨_,by simp only[dX,c,g,h,l,a,j,q,q2,EVX,seval],.inr ⟨[],0,E,Y,rfl,tk,by omega,by simp⟩⟩
  have q3:=amT H hb;have G:IntKind.i64.wrap ((z w:Int)+(z t:Int))=z w+z t:=wrE (by omega);by_cases D:(4096:Int)<(z w:Int)+(z t:Int);·exact⟨_,by simp only[dX,c,g,h,l,D,a,j,q,q2,q3,G,EVX,seval],.inr ⟨[],0,5,Y,rfl,tk,by omega,by simp⟩⟩
  obtain⟨d,B,q4,L,t4⟩:=FT H.toBldHas t f hb (by omega);obtain⟨m,rfl⟩:=Int.eq_ofNat_of_zero_le (show 0<=N by omega);obtain⟨x,x1,x2⟩:=Q m (by omega) (by omega) d (w++t) B t4.ok L (i.N t4) (by rw[a04];omega);exact⟨x,by simp only[dX,c,g,h,l,D,a,j,q,q2,q3,q4,G,x1,EVX,seval],x2⟩
def arD(H:yO C):adp C:=λs i O hs hi a=>by
 rw[H.g1.go (NVs.e (.cW (.cV _) (.cW (.cU _ _) .de)) _)];have d:¬((i:Int)<0):=by omega
 have h2:¬((z s:Int)<i):=by omega
 have h3:(0:Int)<=i:=by omega
 have l:=λ(t:LU) (q e:Int)=>bz a (vs:=[.cV t,.cU r q,.cU r e]) rfl;rcases bq i (z s) with c|c;·exact⟨[],0,4,by simp only[xW,d,h2,c,EVX,seval],by omega,lb0⟩
 have j:(i:Int)≠z s:=by simpa using c
 have hb:s[i]?=J s[i]:=a02 (by omega);rcases bn s[i].toNat 34 with b|b
 case inr=>exact⟨[],0,3,by simp only[xW,d,h2,h3,hb,c,b,EVX,seval],by omega,lb0⟩
 have f:=wrS i (by omega);have okB:Ok (O++[.cH [.ev,.cY] bT]):=a.H rfl;obtain⟨x,x1,x2⟩:=X9 H s hs O (z O) (a06 _) (O++[.cH [.ev,.cY] bT]) (by simp) (by simp) (z s) (i+1) (by omega) (by omega) _ [] U okB ⟨.ev,.cY,by rw[bK rfl];rfl,.inl rfl,.inl ⟨rfl,rfl,rfl⟩⟩ (.ah okB) (by simp);dsimp only[bT]at x1;rcases x2 with⟨g,rfl,tk⟩|⟨t,q,e,g,rfl,tk,h,k⟩;·have tq:=λ(t:LU) (q e:Int)=>pG (vs:=[.cV t,.cU r q,.cU r e]) a rfl tk;exact⟨[],0,4,by simp only[xW,d,h2,h3,hb,c,b,f,x1,tq,EVX,seval],by omega,lb0⟩
 ·have tq:=λ(t:LU) (q e:Int)=>pG (vs:=[.cV t,.cU r q,.cU r e]) a rfl tk;exact⟨t,q,e,by simp only[xW,d,h2,h3,hb,c,b,f,x1,tq,EVX,seval],h,by simp only[LB];omega⟩
def Vs(H:yO C)(s:LU)(hs:z s<=1099511627776)(O:St):∃b:Bool,ai C Ei [.cV s] O=J (.cX b,O):=by rw[H.hg.go (NVs.e (.cW (.cV _) .de) _)];obtain⟨n,b,q⟩:=H.dt s O hs;exact⟨b,by simp only[WM,q,EVX,seval]⟩
def V6 (H:yO C) (s:LU) (hs:z s<=4096) (O:St) (o:Nat) (t:St):∀(k p:Nat),p+k=z s->∀(Y:St) (w:LU) (qo:Option Nat),Ok Y->Bk Y o w qo->TrB o t U Y qo->z w<=1+2*p->
  ∃(a:St) (c:LU) (b:Option Nat),aH C (ai C) 36 [0,4,14,15] lK [(0,.cV s),(4,.c8 o 0),(14,.cU r (z s)),(15,.cU r p)] Y=J (.dq 0,[(4,.c8 o 0)],a)/\Ok a/\Bk a o c b/\TrB o t U a b/\z c<=1+2*z s:=by
 intro k
 induction k with
 |zero=>intro p F Y w qo d hb q G;rw[aA (he:=rfl)];have l:¬((p:Int)<z s):=(by omega);exact⟨Y,w,qo,by simp only[lK,l,EVX,seval],d,hb,q,by omega⟩
 |succ k y=>
  intro p F Y w qo d hb q G;rw[aA (he:=rfl)];generalize I:aH C (ai C) 36 [0,4,14,15] lK=K at*;have l:(p:Int)<z s:=(by omega);have e:s[p]?=J s[p]:=a02 (by omega);have A:(0:Int)<=p:=(by omega);have B:=wrS p (by omega);have v:((92:UInt8).toNat:Int)=92:=rfl;have m:((s[p].toNat:Int)==34)=eT\/((s[p].toNat:Int)==34)=eF/\((s[p].toNat:Int)==92)=eT->∃(a:St) (c:LU) (b:Option Nat),ai C fO [.c8 o 0,.cU .u8 92] Y=J (.ej,a)/\Ok a/\Bk a o c b/\TrB o t U a b/\z c<=2+2*p:=λ_=>by obtain⟨u,q1,e1,b1,t1⟩:=yJ H.toBldHas 92 d hb (by omega);rw[v]at e1;exact⟨u,_,q1,e1,t1.ok,b1,q.N t1,by rw[a04,aD8];omega⟩
  rcases bq s[p].toNat 34 with g|g;·obtain⟨u,D,q1,e1,f,b1,t1,l1⟩:=m (.inl g);obtain⟨i,q2,e2,j,t2⟩:=yJ H.toBldHas s[p] f b1 (by omega);obtain⟨a,c,b,x,h⟩:=y (p+1) (by omega) i _ q2 t2.ok j (t1.N t2) (by rw[a04,aD8];omega);exact⟨a,c,b,by simp only[lK,l,g,e,A,e1,e2,B,x,EVX,seval],h⟩
  ·rcases bq s[p].toNat 92 with n|n;·obtain⟨u,D,q1,e1,f,b1,t1,l1⟩:=m (.inr ⟨g,n⟩);obtain⟨i,q2,e2,j,t2⟩:=yJ H.toBldHas s[p] f b1 (by omega);obtain⟨a,c,b,x,h⟩:=y (p+1) (by omega) i _ q2 t2.ok j (t1.N t2) (by rw[a04,aD8];omega);exact⟨a,c,b,by simp only[lK,l,g,n,e,A,e1,e2,B,x,EVX,seval],h⟩
   ·obtain⟨i,q2,e2,j,t2⟩:=yJ H.toBldHas s[p] d hb (by omega);obtain⟨a,c,b,x,h⟩:=y (p+1) (by omega) i _ q2 t2.ok j (q.N t2) (by rw[a04,aD8];omega);exact⟨a,c,b,by simp only[lK,l,g,n,e,A,e2,B,x,EVX,seval],h⟩
def aao(H:yO C)(s:LU)(O:St)(a:Ok O):∃(q:LU) (e:Int),ai C wS [.cV s] O=J (.df [.cV q,.cU r e],O)/\z q<=8194:=by
 rw[H.ha.go (NVs.e (.cW (.cV _) .de) _)];by_cases d:(4096:Int)<(z s:Int);·exact⟨[],5,by simp only[DI,d,EVX,seval],by simp⟩
 obtain⟨b,hv⟩:=Vs H s (by omega) O;cases b with
 |false=>exact⟨[],12,by simp only[DI,d,hv,EVX,seval],by simp⟩|true=>have okB:Ok (O++[.cH [.ev,.cY] bT]):=a.H rfl;have j:Bk (O++[.cH [.ev,.cY] bT]) (z O) [] U:=⟨.ev,.cY,by rw[bK rfl];rfl,.inl rfl,.inl ⟨rfl,rfl,rfl⟩⟩;obtain⟨g,q1,e1,b1,t1⟩:=yJ H.toBldHas 34 okB j (by simp);obtain⟨m,k,q2,e2,f,h,t2,l2⟩:=V6 H s (by omega) O (z O) _ (z s) 0 (by omega) g _ q1 t1.ok b1 t1 (by simp);obtain⟨o,q3,e3,i,t3⟩:=yJ H.toBldHas 34 f h (by omega);obtain⟨l,s1,s2⟩:=adE H.toBldHas i (t2.N t3) (n:=z O) rfl (by simp) (a06 _) (by simp) (by rw[a04,aD8];omega);have tq:=λt:LU=>pG (vs:=[.cV t,.cU r 0]) a rfl s2;have c:((34:UInt8).toNat:Int)=34:=rfl;rw[c]at e1 e3;rw[nc.1]at e2;dsimp only[bT]at e1;exact⟨k++[34],0,by simp only[DI,d,hv,e1,e2,e3,s1,tq,EVX,seval],by rw[a04,aD8];omega⟩
def pla(c:UInt8):Prop:=32<=c.toNat/\c.toNat<128/\c.toNat≠34/\c.toNat≠92
def aib(h:Has C Aj jD)(c:Nat)(b:c<128)(O:St):ai C Aj [.cU .u8 c] O=J (.df [.cU r 1,.cU .u8 0,.cU .u8 0],O):=by
 rw[h.go (NVs.e (.cW (.cU _ _) .de) _)];have a:(c:Int)<128:=by omega
 simp only[jD,a,EVX,seval]
def aik(h:Has C GV Di)(f:Has C Aj jD)(s:LU)(hs:z s<1099511627777)(i:Nat)(c:UInt8)(hb:s[i]?=J c)(e:c.toNat<128)(O:St):ai C GV [.cV s,.cU r i] O=J (.df [.cU r c.toNat,.cU r 1,.cU r 0],O):=by
 have hi:=(a00.mp hb).1;rw[h.go (NVs.e (.cW (.cV _) (.cW (.cU _ _) .de)) _)];have d:¬((i:Int)<0):=by omega
 have h2:¬((i:Int)>(z s:Int)):=by omega
 have a:¬((z s:Int)<i):=by omega
 have h3:(0:Int)<=i:=by omega
 have h4:((i:Int)==(z s:Int))=eF:=by simp;omega
 have b:=wrS i (by omega);have j:IntKind.i64.wrap (c.toNat:Int)=c.toNat:=wrE (by omega);have q:=aib f c.toNat e;have g:∀x,aH C (ai C) 78 [0,1,4,5,7,8,9] kW [(0,.cV s),(1,.cU r i),(4,.cU r x),(5,.cU r 1),(7,.cU .u8 0),(8,.cU .u8 0),(9,.cU r ((i+1:Nat):Int))] O=J (.dq 0,[(4,.cU r x),(5,.cU r 1)],O):=λx=>by rw[aA (he:=rfl)];simp only[kW,b,Int.lt_irrefl,EVX,seval]
 simp only[Di,d,h2,a,h3,h4,hb,b,j,q,g,EVX,seval]
def ai6(H:yO C)(s:LU)(hs:z s<1099511627777)(i:Nat)(c:UInt8)(hb:s[i]?=J c)(d:pla c)(O:St):ai C KN [.cV s,.cU r i] O=J (.df [.cU r c.toNat,.cU r ((i+1:Nat):Int),.cU r 0],O):=by
 have hi:=(a00.mp hb).1;obtain⟨g,e,h,j⟩:=d;rw[H.j9.go (NVs.e (.cW (.cV _) (.cW (.cU _ _) .de)) _)];have h3:(0:Int)<=i:=by omega
 have a:¬((c.toNat:Int)<32):=by omega
 have b:((c.toNat:Int) !=92)=eT:=by simp;omega
 have q:=aik H.f6 H.kb s hs i c hb e O;have f:=wrS i (by omega);simp only[pJ,h3,hb,a,b,q,f,EVX,seval]
def al5(c:UInt8)(h:c.toNat<128):(Utf8.encode (c.toNat:Int)).data.toList=[c]:=by
 have v:Utf8.valid (c.toNat:Int)=eT:=by unfold Utf8.valid;simp;omega
 unfold Utf8.encode;simp only[v,if_true,a88];rw[if_pos h];simp
def alR(h:Has C Ju xZ)(c:UInt8)(f:c.toNat<128)(O:St):ai C Ju [.cU r c.toNat] O=J (.df [.cV [c],.cU r 0],O):=by
 rw[h.go (NVs.e (.cW (.cU _ _) .de) _)];have a:¬((c.toNat:Int)<0):=by omega
 have b:¬((1114111:Int)<c.toNat):=by omega
 have d:¬((55296:Int)<=c.toNat):=by omega
 have w:IntKind.i32.wrap (c.toNat:Int)=c.toNat:=by rw[IntKind.wrap_i32];omega
 have e:=al5 c f;simp only[xZ,a,b,d,w,e,EVX,seval]
def Qy (H:yO C) (s:LU) (hs:z s<1099511627777) (O:St) (o:Nat) (v:z O<=o) (f:St) (n:f.take (z O)=O) (u:z O<=z f) (N:LU):∀(t:LU) (p:Nat),s.drop p=t++34::N->(∀c∈t,pla c)->∀(Y:St) (w:LU) (qo:Option Nat),Ok Y->Bk Y o w qo->TrB o f U Y qo->z w+z t<=4096->
  ∃d,aH C (ai C) 67 [0,1,7] dX [(0,.cV s),(1,.cU r p),(7,.c8 o 0)] Y=J (.ef,[(4,.cV (w++t)),(5,.cU r ((p+z t+1:Nat):Int)),(6,.cU r 0)],d)/\d.take (z O)=O
 |[],p,g,j,Y,w,qo,b,hb,k,y=>by
  have a:s[p]?=J 34:=by have:=congrArg List.head? g;rwa[aE6]at this
  have hi:=(a00.mp a).1;have h:(p:Int)<z s:=(by omega);have l:(0:Int)<=p:=(by omega);obtain⟨A,s1,s2⟩:=adE H.toBldHas hb k rfl n v u (by omega);have I:=wrS p (by omega);refine⟨A,?_,s2⟩;rw[aA (he:=rfl),ay5,a94,aH4];have e:((34:UInt8).toNat:Int)=34:=rfl;simp only[dX,h,a,l,s1,I,e,EVX,seval]
 |c::t,p,g,j,Y,w,qo,b,hb,k,y=>by
  have a:s[p]?=J c:=by have:=congrArg List.head? g;rwa[aE6]at this
  have hi:=(a00.mp a).1;have h:(p:Int)<z s:=(by omega);have l:(0:Int)<=p:=(by omega);have pc:=j c (by simp);have D:((c.toNat:Int)==34)=eF:=by have:=pc.2.2.1;simp;omega
  have q:=ai6 H s hs p c a pc Y;have q2:=alR H.b9 c pc.2.1 Y;have q3:=amT H hb;rw[a90]at y;have L:IntKind.i64.wrap ((z w:Int)+1)=((z w+1:Nat):Int):=wrE (by omega);have E:¬((4096:Int)<((z w+1:Nat):Int)):=(by omega);obtain⟨d,m,q4,B,t4⟩:=FT H.toBldHas [c] b hb (by simp only[a90,a94];omega);have i:s.drop (p+1)=t++34::N:=by rw[<-aG4,g];rfl
  obtain⟨T,x1,x2⟩:=Qy H s hs O o v f n u N t (p+1) i (λx G=>j x (by simp[G])) d (w++[c]) m t4.ok B (k.N t4) (by rw[a04,a90,a94];omega);refine⟨T,?_,x2⟩;rw[ay2,List.singleton_append,show p+1+z t+1=p+z (c::t)+1 by rw[a90];omega]at x1;rw[aA (he:=rfl)];generalize M:aH C (ai C) 67 [0,1,7] dX=K at*;simp only[dX,h,D,E,a,l,q,q2,q3,q4,L,x1,EVX,seval]
def aiv(H:yO C)(s:LU)(hs:z s<1099511627777)(i:Nat)(t q:LU)(b:s.drop i=34::(t++34::q))(f:∀c∈t,pla c)(j:z t<=4096)(O:St)(a:Ok O):ai C BJ [.cV s,.cU r i] O=J (.df [.cV t,.cU r ((i+1+z t+1:Nat):Int),.cU r 0],O):=by
 have hb:s[i]?=J 34:=by have:=congrArg List.head? b;rwa[aE6]at this
 have hi:=(a00.mp hb).1;have d:¬((i:Int)<0):=by omega
 have h2:¬((z s:Int)<i):=by omega
 have h3:(0:Int)<=i:=by omega
 have c:((i:Int)==(z s:Int))=eF:=by simp;omega
 have g:=wrS i (by omega);have e:((34:UInt8).toNat:Int)=34:=rfl;have okB:Ok (O++[.cH [.ev,.cY] bT]):=a.H rfl;obtain⟨h,x1,tk⟩:=Qy H s hs O (z O) (a06 _) (O++[.cH [.ev,.cY] bT]) (by simp) (by simp) q t (i+1) (by rw[<-aG4,b];rfl) f _ [] U okB ⟨.ev,.cY,by rw[bK rfl];rfl,.inl rfl,.inl ⟨rfl,rfl,rfl⟩⟩ (.ah okB) (by simp only[a94];omega);dsimp only[bT]at x1;have tq:=pG (vs:=[.cV t,.cU r ((i+1+z t+1:Nat):Int),.cU r 0]) a rfl tk;rw[H.g1.go (NVs.e (.cW (.cV _) (.cW (.cU _ _) .de)) _)];simp only[xW,d,h2,h3,hb,c,g,e,x1,tq,a98,EVX,seval]
open Go.RowKit
noncomputable section
def aaD(f g:Fz):Bool:=f.b==g.b&&f.t==g.t
def apB{f g:Fz}(h:aaD f g=eT):f=g:=by unfold aaD at h;cases f;cases g;simpa using h
def akw:List (AV×AV)->List (AV×AV)->Bool|[],[]=>eT|a::x,b::y=>Fe (same a.1 b.1) (Fe (same a.2 b.2) (akw x y))|_,_=>eF
def agF:∀{x y:List (AV×AV)},akw x y=eT->x=y
 |[],[],_=>rfl|a::x,b::y,h=>by unfold akw at h;rw[kX,kX,a01,a01]at h;rw[Prod.ext (same_eq _ _ h.1) (same_eq _ _ h.2.1),agF h.2.2]
 |[],_::_,h=>by cases h
 |_::_,[],h=>by cases h
def apz(a b:AO):Bool:=match a with
 |.cH l f=>match b with|.cH m g=>Fe (aaD f g) (xk l m)|_=>eF
 |.ec x=>match b with|.ec y=>akw x y|_=>eF
 |.eq=>match b with|.eq=>eT|_=>eF
def apA{a b:AO}(h:apz a b=eT):a=b:=by
 unfold apz at h;split at h<;>split at h<;>try cases h
 ·rw[kX,a01]at h;rw[apB h.1,wM _ _ h.2]
 ·rw[agF h]
 ·rfl
def aaC:St->St->Bool|[],[]=>eT|a::x,b::y=>Fe (apz a b) (aaC x y)|_,_=>eF
def Wj:∀{x y:St},aaC x y=eT->x=y
 |[],[],_=>rfl|a::x,b::y,h=>by unfold aaC at h;rw[kX,a01]at h;rw[apA h.1,Wj h.2]
 |[],_::_,h=>by cases h
 |_::_,[],h=>by cases h
def arK(d:Option (AV×St))(v:AV)(O:St):Bool:=match d with|U=>eF|J p=>match p with|(b,a)=>Fe (same b v) (aaC a O)
def arL{d:Option (AV×St)}{v:AV}{O:St}(h:arK d v O=eT):d=J (v,O):=by
 unfold arK at h;split at h;·cases h
 ·rename_i p;obtain⟨b,a⟩:=p;dsimp only at h;rw[kX,a01]at h;rw[same_eq _ _ h.1,Wj h.2]
abbrev att:=LA×St×AV×St
def ami:List att->LA->St->Option (AV×St)|[],_,_=>U|p::l,a,O=>match Fe (xk a p.1) (aaC O p.2.1)with|eT=>J p.2.2|eF=>ami l a O
def akC{C:Ctx}{f:FuncId}{call:bH}(d:eY C call):∀{l:List att},(∀p∈l,arK (call f p.1 p.2.1) p.2.2.1 p.2.2.2=eT)->POK C f (ami l)
 |[],_=>λb O v c h=>by cases h
 |⟨a,t,v1,s1⟩::l,g=>by
  intro b O v c h;unfold ami at h;dsimp only at h;split at h;·rename_i hb;rw[kX,a01]at hb;have e:=arL (g (a,t,v1,s1) List.mem_cons_self);rw[<-wM _ _ hb.1,<-Wj hb.2]at e;cases h;exact d _ _ _ _ _ e
  ·exact akC d (λq i=>g q (aF2 _ i)) b O v c h
def akJ(T:Tr2)(f:FuncId)(h:LA->St->Option (AV×St)):Tr2:=λg=>match Nat.beq g f with
 |eT=>match T g with|U=>U|J e=>match e with|.ib _ K raw pure=>J (.ib h K raw pure)|.ju K raw pure=>J (.ib h K raw pure)|.fg _=>U|.kh _=>U
 |eF=>T g
def aqr{C:Ctx}{T:Tr2}(b:aj9 C T){f:FuncId}{h:LA->St->Option (AV×St)}(c:POK C f h):aj9 C (akJ T f h):=by
 refine⟨λg e a=>?_,b.gl⟩;unfold akJ at a;split at a
 ·rename_i hb;have:=ay0 hb;subst this;split at a;·cases a
  ·rename_i i d;have k:=b.cG g _ d;split at a<;>cases a;·exact⟨c,k.2⟩
   ·exact⟨c,k⟩
 ·exact b.cG g e a
end
variable{PK:PkI}
def TI(v:AV):Prop:=∃n e:Int,v=.df [.cU r n,.cU r e]
set_option maxHeartbeats 4000000 in
def amn(H:Yj C PK)(s:LU)(O:St)(A:Ok O):∃v,ai C Em [.cV s] O=J (v,O)/\TI v:=by
 rw[H.g1.go (NVs.e (.cW (.cV _) .de) _)];cases p:((z s:Int) !=20)with
 |true=>refine⟨.df [.cU r 0,.cU r 3],?_,⟨_,_,rfl⟩⟩;simp only[iI,p,bi,EVX,seval]|false=>
 have hn:z s=20:=by simp at p;omega
 have at':∀i,i<20->s[i]?=J (s[i]?.getD 0):=λi hi=>by rw[a02 (by omega)];rfl
 have a4:=at' 4 (by omega);have a7:=at' 7 (by omega);have a10:=at' 10 (by omega);have a13:=at' 13 (by omega);have a16:=at' 16 (by omega);have a19:=at' 19 (by omega);generalize s[4]?.getD 0=c4 at a4;generalize s[7]?.getD 0=c7 at a7;generalize s[10]?.getD 0=S at a10;generalize s[13]?.getD 0=T at a13;generalize s[16]?.getD 0=V at a16;generalize s[19]?.getD 0=W at a19;have bad:∀{du:Option (AV×St)},du=J (.df [.cU r 0,.cU r 3],O)->∃v,du=J (v,O)/\TI v:=λh=>⟨_,h,⟨_,_,rfl⟩⟩;cases h4:((c4.toNat:Int) !=45)with
 |true=>exact bad (by simp only[iI,p,a4,h4,bi,EVX,seval])|false=>
 cases h7:((c7.toNat:Int) !=45)with
 |true=>exact bad (by simp only[iI,p,a4,h4,a7,h7,bi,EVX,seval])|false=>
 cases f:((S.toNat:Int) !=84)with
 |true=>exact bad (by simp only[iI,p,a4,h4,a7,h7,a10,f,bi,EVX,seval])|false=>
 cases k:((T.toNat:Int) !=58)with
 |true=>exact bad (by simp only[iI,p,a4,h4,a7,h7,a10,f,a13,k,bi,EVX,seval])|false=>
 cases l:((V.toNat:Int) !=58)with
 |true=>exact bad (by simp only[iI,p,a4,h4,a7,h7,a10,f,a13,k,a16,l,bi,EVX,seval])|false=>
 cases m:((W.toNat:Int) !=90)with
 |true=>exact bad (by simp only[iI,p,a4,h4,a7,h7,a10,f,a13,k,a16,l,a19,m,bi,EVX,seval])|false=>
 have dig:∀(a b:Nat),b<=20->∃d,ai C Jh [.cV ((s.take b).drop a)] O=J (.cU r d,O):=λa b hb=>by obtain⟨v,Z,h2⟩:=gZ H.k2 (.cW (.cV ((s.take b).drop a)) .de) (.cW _ _ _ _ (.ds _ (by simp[LB];omega)) .de) A;obtain⟨d,rfl⟩:=Qs h2;exact⟨d,Z⟩
 obtain⟨B,e1⟩:=dig 0 4 (by omega);obtain⟨c,e2⟩:=dig 5 7 (by omega);obtain⟨y,e3⟩:=dig 8 10 (by omega);obtain⟨hour,e4⟩:=dig 11 13 (by omega);obtain⟨g,e5⟩:=dig 14 16 (by omega);obtain⟨j,N⟩:=dig 17 19 (by omega);simp only[ay9]at e1;obtain⟨dd,L,aa⟩:=amm H B c O A;have G:4<=z s:=by omega
 have I:7<=z s:=by omega
 have o:10<=z s:=by omega
 have u:13<=z s:=by omega
 have w:16<=z s:=by omega
 have x:19<=z s:=by omega
 by_cases F:y<1;·exact bad (by simp only[iI,p,a4,h4,a7,h7,a10,f,a13,k,a16,l,a19,m,e1,e2,e3,G,I,o,F,ay9,az2,and_self,bi,EVX,seval])
 by_cases t:y>dd;·exact bad (by simp only[iI,p,a4,h4,a7,h7,a10,f,a13,k,a16,l,a19,m,e1,e2,e3,L,G,I,o,F,t,ay9,az2,and_self,bi,EVX,seval])
 have ac:=aa (by omega);have ut:∀(a b:Int),∃q,ai C Nz [.cU r a,.cU r b] O=J (.cX q,O):=λa b=>by obtain⟨v,Z,h2⟩:=gZ H.nt (.cW (.cU r a) (.cW (.cU r b) .de)) (.cW _ _ _ _ (.cU _ _) (.cW _ _ _ _ (.cU _ _) .de)) A;obtain⟨d,rfl⟩:=NI h2;exact⟨d,Z⟩
 obtain⟨u1,P⟩:=ut hour 23;obtain⟨u2,R⟩:=ut g 59;obtain⟨u3,D⟩:=ut j 59;cases u1 with
 |false=>exact bad (by simp only[iI,p,a4,h4,a7,h7,a10,f,a13,k,a16,l,a19,m,e1,e2,e3,e4,e5,N,L,P,G,I,o,u,w,x,F,t,ay9,az2,and_self,bi,EVX,seval])|true=>
 cases u2 with
 |false=>exact bad (by simp only[iI,p,a4,h4,a7,h7,a10,f,a13,k,a16,l,a19,m,e1,e2,e3,e4,e5,N,L,P,R,G,I,o,u,w,x,F,t,ay9,az2,and_self,bi,EVX,seval])|true=>
 cases u3 with
 |false=>exact bad (by simp only[iI,p,a4,h4,a7,h7,a10,f,a13,k,a16,l,a19,m,e1,e2,e3,e4,e5,N,L,P,R,D,G,I,o,u,w,x,F,t,ay9,az2,and_self,bi,EVX,seval])|true=>
 obtain⟨vs,K,hs⟩:=gZ H.gf (.cW (.cU r B) .de) (.cW _ _ _ _ (.cU _ _) .de) A;obtain⟨st,rfl⟩:=Qs hs;obtain⟨vl,Q,ab⟩:=gZ H.lz (.cW (.cU r B) .de) (.cW _ _ _ _ (.cU _ _) .de) A;obtain⟨lp,rfl⟩:=NI ab;have hb:=H.mH;have Y:∀E,avA C E (.g wU)=.em bef:=λE=>by show AV.em ((C.gl wU).getD [])=_;rw[hb];rfl
 have w1:IntKind.i64.wrap (c-1)=c-1:=wrE (by omega);have X:0<=c-1:=by omega
 have bl:z bef=13:=rfl;have l2:(c-1).toNat<13:=by omega
 have l4:(c-1).toNat<=z bef:=by omega
 obtain⟨dv,hz⟩:=ahA (c-1).toNat l2;have good:∀{du:Option (AV×St)} (n e:Int),du=J (.df [.cU r n,.cU r e],O)->∃v,du=J (v,O)/\TI v:=λn e h=>⟨_,h,⟨_,_,rfl⟩⟩;by_cases M:c>2;·cases lp with|true=>refine good (IntKind.i64.wrap (IntKind.i64.wrap (IntKind.i64.wrap (IntKind.i64.wrap (IntKind.i64.wrap (IntKind.i64.wrap (st+dv)+y)-1)+1)*86400)+IntKind.i64.wrap (IntKind.i64.wrap (IntKind.i64.wrap (hour*3600)+IntKind.i64.wrap (g*60))+j))) 0 ?_;simp only[iI,p,a4,h4,a7,h7,a10,f,a13,k,a16,l,a19,m,e1,e2,e3,e4,e5,N,L,P,R,D,K,Q,G,I,o,u,w,x,F,t,M,w1,X,l2,l4,hz,Y,ay9,az2,and_self,bi,EVX,seval]|false=>refine good (IntKind.i64.wrap (IntKind.i64.wrap (IntKind.i64.wrap (IntKind.i64.wrap (IntKind.i64.wrap (st+dv)+y)-1)*86400)+IntKind.i64.wrap (IntKind.i64.wrap (IntKind.i64.wrap (hour*3600)+IntKind.i64.wrap (g*60))+j))) 0 ?_;simp only[iI,p,a4,h4,a7,h7,a10,f,a13,k,a16,l,a19,m,e1,e2,e3,e4,e5,N,L,P,R,D,K,Q,G,I,o,u,w,x,F,t,M,w1,X,l2,l4,hz,Y,ay9,az2,and_self,bi,EVX,seval]
 ·refine good (IntKind.i64.wrap (IntKind.i64.wrap (IntKind.i64.wrap (IntKind.i64.wrap (IntKind.i64.wrap (st+dv)+y)-1)*86400)+IntKind.i64.wrap (IntKind.i64.wrap (IntKind.i64.wrap (hour*3600)+IntKind.i64.wrap (g*60))+j))) 0 ?_;simp only[iI,p,a4,h4,a7,h7,a10,f,a13,k,a16,l,a19,m,e1,e2,e3,e4,e5,N,L,P,R,D,K,G,I,o,u,w,x,F,t,M,w1,X,l2,l4,hz,Y,ay9,az2,and_self,bi,EVX,seval]
def aeI(H:Yj C PK):dh C PK Em (.ez [.ds] (.df [.cU r,.cU r])):=
 nK H.g1 rfl λc f=>by obtain⟨x,rfl,d⟩:=Ro f;obtain⟨a,rfl,g⟩:=wY d;intro O b;obtain⟨v,h,n,e,rfl⟩:=amn H a O b;exact⟨_,h,.df _ _ (.cW _ _ _ _ (.cU _ _) (.cW _ _ _ _ (.cU _ _) .de))⟩
end Go.Ev
namespace Go.Ev
open Option renaming none→U, some→J
open List renaming length→z
open Go.IntKind renaming i64→r
open Bool renaming true→eT, false→eF
def atO(gl:Nat->Option Sh)(mt:List (TypeId×String×FuncId))(h:List (FuncId×Sm)):Cfg:={avy mt h with gl:=gl}
def ahv{C:Ctx}{gl:Nat->Option Sh}{mt:List (TypeId×String×FuncId)}{c:List (FuncId×Sm)}(g:∀n s,gl n=J s->∀V:Val,M V s (.em ((C.gl n).getD [])))(l:∀p∈mt,methodOf C.P p.1 .ev p.2.1=J (p.2.2,.ev))(h2:∀p∈c,dh C dL p.1 p.2){rows:List (FuncId×Sm)}(h3:∀p∈rows,Has C p.1 (kA C.P p.1))(h:(aht (atO gl mt c) (at7 C.P rows)).isSome=eT):∀p∈rows,dh C dL p.1 p.2:=by
 obtain⟨k,d⟩:=aA7.mp h;have hs:=(ajb (C:=C) (X:=atO gl mt c) g (λt m f hf v=>by
  obtain⟨p,a,rfl⟩:=ay4.mp hf;have e:=List.find?_some a;simp only[a01,beq_iff_eq]at e;grind [aum]) (λf m i=>by
  obtain⟨p,a,rfl⟩:=aC1.mp i;grind [ay0]) (λp a=>by
  obtain⟨q,j,rfl⟩:=aC1.mp a;exact h3 q j) d).1
 exactλp a=>hs _ _ ((af6 d).2 _ (aC1.mpr ⟨p,a,rfl⟩))
set_option maxRecDepth 1000000
noncomputable section
def EZ:KF:=(.mk ?k:KsA 415 []).1
def dB:KC:=(.mk ?k:LsA 416 [] 0).1
attribute [local irreducible] dB
def rG:KF:=(.mk ?k:KsA 416 [dB]).1
def C9:KF:=(.mk ?k:KsA 417 []).1
end
set_option maxRecDepth 100000
variable{C:Ctx}{PK:PkI}
def aoU(d:Has C Gu C9)(a b:Int)(O:St):∃f:Bool,ai C Gu [.cU .i32 a,.cU .i32 b] O=J (.cX f,O):=by
 rw[d.go (NVs.e (.cW (.cU _ _) (.cW (.cU _ _) .de)) _)];by_cases h:a=63;·refine⟨b !=47,?_⟩;simp only[C9,h,EVX,seval]
 ·have c:(a==63)=eF:=(by simpa using h);refine⟨a==b,?_⟩;simp only[C9,c,EVX,seval]
def aer(l:List Nat):z (xg l)=z l:=by simp[xg]
def Lj(l:List Nat)(i:Nat)(h:i<z l):(xg l).drop i=.cU .i32 (Int.ofNat l[i])::xg (l.drop (i+1)):=by unfold xg;rw[<-List.map_drop,ay6 h,az3]
structure GlI(p s:List Nat)(i j fr:Nat)(st:Int):Prop where
 hi:i<=p.length
 hj:j<=s.length
 hf:fr<=j
 hs:st= -1\/∃k:Nat,st=k/\k<p.length
def glM(p s:List Nat)(i fr:Nat):Nat:=(z s-fr)*(z p+1)+(z p-i)
def ajN{P S i j fr m:Nat}(h:(S-fr)*(P+1)+(P-i)<m+1)(hi:i<P)(hj:fr<=j):(S-j)*(P+1)+(P-(i+1))<m:=by have a:=aD1 (P+1) (show S-j<=S-fr by omega);generalize(S-j)*(P+1)=A at*;generalize(S-fr)*(P+1)=B at*;omega
def adU{P S i k fr m:Nat}(h:(S-fr)*(P+1)+(P-i)<m+1)(hf:fr<S):(S-(fr+1))*(P+1)+(P-(k+1))<m:=by
 have e:(S-fr)*(P+1)=(S-(fr+1))*(P+1)+(P+1):=by rw[show S-fr=(S-(fr+1))+1 by omega,aF9,Nat.one_mul]
 rw[e]at h;generalize(S-(fr+1))*(P+1)=A at*;omega
def aa6(G:Has C Gu C9)(p s:List Nat)(L:z p<=70368744177664)(hs:z s<=70368744177664)(O:St):∀(m i j fr:Nat) (st:Int),GlI p s i j fr st->glM p s i fr<m->∃b:Bool,aH C (ai C) 79 [0,1,5,6,7,8] dB [(0,.sl (z p) (xg p)),(1,.sl (z s) (xg s)),(5,.cU r i),(6,.cU r j),(7,.cU r st),(8,.cU r fr)] O=J (.ef,[(4,.cX b)],O)
 |0,i,j,fr,st,I,v=>absurd v (aI1 _)
 |m+1,i,j,fr,st,I,v=>by
  obtain⟨hi,hj,E,y⟩:=I;have A:=aa6 G p s L hs O m;have n:(0:Int)<=i:=(by omega);have B:(0:Int)<=j:=(by omega);have w:(0:Int)<=fr:=(by omega);have H:IntKind.i64.wrap ((i:Int)+1)=((i+1:Nat):Int):=by rw[IntKind.wrap_i64];omega
  have M:IntKind.i64.wrap ((j:Int)+1)=((j+1:Nat):Int):=by rw[IntKind.wrap_i64];omega
  have wf:IntKind.i64.wrap ((fr:Int)+1)=((fr+1:Nat):Int):=by rw[IntKind.wrap_i64];omega
  have o:=aer p;have ls:=aer s;rw[aA (he:=rfl)];generalize P:aH C (ai C) 79 [0,1,5,6,7,8] dB=Q at*;have F:(st= -1\/∃k:Nat,st=k/\k<z p/\(fr=z s\/∃h:fr<z s,(s[fr]=47\/s[fr]≠47))):=by
   rcases y with h|⟨k,K,h2⟩;·exact .inl h
   ·refine .inr ⟨k,K,h2,?_⟩;by_cases h:fr=z s;·exact .inl h
    ·exact .inr ⟨by omega,by omega⟩
  by_cases e1:i<z p
  ·have d:((i:Int)==(z p:Int))=eF:=by simp;omega
   have l1:(i:Int)<(z p:Int):=(by omega);have l:=Lj p i e1;by_cases e2:p[i]=42
   ·
    have c:(Int.ofNat p[i]==42)=eT:=by rw[e2];rfl
    obtain⟨b,q⟩:=A (i+1) j j i ⟨by omega,hj,a06 _,.inr ⟨i,rfl,e1⟩⟩ (ajN v e1 E);refine⟨b,?_⟩;simp only[dB,d,l1,e1,n,o,l,c,H,q,bP,EVX,seval]
   ·have c:(Int.ofNat p[i]==42)=eF:=by simp;omega
    by_cases e3:j<z s
    ·have l3:(j:Int)<(z s:Int):=(by omega);have x:=Lj s j e3;obtain⟨N,q1⟩:=aoU G (Int.ofNat p[i]) (Int.ofNat s[j]) O;cases N
     ·rcases F with rfl|⟨k,rfl,u,a|⟨a,e⟩⟩;·refine⟨eF,?_⟩;simp only[dB,d,l1,e1,n,o,l,c,l3,e3,B,ls,x,q1,bP,EVX,seval]
      ·have f:¬(k:Int)<0:=(by omega);have f1:((fr:Int)==(z s:Int))=eT:=(by simp[a]);refine⟨eF,?_⟩;simp only[dB,d,l1,e1,n,o,l,c,l3,e3,B,ls,x,q1,f,f1,bP,EVX,seval]
      ·have f:¬(k:Int)<0:=(by omega);have f1:((fr:Int)==(z s:Int))=eF:=by simp;omega
       have t:=Lj s fr a;have D:IntKind.i64.wrap ((k:Int)+1)=((k+1:Nat):Int):=by rw[IntKind.wrap_i64];omega
       rcases e with e|e
       ·have g:(Int.ofNat s[fr]==47)=eT:=by rw[e];rfl
        refine⟨eF,?_⟩;simp only[dB,d,l1,e1,n,o,l,c,l3,e3,B,ls,x,q1,f,f1,w,a,ls,t,g,bP,EVX,seval]
       ·have g:(Int.ofNat s[fr]==47)=eF:=by simp;omega
        obtain⟨b,q⟩:=A (k+1) (fr+1) (fr+1) k ⟨u,a,a06 _,.inr ⟨k,rfl,u⟩⟩ (adU v a);refine⟨b,?_⟩;simp only[dB,d,l1,e1,n,o,l,c,l3,e3,B,ls,x,q1,f,f1,w,a,ls,t,g,wf,D,q,bP,EVX,seval]
     ·obtain⟨b,q⟩:=A (i+1) (j+1) fr st ⟨by omega,by omega,by omega,y⟩ (ajN v e1 (a06 _));refine⟨b,?_⟩;simp only[dB,d,l1,e1,n,o,l,c,H,l3,e3,B,ls,x,q1,M,q,bP,EVX,seval]
    ·have l3:¬(j:Int)<(z s:Int):=(by omega);rcases F with rfl|⟨k,rfl,u,a|⟨a,e⟩⟩;·refine⟨eF,?_⟩;simp only[dB,d,l1,e1,n,o,l,c,l3,bP,EVX,seval]
     ·have f:¬(k:Int)<0:=(by omega);have f1:((fr:Int)==(z s:Int))=eT:=(by simp[a]);refine⟨eF,?_⟩;simp only[dB,d,l1,e1,n,o,l,c,l3,f,f1,bP,EVX,seval]
     ·have f:¬(k:Int)<0:=(by omega);have f1:((fr:Int)==(z s:Int))=eF:=by simp;omega
      have t:=Lj s fr a;have D:IntKind.i64.wrap ((k:Int)+1)=((k+1:Nat):Int):=by rw[IntKind.wrap_i64];omega
      rcases e with e|e
      ·have g:(Int.ofNat s[fr]==47)=eT:=by rw[e];rfl
       refine⟨eF,?_⟩;simp only[dB,d,l1,e1,n,o,l,c,l3,f,f1,w,a,ls,t,g,bP,EVX,seval]
      ·have g:(Int.ofNat s[fr]==47)=eF:=by simp;omega
       obtain⟨b,q⟩:=A (k+1) (fr+1) (fr+1) k ⟨u,a,a06 _,.inr ⟨k,rfl,u⟩⟩ (adU v a);refine⟨b,?_⟩;simp only[dB,d,l1,e1,n,o,l,c,l3,f,f1,w,a,ls,t,g,wf,D,q,bP,EVX,seval]
  ·have d:((i:Int)==(z p:Int))=eT:=by simp;omega
   have l1:¬(i:Int)<(z p:Int):=(by omega);by_cases e2:j=z s;·have c:((j:Int)==(z s:Int))=eT:=(by simp[e2]);refine⟨eT,?_⟩;simp only[dB,d,c,bP,EVX,seval]
   ·have c:((j:Int)==(z s:Int))=eF:=by simp;omega
    rcases F with rfl|⟨k,rfl,u,a|⟨a,e⟩⟩;·refine⟨eF,?_⟩;simp only[dB,d,c,l1,bP,EVX,seval]
    ·have f:¬(k:Int)<0:=(by omega);have f1:((fr:Int)==(z s:Int))=eT:=(by simp[a]);refine⟨eF,?_⟩;simp only[dB,d,c,l1,f,f1,bP,EVX,seval]
    ·have f:¬(k:Int)<0:=(by omega);have f1:((fr:Int)==(z s:Int))=eF:=by simp;omega
     have t:=Lj s fr a;have D:IntKind.i64.wrap ((k:Int)+1)=((k+1:Nat):Int):=by rw[IntKind.wrap_i64];omega
     rcases e with e|e
     ·have g:(Int.ofNat s[fr]==47)=eT:=by rw[e];rfl
      refine⟨eF,?_⟩;simp only[dB,d,c,l1,f,f1,w,a,ls,t,g,bP,EVX,seval]
     ·have g:(Int.ofNat s[fr]==47)=eF:=by simp;omega
      obtain⟨b,q⟩:=A (k+1) (fr+1) (fr+1) k ⟨u,a,a06 _,.inr ⟨k,rfl,u⟩⟩ (adU v a);refine⟨b,?_⟩;simp only[dB,d,c,l1,f,f1,w,a,ls,t,g,wf,D,q,bP,EVX,seval]
def aph(l:List Nat):ae 0 (xg l)=eT:=by
 induction l with
 |nil=>rfl|cons a l b=>unfold xg at*;rw[az3,ae,b];rfl
def aoB(f:Has C Gu C9)(j:Has C KE rG)(p s:List Nat)(h:z p<=70368744177664)(hs:z s<=70368744177664)(O:St):∃b:Bool,ai C KE [.sl (z p) (xg p),.sl (z s) (xg s)] O=J (.cX b,O):=by
 have e:=aer p;have ls:=aer s;have i:IntKind.i64.wrap 1=1:=rfl;rw[j.go (NVs.e (.cW (.sl _ (aph p)) (.cW (.sl _ (aph s)) .de)) _)];by_cases e1:0<z p
 ·have c:((0:Int)==(z p:Int))=eF:=by simp;omega
  have l1:(0:Int)<(z p:Int):=(by omega);have d:=Lj p 0 e1;by_cases e2:p[0]=42
  ·have a:(Int.ofNat p[0]==42)=eT:=by rw[e2];rfl
   obtain⟨b,q⟩:=aa6 f p s h hs O _ 1 0 0 0 ⟨by omega,by omega,a06 _,.inr ⟨0,rfl,e1⟩⟩ (aH0 _);simp only[ay1]at q;refine⟨b,?_⟩;simp only[rG,c,l1,e1,e,d,a,i,q,bP,EVX,seval]
  ·have a:(Int.ofNat p[0]==42)=eF:=by simp;omega
   by_cases e3:0<z s
   ·have l3:(0:Int)<(z s:Int):=(by omega);have g:=Lj s 0 e3;obtain⟨x,q1⟩:=aoU f (Int.ofNat p[0]) (Int.ofNat s[0]) O;cases x;·refine⟨eF,?_⟩;simp only[rG,c,l1,e1,e,d,a,l3,e3,ls,g,q1,bP,EVX,seval]
    ·obtain⟨b,q⟩:=aa6 f p s h hs O _ 1 1 0 (-1) ⟨by omega,by omega,by omega,.inl rfl⟩ (aH0 _);simp only[ay1]at q;refine⟨b,?_⟩;simp only[rG,c,l1,e1,e,d,a,l3,e3,ls,g,q1,i,q,bP,EVX,seval]
   ·have l3:¬(0:Int)<(z s:Int):=(by omega);refine⟨eF,?_⟩;simp only[rG,c,l1,e1,e,d,a,l3,bP,EVX,seval]
 ·have c:((0:Int)==(z p:Int))=eT:=by simp;omega
  have l1:¬(0:Int)<(z p:Int):=(by omega);by_cases e2:z s=0;·have a:((0:Int)==(z s:Int))=eT:=(by simp[e2]);refine⟨eT,?_⟩;simp only[rG,c,a,bP,EVX,seval]
  ·have a:((0:Int)==(z s:Int))=eF:=by simp;omega
   refine⟨eF,?_⟩;simp only[rG,c,a,l1,bP,EVX,seval]
def apT(j:dh C PK Nv (.ez [.ds] .cX))(k:dh C PK xE (.ez [.ds] .cX))(i:Has C Gu C9)(h:Has C KE rG)(e:Has C KD EZ):dh C PK KD (.ez [.ds,.ds] .cX):=
 nK e rfl λf l=>by
  obtain⟨x,y,rfl,n,o⟩:=ae1 l;obtain⟨p,rfl,c⟩:=wY n;obtain⟨s,rfl,ls⟩:=wY o;intro O a;obtain⟨v1,q1,q⟩:=gZ j (.cW (.cV p) .de) (.cW _ _ _ _ (.ds _ c) .de) a;obtain⟨v2,q2,u⟩:=gZ k (.cW (.cV s) .de) (.cW _ _ _ _ (.ds _ ls) .de) a;cases q with
  |cX b1=>
  cases u with
  |cX g=>
  have d:∀t:LU,z t<=LB->z (runesOf t)<=70368744177664:=λt m=>aB9 (RS _ _ _) (by unfold LB at m;omega);obtain⟨b,q3⟩:=aoB i h (runesOf p) (runesOf s) (d p c) (d s ls) O;have rp:z p<=70368744177664:=by unfold LB at c;omega
  have rs:z s<=70368744177664:=by unfold LB at ls;omega
  rw[e.go (NVs.e (.cW (.cV _) (.cW (.cV _) .de)) _)];cases b1;·refine⟨_,?_,.cX eF⟩;simp only[EZ,q1,EVX,seval]
  ·cases g;·refine⟨_,?_,.cX eF⟩;simp only[EZ,q1,q2,EVX,seval]
   ·refine⟨_,?_,.cX b⟩;simp only[EZ,q1,q2,q3,aB,rp,rs,if_true,EVX,seval]
structure YV(C:Ctx)(PK:PkI):Prop where
 cG:dh C PK Jb (.ez [.da [.ds,.ds]] (.df [.da [.ds,.jv],.cU .i64]))
 kq:SK C dN o7
 nq:∀O,ai C dN [.cY,afk o7] O=some (.df [],O)
 dc:Has C Ip D5
def anp(H:YV C PK)(p:PS)(c:z p.1<=LB)(h2:z p.2<=LB)(O:St)(a:Ok O):∃(x:EL) (e:Int),ai C Jb [.da [.cV p.1,.cV p.2]] O=J (.df [.da (elC x),.cU r e],O):=by
 obtain⟨v,q,k⟩:=gZ H.cG (.cW (.da (.cW (.cV p.1) (.cW (.cV p.2) .de))) .de) (.cW _ _ _ _ (.da _ _ (.eo _ _ _ _ rfl (.ds _ c) (.eo _ _ _ _ rfl (.ds _ h2) .de))) .de) a;obtain⟨x,n,rfl,d⟩:=Xk k;cases d with
 |da _ v h=>obtain⟨s,b,rfl,l,h2⟩:=uq h;obtain⟨j,f,rfl,h3⟩:=ak6 h2;have:=xM h3;subst this;exact⟨(⟨s,l⟩,j),n,by rw[q];simp[elC]⟩
def Kp(Y a:St):Prop:=Ok a/\∀(k:Nat) (y:AO),Y[k]?=J y->a[k]?=J y
def ah0 (xs:List EL) (A:z xs<=8192) (x:EL) (N e q:Nat) (v18 v19 v20:AV):∀(n i:Nat),i+n=z xs->∀Y:St,Ok Y->Y[N]?=J kG->Y[e]?=J (AO.cH (elC x) FZ)->Y[q]?=J (AO.cH (dH xs) FZ)->
  ∃f,Kp Y f/\(aH C (ai C) 76 [2,4,7,18,19,20,33,34,35] fH [(2,.c8 N 0),(4,.dj q 0 (z xs) 6),(7,.c8 e 0),(18,v18),(19,v19),(20,v20),(33,.dj q 0 (z xs) 6),(34,.cU r (z xs)),(35,.cU r i)] Y=J (.dq 2,[(2,.c8 N 0),(4,.dj q 0 (z xs) 6),(7,.c8 e 0),(18,v18),(19,v19),(20,v20)],f)\/
   aH C (ai C) 76 [2,4,7,18,19,20,33,34,35] fH [(2,.c8 N 0),(4,.dj q 0 (z xs) 6),(7,.c8 e 0),(18,v18),(19,v19),(20,v20),(33,.dj q 0 (z xs) 6),(34,.cU r (z xs)),(35,.cU r i)] Y=J (.ef,[(2,.c8 N 0),(3,.cU r 7)],f))
 |0,i,hi,Y,c,hr,d,g=>by have h:¬((i:Int)<(z xs:Int)):=(by omega);refine⟨Y,⟨c,λ_ _ h=>h⟩,.inl ?_⟩;rw[aA (he:=rfl)];simp only[fH,h,EVX,seval]
 |n+1,i,hi,Y,c,hr,d,g=>by
  have o:i<z xs:=(by omega);have h:((i:Int)<(z xs:Int)):=(by omega);have v:(0:Int)<=(i:Int):=(by omega);have w:=wrS i (by omega);have p:=FP xs i o;generalize F:xs[i]=y at*;have m:Ok (Y++[.cH (elC y) FZ]):=c.H (by rw[a07,show AO.below 0 (.cH (elC y) FZ)=eT from Kz y];rfl);have E:(Y++[AO.cH (elC y) FZ]).set N kG=Y++[AO.cH (elC y) FZ]:=Oh (aj hr _);have s:∀R:EL,(elC R).head? =J (.cV R.1.1):=λ_=>rfl;have ca:∀l,AV.cH (.da l)=l:=λ_=>rfl;have r0:=λL=>aj hr L;have e0:=λL=>aj d L;have t:=λL=>bK (rfl:z Y=_) L;have s1:=λL R=>iF (rfl:z Y=_) L R;cases u:decide (y.1.1=x.1.1)with
  |true=>refine⟨Y++[AO.cH (elC y) FZ],⟨m,λk R h=>aj h _⟩,.inr ?_⟩;rw[aA (he:=rfl)];generalize B:aH C (ai C) 76 [2,4,7,18,19,20,33,34,35] fH=D at*;unfold kG at*;simp only[fH,h,o,v,p,g,u,r0,e0,t,s1,s,ca,E,wF,jB,oZ,splice,AV.cH,a88,a04,aE9,EVX,seval]
  |false=>
   obtain⟨f,⟨a,b⟩,j⟩:=ah0 xs A x N e q v18 v19 v20 n (i+1) (by omega) _ m (aj hr _) (aj d _) (aj g _);refine⟨f,⟨a,λk R h=>b _ _ (aj h _)⟩,?_⟩;rw[aA (he:=rfl)];generalize B:aH C (ai C) 76 [2,4,7,18,19,20,33,34,35] fH=D at*;rcases j with j|j;·refine .inl ?_;simp only[fH,h,o,v,w,p,g,u,e0,t,s1,s,j,ca,wF,jB,oZ,splice,a88,a04,aE9,EVX,seval]
   ·refine .inr ?_;simp only[fH,h,o,v,w,p,g,u,e0,t,s1,s,j,ca,wF,jB,oZ,splice,a88,a04,aE9,EVX,seval]
structure TbI(O:St)(i:Nat)(xs:List EL)(x:AV)(Y:St):Prop where
 ok:Ok Y
 bp:Y[O.length]?=some kG
 ed:Bf Y (O.length+1) i 6 (dH xs) x
 dt:xs.length=i
 b4:Y.take O.length=O
def Kp.b4{Y a O:St}(h:Kp Y a)(e:Y.take (z O)=O):a.take (z O)=O:=by
 have:=Vp (S:=Y) (S':=a) (n:=z O) (by
  have:=congrArg List.length e;rw[aB1]at this;omega) λk y _ b=>h.2 k y b
 rw[this,e]
theorem Bf.dt{Y:St}{lo n sz:Nat}{l:LA}{x:AV}(h:Bf Y lo n sz l x)(O:St):bP O 1 x=J n:=by rcases h with⟨rfl,rfl⟩|⟨_,q,rfl,_⟩<;>rfl
def aq9 (H:YV C PK) (ks:List PS) (hN:z ks<=32) (G:∀p∈ks,z p.1<=LB/\z p.2<=LB) (O:St):∀(n i:Nat),i+n=z ks->∀(xs:List EL) (x:AV) (Y:St),TbI O i xs x Y->
  (∃u B g,aH C (ai C) 76 [2,4,18,19,20] jq [(2,.c8 (z O) 0),(4,x),(18,.sl (z ks) (ks.flatMap pC)),(19,.cU r (z ks)),(20,.cU r i)] Y=J (.dq 0,[(2,.c8 (z O) 0),(4,B)],g)/\TbI O (z ks) u B g)\/
  (∃(e:Int) (g:St),aH C (ai C) 76 [2,4,18,19,20] jq [(2,.c8 (z O) 0),(4,x),(18,.sl (z ks) (ks.flatMap pC)),(19,.cU r (z ks)),(20,.cU r i)] Y=J (.ef,[(2,.c8 (z O) 0),(3,.cU r e)],g)/\g[z O]?=J kG/\g.take (z O)=O)
 |0,i,hi,xs,x,Y,I=>by have h:¬((i:Int)<(z ks:Int)):=(by omega);refine .inl ⟨xs,x,Y,?_,by rw[show z ks=i by omega];exact I⟩;rw[aA (he:=rfl)];simp only[jq,h,EVX,seval]
 |n+1,i,hi,xs,x,Y,I=>by
  have v:i<z ks:=(by omega);have h:((i:Int)<(z ks:Int)):=(by omega);have Q:(0:Int)<=(i:Int):=(by omega);have s:=wrS i (by omega);have hb:ks[i]?=J ks[i]:=a02 v;have fl:=bZ Dy ks;have fd:=kK Dy hb;obtain⟨b1,X⟩:=G ks[i] (aB3 v);generalize hm:ks[i]=p at*;have pc:pC p=[.cV p.1,.cV p.2]:=rfl;rw[pc]at fd;have P:Ok (Y++[AO.cH [.cV p.1,.cV p.2] FZ]):=I.ok.H rfl;obtain⟨y,e,q⟩:=anp H p b1 X _ P;have l1:z (Y++[AO.cH [.cV p.1,.cV p.2] FZ])=z Y+1:=(by simp);obtain⟨b,e2⟩:∃b,b=Y++[AO.cH [.cV p.1,.cV p.2] FZ,AO.cH (elC y) FZ]:=⟨_,rfl⟩;have t:Ok b:=by rw[e2];exact I.ok.H (by rw[a07,a07,show AO.below 0 (.cH (elC y) FZ)=eT from Kz y];rfl)
  have c:∀k du,Y[k]?=J du->b[k]?=J du:=λk du K=>by rw[e2];exact aj K _
  have r2:=c _ _ I.bp;have V:b[z Y+1]?=J (AO.cH (elC y) FZ):=by rw[e2,vY rfl];rfl
  have T:b.set (z O) kG=b:=Oh r2;have d:b.take (z O)=O:=Kp.b4 ⟨t,c⟩ I.b4;have f:Bf b (z O+1) i 6 (dH xs) x:=I.ed.D λq w _ _ s=>c _ _ s;have R:=f.dt;have ca:∀l,AV.cH (.da l)=l:=λ_=>rfl;have t6:(elC y).take 6=elC y:=a95 (by rw[jB];exact a06 _);have D:=λL=>bK (rfl:z Y=_) L;have s1:=λL du=>iF (rfl:z Y=_) L du;have E:=λL=>bK l1 L;have s2:=λL du=>iF l1 L du;by_cases o:e=0
  ·subst o;have a:∃j,Kp b j/\(aH C (ai C) 76 [2,4,7,18,19,20,33,34,35] fH [(2,.c8 (z O) 0),(4,x),(7,.c8 (z Y+1) 0),(18,.sl (z ks) (ks.flatMap pC)),(19,.cU r (z ks)),(20,.cU r i),(33,x),(34,.cU r i),(35,.cU r 0)] b=J (.dq 2,[(2,.c8 (z O) 0),(4,x),(7,.c8 (z Y+1) 0),(18,.sl (z ks) (ks.flatMap pC)),(19,.cU r (z ks)),(20,.cU r i)],j)\/
     aH C (ai C) 76 [2,4,7,18,19,20,33,34,35] fH [(2,.c8 (z O) 0),(4,x),(7,.c8 (z Y+1) 0),(18,.sl (z ks) (ks.flatMap pC)),(19,.cU r (z ks)),(20,.cU r i),(33,x),(34,.cU r i),(35,.cU r 0)] b=J (.ef,[(2,.c8 (z O) 0),(3,.cU r 7)],j)):=by
    rcases f with⟨rfl,rfl⟩|⟨_,q,rfl,hq,_⟩;·refine⟨b,⟨t,λ_ _ h=>h⟩,.inl ?_⟩;rw[aA (he:=rfl)];simp only[fH,ay1,Int.lt_irrefl,EVX,seval]
    ·have:=I.dt;subst this;exact ah0 xs (by omega) y (z O) (z Y+1) q _ _ _ (z xs) 0 (by omega) b t r2 V hq
   obtain⟨j,m,a⟩:=a;rw[e2]at a;rcases a with a|a
   ·have y3:=m.2 _ _ V;have A:Bf j (z O+1) i 6 (dH xs) x:=f.D λq w _ _ s=>m.2 _ _ s;have ll:z (dH xs)=i*6:=(by rw[Gn,I.dt]);obtain⟨S,a1,a2,a3,a4⟩:=VF (bytes:=96) (elC y) A ll (by omega) (by omega) m.1;have ee:dH xs++elC y=dH (xs++[y]):=by simp[dH]
    rw[ee]at a1;have W:TbI O (i+1) (xs++[y]) (.dj (z j) 0 (i+1) 6) (S++[.cH (dH (xs++[y])) FZ]):=
     ⟨a4.H (by rw[a07,show AO.below 0 (.cH (dH (xs++[y])) FZ)=eT from wG _];rfl),aj (a3 _ _ (.inr (by omega)) (m.2 _ _ r2)) _,.inr ⟨by omega,_,rfl,by rw[<-a2,bK rfl];rfl,by
      have h1:=(a00.mp (m.2 _ _ r2)).1;omega⟩,by simp[I.dt],by
      have h1:=(a00.mp (m.2 _ _ r2)).1;rw[oD _ _ _ (by omega)];have:=Vp (S:=j) (S':=S) (n:=z O) (by omega) λk du G K=>a3 k du (.inr (by omega)) K;rw[this];exact m.b4 d⟩
    have ih:=aq9 H ks hN G O n (i+1) (by omega) _ _ _ W;have go:∀co,aH C (ai C) 76 [2,4,18,19,20] jq [(2,.c8 (z O) 0),(4,.dj (z j) 0 (i+1) 6),(18,.sl (z ks) (ks.flatMap pC)),(19,.cU r (z ks)),(20,.cU r ((i+1:Nat):Int))] (S++[.cH (dH (xs++[y])) FZ])=co->aH C (ai C) 76 [2,4,18,19,20] jq [(2,.c8 (z O) 0),(4,x),(18,.sl (z ks) (ks.flatMap pC)),(19,.cU r (z ks)),(20,.cU r i)] Y=co:=λco hr=>by rw[aA (he:=rfl)];generalize aa:aH C (ai C) 76 [2,4,18,19,20] jq=kk at*;simp only[jq,h,v,Q,s,fl,fd,q,R,a,y3,a1,hr,t6,D,s1,E,s2,ca,wF,jB,oZ,splice,ay2,a09,a98,EVX,seval]
    rcases ih with⟨u,B,g,M,N⟩|⟨Z,g,M,N,i3⟩;·exact .inl ⟨u,B,g,go _ M,N⟩
    ·exact .inr ⟨Z,g,go _ M,N,i3⟩
   ·refine .inr ⟨7,j,?_,m.2 _ _ r2,m.b4 d⟩;rw[aA (he:=rfl)];simp only[jq,h,v,Q,s,fl,fd,q,R,a,D,s1,E,s2,ca,wF,jB,oZ,splice,ay2,a09,a98,EVX,seval]
  ·have F:(e !=0)=eT:=(by simpa using o);refine .inr ⟨e,b,?_,r2,d⟩;rw[aA (he:=rfl)];rw[e2]at r2 T⊢;unfold kG at*;simp only[jq,h,v,Q,s,fl,fd,q,F,r2,T,D,s1,E,s2,ca,wF,jB,oZ,splice,AV.cH,ay2,a09,a98,EVX,seval]
structure OT(O:St)(q m:Nat)(xs:List EL)(i:Nat)(x1 x2:AV)(Y:St):Prop where
 ok:Ok Y
 ed:Y[q]?=some (.cH (dH xs) FZ)
 bp:Y[O.length]?=some kG
 v:Y[m]?=some (.cH [.cU .u8 5,.cU .i64 0,.cV [],x1,x2] FZ)
 a1:Bf Y (m+1) i 1 (kL (xs.take i)) x1
 a2:Bf Y (m+1) i 5 (vJ (xs.take i)) x2
 ne:∀q,x1=.dj q 0 i 1->x2≠ .dj q 0 i 5
 b4:Y.take O.length=O
def akB (O:St) (xs:List EL) (hN:z xs<=8192) (q m:Nat) (H:q<m) (hm:z O<m):∀(n i:Nat),i+n=z xs->∀(x1 x2:AV) (Y:St),OT O q m xs i x1 x2 Y->
  ∃f g F,aH C (ai C) 76 [2,11,54,55,56] pY [(2,.c8 (z O) 0),(11,.c8 m 0),(54,.dj q 0 (z xs) 6),(55,.cU r (z xs)),(56,.cU r i)] Y=J (.dq 4,[(2,.c8 (z O) 0),(11,.c8 m 0)],F)/\OT O q m xs (z xs) f g F
 |0,i,hi,x1,x2,Y,I=>by have h:¬((i:Int)<(z xs:Int)):=(by omega);refine⟨x1,x2,Y,?_,by rw[show z xs=i by omega];exact I⟩;rw[aA (he:=rfl)];simp only[pY,h,EVX,seval]
 |n+1,i,hi,x1,x2,Y,I=>by
  obtain⟨hok,c,hres,hv,o,d,Z,hpre⟩:=I;have li:i<z xs:=(by omega);have h:((i:Int)<(z xs:Int)):=(by omega);have pi:(0:Int)<=(i:Int):=(by omega);have t:=wrS i (by omega);have di:=FP xs i li;have s:xs.take (i+1)=xs.take i++[xs[i]]:=(by rw[aC5 li]);have lt:z (xs.take i)=i:=by simp;omega
  have v:=KY (xs.take i);have A:=PR (xs.take i);rw[lt]at v A;have ca:∀l,AV.cH (.da l)=l:=λ_=>rfl;have nl:m<z Y:=(a00.mp hv).1;generalize hx:xs[i]=x at*;have ad:Ok (Y++[.cH (elC x) FZ]):=hok.H (by rw[a07,show AO.below 0 (.cH (elC x) FZ)=eT from Kz x];rfl);have b0:=λL=>aj hv L;have g1:=λL=>bK (rfl:z Y=_) L;have s1:=λL y=>iF (rfl:z Y=_) L y;have eh:(elC x).head? =J (.cV x.1.1):=rfl;have et:(elC x).drop 1=x.2.B:=rfl;have ek:x.2.B.take 5=x.2.B:=a95 (by rw[JV.dt];exact a06 _);have jl:=JV.dt x.2;have jf:=JV.C x.2;have aa:x1≠ .dj (z Y) 0 i 1:=λe=>by
   rcases o with⟨_,b⟩|⟨_,q,b,X,_⟩;·rw[b]at e;cases e
   ·rw[b]at e;have:=(a00.mp X).1;cases e;omega
  have af:∀q,x2=.dj q 0 i 5->q<z Y:=λq e=>by
   rcases d with⟨_,b⟩|⟨_,q',b,X,_⟩;·rw[b]at e;cases e
   ·rw[b]at e;have:=(a00.mp X).1;cases e;exact this
  obtain⟨Q,n1,M,N,n4⟩:=VF (bytes:=16) [.cV x.1.1] (o.D λq w H e t=>aj t [AO.cH (elC x) FZ]) (by rw[v,aB5]) (by omega) (by omega) ad;rw[<-NL,a04,a90,a94]at n1;rw[a04,a90,a94]at M;simp only[az5]at n1 M;have v1:=N _ _ (.inr (by omega)) (b0 [AO.cH (elC x) FZ]);have ah:=N (z Y) _ (.inl aa) (by rw[g1];rfl);have T:=λL=>aj v1 L;have D:=λL y=>fK v1 L y;have j:=λL=>aj (aX v1 (.cH [.cU .u8 5,.cU r 0,.cV [],.dj (z Y+1) 0 (i+1) 1,x2] FZ)) L;have W:=λL=>aj (aG ah (show z Y≠m by omega) (.cH [.cU .u8 5,.cU r 0,.cV [],.dj (z Y+1) 0 (i+1) 1,x2] FZ)) L;have ab:Ok (Q.set m (.cH [.cU .u8 5,.cU r 0,.cV [],.dj (z Y+1) 0 (i+1) 1,x2] FZ)++[AO.cH (kL (xs.take i++[x])) FZ]):=by
   have:=(n4.H (L:=[AO.cH (kL (xs.take i++[x])) FZ]) (by
    rw[a07,show AO.below 0 (AO.cH (kL (xs.take i++[x])) FZ)=eT from acZ _];rfl)).bd m (x:=(.cH [.cU .u8 5,.cU r 0,.cV [],.dj (z Y+1) 0 (i+1) 1,x2] FZ)) (by
    have h2:below (z Y+1+1) x2=eT:=by have:=a97.mp hok _ (a08 hv);simp only[AO.below,ae,below,aA5,a01]at this;exact below_mono (by omega) x2 this.2.2.2.2
    simp only[AO.below,ae,below,aA5,aA6,a01,decide_eq_true_eq,a04,a90,a94,M];exact⟨by omega,h2⟩)
   rwa[D]at this
  have P:z (Q.set m (.cH [.cU .u8 5,.cU r 0,.cV [],.dj (z Y+1) 0 (i+1) 1,x2] FZ))=z Y+1:=(by rw[a96,M]);have p:Bf (Q.set m (.cH [.cU .u8 5,.cU r 0,.cV [],.dj (z Y+1) 0 (i+1) 1,x2] FZ)++[AO.cH (kL (xs.take i++[x])) FZ]) (m+1) i 5 (vJ (xs.take i)) x2:=d.D λq w H e t=>aj (aG (N q w (.inl λb=>Z q b e) (aj t _)) (by omega) _) _;have sx:=d.cE;obtain⟨R,m1,K,m3,m4⟩:=VF (bytes:=80) x.2.B p A (by omega) (by omega) ab;rw[<-Sl,a04,P,a90,a94]at m1;rw[a04,P,a90,a94]at K;simp only[az5,aF1,Nat.reduceAdd]at m1 K;have keep:∀k co,k<m->Y[k]?=J co->R[k]?=J co:=λk co G u=>m3 _ _ (.inr (by omega)) (aj (aG (N _ _ (.inr (by omega)) (aj u _)) (by omega) _) _);have v3:=m3 _ _ (.inr (by omega)) (j [AO.cH (kL (xs.take i++[x])) FZ]);have B:=m3 (z Y+1) (AO.cH (kL (xs.take i++[x])) FZ) (.inl λe=>by have:=af _ e;omega) (by rw[bK P];rfl);have V:=λL=>aj v3 L;have E:=λL y=>fK v3 L y;have ac:Ok (R.set m (.cH [.cU .u8 5,.cU r 0,.cV [],.dj (z Y+1) 0 (i+1) 1,.dj (z Y+2) 0 (i+1) 5] FZ)++[AO.cH (vJ (xs.take i++[x])) FZ]):=by
   have:=(m4.H (L:=[AO.cH (vJ (xs.take i++[x])) FZ]) (by
    rw[a07,show AO.below 0 (AO.cH (vJ (xs.take i++[x])) FZ)=eT from gY _];rfl)).bd m (x:=(.cH [.cU .u8 5,.cU r 0,.cV [],.dj (z Y+1) 0 (i+1) 1,.dj (z Y+2) 0 (i+1) 5] FZ)) (by
    simp only[AO.below,ae,below,aA5,aA6,a01,decide_eq_true_eq,a04,a90,a94,K];omega)
   rwa[E]at this
  have I2:OT O q m xs (i+1) (.dj (z Y+1) 0 (i+1) 1) (.dj (z Y+2) 0 (i+1) 5) (R.set m (.cH [.cU .u8 5,.cU r 0,.cV [],.dj (z Y+1) 0 (i+1) 1,.dj (z Y+2) 0 (i+1) 5] FZ)++[AO.cH (vJ (xs.take i++[x])) FZ]):=by have k1:=λk co G u=>aj (aG (keep k co G u) (show k≠m by omega) (.cH [.cU .u8 5,.cU r 0,.cV [],.dj (z Y+1) 0 (i+1) 1,.dj (z Y+2) 0 (i+1) 5] FZ)) [AO.cH (vJ (xs.take i++[x])) FZ];have tk:=Vp (S:=Y) (n:=z O) (by omega) λk co G u=>k1 k co (by omega) u;rw[<-s]at B⊢;rw[<-s]at tk;refine⟨by rw[s];exact ac,by rw[s];exact k1 _ _ H c,by rw[s];exact k1 _ _ hm hres,aj (aX v3 _) _,.inr ⟨by omega,_,rfl,aj (aG B (by omega) _) _,by omega⟩,.inr ⟨by omega,_,rfl,?_,by omega⟩,λq e1 e2=>(by injection e1;injection e2;omega),by rw[tk,hpre]⟩;rw[bK (by rw[a96,K])];rfl
  obtain⟨f,g,F,ih,a⟩:=akB O xs hN q m H hm n (i+1) (by omega) _ _ _ I2;refine⟨f,g,F,?_,a⟩;rw[aA (he:=rfl)];generalize G:aH C (ai C) 76 [2,11,54,55,56] pY=kk at*;simp only[pY,h,li,pi,t,di,c,b0,g1,s1,eh,et,ek,jl,jf,n1,T,D,j,W,sx,m1,V,E,ih,ca,wF,jB,oZ,splice,a88,a04,aE9,EVX,seval]
def afV(H:YV C PK)(ks:List PS)(R:∀p∈ks,z p.1<=LB/\z p.2<=LB)(O:St)(f:Ok O):∃(j:JV) (e:Int),ai C Ip [.sl (z ks) (ks.flatMap pC)] O=J (.df [j.av,.cU r e],O):=by
 have m:hand eF [.sl (z ks) (ks.flatMap pC)] O=J ([.sl (z ks) (ks.flatMap pC)],O):=NVs.e (.cW (wL ks) .de) _;have h:O.set (z O) .eq=O:=List.set_eq_of_length_le (a06 _);have zero:∀(e:Int) (Y:St),Y.take (z O)=O->Y[z O]?=J kG->mD (z O) [.eS 2 eT 5,.fX 3] (J (.ef,[(2,.c8 (z O) 0),(3,.cU r e)],Y))=J (.df [JV.aa.av,.cU r e],O):=λe Y P h2=>by have:=Js (Y:=Y) (o:=z O) (x:=.eq) f rfl e [(2,.c8 (z O) 0),(3,.cU r e)] rfl rfl (by rw[P,h]) h2;rwa[h]at this
 have r0:(O++[kG])[z O]?=J kG:=by rw[aF];rfl
 have E:(O++[kG]).take (z O)=O:=by simp
 have w:Ok (O++[kG]):=f.H rfl;by_cases c:(z ks:Int)>32;·have du:=zero 5 _ E r0;have X:=Oh r0;refine⟨JV.aa,5,?_⟩;rw[H.dc.go m];generalize u:mD=s at*;unfold kG at*;simp only[D5,c,X,du,AV.cH,AV.C,aF,splice,EVX,seval]
 have K:TbI O 0 [] .cY (O++[kG]):=⟨w,r0,.inl ⟨rfl,rfl⟩,rfl,E⟩;rcases aq9 H ks (by omega) R O (z ks) 0 (by omega) _ _ _ K with⟨Z,x,Y,g,I⟩|⟨e,Y,g,l2,l3⟩
 ·rcases I.ed with⟨B,rfl⟩|⟨B,q,rfl,v,lq⟩
  ·have l:=λY=>H.nq Y;unfold afk at l;have lt:=(a00.mp I.bp).1;have rs:=λL=>aj I.bp L;have t:=λL=>bK (rfl:z Y=_) L;have s1:=λL du=>iF (rfl:z Y=_) L du;have pt:=λL du=>fK I.bp L du;have d:∀S,aH C (ai C) 76 [2,11,54,55,56] pY [(2,.c8 (z O) 0),(11,.c8 (z Y) 0),(54,.cY),(55,.cU r 0),(56,.cU r 0)] S=J (.dq 4,[(2,.c8 (z O) 0),(11,.c8 (z Y) 0)],S):=λS=>by rw[aA (he:=rfl)];simp only[pY,Int.lt_irrefl,EVX,seval]
   have fin:mD (z O) [.eS 2 eT 5,.fX 3] (J (.ef,[(2,.c8 (z O) 0),(3,.cU r 0)],Y.set (z O) (.cH [.cU .u8 5,.cU r 0,.cV [],.cY,.cY] FZ)++[.cH [.cU .u8 5,.cU r 0,.cV [],.cY,.cY] FZ]))=J (.df [(abo [] (by decide)).av,.cU r 0],O):=by
    have hr:=aj (aX I.bp (.cH [.cU .u8 5,.cU r 0,.cV [],.cY,.cY] FZ)) [.cH [.cU .u8 5,.cU r 0,.cV [],.cY,.cY] FZ];have Q:∀T,hand eF [.da [.cU .u8 5,.cU r 0,.cV [],.cY,.cY],.cU r 0] T=J ([(abo [] (by decide)).av,.cU r 0],T):=λT=>by rw[lF,aO,bG,aO,aO,aO,aO,aO,dO,qY];unfold abo JV.av;rw[JV.bB];rfl
    rw[vO (vs:=[.da [.cU .u8 5,.cU r 0,.cV [],.cY,.cY],.cU r 0]) (by
     have h2:look [(2,AV.c8 (z O) 0),(3,.cU r 0)] 2=.c8 (z O) 0:=rfl;have h3:look [(2,AV.c8 (z O) 0),(3,.cU r 0)] 3=.cU r 0:=rfl;simp only[aU,hr,h2,h3,Ev.pt,ay9,a90,a94,List.take];rfl) (Q _)]
    have e2:=AY (o:=z O) (x:=.eq) f rfl (vs:=[(abo [] (by decide)).av,.cU r 0]) (by rw[ae,JV.av,below,JV.ay];rfl) (S:=Y.set (z O) (.cH [.cU .u8 5,.cU r 0,.cV [],.cY,.cY] FZ)++[.cH [.cU .u8 5,.cU r 0,.cV [],.cY,.cY] FZ]) (by rw[oD _ _ _ (by rw[a96];omega),dK _ _ _ (a06 _),I.b4,h]);rw[h]at e2;rw[e2];rfl
   have A:z ks=0:=B;refine⟨abo [] (by decide),0,?_⟩;rw[H.dc.go m];generalize u:mD=s at*;unfold kG at*;simp only[A,ay1]at g;simp only[D5,c,A,ay1,g,d,l,rs,t,s1,pt,fin,AV.cH,AV.C,aF,splice,EVX,seval]
  ·have lt:=(a00.mp I.bp).1;have F:=(a00.mp v).1;obtain⟨b,G,n⟩:=H.kq Y I.ok q F U (z ks) (by omega) Z I.dt;unfold row at n;rw[Oh v]at n;dsimp only[afk]at n;have l4:z (Y.set q (.cH (dH b) FZ))=z Y:=a96;have y:Ok (Y.set q (.cH (dH b) FZ)):=I.ok.bd q (by simp only[AO.below,wG];exact aK (a99 _) _ (wG b));have r4:=aG I.bp (show z O≠q by omega) (.cH (dH b) FZ);have W:(Y.set q (.cH (dH b) FZ)).take (z O)=O:=by rw[dK _ _ _ (by omega),I.b4]
   have M:OT O q (z Y) b 0 .cY .cY (Y.set q (.cH (dH b) FZ)++[.cH [.cU .u8 5,.cU r 0,.cV [],.cY,.cY] FZ]):=
    ⟨y.H rfl,aj (aX v _) _,aj r4 _,by rw[bK l4];rfl,.inl ⟨rfl,rfl⟩,.inl ⟨rfl,rfl⟩,λq e=>(by cases e),by rw[oD _ _ _ (by omega),W]⟩
   obtain⟨x1,x2,N,d,a⟩:=akB (C:=C) O b (by omega) q (z Y) F lt (z b) 0 (by omega) _ _ _ M;have D:z b≠0:=(by omega);rcases a.a1 with⟨k,_⟩|⟨_,q1,rfl,a1,a2⟩;·exact absurd k D
   rcases a.a2 with⟨k,_⟩|⟨_,q2,rfl,b1,b2⟩;·exact absurd k D
   rw[a95 (a06 _)]at a1 b1;have fin:=adO (Y:=N.set (z O) (.cH [.cU .u8 5,.cU r 0,.cV [],.dj q1 0 (z b) 1,.dj q2 0 (z b) 5] FZ)) (o:=z O) (x:=.eq) f rfl 0 [(2,.c8 (z O) 0),(3,.cU r 0)] rfl rfl (by rw[dK _ _ _ (a06 _),a.b4,h]) b (by omega) q1 q2 (aX a.bp _) (aG a1 (by omega) _) (aG b1 (by omega) _) (by omega) (by omega) (λe=>a.ne q1 rfl (by rw[e]));rw[h]at fin;have i:=a.v;have V:=a.bp;have t:=λL=>bK l4 L;have s1:=λL du=>iF l4 L du;rw[G]at d i;refine⟨abo b (by omega),0,?_⟩;rw[H.dc.go m];generalize u:mD=s at*;unfold kG at*;simp only[ay1]at g d;simp only[D5,c,g,d,n,l4,t,s1,i,V,AV.cH,AV.C,aF,splice,EVX,seval];rw[<-G];exact fin
 ·have du:=zero e _ l3 l2;refine⟨JV.aa,e,?_⟩;rw[H.dc.go m];generalize u:mD=s at*;unfold kG at*;simp only[ay1]at g;simp only[D5,c,g,du,EVX,seval]
def apU(H:YV C PK):dh C PK Ip (.ez [.eB [.ds,.ds]] (.df [.jv,.cU r])):=
 nK H.dc rfl λb d=>by obtain⟨x,rfl,c⟩:=Ro d;obtain⟨ks,rfl,l,h⟩:=acx ai4 c;intro O a;obtain⟨j,e,h⟩:=afV H ks h O a;exact⟨_,h,.df _ _ (.cW _ _ _ _ (.jv j) (.cW _ _ _ _ (.cU _ _) .de))⟩
def agW(f:Has C Dl Jq)(hs:VD C iC 1):dh C PK Dl (.ez [amL] amL):=
 nK f rfl λi l=>by obtain⟨x,rfl,e⟩:=Ro l;have b:=e;obtain⟨a,rfl,l1,l2⟩:=ai3 e;intro O d;refine⟨.da a.B,?_,b⟩;have q:=λY=>hs (z a.O) (a.O.flatMap sC) Y (by rw[bZ (k:=1) (λ_=>rfl)]) (by omega) (by rw[List.all_flatMap];exact a97.mpr λ_ _=>rfl);have g:=λL=>bz d (vs:=[.da a.B]) (NVs.cl (.cW (Yl a) .de)) L;have h:a.B=[.cU r a.th,.sl (z a.O) (a.O.flatMap sC)]:=rfl;have c:=λY=>NVs.e (.cW (Yl a) .de) Y;rw[f.go (c _)];rw[h]at g c⊢;generalize j:mD=m;simp only[Jq,q,aF,aN,fF,AV.cH,AV.C,splice,EVX,seval];rw[<-j];refine(vO ?_ (c _)).trans (by rw[g];rfl);simp only[aU,aN,EVX,seval]
def aiN(o:Has C Jd P7)(hs:VD C dM 2)(v:CopyHas C):dh C PK Jd (.ez [acR] acR):=
 nK o rfl λs w=>by
  obtain⟨x,rfl,m⟩:=Ro w;have h:=m;obtain⟨N,rfl,k⟩:=ajS m;obtain⟨n,l,j,rfl,ll⟩:=k.j5;intro O f;refine⟨.da (rC n l j),?_,h⟩;have q:=λY=>hs (z l) (l.flatMap pC) Y (bZ Dy l) (by omega) (by rw[List.all_flatMap];exact a97.mpr λ_ _=>rfl);have b1:AO.below 0 (.cH (rC n l j) FZ)=eT:=(aen n l j).cl;have c:=LG v j;have g:=λR=>c _ (f.H (L:=[.cH (rC n l j) FZ,.cH [.cU r 0,.cY,.cU .u8 0,.cU r 0,.cV [],.cY,.cY] R]) (by rw[a07,a07,b1];rfl));have nv:=aen n l j;have p:=λL=>bz f (vs:=[.da (rC n l j)]) (NVs.cl (.cW (.da nv) .de)) L;obtain⟨a,b,t,d,e,x0,A,B,D,E,F,z5⟩:=iE j;have y:rC n l j=[.cU r n,.sl (z l) (l.flatMap pC),a,b,t,d,e]:=by unfold rC;rw[A]
  have i:=λY=>NVs.e (.cW (.da nv) .de) Y;rw[o.go (i _)];rw[y]at p g i⊢;rw[x0]at g;generalize u:mD=G;simp only[P7,q,g,yG,B,D,E,F,z5,aF,aN,fF,AV.cH,fl5,splice,EVX,seval];rw[<-u];rw[vO (by simp only[aU,aN,EVX,seval]) (i _),p];rfl
end Go.Ev
namespace Go.Ev
open Option renaming none→U, some→J
open List renaming length→z
open Go.IntKind renaming i64→r
open Bool renaming true→eT, false→eF
set_option maxRecDepth 100000
variable{C:Ctx}
def abn(d:Su C fE nR)(xs:List EL)(b:xs≠[])(i:z xs<=8192)(O:St)(g:Ok O):ai C fE [.sl (z xs) (dH xs)] O=J (.dj (z O) 0 (z xs) 6,O++[.cH (dH xs) FZ]):=by
 have e:0<z xs:=List.length_pos_iff.mpr b;rw[d.go];have a:(dH xs).all AV.C=eT:=by rw[a97];intro v hv;obtain⟨x,_,f⟩:=aG2.mp hv;exact a97.mp (oZ x) v f
 have c:¬z xs=0:=by omega
 have sn:=Gn xs;have ap:=λY:St=>Y9 Y U (sz:=6) (bytes:=96) (n:=0) (m:=z xs) (l:=[]) (dH xs) c rfl (by omega) (by omega);simp only[az5,a98]at ap;have h:tidy (z O) [.dj (z O) 0 (z xs) 6] (O++[.cH (dH xs) FZ])=O++[.cH (dH xs) FZ]:=by
  unfold tidy;have:ae (z O) [.dj (z O) 0 (z xs) 6]=eF:=(by simp[ae,below]);split;·rfl
  ·rw[this];simp
 simp only[nR,a,e,sn,ap,h,qL,aU,EVX,seval]
def avc(n:Nat):IntKind.u8.wrap (n:Int)=((UInt8.ofNat n).toNat:Int):=by rw[IntKind.wrap_u8,UInt8.toNat_ofNat'];omega
def awZ (m:Su C dR fQ) (d u:Nat) (l:LU) (o:z l=24) (n:u<10^d) (a:d<=20) (s:u<18446744073709551616) (O:St) (q:Nat) (c:O[q]?=J (.cH (ofBytes l) FZ)):
  ∃g:LU,z g=24/\ai C dR [.dj q 1 d 1,.cU .u64 u] O=J (.df [],O.set q (.cH (ofBytes g) FZ)):=by
 obtain⟨x,l2,t,b,f⟩:=ajG (C:=C) d a O q c (d/8) d u l (a06 _) rfl n s o;rw[set_self c]at f;have i:∀(x:AO),(O.set q x)[q]?=J x:=λx=>aX c x;have F:∀x:AO,tidy (z O) [] (O.set q x)=O.set q x:=λx=>by have:=bi (O.set q x) [];rwa[a96]at this
 have hr:d%8<8:=Nat.mod_lt _ (by decide);have p:d%8<=d:=Nat.mod_le _ _;generalize d%8=co at*;have e:x<10000000:=aC9 t (Nat.pow_le_pow_right (j:=7) (by decide) (by omega));have P:=wO x (by omega);have t1:∀y:Nat,(y:Int).tmod 10000=((y%10000:Nat):Int):=λy=>rfl;have t2:∀y:Nat,(y:Int).tdiv 10000=((y/10000:Nat):Int):=λy=>rfl;have t3:∀y:Nat,(y:Int).tmod 100=((y%100:Nat):Int):=λy=>rfl;have t4:∀y:Nat,(y:Int).tdiv 100=((y/100:Nat):Int):=λy=>rfl;have K:=wO (x/10000) (by omega);have L:=wO (x/100) (by omega);have M:=wO (x/10000/100) (by omega);have N:=wO (x%10000/100) (by omega);obtain⟨Q,V,Z,G⟩:=Xr (x%10000/100) (by omega);obtain⟨B,w⟩:=sm_at (x%10000/100) (by omega);obtain⟨R,W,zb,H⟩:=Xr (x%10000%100) (by omega);obtain⟨D,A⟩:=sm_at (x%10000%100) (by omega);obtain⟨S,X,zc,I⟩:=Xr (x/10000%100) (by omega);obtain⟨sc,rc⟩:=sm_at (x/10000%100) (by omega);obtain⟨T,Y,zd,vd⟩:=Xr (x%100) (by omega);obtain⟨E,rd⟩:=sm_at (x%100) (by omega);have q1:∀y:Nat,y<10000000->IntKind.u32.wrap (48+(y:Int))=((48+y:Nat):Int):=λy hy=>by have:=wO (48+y) (by omega);rw[<-this];rfl
 have q2:=q1 x e;have q3:=q1 (x/100) (by omega);have q4:=q1 (x/10000) (by omega);have q5:=q1 (x/10000/100) (by omega);have v:∀k,k<co->k<d:=λk h=>by omega
 have h8:co=0\/co=1\/co=2\/co=3\/co=4\/co=5\/co=6\/co=7:=by omega
 rcases h8 with rfl|rfl|rfl|rfl|rfl|rfl|rfl|rfl;all_goals
  simp only[ay1,Int.natCast_zero,Int.natCast_one]at f;refine⟨?_,?_,?_⟩
  rotate_left 2
  ·rw[m.go];simp only[fQ,f,i,F,P,t1,t2,t3,t4,K,L,M,N,Q,V,Z,G,B,w,R,W,zb,H,D,A,S,X,zc,I,sc,rc,T,Y,zd,vd,E,rd,q2,q3,q4,q5,avc,w64,v,b,asf,aI,a96,WX,aU,bW,a88,aB8,AV.cH,AV.C,EVX,seval];rfl
  ·simp only[a96,b]
structure Vz(C:Ctx):Prop extends NdHas C where
 fb:Su C dR fQ
 f8:Has C zh sK
 cU:Has C jU eP
 nQ:Has C EY EW
 mw:Has C QY YR
def apW(H:Vz C)(y:Nat)(g:y<100)(O:St):∃s:LU,z s<=64/\ai C zh [.cU r y] O=J (.cV s,O):=by
 have b:(0:Int)<=(y:Int):=by omega
 have d:=wrS y (by omega);have e:IntKind.i64.wrap ((y:Int)*2)=((y*2:Nat):Int):=wrE (by omega);have f:IntKind.i64.wrap (((y*2:Nat):Int)+2)=((y*2+2:Nat):Int):=wrE (by omega);have a:∀k:Nat,(0:Int)<=(k:Int):=Int.natCast_nonneg;have l2:y<=y+1:=by omega
 have l3:y*2<=y*2+2:=by omega
 have l4:y*2+2<=200:=by omega
 have ll:z gQ=200:=rfl;have go:=H.f8.go (O:=O) (NVs.e (.cW (.cU r (y:Int)) .de) _);by_cases c:(y:Int)<10
 ·have l5:y+1<=36:=(by omega);refine⟨?_,?_,?_⟩
  rotate_left 2
  ·rw[go];simp only[sK,c,b,d,a,l2,l5,a88,EVX,seval];rfl
  ·simp;omega
 ·refine⟨?_,?_,?_⟩
  rotate_left 2
  ·rw[go];simp only[sK,c,e,f,a,l3,l4,ll,a88,EVX,seval];rfl
  ·simp only[aH7,a90,aB1];omega
def ak9(l:LU)(k:Nat):(ofBytes l).take k=ofBytes (l.take k):=by simp[ofBytes,List.map_take]
def arp(l:LU)(k:Nat):(ofBytes l).drop k=ofBytes (l.drop k):=by simp[ofBytes,List.map_drop]
def z24:LU:=List.replicate 24 0
set_option maxHeartbeats 2000000 in
def ar2 (H:Vz C) (n:Int) (u:Nat) (c:¬(0<=n/\n<100)) (a:u<18446744073709551616) (b1:n<0->IntKind.u64.wrap (0-IntKind.u64.wrap n)=(u:Int)) (h:¬n<0->IntKind.u64.wrap n=(u:Int)) (d:Nat) (d0:d≠0) (d1:u<10^d) (d2:d<=20) (q1:∀O,ai C jV [.cU .u64 u] O=J (.cU r d,O)) (O:St) (b:Ok O):
  ∃s:LU,ai C jU [.cU r n,.cU r 10] O=J (.cV s,O)/\z s<=64:=by
 have go:=H.cU.go (O:=O) (NVs.e (.cW (.cU r n) (.cW (.cU r 10) .de)) _);obtain⟨l,e,q2⟩:=awZ H.fb d u z24 rfl d1 d2 a (O++[.cH (ofBytes z24) FZ]) (z O) (by rw[aF];rfl);rw[dm]at q2;have o:ofBytes z24=[.cU .u8 0,.cU .u8 0,.cU .u8 0,.cU .u8 0,.cU .u8 0,.cU .u8 0,.cU .u8 0,.cU .u8 0,.cU .u8 0,.cU .u8 0,.cU .u8 0,.cU .u8 0,.cU .u8 0,.cU .u8 0,.cU .u8 0,.cU .u8 0,.cU .u8 0,.cU .u8 0,.cU .u8 0,.cU .u8 0,.cU .u8 0,.cU .u8 0,.cU .u8 0,.cU .u8 0]:=rfl;rw[o]at q2;have f:IntKind.i64.wrap (1+(d:Int))=((1+d:Nat):Int):=wrE (by omega);have l1:(0:Int)<=((1+d:Nat):Int):=by omega
 have l2:1<=1+d:=by omega
 have l3:1+d<=24:=by omega
 have l4:1+d-1=d:=by omega
 have l5:¬1=1+d:=by omega
 have l6:¬0=1+d:=by omega
 have l7:1+d-0=1+d:=by omega
 have g:=λ(s:LU) L=>bz b (vs:=[.cV s]) rfl L;have m:splice (ofBytes l) 0 [.cU .u8 45]=ofBytes (l.set 0 45):=asf l 0 45 (by omega);by_cases s:n<0
 ·have i:¬(0:Int)<=n:=(by omega);have hb:=b1 s;refine⟨?_,?_,?_⟩
  rotate_left 1
  ·rw[go];simp only[eP,i,s,hb,q1,q2,f,l1,l2,l3,l4,l5,l6,l7,e,m,ak9,vN,aI,a96,az2,aB5,g,a88,a99,EVX,seval];rfl
  ·rw[aB1];omega
 ·have hb:=h s;have j:(0:Int)<=n:=(by omega);have k:¬n<100:=(by omega);refine⟨?_,?_,?_⟩
  rotate_left 1
  ·rw[go];simp only[eP,j,k,s,hb,q1,q2,f,l1,l2,l3,l4,l5,e,ak9,arp,vN,aI,az2,aB5,g,a88,EVX,seval];rfl
  ·rw[aB1];omega
def anr (a:Su C dR fQ) (O:St):
  ai C dR [.fu,.cU .u64 0] O=J (.df [],O):=by
 rw[a.go];have c:=bi O [];have b:aH C (ai C) 167 [0,1,4] bu [(0,.fu),(1,.cU .u64 0),(4,.cU r 0)] O=J (.dq 0,[(0,.fu),(1,.cU .u64 0),(4,.cU r 0)],O):=by rw[aA (he:=rfl)];simp only[bu,EVX,seval]
 simp only[fQ,b,c,WX,aU,bW,EVX,seval]
set_option maxHeartbeats 2000000 in
def ar4(H:Vz C)(n:Int)(c:¬(0<=n/\n<100))(b1:n<0->IntKind.u64.wrap (0-IntKind.u64.wrap n)=0)(g:¬n<0->IntKind.u64.wrap n=0)(q1:∀O,ai C jV [.cU .u64 0] O=J (.cU r 0,O))(O:St)(a:Ok O):∃s:LU,ai C jU [.cU r n,.cU r 10] O=J (.cV s,O)/\z s<=64:=by
 rw[H.cU.go (NVs.e (.cW (.cU _ _) (.cW (.cU _ _) .de)) _)];have q2:=anr H.fb;have f:=λ(s:LU) L=>bz a (vs:=[.cV s]) rfl L;have b:IntKind.i64.wrap 1=1:=rfl;have l1:bytesOf [.cU .u8 45]=J [45]:=rfl;have l2:bytesOf []=J []:=rfl;have d:(0:Int)<=1:=by decide
 have e:(1:Int).toNat=1:=rfl;by_cases s:n<0;·have h:¬(0:Int)<=n:=(by omega);have hb:=b1 s;refine⟨[45],?_,by simp⟩;simp only[eP,h,s,hb,q1,q2,b,d,e,l1,az2,aB5,f,splice,EVX,seval]
 ·have hb:=g s;have i:(0:Int)<=n:=(by omega);have j:¬n<100:=(by omega);refine⟨[],?_,by simp⟩;simp only[eP,i,j,s,hb,q1,q2,b,d,e,l2,az2,aB5,f,EVX,seval]
def alc(H:Vz C)(n:Int)(O:St)(b:Ok O):∃s:LU,ai C jU [.cU r n,.cU r 10] O=J (.cV s,O)/\z s<=64:=by
 by_cases c:0<=n/\n<100;·obtain⟨y,rfl⟩:∃y:Nat,n=y:=⟨n.toNat,by omega⟩;have j:(0:Int)<=(y:Int):=(by omega);have k:(y:Int)<100:=c.2;obtain⟨s,hs,q⟩:=apW H y (by omega) O;refine⟨s,?_,hs⟩;rw[H.cU.go (NVs.e (.cW (.cU _ _) (.cW (.cU _ _) .de)) _)];simp only[eP,j,k,q,EVX,seval]
 ·have i:∀m:Int,∃u:Nat,u<18446744073709551616/\IntKind.u64.wrap m=(u:Int):=λm=>by refine⟨(m%18446744073709551616).toNat,by omega,?_⟩;simp[IntKind.wrap,IntKind.bits,IntKind.signed];omega
  obtain⟨u,a,b1,f⟩:∃u:Nat,u<18446744073709551616/\(n<0->IntKind.u64.wrap (0-IntKind.u64.wrap n)=(u:Int))/\(¬n<0->IntKind.u64.wrap n=(u:Int)):=by
   by_cases s:n<0;·obtain⟨u,e,h2⟩:=i (0-IntKind.u64.wrap n);exact⟨u,e,λ_=>h2,λh=>absurd s h⟩
   ·obtain⟨u,e,h2⟩:=i n;exact⟨u,e,λh=>absurd h s,λ_=>h2⟩
  obtain⟨d,d1,d2,q1⟩:=numDigits H.toNdHas u a;by_cases g:d=0;·subst g;obtain rfl:u=0:=(by simpa using d1);exact ar4 H n c b1 f q1 O b
  ·exact ar2 H n u c a b1 f d g d1 d2 q1 O b
def aga(H:Vz C)(n:Int)(O:St)(a:Ok O):∃s:LU,ai C QY [.cU r n] O=J (.cV s,O)/\z s<=64:=by
 obtain⟨s,q,b⟩:=alc H n O a;have q:ai C EY [.cU r n,.cU r 10] O=J (.cV s,O):=by rw[H.nQ.go (NVs.e (.cW (.cU _ _) (.cW (.cU _ _) .de)) _)];simp only[EW,q,EVX,seval]
 refine⟨s,?_,b⟩;rw[H.mw.go (NVs.e (.cW (.cU _ _) .de) _)];simp only[YR,q,EVX,seval]
open Go.Lib
def adG(x y:UInt8)(a b:LU):compareBytes (x::a) (y::b)=if x.toNat<y.toNat then-1 else if y.toNat<x.toNat then 1 else compareBytes a b:=by rw[compareBytes];simp only[UInt8.lt_iff_toNat_lt]
def ajo:∀a:LU,compareBytes a a=0|[]=>rfl|x::a=>by rw[adG,if_neg (by omega),if_neg (by omega),ajo a]
def afc:∀a b c:LU,compareBytes a b<0->compareBytes b c<0->compareBytes a c<0
 |[],[],c,h,_=>absurd h (by decide)|[],_::_,[],_,h=>absurd h (by simp[compareBytes])|[],_::_,_::_,_,_=>by simp[compareBytes]
 |_::_,[],c,h,_=>absurd h (by simp[compareBytes])|_::_,_::_,[],_,h=>absurd h (by simp[compareBytes])
 |x::a,y::b,i::c,h,k=>by
  rw[adG]at h k⊢;have d:=afc a b c;generalize compareBytes a b=p at*;generalize compareBytes b c=q at*;generalize compareBytes a c=f at*;split at h
  ·split at k;·rw[if_pos (by omega)];decide
   ·split at k;·exact absurd k (by decide)
    ·rw[if_pos (by omega)];decide
  ·split at h;·exact absurd h (by decide)
   ·split at k;·rw[if_pos (by omega)];decide
    ·split at k;·exact absurd k (by decide)
     ·rw[if_neg (by omega),if_neg (by omega)];exact d h k
def abT:∀a b c:LU,¬compareBytes a b<0->¬compareBytes b c<0->¬compareBytes a c<0
 |a,[],[],h,_=>h|[],_::_,c,h,_=>absurd (by simp[compareBytes]) h|_,[],_::_,_,h=>absurd (by simp[compareBytes]) h|_::_,_::_,[],_,_=>by simp[compareBytes]
 |x::a,y::b,i::c,h,k=>by
  rw[adG]at h k⊢;have d:=abT a b c;generalize compareBytes a b=p at*;generalize compareBytes b c=q at*;generalize compareBytes a c=f at*;split at h;·exact absurd (by decide) h
  ·split at h
   ·split at k;·exact absurd (by decide) k
    ·split at k;·rw[if_neg (by omega),if_pos (by omega)];decide
     ·rw[if_neg (by omega),if_pos (by omega)];decide
   ·split at k;·exact absurd (by decide) k
    ·split at k;·rw[if_neg (by omega),if_pos (by omega)];decide
     ·rw[if_neg (by omega),if_neg (by omega)];exact d h k
open Go.RowKit Go.Shelf Go.Lib Go.Sort Go.Proofs
set_option maxRecDepth 10000
def aed(xs:List EL)(i:Nat):LU:=match xs[i]? with|J x=>x.1.1|U=>[]
def ahC(xs:List EL)(i j:Nat):Int:=compareBytes (aed xs i) (aed xs j)
def an4(xs:List EL):SWO (ltOf (ahC xs))where
 irrefl x:=by simp[ltOf,ahC,ajo]
 trans x y d h1 h2:=decide_eq_true (afc _ _ _ (of_decide_eq_true h1) (of_decide_eq_true h2))
 ntrans x y d h1 h2:=decide_eq_false (abT _ _ _ (of_decide_eq_false h1) (of_decide_eq_false h2))
def Ha(xs:List EL):Array Nat:=pdq (ltOf (ahC xs)) (Array.range (z xs)) 0 (Array.range (z xs)).size (Lib.bitLen (Array.range (z xs)).size) eT eT
def auv(xs:List EL):(Ha xs).size=z xs/\∀i,i<z xs->(Ha xs)[i]! <z xs:=by
 have h:=(pdq_sorts (ltOf (ahC xs)) (an4 xs) (Array.range (z xs)) 0 (Array.range (z xs)).size (Lib.bitLen (Array.range (z xs)).size) eT eT (a99 _) (a06 _) (Or.inl rfl)).1;refine⟨by have:=h.1;unfold Ha;rw[this];simp,λi hi=>?_⟩
 exact permIn_all (Array.range (z xs)) (Ha xs) 0 (Array.range (z xs)).size (λj=>j<z xs) (a06 _) h (λj _ hj=>by
  have a:j<z xs:=(by simpa using hj);rw[getElem!_pos _ j hj];simpa using a) i (a99 _) (by simpa using hi)
def awe:EL:=(⟨[],by decide⟩,JV.aa)
instance:Inhabited EL:=⟨awe⟩
def aaL(xs:List EL):List EL:=(List.range (z xs)).map λt=>xs.getD ((Ha xs)[t]!) awe
def PO(xs:List EL):z (aaL xs)=z xs:=by simp[aaL]
open Classical in
noncomputable def Qw(fc:FuncId)(args:LA)(O:St):Option (AV×St):=
 match args with
 |[.dj o 0 n 6,.ea (.func g) [] []]=>match O[o]? with|J (.cH l ⟨eF,t⟩)=>if h:g=fc/\n<4611686018427387904/\∃a:List EL,l=dH a/\z a=n then J (.df [],O.set o (.cH (dH (aaL h.2.2.choose)) ⟨eF,t⟩))else U|_=>U
 |_=>U
def TW(xs:List EL):z (dH xs)=z xs*6:=bZ jB xs
def anj(xs:List EL)(i d:Nat)(hi:i<z xs)(hr:d<6):(dH xs)[i*6+d]?=(elC xs[i])[d]?:=by
 have h:=kK jB (a02 hi);have e:(dH xs)[i*6+d]?=((dH xs).drop (i*6))[d]?:=by rw[List.getElem?_drop]
 rw[e];unfold dH;rw[h,aA3 (by rw[jB];exact hr)]
def AB(c:Array Value)(n i:Nat):List Value:=if i<n then(List.range 6).map λd=>c[i*6+d]! else[.string ⟨⟨[]⟩⟩,.int r 0,.int r 0,.int r 0,.int r 0,.int r 0]
def ajB(c:Array Value)(n i:Nat):z (AB c n i)=6:=by unfold AB;split<;>simp
def ahG(c:Array Value)(n i d:Nat)(hi:i<n)(hr:d<6):(AB c n i)[d]! =c[i*6+d]!:=by unfold AB;rw[if_pos hi,getElem!_pos _ d (by simpa using hr)];simp
section
variable{ρ:Ren}{fs fc:FuncId}
def aek (L:SlLaysF0.n6 C.P ρ) (Y:ρ.f 6=fs) (V:JX C.P fs) (aE:∀w,(isAgg (ρ.t 24)).run C.P w=.ok eT w) (zE:∀w,(Go.sizeOf (ρ.t 24)).run C.P w=.ok 6 w)
  (eg:∀args w,(callFunc fc args).run C.P w=.ok (.enter fc args) w)
  (an9:∀(x y:LU) (u v:List Value) (W:World),z u=5->z v=5->Calls C.P fc #[.agg (.string ⟨⟨x⟩⟩::u).toArray,.agg (.string ⟨⟨y⟩⟩::v).toArray] W λe w'=>e=.returned (.int r (compareBytes x y))/\∃q an,w'=grow (W.drewN q) an):
  POK C fs (Qw fc):=by
 intro args O v O' h g w Q ha hw hg;unfold Qw at h;split at h
 ·rename_i o n gf;split at h
  ·rename_i l t ho;split at h
   ·rename_i B;simp only[a05,ay8]at h;obtain⟨rfl,rfl⟩:=h;have hxs:=B.2.2.choose_spec;generalize B.2.2.choose=b at hxs;obtain⟨rfl,hn,_⟩:=B;obtain⟨rfl,s⟩:=hxs;have Z:=TW b;obtain⟨c,e,fr,N,R,h3,h4,h5,h6⟩:=hw.bx o _ ho;have X:fr=(0,0):=h5.1;subst X;cases ha with
    |cW _ v1 _ l1 x1 y1=>
    cases y1 with
    |cW _ v2 _ l2 x2 y2=>
    cases y2;cases x1 with
    |dj _ _ _ _ cap aw aa aq=>
    cases x2 with
    |ea _ _ _ x' y' k1 k2=>
    cases k1;cases k2;have cell:∀i,i<n->∀d,d<6->∃x,(elC b[i]!)[d]?=J x/\VR g x c[i*6+d]!:=λi hi d hr=>by have p:i<z b:=(by omega);have e1:=anj b i d p hr;have au:=jB b[i];have e2:(elC b[i])[d]?=J (elC b[i])[d]:=a02 (by omega);rw[e2]at e1;obtain⟨u,hu,hv⟩:=h4 _ _ e1;have e3:b[i]! =b[i]:=getElem!_pos b i p;refine⟨_,by rw[e3];exact e2,?_⟩;obtain⟨hb,af⟩:=aD0.mp hu;rw[getElem!_pos c _ hb,af];exact hv
    have fst:∀i,∃u,AB c n i=.string ⟨⟨aed b i⟩⟩::u/\z u=5:=λi=>by
     have P:=ajB c n i;by_cases hi:i<n
     ·obtain⟨x,hx1,hx2⟩:=cell i hi 0 (by decide);have p:i<z b:=(by omega);have e3:b[i]! =b[i]:=getElem!_pos b i p;have hx3:x=.cV (aed b i):=by
       have:aed b i=(b[i]).1.1:=by unfold aed;rw[a02 p]
       rw[this];rw[e3]at hx1;exact(aE0 hx1).symm
      rw[hx3]at hx2;have e0:=ahG c n i 0 hi (by decide);cases hE:AB c n i with
      |nil=>rw[hE]at P;cases P|cons a u=>rw[hE]at e0 P;refine⟨u,?_,by simpa using P⟩;have:a=c[i*6+0]!:=e0;rw[this];generalize c[i*6+0]! =q at hx2;cases hx2;rfl
     ·refine⟨[.int r 0,.int r 0,.int r 0,.int r 0,.int r 0],?_,rfl⟩;unfold AB aed;rw[if_neg hi,aA1 (by omega)]
    have M:∀i,∀v∈AB c n i,v.oneCell'=eT:=λi v hv=>by
     by_cases hi:i<n;·unfold AB at hv;rw[if_pos hi]at hv;obtain⟨d,hr,rfl⟩:=aC1.mp hv;obtain⟨x,hx1,hx2⟩:=cell i hi d (aD4.mp hr);exact hx2.eo (a97.mp (oZ _) x (a08 hx1))
     ·unfold AB at hv;rw[if_neg hi]at hv;simp only[az4,aE8,or_false]at hv;rcases hv with rfl|rfl|rfl|rfl|rfl|rfl<;>rfl
    have f:(Array.range (z b)).size=n:=(by simp[s]);have rg:∀j,j<n->(Array.range (z b))[j]! =j:=λj hj=>by rw[getElem!_pos _ j (by rw[f];exact hj)];simp
    have fk:∀t,t<n*6->(flatK (AB c n) 6 (Array.range (z b)))[t]! =c[t]!:=λt F=>by have hq:t/6<n:=(by omega);rw[get_flatK _ _ _ _ (by rw[f];exact F),rg _ hq,ahG _ _ _ _ hq (Nat.mod_lt _ (by decide))];congr 1;omega
    have hH:HoldsK (AB c n) 6 w (g.ob o) 0 (Array.range (z b)):=by
     intro t F;have ac:t<n*6:=by rw[size_flatK,f]at F;exact F
     refine⟨?_,?_⟩;·rw[fk t ac,az5];show w.cell? ⟨g.ob o,t,U⟩=J c[t]!;rw[cell_of_heap N,getElem!_pos c t (by omega)];exact aA0 (by omega)
     ·rw[World.frozen?,N];rfl
    have hb:g.ob o<w.heap.size:=(aD0.mp N).1;have H:CmpLays C.P gf #[] (AB c n) 6 (ahC b) (g.ob o) 0 (Array.range (z b)).size w:=λm os dk _ i j=>by obtain⟨u,hu,lu⟩:=fst i;obtain⟨u',ad,al⟩:=fst j;rw[hu,ad];exact an9 (aed b i) (aed b j) u u' _ lu al
    have run:=AnyQ.slices_SortFunc_eq L 6 aE zE (AB c n) (ajB c n) M (ahC b) (an4 b) gf #[] (g.ob o) 0 cap (Array.range (z b)) w eg H hH hb (by omega);rw[Y,f]at run;refine Fh V (run.mono λe' w2 ⟨he,q,os,A⟩=>⟨_,he,g,?_,.df _ _ .de⟩);have S:=auv b;have T:pdq (ltOf (ahC b)) (Array.range (z b)) 0 n (Lib.bitLen n) eT eT=Ha b:=by unfold Ha;rw[f]
    rw[T]at A;have hF:(flatK (AB c n) 6 (Ha b)).size=n*6:=(by rw[size_flatK,S.1,s]);have heap:w2.heap=(w.heap.modify (g.ob o) (onCells (putCells id 0 (flatK (AB c n) 6 (Ha b)))))++os:=by rw[A];rfl
    have I:(w.heap.modify (g.ob o) (onCells (putCells id 0 (flatK (AB c n) 6 (Ha b))))).size=w.heap.size:=(by simp);have h2:w2.heap[g.ob o]?=J (.cells (putCells id 0 (flatK (AB c n) 6 (Ha b)) c) e (0,0)):=by rw[heap,Array.getElem?_append_left (by rw[I];exact hb),aG3,if_pos rfl,N];rfl
    have E:(putCells id 0 (flatK (AB c n) 6 (Ha b)) c).size=c.size:=(by simp[putCells]);refine anI hw ho (by rw[A];rfl) (by rw[A];rfl) (by rw[A];rfl) (by rw[heap];simp) (λk hk ab=>?_) ⟨_,e,(0,0),h2,by rw[E];exact R,by rw[E,TW,PO];omega,λi x B=>?_,?_,?_⟩;·rw[heap,Array.getElem?_append_left (by rw[I];exact hk),aG3,if_neg (λh=>ab h.symm)]
    ·have hi:i<n*6:=by have:=(a00.mp B).1;rw[TW,PO]at this;omega
     have hq:i/6<n:=(by omega);have hr:i%6<6:=Nat.mod_lt _ (by decide);have K:=S.2 (i/6) (by omega);have ei:i=i/6*6+i%6:=(by omega);have es:(aaL b)[i/6]'(by rw[PO];omega)=b[(Ha b)[i/6]!]!:=by unfold aaL;rw[List.getElem_map,List.getElem_range,az8,a02 K,getElem!_pos b _ K];rfl
     have D:=B;rw[ei,anj (aaL b) (i/6) (i%6) (by rw[PO];omega) hr,es]at D;obtain⟨y,ah,ak⟩:=cell ((Ha b)[i/6]!) (by omega) (i%6) hr;rw[ah]at D;cases D;refine⟨(flatK (AB c n) 6 (Ha b))[i]!,?_,?_⟩;·unfold putCells;rw[Array.getElem?_mapIdx,aA0 (by omega),az2,if_pos ⟨a99 _,by rw[hF];omega⟩];rfl
     ·rw[get_flatK _ _ _ _ (by rw[S.1,s];exact hi),ahG _ _ _ _ (by omega) hr];exact ak
    ·refine⟨rfl,λt' x' F=>?_⟩;obtain⟨q1,q2⟩:=h5.2 t' x' F;refine⟨q1,λB=>?_⟩;rw[E,TW,PO,<-TW];exact q2 B
    ·intro i v hv;exact absurd (h6 i v hv).1 (by simp)
   ·cases h
  ·cases h
 ·cases h
def aeK{D:Ctx}(e:∀o n g O,ai D fs [.dj o 0 n 6,g] O=Qw fc [.dj o 0 n 6,g] O):SK D fs fc:=by intro O f o d t N h b hxs;have a:fc=fc/\N<4611686018427387904/\∃c:List EL,dH b=dH c/\z c=N:=⟨rfl,by omega,b,rfl,hxs⟩;refine⟨aaL a.2.2.choose,by rw[PO];exact a.2.2.choose_spec.2,?_⟩;rw[e];unfold Qw afk;simp only[akr d t b];rw[dif_pos a,arQ]
end
end Go.Ev
namespace Go.Ev
open Option renaming none→U, some→J
open List renaming length→z
open Go.IntKind renaming i64→r
open Bool renaming true→eT, false→eF
set_option maxRecDepth 100000
variable{C C1:Ctx}
def Lat(c d:Int):Prop:=d=c\/(c=0/\d=10)
theorem Lat.aa{c d:Int}(h:Lat c d)(a:d=0):c=0:=by rcases h with h|h<;>omega
end Go.Ev
