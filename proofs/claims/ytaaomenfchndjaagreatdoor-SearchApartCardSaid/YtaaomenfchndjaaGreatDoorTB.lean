/- Contracts. No conditions. -/
import Derived.Test.YtaaomenfchndjaaGreatDoorTA
import Derived.Shelf.Strings.Builder1
import Derived.WalkKit
import Derived.WalkLawsBesides
import Derived.WalkSpells
import Derived.Lib.Hide
import Derived.Outline
import Derived.Shelf.Strconv.ParseIntPublic10
import Derived.Test.YtaaomenfchndjaaGreatDoorCF
import Derived.Lib.DecodeN
import Derived.Laws.RangeAny
import Derived.Lib.Strings
import Derived.Shelf.Strings.Repeat
import Derived.KernelRfl
set_option linter.unusedVariables false
set_option linter.unusedSimpArgs false
set_option linter.defProp false
set_option maxRecDepth 1000000
open Go.Proofs.Tryz renaming prog→Q,underlying264→O,underlying319→i,zeroValue264→a,underlying9→W,underlying3→b,underlying0→c,func178→Z0,zeroValue3→f,zeroValue0→g,sizeOf264→h,ntmps178→Z1,isAgg264→j,underlying439→k,underlying403→n,underlying321→p,sizeOf3→q,sizeOf0→s,func267→v,zeroValue403→E,zeroValue321→F,zeroValue319→Y,underlying5→Z2,isAgg3→Z3,isAgg0→Z6,zeroValue9→K3,zeroValue5→K4,sizeOf403→K5,sizeOf321→K6,sizeOf319→K7,ntmps267→J0,ntmps105→J1,isAgg403→J2
open Go.Ev renaming ofBytes→t
open _root_ renaming rfl→w8,ByteArray→j0,Nat→D,Int→I,Option→e,UInt8→j8,congrArg→K,if_neg→K9
open List renaming replicate→w9,reduceReplicate→B,isEmpty_cons→w
open Go.Lib renaming cell_of_heap→k9,IsBuilderF→j9,frozen_of_heap→X,byteCells→X2,bytesWorld_below→L,parseIntB→N,hid→T,BuilderAt→y,decodeN→K0,BuilderAtF→K8
open Nat renaming beq→H
open Go renaming World→R,run_underlying→j6,Calls→V,run_callFunc_extern→x,FuncId→K1,Value→K2
open Go.RowKit.Below renaming refl→j7
open BitVec renaming ofInt→d
open Array renaming ext_getElem?→X1,getElem?_push→l
namespace Go.Ev
open Option renaming some→J, none→U
open List renaming length→z
open Go.IntKind renaming i64→r
open Bool renaming true→eT, false→eF
variable{C:Ctx}
def u8_xor(b c:j8):IntKind.u8.wrap ((d IntKind.u8.bits (b.toNat:I)^^^d IntKind.u8.bits (c.toNat:I)).toNat:I)=((b^^^c).toNat:I):=by rw[ayB .u8 w8 b.toNat c.toNat b.toNat_lt c.toNat_lt,UInt8.toNat_xor]
def azl(a:Has C NS UG)(b:j8)(O:St):ai C NS [.cQ .u8 (b.toNat:I)] O=J (.cQ .u8 ((b^^^54).toNat:I),O):=by rw[a.cG];unfold GK;have h:IntKind.u8.wrap ((d IntKind.u8.bits (b.toNat:I)^^^d IntKind.u8.bits 54).toNat:I)=((b^^^54).toNat:I):=u8_xor b 54;simp only[UG,h,EVY,seval]
def azm(a:Has C NT UH)(b:j8)(O:St):ai C NT [.cQ .u8 (b.toNat:I)] O=J (.cQ .u8 ((b^^^92).toNat:I),O):=by rw[a.cG];unfold GK;have h:IntKind.u8.wrap ((d IntKind.u8.bits (b.toNat:I)^^^d IntKind.u8.bits 92).toNat:I)=((b^^^92).toNat:I):=u8_xor b 92;simp only[UH,h,EVY,seval]
def Qk(c:j8):D->D->LU->LU|0,_,l=>l|n+1,i,l=>Qk c n (i+1) (l.set i (l.getD i 0^^^c))
def Ig(c:j8):∀(n i:D) (l:LU),z (Qk c n i l)=z l|0,_,_=>w8|n+1,i,l=>by unfold Qk;rw[Ig c n,a99]
def bytes_at(l:LU)(i:D)(h:i<z l):((t l).drop i).head? =J (.cQ .u8 ((l.getD i 0).toNat:I)):=by unfold t;rw[aI3,aF7,a01 h,aD4,a01 h];rfl
def Wj (f:K1) (c:j8) (hf:∀(b:j8) (O:St),ai C f [.cQ .u8 (b.toNat:I)] O=J (.cQ .u8 ((b^^^c).toNat:I),O)) (O:St):
  ∀(n i:D) (l:LU),i+n=64->z l=64->
  aG C (ai C) 19 [1,2,6] uO [(1,.dv (.func f) [] []),(2,.da (z O) 0),(6,.cQ r i)] (O++[.cP (t l) FZ])=
   J (.dq 0,[(2,.da (z O) 0)],O++[.cP (t (Qk c n i l)) FZ])
 |0,i,l,hi,a=>by rw[mX (he:=w8)];have h:¬((i:I)<64):=(by omega);simp only[uO,h,Qk,EVY,seval]
 |n+1,i,l,hi,a=>by
  rw[mX (he:=w8)];generalize g:aG C (ai C) 19 [1,2,6] uO=d;have h:((i:I)<64):=(by omega);have m:=wrS i (by omega);have k:∀j:D,(0:I)<=(j:I):=λj=>by omega
  have l5:i<64:=(by omega);have l6:i+1<=64:=(by omega);have a0:=bytes_at l i (by omega);have s1:=Z4 l i (l.getD i 0^^^c) (by omega);simp only[uO,h,m,k,l5,l6,a0,s1,hf,a,Ku,aJ,pF,vM,a90,EVY,seval];rw[<-g];exact Wj f c hf O n (i+1) _ (by omega) (by rw[a99,a])
def ZG (g:Has C LH Ll) (f:K1) (c:j8) (hf:∀(b:j8) (O:St),ai C f [.cQ .u8 (b.toNat:I)] O=J (.cQ .u8 ((b^^^c).toNat:I),O)) (O:St) (a:Ok O) (l:LU) (d:z l=64):
  ai C LH [.cX (t l),.dv (.func f) [] []] O=J (.cU (Qk c 64 0 l),O):=by
 rw[g.cG];unfold GK;have h:∀(y) (l:LU),bI O y (t l)=J (t l,[]):=by
  intro y l
  induction l with
  |nil=>rfl|cons b l i=>show(match cu O y (.cQ .u8 (b.toNat:I)),bI O y (t l)with|J (v,fs),J (l,e)=>J (v::l,fs++e)|_,_=>U)=_;rw[i];rfl
 have q:=Wj f c hf O 64 0 l (by omega) d;simp only[aB1]at q;obtain⟨y,hr⟩:∃y,y=Qk c 64 0 l:=⟨_,w8⟩;rw[<-hr]at q⊢;have j:z y=64:=by rw[hr,Ig,d]
 have bt:=yx y;have tk:(t y).take 64=t y:=a98 (by rw[aJ];omega);have k:∀x,tidy (z O) [.cU y] (O++[x])=O:=λx=>ED a w8 _;simp only[Ll,h,q,j,bt,tk,k,aJ,pF,EVY,seval]
def U8(O:St)(d):∀l:LU,bI O d (t l)=J (t l,[])|[]=>w8|b::l=>by show(match cu O d (.cQ .u8 (b.toNat:I)),bI O d (t l)with|J (v,fs),J (l,a)=>J (v::l,fs++a)|_,_=>U)=_;rw[U8 O d l];rfl
def xB(key:LU):LU:=lay y9 0 ((if z key>64 then wE key else key))
def O5(key:LU):z (xB key)=64:=by
 unfold xB;have:z y9=64:=w8;rw[U5,this];split;·rw[sZ,this];omega
 ·rw[this];omega
def ao8{part s:LU}{used:D}(h:used+z s<=z part):splice (t part) used (t s)=t (lay part used s):=by unfold splice lay t;simp
def aeZ(e:As)(O:St)(t:D)(ag:Bool)(sz:D)(l:List XR):aZ e O (.eN t ag sz::l)=match look e t,aZ e O l with
 |.da o off,J vs=>match O[o]? with
  |J (.cP c _)=>match pt ag sz (c.drop off)with|J v=>J (v::vs)|U=>U
  |_=>U
 |_,_=>U:=w8
def aoh (o:Has C P6 J5) (h:UK C) (key:LU) (p:key.length<=1099511627776) (O:St) (b:Ok O):
  ai C P6 [.cU key] O=J (.cX (t (xB key)),O):=by
 rw[o.cG];unfold GK;have z:∀Y:St,Y++[AO.cP (w9 64 (AV.cQ .u8 0)) FZ]=Y++[AO.cP (t y9) FZ]:=λ_=>w8;simp only[B]at z;have c:∀{Y:St},Ok Y->Ok (Y++[.cP (t y9) FZ]):=λ{Y} h=>h.eD (by simp[AO.below,nT]);have f:y9.length=64:=w8;obtain⟨s,hs⟩:∃s,s=(if key.length>64 then wE key else key):=⟨_,w8⟩;have ls:s.length<=64:=by rw[hs];split;(rw[sZ];omega);omega
 have l:min s.length 64=s.length:=by omega
 have tk:(t s).take s.length=t s:=a98 (by rw[aJ];omega);have hb:xB key=lay y9 0 s:=by unfold xB;rw[hs]
 have g:=O5 key;have i:=ao8 (part:=y9) (used:=0) (s:=s) (by rw[f];omega);rw[<-hb]at i;have e:(t (xB key)).take 64=t (xB key):=a98 (by rw[aJ];omega);have d:splice (t y9) 0 (t (xB key))=t (xB key):=JK _ _ (by rw[aJ,aJ,g,f]);have e3:∀x y z:AO,(O++[x]++[y]).set O.length z=O++[z]++[y]:=λx y z=>by rw[aH7 _ _ (by simp),vM]
 have j:∀x y:AO,(O++[x]++[y])[O.length]?=J x:=λx y=>KR (pF _ _) _;have m:∀x y,tidy O.length [.cX (t (xB key))] (O++[x]++[y])=O:=λx y=>by rw[aB2];exact ED b (by simp[ae,below,nT]) _
 by_cases k:key.length>64;·have q:=Tc h key p (O++[.cP (t y9) FZ]++[.cP (t y9) FZ]) (c (c b));rw[if_pos k]at hs;rw[<-hs]at q;have a:((key.length:I)>64):=(by omega);simp only[J5,z,a,q,f,l,tk,i,d,e,g,ls,e3,j,m,pF,vM,U8,aeZ,aJ,AQ,EVY,seval]
 ·rw[K9 k]at hs;have a:¬((key.length:I)>64):=(by omega);rw[hs]at*;simp only[J5,z,a,f,l,tk,i,d,e,g,ls,e3,j,m,pF,vM,U8,aeZ,aJ,AQ,EVY,seval]
def hmac(key s:LU):LU:=wE (Qk 92 64 0 (xB key)++wE (Qk 54 64 0 (xB key)++s))
structure afu(C:Ctx):Prop where
 lV:UK C
 eG:Has C P6 J5
 fv:Has C LH Ll
 of:Has C BC ahm
 n0:Has C NS UG
 n2:Has C NT UH
def ark (h:afu C) (key s:LU) (l:key.length<=1099511627776) (hs:s.length<=1099511627000) (O:St) (c:Ok O):
  ai C BC [.cU key,.cU s] O=J (.cU (hmac key s),O):=by
 rw[h.of.cG];unfold GK;have z:∀Y:St,Y++[AO.cP (w9 64 (AV.cQ .u8 0)) FZ]=Y++[AO.cP (t y9) FZ]:=λ_=>w8;simp only[B]at z;have q0:=aoh h.eG h.lV key l O c;have d:=O5 key;obtain⟨b,hb⟩:∃b,b=xB key:=⟨_,w8⟩;rw[<-hb]at q0 d;have a:Ok (O++[.cP (t b) FZ]):=c.eD (by simp[AO.below,nT]);have q1:=ZG h.fv NS 54 (azl h.n0) _ a b d;have q2:=ZG h.fv NT 92 (azm h.n2) _ a b d;have l1:=Ig 54 64 0 b;have l2:=Ig 92 64 0 b;obtain⟨x,i⟩:∃x,x=Qk 54 64 0 b:=⟨_,w8⟩;obtain⟨y,j⟩:∃y,y=Qk 92 64 0 b:=⟨_,w8⟩;rw[<-i]at q1 l1;rw[<-j]at q2 l2;have q3:=Tc h.lV (x++s) (by rw[a03,l1,d];omega) _ a;have q4:=Tc h.lV (y++wE (x++s)) (by rw[a03,l2,d,sZ];omega) _ a;have e:hmac key s=wE (y++wE (x++s)):=by unfold hmac;rw[j,i,hb]
 rw[e];have b1:uJ .add x s=J (.cU (x++s)):=by unfold uJ;dsimp only;rw[K9 (by omega)]
 have k:uJ .add y (wE (x++s))=J (.cU (y++wE (x++s))):=by unfold uJ;dsimp only;rw[K9 (by rw[sZ];omega)]
 have f:splice (t y9) 0 (t b)=t b:=JK _ _ (by rw[aJ,aJ,d];rfl);have m:y9.length=64:=w8;have g:(t b).take 64=t b:=a98 (by rw[aJ];omega);have n:∀v w,tidy O.length [.cU v] (O++[w])=O:=λv w=>ED c w8 _;simp only[ahm,z,q0,q1,q2,q3,q4,b1,k,f,m,g,d,n,pF,vM,aJ,AQ,EVY,seval]
end Go.Ev
namespace Go.Proofs.YtaaomenfchndjaaGreatDoor
open Option renaming some→J, none→U
open List renaming length→z
open Go.IntKind renaming i64→r
open Bool renaming true→eT, false→eF
open Go.Shelf Go.Proofs
def Tryz.lays170_ren:Go.Shelf.Ren:=⟨λ|170=>247|n=>n,λ|70=>319|3=>3|0=>0|72=>321|37=>264|5=>5|n=>n,λ|n=>n⟩
def Tryz.lays170:Go.Proofs.Lays.n170 Q Tryz.lays170_ren:={
 mixed:=by kernel_rfl
 f170:=Tryz.func247.trans (K J (by kernel_rfl))
 t0:=c
 a0:=Z6
 z0:=s
 v0:=g
 t3:=b
 a3:=Z3
 z3:=q
 v3:=f
 t37:=O
 a37:=j
 z37:=h
 v37:=a
 t70:=i
 a70:=Tryz.isAgg319
 z70:=K7
 v70:=Y
 t72:=p
 a72:=Tryz.isAgg321
 z72:=K6
 v72:=F}
def Tryz.lays169_ren:Go.Shelf.Ren:=⟨λ|169=>191|n=>n,λ|70=>319|9=>9|0=>0|72=>321|37=>264|127=>403|3=>3|5=>5|n=>n,λ|n=>n⟩
def Tryz.lays169:Go.Proofs.Lays.n169 Q Tryz.lays169_ren:={
 mixed:=by kernel_rfl
 f169:=Tryz.func191.trans (K J (by kernel_rfl))
 t0:=c
 a0:=Z6
 z0:=s
 v0:=g
 t3:=b
 a3:=Z3
 z3:=q
 v3:=f
 t9:=W
 a9:=Tryz.isAgg9
 z9:=Tryz.sizeOf9
 v9:=K3
 t37:=O
 a37:=j
 z37:=h
 v37:=a
 t70:=i
 a70:=Tryz.isAgg319
 z70:=K7
 v70:=Y
 t72:=p
 a72:=Tryz.isAgg321
 z72:=K6
 v72:=F
 t127:=n
 a127:=J2
 z127:=K5
 v127:=E}
def Tryz.Builder_Extra_169:Builder.Extra Q Tryz.lays169_ren:={
 sizeBuilder:=by kernel_rfl
 liesBuilder:=by kernel_rfl
 t5:=Z2
 a5:=Tryz.isAgg5
 z5:=Tryz.sizeOf5
 v5:=K4
 infoByte:=by kernel_rfl
 cellsByte:=by kernel_rfl
 sizeByte:=by kernel_rfl
 neB5:=by decide}
open Go.RowKit
def aws:(Tryz.prog.info? 321).map (λi=>i.size)=J 2:=by kernel_rfl
def infoByte:(Tryz.prog.info? 5).map (λi=>(i.zero,i.size,i.bytes))=J (J (.int .u8 0),1,1):=by kernel_rfl
def azi:liesAt Q Tryz.prog.depth 321 (2/Tryz.prog.cellsOf 321) 0 321 1=eT:=by kernel_rfl
def abh (b:D) (w:R) (c:w.cell? ⟨b,0,U⟩=J (.pointer (J ⟨b,0,U⟩))):
  V Q 267 #[.pointer (J ⟨b,0,U⟩)] w λe a=>e=.returned (.tuple #[])/\w=a:=by
 obtain⟨j,hj,_⟩:=Option.map_eq_some_iff.1 aws;have d:=Lib.run_neq_ptr_same (P:=Q) w (⟨b,0,U⟩) i hj
 go_enter v,J0
 go_wp2
 go_end0
 exact⟨w8,w8⟩
def PU (b:D) (w:R) (g:w.cell? ⟨b,0,U⟩=J (.pointer U)) (a:w.shape? b=J (321,2)) (d:w.frozen? ⟨b,0,U⟩=eF):
  V Q 267 #[.pointer (J ⟨b,0,U⟩)] w λe f=>e=.returned (.tuple #[])/\f=w.setCell ⟨b,0,U⟩ (.pointer (J ⟨b,0,U⟩)):=by
 obtain⟨j,hj,c⟩:=Option.map_eq_some_iff.1 aws;have h:=Lib.run_to_unsafe (P:=Q) w ⟨b,0,U⟩ i k hj (by rw[c];decide) a (Nat.zero_lt_succ 1);have h2:=Lib.run_from_unsafe (P:=Q) w ⟨b,0,U⟩ k i hj a azi;have h3:(callFunc 303 #[.pointer (J ⟨b,0,U⟩)]).run Q w=.ok (Next.value (.pointer (J ⟨b,0,U⟩))) w:=by rw[x Tryz.func303 (by kernel_rfl) (by kernel_rfl) (by kernel_rfl) (e:=Extern.AbiNoEscape.same) (by kernel_rfl),Lib.run_noEscape];rfl
 go_enter v,J0
 go_wp2
 go_end0
 exact⟨w8,w8⟩
open Go.Ev Go.RowKit Go.Shelf
def aql:JR Q 267:=⟨_,v,by decide,w8⟩
def ai5:JR Q 191:=⟨_,Tryz.func191,by decide,w8⟩
def ZM(args:LA)(O:St):e (AV×St):=
 match args with
 |[.da o 0]=>match O[o]? with
  |J (.cP [.ep,b] ⟨eF,J (321,eT)⟩)=>J (.dT,O.set o (.cP [.da o 0,b] ⟨eF,J (321,eT)⟩))|J (.cP (.da p 0::l) a)=>match H o p with|eT=>J (.dT,O)|eF=>U
  |_=>U
 |_=>U
def agA{C:Ctx}(k:C.P=Q):POK C 267 ZM:=by
 intro args O v G h g w n A m I;unfold ZM at h;split at h
 ·rename_i o;cases A with
  |cV _ v1 _ l1 x y=>
   cases y;cases x with
   |da _ _ D=>
    split at h
    ·rename_i b hb;simp at h;obtain⟨rfl,rfl⟩:=h;obtain⟨c,e,fr,j,h2,h3,h4,h5,h6⟩:=m.bA o _ hb;obtain⟨B,E⟩:=h5.2 _ _ w8;obtain⟨u,t,hr⟩:=h4 0 .ep w8;cases hr;have a:w.cell? ⟨g.ob o,0,U⟩=J (.pointer U):=by rw[cell_of_heap j];exact t
     have s:c.size=2:=E w8;have q:=anX (P:=C.P) m hb (off:=0) (.da o 0 D) (by simp) w8;refine FV (by rw[k];exact aql) ?_;rw[k];exact(PU (g.ob o) w a (by simp[World.shape?,j,s,B]) (by rw[World.frozen?,j,h5.1];rfl)).mono λe F ⟨d,i⟩=>⟨_,d,g,by rw[i];exact q,.de _ _ .db⟩
    ·rename_i p l H hb;split at h
     ·rename_i f;have f:=a95 f;subst f;simp at h;obtain⟨rfl,rfl⟩:=h;obtain⟨c,e,fr,j,h2,h3,h4,h5,h6⟩:=m.bA o _ hb;obtain⟨u,t,hr⟩:=h4 0 (.da o 0) w8;cases hr;have a:w.cell? ⟨g.ob o,0,U⟩=J (.pointer (J ⟨g.ob o,0,U⟩)):=by rw[cell_of_heap j];exact t
      refine FV (by rw[k];exact aql) ?_;rw[k];exact(abh (g.ob o) w a).mono λe F ⟨d,i⟩=>⟨_,d,g,by rw[<-i];exact .ax m,.de _ _ .db⟩
     ·cases h
    ·cases h
 ·cases h
section
variable{P:Program}{ρ:Ren}
set_option maxHeartbeats 1000000 in
def ah5 (L:Lays.n169 P ρ) (X:Builder.Extra P ρ) (b g cap:Nat) (p:K2) (a:Array K2) (l:LU) (w:World) (f:w.heap[b]?=J (.cells #[p,.slice (J ⟨g,0,U⟩) (z l) cap] (ρ.t 72) (0,0))) (q:w.heap[g]?=J (.cells a (ρ.t 5) (0,0)))
  (o:l≠[]) (k:z l<=cap) (i:z l<=a.size) (h:z l<=1099511627776) (c:∀(j:Nat) (x:j8),l[j]?=J x->a[j]?=J (Value.int .u8 x.toNat)):
  Calls P (ρ.f 169) #[.pointer (J ⟨b,0,U⟩)] w λe M=>e=.returned (.string ⟨l.toArray⟩)/\M=w.drew.freeze ⟨g,0,U⟩ (z l):=by
 have C:z l≠0:=by simpa using o
 have R:w.drew.cell? ⟨b,1,U⟩=J (.slice (J ⟨g,0,U⟩) (z l) cap):=by have:w.drew.heap[b]?=J (.cells #[p,.slice (J ⟨g,0,U⟩) (z l) cap] (ρ.t 72) (0,0)):=f;rw[k9 this];rfl
 have y:(Builtin.unsafeSliceData_ #[(ρ.t 37)] (ρ.t 127) #[.slice (J ⟨g,0,U⟩) (z l) cap]).run P w.drew=.ok (.pointer (J ⟨g,0,U⟩)) w.drew:=
  Lib.run_unsafeSliceData_row _ _ _ _ _ _ (by omega)
 have A:(Builtin.unsafeString_ #[(ρ.t 127),(ρ.t 3)] (ρ.t 9) #[.pointer (J ⟨g,0,U⟩),.int r (z l)]).run P w.drew=.ok (.string ⟨l.toArray⟩) (w.drew.freeze ⟨g,0,U⟩ (z l)):=by
  refine Lib.run_unsafeString_row w.drew (ρ.t 127) (ρ.t 3) (ρ.t 9) (ρ.t 5) L.t127 X.cellsByte g a.size (by have d:w.drew.heap[g]?=J (.cells a (ρ.t 5) (0,0)):=q;simp[World.shape?,d]) l o (by omega) (by omega) ?_;intro j x D;have d:w.drew.heap[g]?=J (.cells a (ρ.t 5) (0,0)):=q;have B:(⟨g,0,U⟩:Addr).add j=⟨g,0+j,U⟩:=by unfold Addr.add;split<;>simp_all
  rw[B,k9 d,aC4];exact c j x D
 clear c h i k;have m:=L.mixed;have G:=L.t72;have a72:=L.a72;have Q:=L.z72;have v72:=L.v72;have K:=j6 L.t72;have F:=L.t70;have a70:=L.a70;have O:=L.z70;have v70:=L.v70;have I:=j6 L.t70;have E:=L.t37;have a37:=L.a37;have N:=L.z37;have v37:=L.v37;have H:=j6 L.t37;have s:=L.t127;have n:=L.a127;have v:=L.z127;have u:=L.v127;have t:=j6 L.t127;have t3:=L.t3;have a3:=L.a3;have Y:=L.z3;have v3:=L.v3;have T:=j6 L.t3;have S:=L.t9;have a9:=L.a9;have Z:=L.z9;have v9:=L.v9;have W:=j6 L.t9;have t5:=X.t5;have a5:=X.a5;have z5:=X.z5;have v5:=X.v5;have V:=j6 X.t5
 go_enter L.f169,Body.n169_ntmps ρ
 go_wp2
 go_region_o
 all_goals (go_wp2;go_ret;exact⟨w8,w8⟩)
end
noncomputable def KU(args:LA)(O:St):e (AV×St):=
 match args with
 |[.da o 0]=>match O[o]? with
  |J (.cP [p,.cY] ⟨eF,J (321,eT)⟩)=>J (.cU [],O)
  |J (.cP [p,.dj ob 0 n 1] ⟨eF,J (321,eT)⟩)=>match O[ob]? with
   |J (.cP l ⟨eF,J (5,x)⟩)=>match PR l with
    |J (b::s)=>match H7 (H (z (b::s)) n) (Nat.ble (z (b::s)) 1099511627776)with|eT=>J (.cU (b::s),O.set ob .em)|eF=>U
    |_=>U
   |_=>U
  |_=>U
 |_=>U
def YB{C:Ctx}(G:C.P=Tryz.prog):POK C 191 KU:=by
 intro args O v O' h g w H ha B hg;unfold KU at h;split at h
 ·rename_i o;cases ha with
  |cV _ v1 _ l1 x y=>
   cases y;cases x with
   |da _ _ ho=>
    split at h
    ·rename_i p hb;simp at h;obtain⟨rfl,rfl⟩:=h;obtain⟨c,e,fr,F,h2,h3,h4,h5,h6⟩:=B.bA o _ hb;obtain⟨L,D⟩:=h5.2 _ _ w8;have f:=h5.1;obtain⟨E,m,hr0⟩:=h4 0 p w8;obtain⟨u1,q,hr1⟩:=h4 1 .cY w8;cases hr1;have k:c.size=2:=D w8;have K:c=#[E,.slice U 0 0]:=by
      apply X1;intro i
      match i with
      |0=>exact m|1=>exact q|i+2=>simp[k]
     subst K L f;refine FV (by rw[G];exact ai5) ?_;rw[G];exact(Any.Builder_String_nil Tryz.lays169 Tryz.Builder_Extra_169 w.heap.size (g.ob o) E w F).mono λe w2 ⟨d,t⟩=>⟨_,d,g,zY B t,.cU []⟩
    ·rename_i p ob n hb;split at h
     ·rename_i l x u;split at h
      ·rename_i b s I;split at h
       ·rename_i N;rw[ni,a02]at N;have P:=a95 N.1;have Q:=aD3 N.2;simp only[a07,aC2]at h;obtain⟨rfl,rfl⟩:=h;obtain⟨c,e,fr,F,h2,h3,h4,h5,h6⟩:=B.bA o _ hb;obtain⟨L,D⟩:=h5.2 _ _ w8;have f:=h5.1;obtain⟨E,m,hr0⟩:=h4 0 p w8;obtain⟨u1,q,hr1⟩:=h4 1 (.dj ob 0 n 1) w8;cases hr1 with
        |dj _ _ _ _ cap aa a R=>
        have k:c.size=2:=D w8;have K:c=#[E,.slice (J ⟨g.ob ob,0,U⟩) n cap]:=by
         apply X1;intro i
         match i with
         |0=>exact m|1=>exact q|i+2=>simp[k]
        subst K L f;obtain⟨T,e',Z,k1,k2,k3,k4,S,k6⟩:=B.bA ob _ u;obtain⟨M,ab⟩:=S.2 _ _ w8;have A:=S.1;subst M A;obtain⟨e1,e2⟩:=abf I;refine FV (by rw[G];exact ai5) ?_;rw[G];rw[<-P]at F a;refine(ah5 Tryz.lays169 Tryz.Builder_Extra_169 (g.ob o) (g.ob ob) cap E T (b::s) w F k1 (by simp) a (by omega) Q (λj x D=>?_)).mono λe w2 ⟨d,t⟩=>⟨_,d,g,?_,.cU (b::s)⟩;·obtain⟨v,hv,hr⟩:=k4 j _ (e2 j x D);cases hr;exact hv
        ·subst t;obtain⟨f1,V,W,X,Y⟩:=ai6 w.drew (g.ob ob) (z (b::s));exact anY B u f1 V W X Y
       ·cases h
      ·cases h
     ·cases h
    ·cases h
 ·cases h
def fxP{P:Program}{f:D}{a b:Func}(h:P.funcs[f]?=J a)(e:a=b:=by kernel_rfl):P.funcs[f]?=J b:=h.trans (K J e)
def Tryz.laysPI_ren:Go.Shelf.Ren:=⟨λ|174=>360|247=>373|245=>374|287=>380|279=>381|280=>382|281=>383|282=>384|321=>390|322=>391|316=>392|171=>177|205=>393|243=>244|246=>291|283=>320|284=>321|285=>322|286=>323|129=>257|317=>347|318=>348|319=>349|320=>350|337=>357|338=>358|n=>n,λ|9=>9|3=>3|2=>2|75=>323|85=>493|4=>4|167=>510|5=>5|53=>343|175=>511|46=>266|168=>513|37=>264|0=>0|210=>521|21=>21|127=>403|145=>527|143=>525|171=>467|173=>469|212=>486|51=>294|20=>20|213=>487|232=>505|233=>332|80=>270|n=>n,λ|15=>9|16=>10|17=>6|18=>7|19=>8|n=>n⟩
def Tryz.laysPI:Go.Proofs.LaysC.n174 Q Tryz.laysPI_ren:={
 mixed:=by kernel_rfl
 f129:=fxP Tryz.func257
 f171:=fxP Tryz.func177
 f174:=fxP Tryz.func360
 f205:=fxP Tryz.func393
 f243:=fxP Tryz.func244
 f245:=fxP Tryz.func374
 f246:=fxP Tryz.func291
 f247:=fxP Tryz.func373
 f279:=fxP Tryz.func381
 f280:=fxP Tryz.func382
 f281:=fxP Tryz.func383
 f282:=fxP Tryz.func384
 f283:=fxP Tryz.func320
 f284:=fxP Tryz.func321
 f285:=fxP Tryz.func322
 f286:=fxP Tryz.func323
 f287:=fxP Tryz.func380
 f316:=fxP Tryz.func392
 f317:=fxP Tryz.func347
 f318:=fxP Tryz.func348
 f319:=fxP Tryz.func349
 f320:=fxP Tryz.func350
 f321:=fxP Tryz.func390
 f322:=fxP Tryz.func391
 f337:=fxP Tryz.func357
 f338:=fxP Tryz.func358
 t0:=c
 a0:=Z6
 z0:=s
 v0:=g
 t2:=Tryz.underlying2
 a2:=Tryz.isAgg2
 z2:=Tryz.sizeOf2
 v2:=Tryz.zeroValue2
 t3:=b
 a3:=Z3
 z3:=q
 v3:=f
 t4:=Tryz.underlying4
 a4:=Tryz.isAgg4
 z4:=Tryz.sizeOf4
 v4:=Tryz.zeroValue4
 t5:=Z2
 a5:=Tryz.isAgg5
 z5:=Tryz.sizeOf5
 v5:=K4
 t9:=W
 a9:=Tryz.isAgg9
 z9:=Tryz.sizeOf9
 v9:=K3
 t20:=Tryz.underlying20
 a20:=Tryz.isAgg20
 z20:=Tryz.sizeOf20
 v20:=Tryz.zeroValue20
 t21:=Tryz.underlying21
 a21:=Tryz.isAgg21
 z21:=Tryz.sizeOf21
 v21:=Tryz.zeroValue21
 t37:=O
 a37:=j
 z37:=h
 v37:=a
 t46:=Tryz.underlying266
 a46:=Tryz.isAgg266
 z46:=Tryz.sizeOf266
 v46:=Tryz.zeroValue266
 t51:=Tryz.underlying294
 a51:=Tryz.isAgg294
 z51:=Tryz.sizeOf294
 v51:=Tryz.zeroValue294
 t53:=Tryz.underlying343
 a53:=Tryz.isAgg343
 z53:=Tryz.sizeOf343
 v53:=Tryz.zeroValue343
 t75:=Tryz.underlying323
 a75:=Tryz.isAgg323
 z75:=Tryz.sizeOf323
 v75:=Tryz.zeroValue323
 t85:=Tryz.underlying493
 a85:=Tryz.isAgg493
 z85:=Tryz.sizeOf493
 v85:=Tryz.zeroValue493
 t127:=n
 a127:=J2
 z127:=K5
 v127:=E
 t143:=Tryz.underlying525
 a143:=Tryz.isAgg525
 z143:=Tryz.sizeOf525
 v143:=Tryz.zeroValue525
 t145:=Tryz.underlying527
 a145:=Tryz.isAgg527
 z145:=Tryz.sizeOf527
 v145:=Tryz.zeroValue527
 t167:=Tryz.underlying510
 a167:=Tryz.isAgg510
 z167:=Tryz.sizeOf510
 v167:=Tryz.zeroValue510
 t168:=Tryz.underlying513
 a168:=Tryz.isAgg513
 z168:=Tryz.sizeOf513
 v168:=Tryz.zeroValue513
 t171:=Tryz.underlying467
 a171:=Tryz.isAgg467
 z171:=Tryz.sizeOf467
 v171:=Tryz.zeroValue467
 t173:=Tryz.underlying469
 a173:=Tryz.isAgg469
 z173:=Tryz.sizeOf469
 v173:=Tryz.zeroValue469
 t175:=Tryz.underlying511
 a175:=Tryz.isAgg511
 z175:=Tryz.sizeOf511
 v175:=Tryz.zeroValue511
 t210:=Tryz.underlying521
 a210:=Tryz.isAgg521
 z210:=Tryz.sizeOf521
 v210:=Tryz.zeroValue521
 t212:=Tryz.underlying486
 a212:=Tryz.isAgg486
 z212:=Tryz.sizeOf486
 v212:=Tryz.zeroValue486
 t213:=Tryz.underlying487
 a213:=Tryz.isAgg487
 z213:=Tryz.sizeOf487
 t232:=Tryz.underlying505
 a232:=Tryz.isAgg505
 z232:=Tryz.sizeOf505
 v232:=Tryz.zeroValue505
 t233:=Tryz.underlying332
 a233:=Tryz.isAgg332
 z233:=Tryz.sizeOf332
 v233:=Tryz.zeroValue332
 g15:=by kernel_rfl
 g16:=by kernel_rfl
 g17:=by kernel_rfl
 g18:=by kernel_rfl
 g19:=by kernel_rfl
 t80:=Tryz.underlying270
 a80:=Tryz.isAgg270
 z80:=Tryz.sizeOf270
 v80:=Tryz.zeroValue270
 i0:=by kernel_rfl
 i2:=by kernel_rfl
 i3:=by kernel_rfl
 i4:=by kernel_rfl
 i5:=by kernel_rfl
 i9:=by kernel_rfl
 i20:=by kernel_rfl
 i21:=by kernel_rfl
 i37:=by kernel_rfl
 i46:=by kernel_rfl
 i51:=by kernel_rfl
 i53:=by kernel_rfl
 i75:=by kernel_rfl
 i80:=by kernel_rfl
 i85:=by kernel_rfl
 i127:=by kernel_rfl
 i143:=by kernel_rfl
 i145:=by kernel_rfl
 i167:=by kernel_rfl
 i168:=by kernel_rfl
 i171:=by kernel_rfl
 i173:=by kernel_rfl
 i175:=by kernel_rfl
 i210:=by kernel_rfl
 i212:=by kernel_rfl
 i232:=by kernel_rfl
 i233:=by kernel_rfl
 m15:=by kernel_rfl
 m16:=by kernel_rfl
 m17:=by kernel_rfl
 m18:=by kernel_rfl
 m19:=by kernel_rfl
 c0:=by kernel_rfl
 c2:=by kernel_rfl
 c3:=by kernel_rfl
 c4:=by kernel_rfl
 c5:=by kernel_rfl
 c9:=by kernel_rfl
 c20:=by kernel_rfl
 c21:=by kernel_rfl
 c37:=by kernel_rfl
 c46:=by kernel_rfl
 c51:=by kernel_rfl
 c53:=by kernel_rfl
 c75:=by kernel_rfl
 c80:=by kernel_rfl
 c85:=by kernel_rfl
 c127:=by kernel_rfl
 c143:=by kernel_rfl
 c145:=by kernel_rfl
 c167:=by kernel_rfl
 c168:=by kernel_rfl
 c171:=by kernel_rfl
 c173:=by kernel_rfl
 c175:=by kernel_rfl
 c210:=by kernel_rfl
 c212:=by kernel_rfl
 c213:=by kernel_rfl
 c232:=by kernel_rfl
 c233:=by kernel_rfl}
def amm:JR Q 360:=⟨_,Tryz.func360,by decide,w8⟩
noncomputable def aoq(args:LA)(O:St):e (AV×St):=
 match args with
 |[.cU s,.cQ r a,.cQ r b]=>if a=10/\b=64/\z s<=1099511627776 then match N 64 s with
  |.ok v=>J (.de [.cQ r v,.eb],O)|.range=>J (.de [.cQ r (Lib.intSat 64 s),.dx 513 (.ec [])],O)|_=>J (.de [.cQ r 0,.dx 513 (.ec [])],O)
  else U
 |_=>U
def axt:AV->Bool|.dx _ _=>eT|_=>eF
def amw{C:Ctx}{g:Gh}{w:R}{O:St}(f:WR g w O)(d:GL C g){n:D}{e:AV}(h:C.gl n=J [e])(hi:axt e=eT):∃b,w.cell? ⟨n,0,U⟩=J b/\(b=.nilIface\/∃k j,b=.iface k j):=by obtain⟨v,c,h2⟩:=(d.1 n _ h).1.cd (i:=0) (a:=e) w8;refine⟨v,f.im _ _ _ c,?_⟩;cases h2<;>first|(cases hi;done)|exact .inr ⟨_,_,w8⟩
def axP{C:Ctx}(o:C.P=Q){e1 e2:AV}(y:C.gl mM=J [e1])(h2:C.gl kQ=J [e2])(i1:axt e1=eT)(i2:axt e2=eT):POK C 360 aoq:=by
 intro args O v G h g w j A i p;unfold aoq at h;split at h
 ·rename_i s a b;split at h
  ·rename_i B;obtain⟨rfl,rfl,H⟩:=B;cases A with
   |cV _ v1 _ l1 x1 D=>
   cases D with
   |cV _ v2 _ l2 x2 E=>
   cases E with
   |cV _ v3 _ l3 x3 F=>
   cases F;cases x1;cases x2;cases x3;have c:(⟨⟨s⟩⟩:j0).size=s.length:=w8;obtain⟨k,u,d1⟩:=amw i p y i1;obtain⟨l,x,d2⟩:=amw i p h2 i2;refine FV (by rw[o];exact amm) ?_;rw[o];cases d:N 64 s
   ·rename_i z;rw[d]at h;cases h;refine(Any.strconv_ParseInt_10_at64_ok Tryz.laysPI ⟨⟨s⟩⟩ (by rw[c];omega) z d w).mono λe q ⟨f,m⟩=>⟨_,f,g,?_,.de _ _ (.cV _ _ _ _ (.cQ _ _) (.cV _ _ _ _ .eb .db))⟩;refine zY i ?_;rcases m with rfl|⟨t,rfl⟩;·exact j7 _ _
    ·exact L _ _ _
   ·rw[d]at h;cases h;exact(Any.strconv_ParseInt_10_at64_syntax Tryz.laysPI ⟨⟨s⟩⟩ (by rw[c];omega) d l w x d2).mono λe q ⟨n,f,_,_,hb⟩=>⟨_,f,g,zY i hb,.de _ _ (.cV _ _ _ _ (.cQ _ _) (.cV _ _ _ _ (.dx _ _ _ (.ec _ _ _ (.db _ _))) .db))⟩
   ·rw[d]at h;cases h;exact(Any.strconv_ParseInt_10_at64_range Tryz.laysPI ⟨⟨s⟩⟩ (by rw[c];omega) d k w u d1).mono λe q ⟨n,f,_,_,hb⟩=>⟨_,f,g,zY i hb,.de _ _ (.cV _ _ _ _ (.cQ _ _) (.cV _ _ _ _ (.dx _ _ _ (.ec _ _ _ (.db _ _))) .db))⟩
  ·cases h
 ·cases h
noncomputable def arP(args:LA)(O:St):e (AV×St):=
 match args with
 |[.cU s,.cQ r (.ofNat a),.cQ r (.ofNat b)]=>match H7 (H7 (H a 10) (H b 64)) (Nat.ble (z s) 1000)with
  |eT=>match N 64 s with|.ok v=>J (.de [.cQ r v,.eb],O)|_=>U
  |eF=>U
 |_=>U
def auV{C:Ctx}(i:C.P=Q):POK C 360 arP:=by
 intro args O v q h g w d j l u;unfold arP at h;split at h
 ·rename_i s a b;split at h
  ·rename_i c;rw[ni,a02,ni,a02]at c;have e1:=a95 c.1.1;have e2:=a95 c.1.2;have x:=aD3 c.2;subst e1 e2;split at h
   ·rename_i z m;cases h;cases j with
    |cV _ v1 _ l1 x1 n=>
    cases n with
    |cV _ v2 _ l2 x2 o=>
    cases o with
    |cV _ v3 _ l3 x3 p=>
    cases p;cases x1;cases x2;cases x3;refine FV (by rw[i];exact amm) ?_;rw[i];refine(Any.strconv_ParseInt_10_at64_ok Tryz.laysPI ⟨⟨s⟩⟩ (by show s.length<=_;omega) z m w).mono λe y ⟨k,f⟩=>⟨_,k,g,?_,.de _ _ (.cV _ _ _ _ (.cQ _ _) (.cV _ _ _ _ .eb .db))⟩;refine zY l ?_;rcases f with rfl|⟨t,rfl⟩;·exact j7 _ _
    ·exact L _ _ _
   ·cases h
  ·cases h
 ·cases h
def at0(l:LU)(k:D):D:=(l.getD k 0).toNat
def Xc(s:j0)(p k:D):(s.get! (p+k)).toNat=at0 (s.data.toList.drop p) k:=by unfold at0;congr 1;rw[aD4,List.getElem?_drop,Array.getElem?_toList];show s.data[p+k]! =_;rw[getElem!_def];rfl
def ahK (s:j0) (p:D) (h:p<=s.size):Utf8.decode s p=
  K0 (z (s.data.toList.drop p)) (at0 (s.data.toList.drop p) 0) (at0 (s.data.toList.drop p) 1) (at0 (s.data.toList.drop p) 2) (at0 (s.data.toList.drop p) 3):=by
 rw[Lib.decode_at,<-Xc,<-Xc,<-Xc,<-Xc];have e:z (s.data.toList.drop p)=s.size-p:=by simp
 rw[e];rfl
def aa5(l:LU):D×D:=K0 (z l) (at0 l 0) (at0 l 1) (at0 l 2) (at0 l 3)
def awX(l:LU)(k:D):at0 l k<256:=UInt8.toNat_lt _
def abk(l:LU)(a:l≠[]):1<=(aa5 l).2/\(aa5 l).2<=z l/\(aa5 l).1<=1114111:=by
 have c:1<=z l:=Nat.pos_of_ne_zero (λh=>a (aB7 h));have b:=awX l 0;unfold aa5 K0;repeat' split
 all_goals simp only;omega
def badL(l:LU):Bool:=H (aa5 l).1 65533&& !List.isPrefixOf [239,191,189] l
def akE:D->LU->e D|0,l=>if l.isEmpty then J 0 else U|f+1,l=>if l.isEmpty then J 0 else if badL l then U else(akE f (l.drop (aa5 l).2)).map (· +1)
def Fj(l:LU):e D:=akE (z l) l
def Xq(f:D):akE f []=J 0:=by cases f<;>rfl
def ao9(f:D):∀(g:D) (l:LU),z l<=f->z l<=g->akE f l=akE g l:=by
 induction f with
 |zero=>intro g l hf a;obtain rfl:l=[]:=aB7 (by omega);rw[Xq,Xq]
 |succ f c=>
  intro g l hf a
  match l with
  |[]=>rw[Xq,Xq]
  |b::t=>
   cases g with
   |zero=>simp at a|succ g=>have d:=(abk (b::t) (by simp)).1;simp only[akE,w,aF3,if_false];rw[c g _ (by simp at hf⊢;omega) (by simp at a⊢;omega)]
def ar4:Fj []=J 0:=w8
def aoa(l:LU)(a:l≠[]):Fj l=if badL l then U else(Fj (l.drop (aa5 l).2)).map (· +1):=by
 match l with
 |[]=>exact absurd w8 a|b::t=>have c:=(abk (b::t) (by simp)).1;unfold Fj;rw[a94];simp only[akE,w,aF3,if_false];rw[ao9 (z t) _ _ (by simp;omega) (a09 _)]
def drop_cons(s:j0)(k:D)(h:k<s.size):s.data.toList.drop k≠[]:=by intro e;have:=K List.length e;simp at this;have:s.data.size=s.size:=w8;omega
def drop_end(s:j0)(k:D)(h:s.size<=k):s.data.toList.drop k=[]:=
 aC0 (by rw[aK5];exact h)
def aiZ{a b:Bool}(h:a=b):Ending.returned (.bool a)=.returned (.bool b):=by rw[h]
def hasPrefix (s p:j0) (w:R) (hs:s.size<=1099511627776) (d:p.size<=1099511627776):
  V Q 105 #[.string s,.string p] w λe c=>e=.returned (.bool (p.data.toList.isPrefixOf s.data.toList))/\w=c:=by
 have key:=Lib.hasPrefix_of_take s.data.toList p.data.toList;rw[<-Lib.size_eq,<-Lib.size_eq]at key;unfold Lib.hasPrefix at key;have a:=T key;clear key;by_cases h:p.size<=s.size
 ·have b:Hid (((s.extract 0 p.size).toList==p.toList)=p.data.toList.isPrefixOf s.data.toList):=by show _=_;rw[<-a.out,Lib.extract_toList,Lib.toList_data];simp[h]
  clear a
  go_enter Tryz.func105,J1
  go_wp2
  go_ret
  exact⟨aiZ b.out,w8⟩
 ·have b:Hid (eF=p.data.toList.isPrefixOf s.data.toList):=by show _=_;rw[<-a.out];simp[h]
  clear a
  go_enter Tryz.func105,J1
  go_wp2
  go_ret
  exact⟨aiZ b.out,w8⟩
def Xf (s p:j0) (b:Bool) (w:R) (hs:s.size<=1099511627776) (a:p.size<=1099511627776) (h:p.data.toList.isPrefixOf s.data.toList=b):
  V Q 105 #[.string s,.string p] w λe c=>e=.returned (.bool b)/\w=c:=by
 subst h;exact hasPrefix s p w hs a
def awJ(s:j0)(d:R)(nv:K2)(a b:K2)(c:R):Prop:=
 ∃(pos n:D),pos<=s.size/\n<=pos/\c=d.iter s pos/\nv=.int r n/\a=.int r 0/\b=.bool eF/\Fj s.data.toList=(Fj (s.data.toList.drop pos)).map (· +n)
def atU(s:j0)(w:R)(e:Ending)(a:R):Prop:=
 e=.returned (.tuple #[.int r ((Fj s.data.toList).getD 0:D),.bool (Fj s.data.toList).isSome])/\∃pos,a=w.iter s pos
def len_any (s:j0) (w:R) (hs:s.size<=1099511627776):
  V Q 66 #[.string s] w (atU s w):=by
 go_enter Tryz.func66,Tryz.ntmps66
 go_wp2_with fail
 go_loopw [4,2,3] (λn a b u=>awJ s w n a b u) (λ_ _ _ u=>s.size-u.iterPos w.heap.size)
 case atStart=>exact⟨0,0,by omega,by omega,w8,w8,w8,w8,by simp⟩
 case round=>
  obtain⟨pos,n,t,G,rfl,rfl,rfl,rfl,D⟩:=hrel;have i:=T D;clear D;by_cases A:pos<s.size
  ·have C:Utf8.decode s pos=aa5 (s.data.toList.drop pos):=ahK s pos t;have j:=drop_cons s pos A;have st:=aoa _ j;have B:=abk _ j;have q:(s.data.toList.drop pos).drop (aa5 (s.data.toList.drop pos)).2=s.data.toList.drop (pos+(aa5 (s.data.toList.drop pos)).2):=aK1 ..;have g:z (s.data.toList.drop pos)=s.size-pos:=(by simp);rw[q]at st;rw[g]at B;have o:=T (show badL (s.data.toList.drop pos)=(H (aa5 (s.data.toList.drop pos)).1 65533&& !List.isPrefixOf [239,191,189] (s.extract pos s.size).data.toList) by rw[Lib.extract_to_end];rfl)
   have p:=T st;generalize F:aa5 (s.data.toList.drop pos)=x at*;obtain⟨N,m⟩:=x;simp only at B;have y:∀l,(Instr.next (.pointer (J ⟨w.heap.size,0,U⟩)) eT l).run Q (w.iter s pos)=.ok (.tuple #[.bool eT,.int r pos,.int .i32 N]) (w.iter s (pos+m)):=
    λl=>by have:=run_next_any (P:=Q) w s pos l A;rw[C]at this;exact this
   clear st C q g j F;by_cases h5:N=65533
   ·subst h5;cases c:List.isPrefixOf [239,191,189] (s.extract pos s.size).data.toList with
    |true=>
     have v:=T c;have d:Hid (Fj s.data.toList=(Fj (s.data.toList.drop (pos+m))).map (· +(n+1))):=by show _=_;rw[i.out,p.out,o.out,c,K9 (by simp),Option.map_map];exact K (λf=>Option.map f (Fj _)) (funext λk=>by simp only[Function.comp];omega)
     clear i p o c
     go_wp2_with fail
     refine(Xf _ _ eT _ (by simp;omega) (by decide) v.out).mono ?_;rintro e u ⟨rfl,rfl⟩
     go_wp2_with fail
     go_roundw
     case rel=>exact⟨pos+m,n+1,by omega,by omega,w8,by go_num,w8,w8,d.out⟩
     case measure=>simp;omega
    |false=>
     have v:=T c;have d:Hid (Fj s.data.toList=U):=by show _=_;rw[i.out,p.out,o.out,c,if_pos (by simp)];rfl
     clear i p o c
     go_wp2_with fail
     refine(Xf _ _ eF _ (by simp;omega) (by decide) v.out).mono ?_;rintro e u ⟨rfl,rfl⟩
     go_wp2_with fail
     go_ret2
     refine⟨?_,_,w8⟩;rw[d.out];rfl
   ·have E:((N:I)==65533)=eF:=by simp;omega
    have d:Hid (Fj s.data.toList=(Fj (s.data.toList.drop (pos+m))).map (· +(n+1))):=by
     have hb:H N 65533=eF:=by rw[Bool.eq_false_iff];exactλh=>h5 (a95 h)
     show _=_;rw[i.out,p.out,o.out,hb,K9 (by simp),Option.map_map];exact K (λf=>Option.map f (Fj _)) (funext λk=>by simp only[Function.comp];omega)
    clear i p o h5
    go_wp2_with fail
    go_roundw
    case rel=>exact⟨pos+m,n+1,by omega,by omega,w8,by go_num,w8,w8,d.out⟩
    case measure=>simp;omega
  ·have y:∀l,(Instr.next (.pointer (J ⟨w.heap.size,0,U⟩)) eT l).run Q (w.iter s pos)=_:=λl=>run_next_end w s pos l A
   go_wp2_with fail
   go_ret2
   have e:=i.out;rw[drop_end s _ (by omega),ar4]at e;refine⟨?_,_,w8⟩;rw[e];simp
def akz(w:R)(s:j0)(pos:D):Below w.heap.size w (w.iter s pos):=(j7 _ _).alloc (a09 _) _
def aob (s:j0) (w:R) (hs:s.size<=1099511627776):
  V Q 66 #[.string s] w λe c=>e=.returned (.tuple #[.int r ((Fj s.data.toList).getD 0:D),.bool (Fj s.data.toList).isSome])/\Below w.heap.size w c:=
 (len_any s w hs).mono λ_ _ ⟨a,pos,b⟩=>⟨a,by rw[b];exact akz _ _ _⟩
open Go.Ev
def ayY:JR Q 66:=⟨_,Tryz.func66,by decide,w8⟩
def akU{C:Ctx}(a:C.P=Q):POK C 66 (Vb (λs=>.de [.cQ r ((Fj s).getD 0:D),.cW (Fj s).isSome])):=auZ (C:=C) (f:=66) (by rw[a];exact ayY) (λs=>.de [.cQ r ((Fj s).getD 0:D),.cW (Fj s).isSome]) (λs=>.tuple #[.int r ((Fj s).getD 0:D),.bool (Fj s).isSome])
 (λg s=>.de _ _ (.cV _ _ _ _ (.cQ _ _) (.cV _ _ _ _ (.cW _) .db))) (λs w hs=>by rw[a];exact aob s w hs)
open Go.RowKit Go.Shelf Go.Lib
def aua (B b:D) (bs:List K2) (w:R) (h:j9 321 5 B b bs w):
  V Q 267 #[.pointer (J ⟨b,0,U⟩)] w λe c=>e=.returned (.tuple #[])/\K8 321 5 B b (.pointer (J ⟨b,0,U⟩)) bs c/\Below B w c:=by
 rcases h with h|h;·exact(PU b w h.cell0 h.shape h.frozen0).mono λe c ⟨d,a⟩=>⟨d,by rw[a];exact h.used _,by rw[a];exact(j7 B w).setCell (p:=⟨b,0,U⟩) h.1 _⟩
 ·exact(abh b w h.cell0).mono λe c ⟨d,a⟩=>⟨d,by rw[<-a];exact h,by rw[<-a];exact j7 B _⟩
set_option maxHeartbeats 1000000 in
def Uz (B b:D) (bs:List K2) (s:j0) (w:R) (h:j9 321 5 B b bs w) (y:z bs+s.size<=1099511627776) (G:B<=w.heap.size):
  V Q 187 #[.pointer (J ⟨b,0,U⟩),.string s] w λe C=>e=.returned (.tuple #[.int r s.size,.nilIface])/\K8 321 5 B b (.pointer (J ⟨b,0,U⟩)) (bs++Lib.strCells s) C/\Below B w C:=by
 obtain⟨I,hi,t,u,x⟩:=info_parts infoByte
 go_enter Tryz.func187,Tryz.ntmps187
 go_wp2_with fail
 refine(aua B b bs _ h).mono ?_;rintro e l ⟨rfl,F,j⟩;obtain⟨hB,v,f,i,q⟩:=F;have L:l.cell? ⟨b,0,U⟩=J (.pointer (J ⟨b,0,U⟩)):=by rw[k9 f];rfl
 have M:l.cell? ⟨b,1,U⟩=J v:=by rw[k9 f];rfl
 go_wp2_with (at_builtin;refine Lib.wpList_append_own_stringF _ w8 _ _ 264 9 w8 B 5 I O W hi t u x _ _ _ w8 i s w8 ?c3 ?c4 ?c5 ?_)
 case c3=>unfold maxLen;omega
 case c4=>omega
 case c5=>have:=j.size;omega
 intro K m c a _;have o:b<l.heap.size:=by
  rcases aL0 b l.heap.size with n|n;·exact n
  ·simp[aI0 n]at f
 have d:m.heap[b]?=J (.cells #[.pointer (J ⟨b,0,U⟩),v] 321 (0,0)):=by rw[a.block b o (λe=>q e.symm)];exact f
 have d0:m.cell? ⟨b,0,U⟩=J (.pointer (J ⟨b,0,U⟩)):=by rw[k9 d];rfl
 have d1:m.cell? ⟨b,1,U⟩=J v:=by rw[k9 d];rfl
 have f1:m.frozen? ⟨b,1,U⟩=eF:=X d 1;obtain⟨ao,A,cap,rfl⟩:∃ao A cap,K=.slice ao A cap:=by
  rcases c.2 with⟨hv,_⟩|⟨g,cap,E,N,hv,_⟩;·exact⟨_,_,_,hv⟩
  ·exact⟨_,_,_,hv⟩
 go_wp2
 go_ret2
 refine⟨w8,?_,?_⟩;·exact Lib.BuilderAtF.put (T:=321) (e:=5) hB d (bs':=bs++Lib.strCells s) (by simpa[Lib.strCells_length]using c) (by decide)
 ·exact(j.grown a (by have:=j.size;omega) (λk H=>(i.lt k H).1)).setCell (p:=⟨b,1,U⟩) hB _
def adz(w:R)(o:Obj)(b i:D)(v:K2)(h:b<w.heap.size):(w.alloc o).setCell ⟨b,i,U⟩ v=(w.setCell ⟨b,i,U⟩ v).alloc o:=by
 have c:∀f,(w.heap.push o).modify b f=(w.heap.modify b f).push o:=λf=>by apply X1;intro k;rw[aJ9,l,l,aJ9,Array.size_modify];split<;>split<;>first|rfl|omega
 simp only[World.setCell,World.alloc,c]
def sizeByte:(Tryz.prog.info? 5).map (λi=>i.size)=J 1:=by kernel_rfl
set_option maxHeartbeats 2000000 in
def ako (B b n:D) (w:R) (hB:B<=b) (a:w.heap[b]?=J (.cells #[.pointer (J ⟨b,0,U⟩),.slice U 0 0] 321 (0,0))) (j:B<=w.heap.size) (u:n<=1099511627776):
  V Q 294 #[.pointer (J ⟨b,0,U⟩),.int r n] w λe o=>e=.returned (.tuple #[])/\(y 321 5 B b (.pointer (J ⟨b,0,U⟩)) [] o/\Below B w o):=by
 obtain⟨cs,h,p,g⟩:=Lib.run_makeNoZero (P:=Q) w.drew #[3] 264 5 O n (by omega);have m:IntKind.i64.wrap (IntKind.i64.wrap 0+(n:I))=n:=by rw[IntKind.wrap_i64,IntKind.wrap_i64];omega
 have k:(callFunc 324 #[.int r (IntKind.i64.wrap (IntKind.i64.wrap 0+(n:I)))]).run Q w.drew=.ok (.value (.slice (J ⟨w.drew.heap.size,0,U⟩) n cs.size)) (w.drew.drew.drew.alloc (.cells cs 5)):=by rw[m,x Tryz.func324 (by kernel_rfl) (by kernel_rfl) (by kernel_rfl) (e:=Extern.BytealgMakeNoZero.makeNoZero #[3] #[264]) (by kernel_rfl),h];rfl
 have f:b<w.heap.size:=by
  rcases aL0 b w.heap.size with i|i;·exact i
  ·simp[aI0 i]at a
 have q:w.drew.cell? ⟨b,1,U⟩=J (.slice U 0 0):=by have:w.drew.heap[b]?=_:=a;rw[k9 this];rfl
 have s:(w.alloc (.cells cs 5)).cell? ⟨b,1,U⟩=J (.slice U 0 0):=by have:(w.alloc (.cells cs 5)).heap[b]?=_:=(Lib.alloc_old w _ b f).trans a;rw[k9 this];rfl
 have t:(w.alloc (.cells cs 5)).frozen? ⟨b,1,U⟩=eF:=X ((Lib.alloc_old w _ b f).trans a) 1;have l:∀W:R,(Builtin.copy_ #[264,264] 3 #[.slice (J ⟨w.heap.size,0,U⟩) 0 cs.size,.slice U 0 0]).run Q W=.ok (goInt 0) W:=
  λW=>run_copy_none W 264 264 3 5 _ _ 0 cs.size 0 0 O Tryz.Builder_Extra_169.sizeByte w8
 clear m;have c:=Lib.grown_fresh (T:=321) (e:=5) (cs:=cs) hB a j (g (by unfold maxLen;omega)) (by decide)
 go_enter Tryz.func294,Tryz.ntmps294
 have d:∀v,(w.alloc (.cells cs 5)).setCell ⟨b,1,U⟩ v=(w.setCell ⟨b,1,U⟩ v).alloc (.cells cs 5):=λv=>adz w _ b 1 v f;rw[d]at c
 go_wp2
 go_region
 all_goals (go_wp2;go_end0;exact⟨w8,c⟩)
set_option maxHeartbeats 2000000 in
def ajI (B b n:D) (w:R) (hB:B<=b) (c:w.heap[b]?=J (.cells #[.pointer U,.slice U 0 0] 321 (0,0))) (g:B<=w.heap.size) (l:n<=1099511627776):
  V Q 246 #[.pointer (J ⟨b,0,U⟩),.int r n] w λe f=>e=.returned (.tuple #[])/\(y 321 5 B b (.pointer (J ⟨b,0,U⟩)) [] f/\Below B w f):=by
 have a:(w.setCell ⟨b,0,U⟩ (.pointer (J ⟨b,0,U⟩))).heap[b]?=J (.cells #[.pointer (J ⟨b,0,U⟩),.slice U 0 0] 321 (0,0)):=by simp[World.setCell,aJ9,c]
 have h:(w.setCell ⟨b,0,U⟩ (.pointer (J ⟨b,0,U⟩))).cell? ⟨b,1,U⟩=J (.slice U 0 0):=by rw[k9 a];rfl
 have d:Below B w (w.setCell ⟨b,0,U⟩ (.pointer (J ⟨b,0,U⟩))):=(j7 B w).setCell (p:=⟨b,0,U⟩) hB _;have k:y 321 5 B b (.pointer (J ⟨b,0,U⟩)) [] (w.setCell ⟨b,0,U⟩ (.pointer (J ⟨b,0,U⟩))):=⟨hB,.slice U 0 0,a,World.ownsRow_nil _ _ _ _,by simp[Value.ownBlock]⟩;have i:(w.setCell ⟨b,0,U⟩ (.pointer (J ⟨b,0,U⟩))).drew.cell? ⟨b,1,U⟩=J (.slice U 0 0):=h;have m:¬((n:I)<0):=by omega
 go_enter Tryz.func246,Tryz.ntmps246
 go_wp2_with (refine(PU b w (by rw[k9 c];rfl) (by simp[World.shape?,c]) (X c 0)).mono ?_;rintro e f ⟨rfl,rfl⟩)
 go_region
 all_goals go_wp2_with (refine(ako B b n (w.setCell ⟨b,0,U⟩ (.pointer (J ⟨b,0,U⟩))).drew hB a (by simpa[World.setCell,World.drew,-World.drew_eq]using g) l).mono ?_;rintro e f ⟨rfl,j,h2⟩)
 all_goals first
  |(go_end0;exact⟨w8,j,d.drew.trans h2⟩)|(go_end0;exact⟨w8,k.drew,d.drew⟩)
open Go.RowKit Go.Shelf Go.Lib Go.Ev
def arv(c:D)(f:e (AV×St)):Bool:=
 match f with
 |J (.de [.cQ .u64 (.ofNat 0),.cQ .u64 (.ofNat d)],[])=>H d c|_=>eF
def arw{c:D}{f:e (AV×St)}(h:arv c f=eT):f=J (.de [.cQ .u64 (0:D),.cQ .u64 (c:D)],[]):=by
 unfold arv at h;split at h;·rename_i d;have:=a95 h;subst this;rfl
 ·cases h
def axE:(List.range 64).all (λc=>arv c (evF (ja Q (λ_=>U) (λ_=>eF) (λ_=>U)) 100 245 [.cQ .u64 1,.cQ .u64 (Int.ofNat c)] []))=eT:=by kernel_rfl
def ayZ:JR Q 245:=⟨_,Tryz.func245,by decide,w8⟩
def CV:Tryz.prog.follows .mixedOrders=eT:=by kernel_rfl
def bits_Mul(c:D)(d:c<64)(w:R):V Q 245 #[.int .u64 1,.int .u64 c] w λe f=>e=.returned (.tuple #[.int .u64 0,.int .u64 c])/\Below w.heap.size w f:=by
 have h:=arw (aB0.mp axE c (aG6.mpr d));exact ahD CV ayZ h w [.int .u64 1,.int .u64 c] _ (λg=>.cV _ _ _ _ (.cQ _ _) (.cV _ _ _ _ (.cQ _ _) .db)) (λg v2 hv=>by
  cases hv with
  |de l i hs=>
   cases hs with
   |cV _ _ _ _ a b=>
    cases a;cases b with
    |cV _ _ _ _ a b=>
     cases a;cases b;rfl)
set_option maxHeartbeats 4000000 in
def aiU (c:Nat) (w:World) (P:2<=c) (O:c<64):
  Calls Tryz.prog 178 #[.string ⟨#[0]⟩,.int r c] w λe F=>e=.returned (.string ⟨(w9 c (0:j8)).toArray⟩)/\Below w.heap.size w F:=by
 have f:=bits_Mul c O w;have Z:¬((c:Int)=0):=by omega
 have k1:¬((c:Int)=1):=by omega
 have k2:¬((c:Int)<0):=by omega
 have k3:¬((c:Int)>9223372036854775807):=by omega
 have k4:¬((c:Int)>8192):=by omega
 have wu:IntKind.u64.wrap (c:Int)=c:=by unfold IntKind.wrap;simp[IntKind.signed,IntKind.bits];omega
 have wi:IntKind.i64.wrap (c:Int)=c:=by rw[IntKind.wrap_i64];omega
 go_enter Z0,Z1
 go_wp2_with (refine f.mono ?_;rintro e a ⟨rfl,h⟩)
 have b0:Below w.heap.size w (a.alloc (.cells #[.pointer U,.slice U 0 0] 321)):=h.alloc h.size _;refine(ajI a.heap.size a.heap.size c (a.alloc (.cells #[.pointer U,.slice U 0 0] 321)) (a09 _) (heap_alloc_new a _) ((j7 a.heap.size a).alloc (a09 _) _).size (by omega)).mono ?_;rintro e H ⟨rfl,L,b1⟩;have hB0:=h.size;have hB1:a.heap.size<=H.heap.size:=aF2 ((j7 a.heap.size a).alloc (a09 _) _).size b1.size
 go_wp2_with (refine(Uz a.heap.size a.heap.size [] ⟨#[0]⟩ H (Lib.IsBuilderF.of (Or.inr L)) (by simp[ByteArray.size]) hB1).mono ?_;rintro e s ⟨rfl,h2,v⟩)
 have y:j9 321 5 a.heap.size a.heap.size (X2 (w9 1 0)) s:=Or.inr h2;have u:Below w.heap.size w s:=b0.trans ((b1.mono hB0).trans (v.mono hB0));have D:a.heap.size<=s.heap.size:=aF2 hB1 v.size;clear h2 L b0 b1 v f
 go_loopg [] (c-1) (λg G=>∃q:Nat,1<=q/\q+g=c/\j9 321 5 a.heap.size a.heap.size (X2 (w9 q 0)) G/\Below w.heap.size w G/\a.heap.size<=G.heap.size)
 case atStart=>exact⟨1,a09 _,by omega,y,u,D⟩
 case round=>
  obtain⟨q,V,X,hB,l,i⟩:=hrel;have o:z (X2 (w9 q (0:j8)))=q:=(by simp[X2]);have b:=Any.Builder_Len_f Tryz.lays170 a.heap.size a.heap.size _ wr hB;rw[o]at b;have d:=Any.Builder_String_any_f Tryz.lays169 Tryz.Builder_Extra_169 a.heap.size a.heap.size (w9 q 0) wr hB i;obtain⟨S,p⟩:∃S:j0,(⟨(w9 q (0:j8)).toArray⟩:j0)=S:=⟨_,w8⟩;have N:S.size=q:=by rw[<-p];simp[ByteArray.size]
  rw[p]at d;cases gk with
  |zero=>
   obtain rfl:q=c:=(by omega);have A:¬((q:Int)<(q:Int)):=by omega
   go_wp2_with (first
    |(refine b.mono ?_;rintro e F ⟨rfl,E⟩;rw[E])|(refine d.mono ?_;rintro e I ⟨rfl,h3,j⟩))
   go_ret
   exact⟨by rw[p]<;>rfl,l.trans (j.mono hB0)⟩
  |succ g=>
   have A:(q:Int)<(c:Int):=(by omega);obtain⟨k,Q⟩:∃k,k=min (c-q) q:=⟨_,w8⟩;have R:1<=k:=(by omega);have C:∀(M:Array TypeId) (t:TypeId) (W:World),(Builtin.min_ M t #[.int r ((c:Int)-(q:Int)),.int r (q:Int),.int r (c:Int)]).run Tryz.prog W=.ok (.int r (k:Int)) W:=λM t W=>by rw[run_min_int3];congr 2;omega
   have B:k<=q:=(by omega);have T:q+k<=c:=(by omega);clear Q
   go_wp2_with (first
    |(refine b.mono ?_;rintro e F ⟨rfl,E⟩;rw[E])|(refine d.mono ?_;rintro e I ⟨rfl,h3,j⟩))
   have m:(S.extract 0 k)=⟨(w9 k (0:j8)).toArray⟩:=by rw[<-p];apply ByteArray.ext;rw[ByteArray.data_extract];apply aG8;simp[aJ3 B]
   have n:(S.extract 0 k).size=k:=by rw[m];simp[ByteArray.size]
   have x:=Uz a.heap.size a.heap.size _ (S.extract 0 k) I h3 (by rw[o,n];omega) (aF2 i j.size)
   go_wp2_with (go_fit x;rintro e Y ⟨rfl,h4,K⟩)
   go_roundg (c-(q+k))
   case measure=>omega
   case rel=>refine⟨q+k,by omega,by omega,Or.inr ?_,l.trans ((j.mono hB0).trans (K.mono hB0)),aF2 i (aF2 j.size K.size)⟩;rw[Lib.strCells_eq,<-Lib.byteCells_append,m]at h4;rw[List.replicate_append_replicate.symm];exact h4
def al1 (c:D) (w:R) (a:c<64):
  V Q 178 #[.string ⟨#[0]⟩,.int r c] w λe b=>e=.returned (.string ⟨(w9 c (0:j8)).toArray⟩)/\Below w.heap.size w b:=by
 match c,a with
 |0,_=>
  go_enter Z0,Z1
  go_wp2
  go_ret
  exact⟨w8,j7 _ _⟩
 |1,_=>
  go_enter Z0,Z1
  go_wp2
  go_ret
  exact⟨w8,j7 _ _⟩
 |c+2,a=>exact aiU (c+2) w (by omega) a
def aqm:JR Q 178:=⟨_,Z0,by decide,w8⟩
def Et(args:LA)(O:St):e (AV×St):=
 match args with
 |[.cU s,.cQ r (.ofNat n)]=>match s with
  |[b]=>match H b.toNat 0 with
   |eT=>match Nat.blt n 64 with|eT=>J (.cU (w9 n 0),O)|eF=>U
   |eF=>U
  |_=>U
 |_=>U
def SH{C:Ctx}(i:C.P=Q):POK C 178 Et:=by
 intro args O v m h g w a j k o;unfold Et at h;split at h
 ·rename_i s n;split at h
  ·rename_i b;split at h
   ·rename_i hb;have hb:b=0:=aL8.mp (a95 hb);subst hb;split at h
    ·rename_i d;have d:n<64:=aD3 d;simp only[a07,aC2]at h;obtain⟨rfl,rfl⟩:=h;cases j with
     |cV _ v1 _ l1 x y=>
      cases y with
      |cV _ v2 _ l2 x2 l=>cases l;cases x;cases x2;refine FV (by rw[i];exact aqm) ?_;rw[i];exact(al1 n w d).mono λe p ⟨c,f⟩=>⟨_,c,g,zY k f,.cU _⟩
    ·cases h
   ·cases h
  ·cases h
 ·cases h
open Go.Ev Go.RowKit
noncomputable section
noncomputable def ints(k:IntKind)(l:List D):LA:=l.map λn=>.cQ k (.ofNat n)
noncomputable def glT(g:D):e LA:=
 match H g Ie with
 |eT=>J (t hexDigits)|eF=>match H g BH with|eT=>J (hI.map iw)|eF=>match H g yC with|eT=>J (kR.map iw)|eF=>match H g Gz with|eT=>J [.cU [114,111,111,116],.cU [115,110,97,112,115,104,111,116],.cU [116,97,114,103,101,116,115]]|eF=>match H g zu with|eT=>J (ints r [0,31,59,90,120,151,181,212,243,273,304,334,365])|eF=>match H g xx with|eT=>J (ints .u64 [1,10,100,1000,10000,100000,1000000,10000000,100000000,1000000000,10000000000,100000000000,1000000000000,10000000000000,100000000000000,1000000000000000,10000000000000000,100000000000000000,1000000000000000000,10000000000000000000])|eF=>U
noncomputable def ZO(f:K1):e (LA->St->e (AV×St)):=match H f tZ with|eT=>J Et|eF=>U
noncomputable def CC:Ctx:=ja Q glT (λ_=>eF) ZO
def mO:∀n l,CC.gl n=J l->ae 0 l=eT:=by
 intro n l h;change glT n=J l at h;unfold glT at h;repeat' split at h
 all_goals first
  |(cases h;done)|(simp only[a07]at h;subst h;kernel_rfl)
def atM:Yd CC:=by
 intro f h a;change ZO f=J h at a;unfold ZO at a;split at a;·rename_i hf;have:=a95 hf;subst this;cases a;exact SH (C:=CC) w8
 ·cases a
def afn:fZ CC (ai CC):=Iz CV (zx _ _ _ _) atM
noncomputable def CR:Ctx:=ja Q glT (λ_=>eT) (λ_=>U)
def ayD(n:D):fZ CR (evF CR n):=PX CV (zx _ _ _ _) (λf h a=>by simp[ja]at a) n
def SG{f:K1}(a:fG (evF CR 100 f [.cY] []) .cY=eT)(h2:fG (evF CR 100 f [.fS] []) (.eB 0 [])=eT):POK CC f Oi:=acv (C:=CR) (ayD 100) mO a h2
def ok0:Ok []:=w8
def U0{f:K1}{K:KF}(a:cF Q f=J K.ad:=by kernel_rfl)(h2:Tu Q f=eT:=by kernel_rfl)(h3:K.ok=eT:=by kernel_rfl)(b:ZO f=U:=by exact rfl):Has CC f K:=akr a h2 h3 b w8
def alc:UK CC where
 eM:=U0
 mf:=U0
 hL:=U0
 mB:=U0
 mK:=U0
 mh:=U0
 g3:=U0
 g4:=U0
 gr:=w8
 gi:=w8
 gd:=w8
 n5:=λn hn O=>by have hp:CC.eV tZ=J Et:=w8;rw[agR];unfold abR;rw[hp];have hb:Nat.blt n 64=eT:=aG5 hn;change Et [.cU [0],.cQ r (.ofNat n)] O=_;unfold Et;simp only[hb];rfl
def axC:afu CC where
 lV:=alc
 eG:=U0
 fv:=U0
 of:=U0
 n0:=U0
 n2:=U0
def axS:POK CC Fg (Vb λs=>.cU (wE s)):=acw afn mO _ λs hs=>Tc alc s hs [] ok0
def axQ:POK CC BC (amU λs t=>.cU (hmac s t)):=arZ afn mO _ λs t hs a=>ark axC s t (by omega) a [] ok0
def arT:POK CC PY (Vb λs=>.cW (s.all ac1)):=acw afn mO _ λs hs=>axl (U0) (U0) s hs []
def agB:POK CC Ib (Vb λs=>.cU (Bj s)):=acw afn mO _ λs hs=>hex_Encode alc.g4 w8 s hs [] ok0
def axO:POK CC xK auS:=auY λargs w=>by rw[show CC.P=Q from w8,x Tryz.func266 (by kernel_rfl) (by kernel_rfl) (by kernel_rfl) (e:=Extern.BytealgCompare.compare) (by kernel_rfl)]
noncomputable def azG(c:D)(d:e (AV×St)):Bool:=fG d (.cU (w9 c 48))
def av6:(List.range 5).all (λc=>azG c (evF (ja Q glT (λ_=>eF) (λ_=>U)) 1000 178 [.cU [48],.cQ r (Int.ofNat c)] []))=eT:=by kernel_rfl
noncomputable def arQ(args:LA)(O:St):e (AV×St):=
 match args with
 |[.cU [b],.cQ r (.ofNat n)]=>match H7 (H b.toNat 48) (Nat.ble n 4)with|eT=>J (.cU (w9 n 48),O)|eF=>U
 |_=>U
def auX:POK CC tZ arQ:=by
 intro args O v m h g w a e l j;unfold arQ at h;split at h
 ·rename_i b n;split at h;·rename_i hb;rw[ni,a02]at hb;have c:b=48:=aL8.mp (a95 hb.1);have d:n<5:=Nat.lt_succ_of_le (aD3 hb.2);subst c;simp only[a07,aC2]at h;obtain⟨rfl,rfl⟩:=h;have i:fZ (ja Q glT (λ_=>eF) (λ_=>U)) (evF (ja Q glT (λ_=>eF) (λ_=>U)) 1000):=PX CV (zx _ _ _ _) (λf h k=>by simp[ja]at k) 1000;exact sU i mO (by rfl) (KX (aB0.mp av6 n (aG6.mpr d))) e l j
  ·cases h
 ·cases h
end
variable{C:Ctx}
def nmG(b:C.P=Q){f:K1}(h:Tu Q f=eT):UJ C f:=by
 rw[<-b]at h;unfold Tu at h;split at h;·rename_i fn a;exact⟨fn,a,by simpa using h⟩
 ·cases h
def cT1:cTF Q sW=J FQ:=by kernel_rfl
def cT2:cTF Q vI=J zB:=by kernel_rfl
def cT3:cTF Q qK=J qG:=by kernel_rfl
def cT4:cTF Q jF=J kP:=by kernel_rfl
def apo(a:C.P=Q):awP C TT:=by
 intro f x h;rw[a];unfold TT at h;split at h;·rename_i hb;have:=a95 hb;subst this;cases h;exact⟨cT1,nmG a (by kernel_rfl)⟩
 ·split at h;·rename_i hb;have:=a95 hb;subst this;cases h;exact⟨cT2,nmG a (by kernel_rfl)⟩
  ·split at h;·rename_i hb;have:=a95 hb;subst this;cases h;exact⟨cT3,nmG a (by kernel_rfl)⟩
   ·split at h;·rename_i hb;have:=a95 hb;subst this;cases h;exact⟨cT4,nmG a (by kernel_rfl)⟩
    ·cases h
def cX1:cCF Q gQ=J gJ:=by kernel_rfl
def cX2:cCF Q xk=J kG:=by kernel_rfl
def cQ1:cKF Q Ef=J fC:=by kernel_rfl
def cQ2:cKF Q Jq=J iV:=by kernel_rfl
def amW(a:C.P=Q)(call:bY)(b:fZ C call):POK C gQ (C9 C call (sS C call TT 8) gJ fC):=
 aeU (by rw[a];exact CV) (apo a) 8 (by rw[a];exact cX1) (nmG a (by kernel_rfl)) (by rw[a];exact cQ1) (nmG a (by kernel_rfl)) call b
def amV(a:C.P=Q)(call:bY)(b:fZ C call):POK C xk (C9 C call (sS C call TT 8) kG iV):=
 aeU (by rw[a];exact CV) (apo a) 8 (by rw[a];exact cX2) (nmG a (by kernel_rfl)) (by rw[a];exact cQ2) (nmG a (by kernel_rfl)) call b
end Go.Proofs.YtaaomenfchndjaaGreatDoor
