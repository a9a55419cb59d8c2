/- Contracts. No conditions. -/
import Derived.Test.YtmbaofiahlcnhaaGreatDoorTA
import Derived.Shelf.Strings.Builder1
import Derived.Test.YtmbaofiahlcnhaaGreatDoorProg
import Derived.WalkKit
import Derived.WalkLawsBesides
import Derived.WalkSpells
import Derived.Lib.Hide
import Derived.Outline
import Derived.Test.YtmbaofiahlcnhaaGreatDoorEC
import Derived.Shelf.Strconv.ParseIntPublic10
import Derived.Test.YtmbaofiahlcnhaaGreatDoorCF
import Derived.Lib.DecodeN
import Derived.Laws.RangeAny
import Derived.Lib.Strings
import Derived.Lib.IndexBytes
import Derived.Below
import Derived.Shelf.Strings.Repeat
import Derived.KernelRfl
import Derived.Test.YtmbaofiahlcnhaaGreatDoorCD
set_option linter.unusedVariables false
set_option linter.unusedSimpArgs false
set_option linter.defProp false
namespace Go.Ev
open Option renaming some→J, none→U
open List renaming length→z
open Go.IntKind renaming i64→r
open Bool renaming true→eT, false→eF
set_option maxRecDepth 100000
variable{C:Ctx}
def u8_xor(b c:UInt8):IntKind.u8.wrap ((BitVec.ofInt IntKind.u8.bits (b.toNat:Int)^^^BitVec.ofInt IntKind.u8.bits (c.toNat:Int)).toNat:Int)=((b^^^c).toNat:Int):=by rw[avi .u8 rfl b.toNat c.toNat b.toNat_lt c.toNat_lt,UInt8.toNat_xor]
def aw7(a:Has C KH QO)(b:UInt8)(O:St):ai C KH [.cU .u8 (b.toNat:Int)] O=J (.cU .u8 ((b^^^54).toNat:Int),O):=by rw[a.cm];unfold Ey;have h:IntKind.u8.wrap ((BitVec.ofInt IntKind.u8.bits (b.toNat:Int)^^^BitVec.ofInt IntKind.u8.bits 54).toNat:Int)=((b^^^54).toNat:Int):=u8_xor b 54;simp only[QO,h,EVY,seval]
def aw8(a:Has C KI QP)(b:UInt8)(O:St):ai C KI [.cU .u8 (b.toNat:Int)] O=J (.cU .u8 ((b^^^92).toNat:Int),O):=by rw[a.cm];unfold Ey;have h:IntKind.u8.wrap ((BitVec.ofInt IntKind.u8.bits (b.toNat:Int)^^^BitVec.ofInt IntKind.u8.bits 92).toNat:Int)=((b^^^92).toNat:Int):=u8_xor b 92;simp only[QP,h,EVY,seval]
def NJ(c:UInt8):Nat->Nat->LU->LU|0,_,l=>l|n+1,i,l=>NJ c n (i+1) (l.set i (l.getD i 0^^^c))
def FB(c:UInt8):∀(n i:Nat) (l:LU),z (NJ c n i l)=z l|0,_,_=>rfl|n+1,i,l=>by unfold NJ;rw[FB c n,a96]
def bytes_at(l:LU)(i:Nat)(h:i<z l):((ofBytes l).drop i).head? =J (.cU .u8 ((l.getD i 0).toNat:Int)):=by unfold ofBytes;rw[aE6,aC6,a02 h,az8,a02 h];rfl
def TP (f:FuncId) (c:UInt8) (hf:∀(b:UInt8) (O:St),ai C f [.cU .u8 (b.toNat:Int)] O=J (.cU .u8 ((b^^^c).toNat:Int),O)) (O:St):
  ∀(n i:Nat) (l:LU),i+n=64->z l=64->
  aH C (ai C) 19 [1,2,6] rE [(1,.ea (.func f) [] []),(2,.c8 (z O) 0),(6,.cU r i)] (O++[.cH (ofBytes l) FZ])=
   J (.dq 0,[(2,.c8 (z O) 0)],O++[.cH (ofBytes (NJ c n i l)) FZ])
 |0,i,l,hi,a=>by rw[kF (he:=rfl)];have h:¬((i:Int)<64):=(by omega);simp only[rE,h,NJ,EVY,seval]
 |n+1,i,l,hi,a=>by
  rw[kF (he:=rfl)];generalize g:aH C (ai C) 19 [1,2,6] rE=d;have h:((i:Int)<64):=(by omega);have m:=wrS i (by omega);have k:∀j:Nat,(0:Int)<=(j:Int):=λj=>by omega
  have l5:i<64:=(by omega);have l6:i+1<=64:=(by omega);have a0:=bytes_at l i (by omega);have s1:=XT l i (l.getD i 0^^^c) (by omega);simp only[rE,h,m,k,l5,l6,a0,s1,hf,a,Ic,aI,mM,sH,a88,EVY,seval];rw[<-g];exact TP f c hf O n (i+1) _ (by omega) (by rw[a96,a])
def Xt (g:Has C Jc IY) (f:FuncId) (c:UInt8) (hf:∀(b:UInt8) (O:St),ai C f [.cU .u8 (b.toNat:Int)] O=J (.cU .u8 ((b^^^c).toNat:Int),O)) (O:St) (a:Ok O) (l:LU) (d:z l=64):
  ai C Jc [.da (ofBytes l),.ea (.func f) [] []] O=J (.cV (NJ c 64 0 l),O):=by
 rw[g.cm];unfold Ey;have h:∀(y) (l:LU),aZ O y (ofBytes l)=J (ofBytes l,[]):=by
  intro y l
  induction l with
  |nil=>rfl|cons b l i=>show(match bI O y (.cU .u8 (b.toNat:Int)),aZ O y (ofBytes l)with|J (v,fs),J (l,e)=>J (v::l,fs++e)|_,_=>U)=_;rw[i];rfl
 have q:=TP f c hf O 64 0 l (by omega) d;simp only[ay1]at q;obtain⟨y,hr⟩:∃y,y=NJ c 64 0 l:=⟨_,rfl⟩;rw[<-hr]at q⊢;have j:z y=64:=by rw[hr,FB,d]
 have bt:=vN y;have tk:(ofBytes y).take 64=ofBytes y:=a95 (by rw[aI];omega);have k:∀x,tidy (z O) [.cV y] (O++[x])=O:=λx=>Cj a rfl _;simp only[IY,h,q,j,bt,tk,k,aI,mM,EVY,seval]
def Rz(O:St)(d):∀l:LU,aZ O d (ofBytes l)=J (ofBytes l,[])|[]=>rfl|b::l=>by show(match bI O d (.cU .u8 (b.toNat:Int)),aZ O d (ofBytes l)with|J (v,fs),J (l,a)=>J (v::l,fs++a)|_,_=>U)=_;rw[Rz O d l];rfl
def uO(key:LU):LU:=lay wP 0 ((if z key>64 then tN key else key))
def L9(key:LU):z (uO key)=64:=by
 unfold uO;have:z wP=64:=rfl;rw[Rw,this];split;·rw[qm,this];omega
 ·rw[this];omega
def alq{part s:LU}{used:Nat}(h:used+z s<=z part):splice (ofBytes part) used (ofBytes s)=ofBytes (lay part used s):=by unfold splice lay ofBytes;simp
def acS(e:As)(O:St)(t:Nat)(ag:Bool)(sz:Nat)(l:List XR):aU e O (.eS t ag sz::l)=match look e t,aU e O l with
 |.c8 o off,J vs=>match O[o]? with
  |J (.cH c _)=>match pt ag sz (c.drop off)with|J v=>J (v::vs)|U=>U
  |_=>U
 |_,_=>U:=rfl
def alB (o:Has C Nu H5) (h:QR C) (key:LU) (p:z key<=1099511627776) (O:St) (b:Ok O):
  ai C Nu [.cV key] O=J (.da (ofBytes (uO key)),O):=by
 rw[o.cm];unfold Ey;have N:∀Y:St,Y++[AO.cH (List.replicate 64 (AV.cU .u8 0)) FZ]=Y++[AO.cH (ofBytes wP) FZ]:=λ_=>rfl;simp only[List.reduceReplicate]at N;have c:∀{Y:St},Ok Y->Ok (Y++[.cH (ofBytes wP) FZ]):=λ{Y} h=>h.eG (by simp[AO.below,kY]);have f:z wP=64:=rfl;obtain⟨s,hs⟩:∃s,s=(if z key>64 then tN key else key):=⟨_,rfl⟩;have ls:z s<=64:=by rw[hs];split;(rw[qm];omega);omega
 have l:min (z s) 64=z s:=by omega
 have tk:(ofBytes s).take (z s)=ofBytes s:=a95 (by rw[aI];omega);have hb:uO key=lay wP 0 s:=by unfold uO;rw[hs]
 have g:=L9 key;have i:=alq (part:=wP) (used:=0) (s:=s) (by rw[f];omega);rw[<-hb]at i;have e:(ofBytes (uO key)).take 64=ofBytes (uO key):=a95 (by rw[aI];omega);have d:splice (ofBytes wP) 0 (ofBytes (uO key))=ofBytes (uO key):=Hm _ _ (by rw[aI,aI,g,f]);have e3:∀x y N:AO,(O++[x]++[y]).set (z O) N=O++[N]++[y]:=λx y N=>by rw[aD2 _ _ (by simp),sH]
 have j:∀x y:AO,(O++[x]++[y])[z O]?=J x:=λx y=>II (mM _ _) _;have m:∀x y,tidy (z O) [.da (ofBytes (uO key))] (O++[x]++[y])=O:=λx y=>by rw[ay2];exact Cj b (by simp[ae,below,kY]) _
 by_cases k:z key>64;·have q:=PN h key p (O++[.cH (ofBytes wP) FZ]++[.cH (ofBytes wP) FZ]) (c (c b));rw[if_pos k]at hs;rw[<-hs]at q;have a:((z key:Int)>64):=(by omega);simp only[H5,N,a,q,f,l,tk,i,d,e,g,ls,e3,j,m,mM,sH,Rz,acS,aI,yE,EVY,seval]
 ·rw[if_neg k]at hs;have a:¬((z key:Int)>64):=(by omega);rw[hs]at*;simp only[H5,N,a,f,l,tk,i,d,e,g,ls,e3,j,m,mM,sH,Rz,acS,aI,yE,EVY,seval]
def hmac(key s:LU):LU:=tN (NJ 92 64 0 (uO key)++tN (NJ 54 64 0 (uO key)++s))
structure adl(C:Ctx):Prop where
 li:QR C
 eE:Has C Nu H5
 fU:Has C Jc IY
 of:Has C zi af1
 ng:Has C KH QO
 nh:Has C KI QP
def aoy (h:adl C) (key s:LU) (l:z key<=1099511627776) (hs:z s<=1099511627000) (O:St) (c:Ok O):
  ai C zi [.cV key,.cV s] O=J (.cV (hmac key s),O):=by
 rw[h.of.cm];unfold Ey;have q:∀Y:St,Y++[AO.cH (List.replicate 64 (AV.cU .u8 0)) FZ]=Y++[AO.cH (ofBytes wP) FZ]:=λ_=>rfl;simp only[List.reduceReplicate]at q;have q0:=alB h.eE h.li key l O c;have d:=L9 key;obtain⟨b,hb⟩:∃b,b=uO key:=⟨_,rfl⟩;rw[<-hb]at q0 d;have a:Ok (O++[.cH (ofBytes b) FZ]):=c.eG (by simp[AO.below,kY]);have q1:=Xt h.fU KH 54 (aw7 h.ng) _ a b d;have q2:=Xt h.fU KI 92 (aw8 h.nh) _ a b d;have l1:=FB 54 64 0 b;have l2:=FB 92 64 0 b;obtain⟨x,i⟩:∃x,x=NJ 54 64 0 b:=⟨_,rfl⟩;obtain⟨y,j⟩:∃y,y=NJ 92 64 0 b:=⟨_,rfl⟩;rw[<-i]at q1 l1;rw[<-j]at q2 l2;have q3:=PN h.li (x++s) (by rw[a04,l1,d];omega) _ a;have q4:=PN h.li (y++tN (x++s)) (by rw[a04,l2,d,qm];omega) _ a;have e:hmac key s=tN (y++tN (x++s)):=by unfold hmac;rw[j,i,hb]
 rw[e];have b1:sV .add x s=J (.cV (x++s)):=by unfold sV;dsimp only;rw[if_neg (by omega)]
 have k:sV .add y (tN (x++s))=J (.cV (y++tN (x++s))):=by unfold sV;dsimp only;rw[if_neg (by rw[qm];omega)]
 have f:splice (ofBytes wP) 0 (ofBytes b)=ofBytes b:=Hm _ _ (by rw[aI,aI,d];rfl);have m:z wP=64:=rfl;have g:(ofBytes b).take 64=ofBytes b:=a95 (by rw[aI];omega);have n:∀v w,tidy (z O) [.cV v] (O++[w])=O:=λv w=>Cj c rfl _;simp only[af1,q,q0,q1,q2,q3,q4,b1,k,f,m,g,d,n,mM,sH,aI,yE,EVY,seval]
end Go.Ev
namespace Go.Proofs.YtmbaofiahlcnhaaGreatDoor
open Option renaming some→J, none→U
open List renaming length→z
open Go.IntKind renaming i64→r
open Bool renaming true→eT, false→eF
open Go.Shelf Go.Proofs
def Tryz.lays170_ren:Go.Shelf.Ren:=⟨λ|170=>236|n=>n,λ|70=>303|3=>3|0=>0|72=>305|37=>241|5=>5|n=>n,λ|n=>n⟩
def Tryz.lays170:Go.Proofs.Lays.n170 Tryz.prog Tryz.lays170_ren:={
 mixed:=by kernel_rfl
 f170:=Tryz.func236.trans (congrArg J (by kernel_rfl))
 t0:=Tryz.underlying0
 a0:=Tryz.isAgg0
 z0:=Tryz.sizeOf0
 v0:=Tryz.zeroValue0
 t3:=Tryz.underlying3
 a3:=Tryz.isAgg3
 z3:=Tryz.sizeOf3
 v3:=Tryz.zeroValue3
 t37:=Tryz.underlying241
 a37:=Tryz.isAgg241
 z37:=Tryz.sizeOf241
 v37:=Tryz.zeroValue241
 t70:=Tryz.underlying303
 a70:=Tryz.isAgg303
 z70:=Tryz.sizeOf303
 v70:=Tryz.zeroValue303
 t72:=Tryz.underlying305
 a72:=Tryz.isAgg305
 z72:=Tryz.sizeOf305
 v72:=Tryz.zeroValue305}
def Tryz.lays169_ren:Go.Shelf.Ren:=⟨λ|169=>179|n=>n,λ|70=>303|9=>9|0=>0|72=>305|37=>241|127=>397|3=>3|5=>5|n=>n,λ|n=>n⟩
def Tryz.lays169:Go.Proofs.Lays.n169 Tryz.prog Tryz.lays169_ren:={
 mixed:=by kernel_rfl
 f169:=Tryz.func179.trans (congrArg J (by kernel_rfl))
 t0:=Tryz.underlying0
 a0:=Tryz.isAgg0
 z0:=Tryz.sizeOf0
 v0:=Tryz.zeroValue0
 t3:=Tryz.underlying3
 a3:=Tryz.isAgg3
 z3:=Tryz.sizeOf3
 v3:=Tryz.zeroValue3
 t9:=Tryz.underlying9
 a9:=Tryz.isAgg9
 z9:=Tryz.sizeOf9
 v9:=Tryz.zeroValue9
 t37:=Tryz.underlying241
 a37:=Tryz.isAgg241
 z37:=Tryz.sizeOf241
 v37:=Tryz.zeroValue241
 t70:=Tryz.underlying303
 a70:=Tryz.isAgg303
 z70:=Tryz.sizeOf303
 v70:=Tryz.zeroValue303
 t72:=Tryz.underlying305
 a72:=Tryz.isAgg305
 z72:=Tryz.sizeOf305
 v72:=Tryz.zeroValue305
 t127:=Tryz.underlying397
 a127:=Tryz.isAgg397
 z127:=Tryz.sizeOf397
 v127:=Tryz.zeroValue397}
def Tryz.Builder_Extra_169:Builder.Extra Tryz.prog Tryz.lays169_ren:={
 sizeBuilder:=by kernel_rfl
 liesBuilder:=by kernel_rfl
 t5:=Tryz.underlying5
 a5:=Tryz.isAgg5
 z5:=Tryz.sizeOf5
 v5:=Tryz.zeroValue5
 infoByte:=by kernel_rfl
 cellsByte:=by kernel_rfl
 sizeByte:=by kernel_rfl
 neB5:=by decide}
open Go.RowKit
set_option maxRecDepth 100000
def ata:(Tryz.prog.info? 305).map (λi=>i.size)=J 2:=by kernel_rfl
def infoByte:(Tryz.prog.info? 5).map (λi=>(i.zero,i.size,i.bytes))=J (J (.int .u8 0),1,1):=by kernel_rfl
def aw4:liesAt Tryz.prog Tryz.prog.depth 305 (2/Tryz.prog.cellsOf 305) 0 305 1=eT:=by kernel_rfl
def Zl (b:Nat) (w:World) (c:w.cell? ⟨b,0,U⟩=J (.pointer (J ⟨b,0,U⟩))):
  Calls Tryz.prog 256 #[.pointer (J ⟨b,0,U⟩)] w λe a=>e=.returned (.tuple #[])/\w=a:=by
 obtain⟨j,hj,_⟩:=Option.map_eq_some_iff.1 ata;have d:=Lib.run_neq_ptr_same (P:=Tryz.prog) w (⟨b,0,U⟩) Tryz.underlying303 hj
 go_enter Tryz.func256,Tryz.ntmps256
 go_wp2
 go_end0
 exact⟨rfl,rfl⟩
def Nh (b:Nat) (w:World) (g:w.cell? ⟨b,0,U⟩=J (.pointer U)) (a:w.shape? b=J (305,2)) (d:w.frozen? ⟨b,0,U⟩=eF):
  Calls Tryz.prog 256 #[.pointer (J ⟨b,0,U⟩)] w λe f=>e=.returned (.tuple #[])/\f=w.setCell ⟨b,0,U⟩ (.pointer (J ⟨b,0,U⟩)):=by
 obtain⟨j,hj,c⟩:=Option.map_eq_some_iff.1 ata;have h:=Lib.run_to_unsafe (P:=Tryz.prog) w ⟨b,0,U⟩ Tryz.underlying303 Tryz.underlying431 hj (by rw[c];decide) a (Nat.zero_lt_succ 1);have h2:=Lib.run_from_unsafe (P:=Tryz.prog) w ⟨b,0,U⟩ Tryz.underlying431 Tryz.underlying303 hj a aw4;have h3:(callFunc 295 #[.pointer (J ⟨b,0,U⟩)]).run Tryz.prog w=.ok (Next.value (.pointer (J ⟨b,0,U⟩))) w:=by rw[run_callFunc_extern Tryz.func295 (by kernel_rfl) (by kernel_rfl) (by kernel_rfl) (e:=Extern.AbiNoEscape.same) (by kernel_rfl),Lib.run_noEscape];rfl
 go_enter Tryz.func256,Tryz.ntmps256
 go_wp2
 go_end0
 exact⟨rfl,rfl⟩
open Go.Ev Go.RowKit Go.Shelf
def anB:JX Tryz.prog 256:=⟨_,Tryz.func256,by decide,rfl⟩
def afI:JX Tryz.prog 179:=⟨_,Tryz.func179,by decide,rfl⟩
def Xz(args:LA)(O:St):Option (AV×St):=
 match args with
 |[.c8 o 0]=>match O[o]? with
  |J (.cH [.ev,b] ⟨eF,J (305,eT)⟩)=>J (.dT,O.set o (.cH [.c8 o 0,b] ⟨eF,J (305,eT)⟩))|J (.cH (.c8 p 0::l) a)=>match Nat.beq o p with|eT=>J (.dT,O)|eF=>U
  |_=>U
 |_=>U
def aei{C:Ctx}(k:C.P=Tryz.prog):POK C 256 Xz:=by
 intro args O v G h g w n A m I;unfold Xz at h;split at h
 ·rename_i o;cases A with
  |cW _ v1 _ l1 x y=>
   cases y;cases x with
   |c8 _ _ D=>
    split at h
    ·rename_i b hb;simp at h;obtain⟨rfl,rfl⟩:=h;obtain⟨c,e,fr,j,h2,h3,h4,h5,h6⟩:=m.bx o _ hb;obtain⟨B,E⟩:=h5.2 _ _ rfl;obtain⟨u,t,hr⟩:=h4 0 .ev rfl;cases hr;have a:w.cell? ⟨g.ob o,0,U⟩=J (.pointer U):=by rw[cell_of_heap j];exact t
     have s:c.size=2:=E rfl;have q:=alf (P:=C.P) m hb (off:=0) (.c8 o 0 D) (by simp) rfl;refine Fh (by rw[k];exact anB) ?_;rw[k];exact(Nh (g.ob o) w a (by simp[World.shape?,j,s,B]) (by rw[World.frozen?,j,h5.1];rfl)).mono λe F ⟨d,i⟩=>⟨_,d,g,by rw[i];exact q,.df _ _ .de⟩
    ·rename_i p l H hb;split at h
     ·rename_i f;have f:=ay0 f;subst f;simp at h;obtain⟨rfl,rfl⟩:=h;obtain⟨c,e,fr,j,h2,h3,h4,h5,h6⟩:=m.bx o _ hb;obtain⟨u,t,hr⟩:=h4 0 (.c8 o 0) rfl;cases hr;have a:w.cell? ⟨g.ob o,0,U⟩=J (.pointer (J ⟨g.ob o,0,U⟩)):=by rw[cell_of_heap j];exact t
      refine Fh (by rw[k];exact anB) ?_;rw[k];exact(Zl (g.ob o) w a).mono λe F ⟨d,i⟩=>⟨_,d,g,by rw[<-i];exact .ah m,.df _ _ .de⟩
     ·cases h
    ·cases h
 ·cases h
section
variable{P:Program}{ρ:Ren}
set_option maxHeartbeats 1000000 in
def aeM (L:Lays.n169 P ρ) (X:Builder.Extra P ρ) (b g cap:Nat) (p:Value) (a:Array Value) (l:LU) (w:World) (f:w.heap[b]?=J (.cells #[p,.slice (J ⟨g,0,U⟩) (z l) cap] (ρ.t 72) (0,0))) (q:w.heap[g]?=J (.cells a (ρ.t 5) (0,0)))
  (o:l≠[]) (k:z l<=cap) (i:z l<=a.size) (h:z l<=1099511627776) (c:∀(j:Nat) (x:UInt8),l[j]?=J x->a[j]?=J (Value.int .u8 x.toNat)):
  Calls P (ρ.f 169) #[.pointer (J ⟨b,0,U⟩)] w λe M=>e=.returned (.string ⟨l.toArray⟩)/\M=w.drew.freeze ⟨g,0,U⟩ (z l):=by
 have C:z l≠0:=by simpa using o
 have R:w.drew.cell? ⟨b,1,U⟩=J (.slice (J ⟨g,0,U⟩) (z l) cap):=by have:w.drew.heap[b]?=J (.cells #[p,.slice (J ⟨g,0,U⟩) (z l) cap] (ρ.t 72) (0,0)):=f;rw[Lib.cell_of_heap this];rfl
 have y:(Builtin.unsafeSliceData_ #[(ρ.t 37)] (ρ.t 127) #[.slice (J ⟨g,0,U⟩) (z l) cap]).run P w.drew=.ok (.pointer (J ⟨g,0,U⟩)) w.drew:=
  Lib.run_unsafeSliceData_row _ _ _ _ _ _ (by omega)
 have A:(Builtin.unsafeString_ #[(ρ.t 127),(ρ.t 3)] (ρ.t 9) #[.pointer (J ⟨g,0,U⟩),.int r (z l)]).run P w.drew=.ok (.string ⟨l.toArray⟩) (w.drew.freeze ⟨g,0,U⟩ (z l)):=by
  refine Lib.run_unsafeString_row w.drew (ρ.t 127) (ρ.t 3) (ρ.t 9) (ρ.t 5) L.t127 X.cellsByte g a.size (by have d:w.drew.heap[g]?=J (.cells a (ρ.t 5) (0,0)):=q;simp[World.shape?,d]) l o (by omega) (by omega) ?_;intro j x D;have d:w.drew.heap[g]?=J (.cells a (ρ.t 5) (0,0)):=q;have B:(⟨g,0,U⟩:Addr).add j=⟨g,0+j,U⟩:=by unfold Addr.add;split<;>simp_all
  rw[B,Lib.cell_of_heap d,az5];exact c j x D
 clear c h i k;have m:=L.mixed;have G:=L.t72;have a72:=L.a72;have Q:=L.z72;have v72:=L.v72;have K:=run_underlying L.t72;have F:=L.t70;have a70:=L.a70;have O:=L.z70;have v70:=L.v70;have I:=run_underlying L.t70;have E:=L.t37;have a37:=L.a37;have N:=L.z37;have v37:=L.v37;have H:=run_underlying L.t37;have s:=L.t127;have n:=L.a127;have v:=L.z127;have u:=L.v127;have t:=run_underlying L.t127;have t3:=L.t3;have a3:=L.a3;have Y:=L.z3;have v3:=L.v3;have T:=run_underlying L.t3;have S:=L.t9;have a9:=L.a9;have Z:=L.z9;have v9:=L.v9;have W:=run_underlying L.t9;have t5:=X.t5;have a5:=X.a5;have z5:=X.z5;have v5:=X.v5;have V:=run_underlying X.t5
 go_enter L.f169,Body.n169_ntmps ρ
 go_wp2
 go_region_o
 all_goals (go_wp2;go_ret;exact⟨rfl,rfl⟩)
end
noncomputable def IK(args:LA)(O:St):Option (AV×St):=
 match args with
 |[.c8 o 0]=>match O[o]? with
  |J (.cH [p,.cY] ⟨eF,J (305,eT)⟩)=>J (.cV [],O)
  |J (.cH [p,.dj ob 0 n 1] ⟨eF,J (305,eT)⟩)=>match O[ob]? with
   |J (.cH l ⟨eF,J (5,x)⟩)=>match Nb l with
    |J (b::s)=>match Fe (Nat.beq (z (b::s)) n) (Nat.ble (z (b::s)) 1099511627776)with|eT=>J (.cV (b::s),O.set ob .eq)|eF=>U
    |_=>U
   |_=>U
  |_=>U
 |_=>U
def V4{C:Ctx}(G:C.P=Tryz.prog):POK C 179 IK:=by
 intro args O v O' h g w H ha B hg;unfold IK at h;split at h
 ·rename_i o;cases ha with
  |cW _ v1 _ l1 x y=>
   cases y;cases x with
   |c8 _ _ ho=>
    split at h
    ·rename_i p hb;simp at h;obtain⟨rfl,rfl⟩:=h;obtain⟨c,e,fr,F,h2,h3,h4,h5,h6⟩:=B.bx o _ hb;obtain⟨L,D⟩:=h5.2 _ _ rfl;have f:=h5.1;obtain⟨E,m,hr0⟩:=h4 0 p rfl;obtain⟨u1,q,hr1⟩:=h4 1 .cY rfl;cases hr1;have k:c.size=2:=D rfl;have K:c=#[E,.slice U 0 0]:=by
      apply Array.ext_getElem?;intro i
      match i with
      |0=>exact m|1=>exact q|i+2=>simp[k]
     subst K L f;refine Fh (by rw[G];exact afI) ?_;rw[G];exact(Any.Builder_String_nil Tryz.lays169 Tryz.Builder_Extra_169 w.heap.size (g.ob o) E w F).mono λe w2 ⟨d,t⟩=>⟨_,d,g,xH B t,.cV []⟩
    ·rename_i p ob n hb;split at h
     ·rename_i l x u;split at h
      ·rename_i b s I;split at h
       ·rename_i N;rw[kX,a01]at N;have P:=ay0 N.1;have Q:=az7 N.2;simp only[a05,ay8]at h;obtain⟨rfl,rfl⟩:=h;obtain⟨c,e,fr,F,h2,h3,h4,h5,h6⟩:=B.bx o _ hb;obtain⟨L,D⟩:=h5.2 _ _ rfl;have f:=h5.1;obtain⟨E,m,hr0⟩:=h4 0 p rfl;obtain⟨u1,q,hr1⟩:=h4 1 (.dj ob 0 n 1) rfl;cases hr1 with
        |dj _ _ _ _ cap aa a R=>
        have k:c.size=2:=D rfl;have K:c=#[E,.slice (J ⟨g.ob ob,0,U⟩) n cap]:=by
         apply Array.ext_getElem?;intro i
         match i with
         |0=>exact m|1=>exact q|i+2=>simp[k]
        subst K L f;obtain⟨T,e',Z,k1,k2,k3,k4,S,k6⟩:=B.bx ob _ u;obtain⟨M,ab⟩:=S.2 _ _ rfl;have A:=S.1;subst M A;obtain⟨e1,e2⟩:=Zi I;refine Fh (by rw[G];exact afI) ?_;rw[G];rw[<-P]at F a;refine(aeM Tryz.lays169 Tryz.Builder_Extra_169 (g.ob o) (g.ob ob) cap E T (b::s) w F k1 (by simp) a (by omega) Q (λj x D=>?_)).mono λe w2 ⟨d,t⟩=>⟨_,d,g,?_,.cV (b::s)⟩;·obtain⟨v,hv,hr⟩:=k4 j _ (e2 j x D);cases hr;exact hv
        ·subst t;obtain⟨f1,V,W,X,Y⟩:=afJ w.drew (g.ob ob) (z (b::s));exact alg B u f1 V W X Y
       ·cases h
      ·cases h
     ·cases h
    ·cases h
 ·cases h
def fxP{P:Program}{f:Nat}{a b:Func}(h:P.funcs[f]?=J a)(e:a=b:=by kernel_rfl):P.funcs[f]?=J b:=h.trans (congrArg J e)
def Tryz.laysPI_ren:Go.Shelf.Ren:=⟨λ|174=>353|247=>366|245=>367|287=>373|279=>374|280=>375|281=>376|282=>377|321=>383|322=>384|316=>385|171=>165|205=>386|243=>233|246=>283|283=>312|284=>313|285=>314|286=>315|129=>246|317=>340|318=>341|319=>342|320=>343|337=>350|338=>351|n=>n,λ|9=>9|3=>3|2=>2|75=>307|85=>487|4=>4|167=>504|5=>5|53=>327|175=>505|46=>243|168=>507|37=>241|0=>0|210=>515|21=>21|127=>397|145=>521|143=>519|171=>459|173=>461|212=>480|51=>55|20=>20|213=>481|232=>499|233=>316|80=>247|n=>n,λ|15=>9|16=>10|17=>6|18=>7|19=>8|n=>n⟩
def Tryz.laysPI:Go.Proofs.LaysC.n174 Tryz.prog Tryz.laysPI_ren:={
 mixed:=by kernel_rfl
 f129:=fxP Tryz.func246
 f171:=fxP Tryz.func165
 f174:=fxP Tryz.func353
 f205:=fxP Tryz.func386
 f243:=fxP Tryz.func233
 f245:=fxP Tryz.func367
 f246:=fxP Tryz.func283
 f247:=fxP Tryz.func366
 f279:=fxP Tryz.func374
 f280:=fxP Tryz.func375
 f281:=fxP Tryz.func376
 f282:=fxP Tryz.func377
 f283:=fxP Tryz.func312
 f284:=fxP Tryz.func313
 f285:=fxP Tryz.func314
 f286:=fxP Tryz.func315
 f287:=fxP Tryz.func373
 f316:=fxP Tryz.func385
 f317:=fxP Tryz.func340
 f318:=fxP Tryz.func341
 f319:=fxP Tryz.func342
 f320:=fxP Tryz.func343
 f321:=fxP Tryz.func383
 f322:=fxP Tryz.func384
 f337:=fxP Tryz.func350
 f338:=fxP Tryz.func351
 t0:=Tryz.underlying0
 a0:=Tryz.isAgg0
 z0:=Tryz.sizeOf0
 v0:=Tryz.zeroValue0
 t2:=Tryz.underlying2
 a2:=Tryz.isAgg2
 z2:=Tryz.sizeOf2
 v2:=Tryz.zeroValue2
 t3:=Tryz.underlying3
 a3:=Tryz.isAgg3
 z3:=Tryz.sizeOf3
 v3:=Tryz.zeroValue3
 t4:=Tryz.underlying4
 a4:=Tryz.isAgg4
 z4:=Tryz.sizeOf4
 v4:=Tryz.zeroValue4
 t5:=Tryz.underlying5
 a5:=Tryz.isAgg5
 z5:=Tryz.sizeOf5
 v5:=Tryz.zeroValue5
 t9:=Tryz.underlying9
 a9:=Tryz.isAgg9
 z9:=Tryz.sizeOf9
 v9:=Tryz.zeroValue9
 t20:=Tryz.underlying20
 a20:=Tryz.isAgg20
 z20:=Tryz.sizeOf20
 v20:=Tryz.zeroValue20
 t21:=Tryz.underlying21
 a21:=Tryz.isAgg21
 z21:=Tryz.sizeOf21
 v21:=Tryz.zeroValue21
 t37:=Tryz.underlying241
 a37:=Tryz.isAgg241
 z37:=Tryz.sizeOf241
 v37:=Tryz.zeroValue241
 t46:=Tryz.underlying243
 a46:=Tryz.isAgg243
 z46:=Tryz.sizeOf243
 v46:=Tryz.zeroValue243
 t51:=Tryz.underlying55
 a51:=Tryz.isAgg55
 z51:=Tryz.sizeOf55
 v51:=Tryz.zeroValue55
 t53:=Tryz.underlying327
 a53:=Tryz.isAgg327
 z53:=Tryz.sizeOf327
 v53:=Tryz.zeroValue327
 t75:=Tryz.underlying307
 a75:=Tryz.isAgg307
 z75:=Tryz.sizeOf307
 v75:=Tryz.zeroValue307
 t85:=Tryz.underlying487
 a85:=Tryz.isAgg487
 z85:=Tryz.sizeOf487
 v85:=Tryz.zeroValue487
 t127:=Tryz.underlying397
 a127:=Tryz.isAgg397
 z127:=Tryz.sizeOf397
 v127:=Tryz.zeroValue397
 t143:=Tryz.underlying519
 a143:=Tryz.isAgg519
 z143:=Tryz.sizeOf519
 v143:=Tryz.zeroValue519
 t145:=Tryz.underlying521
 a145:=Tryz.isAgg521
 z145:=Tryz.sizeOf521
 v145:=Tryz.zeroValue521
 t167:=Tryz.underlying504
 a167:=Tryz.isAgg504
 z167:=Tryz.sizeOf504
 v167:=Tryz.zeroValue504
 t168:=Tryz.underlying507
 a168:=Tryz.isAgg507
 z168:=Tryz.sizeOf507
 v168:=Tryz.zeroValue507
 t171:=Tryz.underlying459
 a171:=Tryz.isAgg459
 z171:=Tryz.sizeOf459
 v171:=Tryz.zeroValue459
 t173:=Tryz.underlying461
 a173:=Tryz.isAgg461
 z173:=Tryz.sizeOf461
 v173:=Tryz.zeroValue461
 t175:=Tryz.underlying505
 a175:=Tryz.isAgg505
 z175:=Tryz.sizeOf505
 v175:=Tryz.zeroValue505
 t210:=Tryz.underlying515
 a210:=Tryz.isAgg515
 z210:=Tryz.sizeOf515
 v210:=Tryz.zeroValue515
 t212:=Tryz.underlying480
 a212:=Tryz.isAgg480
 z212:=Tryz.sizeOf480
 v212:=Tryz.zeroValue480
 t213:=Tryz.underlying481
 a213:=Tryz.isAgg481
 z213:=Tryz.sizeOf481
 t232:=Tryz.underlying499
 a232:=Tryz.isAgg499
 z232:=Tryz.sizeOf499
 v232:=Tryz.zeroValue499
 t233:=Tryz.underlying316
 a233:=Tryz.isAgg316
 z233:=Tryz.sizeOf316
 v233:=Tryz.zeroValue316
 g15:=by kernel_rfl
 g16:=by kernel_rfl
 g17:=by kernel_rfl
 g18:=by kernel_rfl
 g19:=by kernel_rfl
 t80:=Tryz.underlying247
 a80:=Tryz.isAgg247
 z80:=Tryz.sizeOf247
 v80:=Tryz.zeroValue247
 i0:=by kernel_rfl
 i2:=by kernel_rfl
 i3:=by kernel_rfl
 i4:=by kernel_rfl
 i5:=by kernel_rfl
 i9:=by kernel_rfl
 i20:=by kernel_rfl
 i21:=by kernel_rfl
 i37:=by kernel_rfl
 i46:=by kernel_rfl
 i51:=by kernel_rfl
 i53:=by kernel_rfl
 i75:=by kernel_rfl
 i80:=by kernel_rfl
 i85:=by kernel_rfl
 i127:=by kernel_rfl
 i143:=by kernel_rfl
 i145:=by kernel_rfl
 i167:=by kernel_rfl
 i168:=by kernel_rfl
 i171:=by kernel_rfl
 i173:=by kernel_rfl
 i175:=by kernel_rfl
 i210:=by kernel_rfl
 i212:=by kernel_rfl
 i232:=by kernel_rfl
 i233:=by kernel_rfl
 m15:=by kernel_rfl
 m16:=by kernel_rfl
 m17:=by kernel_rfl
 m18:=by kernel_rfl
 m19:=by kernel_rfl
 c0:=by kernel_rfl
 c2:=by kernel_rfl
 c3:=by kernel_rfl
 c4:=by kernel_rfl
 c5:=by kernel_rfl
 c9:=by kernel_rfl
 c20:=by kernel_rfl
 c21:=by kernel_rfl
 c37:=by kernel_rfl
 c46:=by kernel_rfl
 c51:=by kernel_rfl
 c53:=by kernel_rfl
 c75:=by kernel_rfl
 c80:=by kernel_rfl
 c85:=by kernel_rfl
 c127:=by kernel_rfl
 c143:=by kernel_rfl
 c145:=by kernel_rfl
 c167:=by kernel_rfl
 c168:=by kernel_rfl
 c171:=by kernel_rfl
 c173:=by kernel_rfl
 c175:=by kernel_rfl
 c210:=by kernel_rfl
 c212:=by kernel_rfl
 c213:=by kernel_rfl
 c232:=by kernel_rfl
 c233:=by kernel_rfl}
def ajL:JX Tryz.prog 353:=⟨_,Tryz.func353,by decide,rfl⟩
noncomputable def alJ(args:LA)(O:St):Option (AV×St):=
 match args with
 |[.cV s,.cU r a,.cU r b]=>if a=10/\b=64/\z s<=1099511627776 then match Lib.parseIntB 64 s with
  |.ok v=>J (.df [.cU r v,.ej],O)|.range=>J (.df [.cU r (Lib.intSat 64 s),.eb 507 (.em [])],O)|_=>J (.df [.cU r 0,.eb 507 (.em [])],O)
  else U
 |_=>U
def aua:AV->Bool|.eb _ _=>eT|_=>eF
def ajU{C:Ctx}{g:Gh}{w:World}{O:St}(f:WR g w O)(d:GL C g){n:Nat}{e:AV}(h:C.gl n=J [e])(hi:aua e=eT):∃b,w.cell? ⟨n,0,U⟩=J b/\(b=.nilIface\/∃k j,b=.iface k j):=by obtain⟨v,c,h2⟩:=(d.1 n _ h).1.b2 (i:=0) (a:=e) rfl;refine⟨v,f.im _ _ _ c,?_⟩;cases h2<;>first|(cases hi;done)|exact .inr ⟨_,_,rfl⟩
def auA{C:Ctx}(o:C.P=Tryz.prog){e1 e2:AV}(y:C.gl qR=J [e1])(h2:C.gl pF=J [e2])(D:aua e1=eT)(E:aua e2=eT):POK C 353 alJ:=by
 intro args O v I h g w j A i p;unfold alJ at h;split at h
 ·rename_i s a b;split at h
  ·rename_i B;obtain⟨rfl,rfl,K⟩:=B;cases A with
   |cW _ v1 _ l1 x1 F=>
   cases F with
   |cW _ v2 _ l2 x2 G=>
   cases G with
   |cW _ v3 _ l3 x3 H=>
   cases H;cases x1;cases x2;cases x3;have c:(⟨⟨s⟩⟩:ByteArray).size=z s:=rfl;obtain⟨k,u,d1⟩:=ajU i p y D;obtain⟨l,x,d2⟩:=ajU i p h2 E;refine Fh (by rw[o];exact ajL) ?_;rw[o];cases d:Lib.parseIntB 64 s
   ·rename_i N;rw[d]at h;cases h;refine(Any.strconv_ParseInt_10_at64_ok Tryz.laysPI ⟨⟨s⟩⟩ (by rw[c];omega) N d w).mono λe q ⟨f,m⟩=>⟨_,f,g,?_,.df _ _ (.cW _ _ _ _ (.cU _ _) (.cW _ _ _ _ .ej .de))⟩;refine xH i ?_;rcases m with rfl|⟨t,rfl⟩;·exact Below.refl _ _
    ·exact Lib.bytesWorld_below _ _ _
   ·rw[d]at h;cases h;exact(Any.strconv_ParseInt_10_at64_syntax Tryz.laysPI ⟨⟨s⟩⟩ (by rw[c];omega) d l w x d2).mono λe q ⟨n,f,_,_,hb⟩=>⟨_,f,g,xH i hb,.df _ _ (.cW _ _ _ _ (.cU _ _) (.cW _ _ _ _ (.eb _ _ _ (.em _ _ _ (.de _ _))) .de))⟩
   ·rw[d]at h;cases h;exact(Any.strconv_ParseInt_10_at64_range Tryz.laysPI ⟨⟨s⟩⟩ (by rw[c];omega) d k w u d1).mono λe q ⟨n,f,_,_,hb⟩=>⟨_,f,g,xH i hb,.df _ _ (.cW _ _ _ _ (.cU _ _) (.cW _ _ _ _ (.eb _ _ _ (.em _ _ _ (.de _ _))) .de))⟩
  ·cases h
 ·cases h
noncomputable def ap0(args:LA)(O:St):Option (AV×St):=
 match args with
 |[.cV s,.cU r (.ofNat a),.cU r (.ofNat b)]=>match Fe (Fe (Nat.beq a 10) (Nat.beq b 64)) (Nat.ble (z s) 1000)with
  |eT=>match Lib.parseIntB 64 s with|.ok v=>J (.df [.cU r v,.ej],O)|_=>U
  |eF=>U
 |_=>U
def arx{C:Ctx}(i:C.P=Tryz.prog):POK C 353 ap0:=by
 intro args O v q h g w d j l u;unfold ap0 at h;split at h
 ·rename_i s a b;split at h
  ·rename_i c;rw[kX,a01,kX,a01]at c;have e1:=ay0 c.1.1;have e2:=ay0 c.1.2;have x:=az7 c.2;subst e1 e2;split at h
   ·rename_i N m;cases h;cases j with
    |cW _ v1 _ l1 x1 n=>
    cases n with
    |cW _ v2 _ l2 x2 o=>
    cases o with
    |cW _ v3 _ l3 x3 p=>
    cases p;cases x1;cases x2;cases x3;refine Fh (by rw[i];exact ajL) ?_;rw[i];refine(Any.strconv_ParseInt_10_at64_ok Tryz.laysPI ⟨⟨s⟩⟩ (by show z s<=_;omega) N m w).mono λe y ⟨k,f⟩=>⟨_,k,g,?_,.df _ _ (.cW _ _ _ _ (.cU _ _) (.cW _ _ _ _ .ej .de))⟩;refine xH l ?_;rcases f with rfl|⟨t,rfl⟩;·exact Below.refl _ _
    ·exact Lib.bytesWorld_below _ _ _
   ·cases h
  ·cases h
 ·cases h
def at0(l:LU)(k:Nat):Nat:=(l.getD k 0).toNat
def UB(s:ByteArray)(p k:Nat):(s.get! (p+k)).toNat=at0 (s.data.toList.drop p) k:=by unfold at0;congr 1;rw[az8,List.getElem?_drop,Array.getElem?_toList];show s.data[p+k]! =_;rw[getElem!_def];rfl
def afm (s:ByteArray) (p:Nat) (h:p<=s.size):Utf8.decode s p=
  Lib.decodeN (z (s.data.toList.drop p)) (at0 (s.data.toList.drop p) 0) (at0 (s.data.toList.drop p) 1) (at0 (s.data.toList.drop p) 2) (at0 (s.data.toList.drop p) 3):=by
 rw[Lib.decode_at,<-UB,<-UB,<-UB,<-UB];have e:z (s.data.toList.drop p)=s.size-p:=by simp
 rw[e];rfl
def X4(l:LU):Nat×Nat:=Lib.decodeN (z l) (at0 l 0) (at0 l 1) (at0 l 2) (at0 l 3)
def atF(l:LU)(k:Nat):at0 l k<256:=UInt8.toNat_lt _
def Zn(l:LU)(a:l≠[]):1<=(X4 l).2/\(X4 l).2<=z l/\(X4 l).1<=1114111:=by
 have c:1<=z l:=Nat.pos_of_ne_zero (λh=>a (az0 h));have b:=atF l 0;unfold X4 Lib.decodeN;repeat' split
 all_goals simp only;omega
def badL(l:LU):Bool:=Nat.beq (X4 l).1 65533&& !List.isPrefixOf [239,191,189] l
def aic:Nat->LU->Option Nat|0,l=>if l.isEmpty then J 0 else U|f+1,l=>if l.isEmpty then J 0 else if badL l then U else(aic f (l.drop (X4 l).2)).map (· +1)
def Dw(l:LU):Option Nat:=aic (z l) l
def UR(f:Nat):aic f []=J 0:=by cases f<;>rfl
def alr(f:Nat):∀(g:Nat) (l:LU),z l<=f->z l<=g->aic f l=aic g l:=by
 induction f with
 |zero=>intro g l hf a;obtain rfl:l=[]:=az0 (by omega);rw[UR,UR]
 |succ f c=>
  intro g l hf a
  match l with
  |[]=>rw[UR,UR]
  |b::t=>
   cases g with
   |zero=>simp at a|succ g=>have d:=(Zn (b::t) (by simp)).1;simp only[aic,List.isEmpty_cons,aC3,if_false];rw[c g _ (by simp at hf⊢;omega) (by simp at a⊢;omega)]
def aoj:Dw []=J 0:=rfl
def als(l:LU)(a:l≠[]):Dw l=if badL l then U else(Dw (l.drop (X4 l).2)).map (· +1):=by
 match l with
 |[]=>exact absurd rfl a|b::t=>have c:=(Zn (b::t) (by simp)).1;unfold Dw;rw[a90];simp only[aic,List.isEmpty_cons,aC3,if_false];rw[alr (z t) _ _ (by simp;omega) (a06 _)]
def drop_cons(s:ByteArray)(k:Nat)(h:k<s.size):s.data.toList.drop k≠[]:=by intro e;have:=congrArg List.length e;simp at this;have:s.data.size=s.size:=rfl;omega
def drop_end(s:ByteArray)(k:Nat)(h:s.size<=k):s.data.toList.drop k=[]:=
 az1 (by rw[aG7];exact h)
def agA{a b:Bool}(h:a=b):Ending.returned (.bool a)=.returned (.bool b):=by rw[h]
def hasPrefix (s p:ByteArray) (w:World) (hs:s.size<=1099511627776) (d:p.size<=1099511627776):
  Calls Tryz.prog 136 #[.string s,.string p] w λe c=>e=.returned (.bool (p.data.toList.isPrefixOf s.data.toList))/\w=c:=by
 have key:=Lib.hasPrefix_of_take s.data.toList p.data.toList;rw[<-Lib.size_eq,<-Lib.size_eq]at key;unfold Lib.hasPrefix at key;have a:=Lib.hid key;clear key;by_cases h:p.size<=s.size
 ·have b:Hid (((s.extract 0 p.size).toList==p.toList)=p.data.toList.isPrefixOf s.data.toList):=by show _=_;rw[<-a.out,Lib.extract_toList,Lib.toList_data];simp[h]
  clear a
  go_enter Tryz.func136,Tryz.ntmps136
  go_wp2
  go_ret
  exact⟨agA b.out,rfl⟩
 ·have b:Hid (eF=p.data.toList.isPrefixOf s.data.toList):=by show _=_;rw[<-a.out];simp[h]
  clear a
  go_enter Tryz.func136,Tryz.ntmps136
  go_wp2
  go_ret
  exact⟨agA b.out,rfl⟩
def UF (s p:ByteArray) (b:Bool) (w:World) (hs:s.size<=1099511627776) (a:p.size<=1099511627776) (h:p.data.toList.isPrefixOf s.data.toList=b):
  Calls Tryz.prog 136 #[.string s,.string p] w λe c=>e=.returned (.bool b)/\w=c:=by
 subst h;exact hasPrefix s p w hs a
def atn(s:ByteArray)(d:World)(nv:Value)(a b:Value)(c:World):Prop:=
 ∃(pos n:Nat),pos<=s.size/\n<=pos/\c=d.iter s pos/\nv=.int r n/\a=.int r 0/\b=.bool eF/\Dw s.data.toList=(Dw (s.data.toList.drop pos)).map (· +n)
def aqA(s:ByteArray)(w:World)(e:Ending)(a:World):Prop:=
 e=.returned (.tuple #[.int r ((Dw s.data.toList).getD 0:Nat),.bool (Dw s.data.toList).isSome])/\∃pos,a=w.iter s pos
def len_any (s:ByteArray) (w:World) (hs:s.size<=1099511627776):
  Calls Tryz.prog 82 #[.string s] w (aqA s w):=by
 go_enter Tryz.func82,Tryz.ntmps82
 go_wp2_with fail
 go_loopw [4,2,3] (λn a b u=>atn s w n a b u) (λ_ _ _ u=>s.size-u.iterPos w.heap.size)
 case atStart=>exact⟨0,0,by omega,by omega,rfl,rfl,rfl,rfl,by simp⟩
 case round=>
  obtain⟨pos,n,t,G,rfl,rfl,rfl,rfl,D⟩:=hrel;have i:=Lib.hid D;clear D;by_cases A:pos<s.size
  ·have C:Utf8.decode s pos=X4 (s.data.toList.drop pos):=afm s pos t;have j:=drop_cons s pos A;have st:=als _ j;have B:=Zn _ j;have q:(s.data.toList.drop pos).drop (X4 (s.data.toList.drop pos)).2=s.data.toList.drop (pos+(X4 (s.data.toList.drop pos)).2):=aG4 ..;have g:z (s.data.toList.drop pos)=s.size-pos:=(by simp);rw[q]at st;rw[g]at B;have o:=Lib.hid (show badL (s.data.toList.drop pos)=(Nat.beq (X4 (s.data.toList.drop pos)).1 65533&& !List.isPrefixOf [239,191,189] (s.extract pos s.size).data.toList) by rw[Lib.extract_to_end];rfl)
   have p:=Lib.hid st;generalize F:X4 (s.data.toList.drop pos)=x at*;obtain⟨N,m⟩:=x;simp only at B;have y:∀l,(Instr.next (.pointer (J ⟨w.heap.size,0,U⟩)) eT l).run Tryz.prog (w.iter s pos)=.ok (.tuple #[.bool eT,.int r pos,.int .i32 N]) (w.iter s (pos+m)):=
    λl=>by have:=run_next_any (P:=Tryz.prog) w s pos l A;rw[C]at this;exact this
   clear st C q g j F;by_cases h5:N=65533
   ·subst h5;cases c:List.isPrefixOf [239,191,189] (s.extract pos s.size).data.toList with
    |true=>
     have v:=Lib.hid c;have d:Hid (Dw s.data.toList=(Dw (s.data.toList.drop (pos+m))).map (· +(n+1))):=by show _=_;rw[i.out,p.out,o.out,c,if_neg (by simp),Option.map_map];exact congrArg (λf=>Option.map f (Dw _)) (funext λk=>by simp only[Function.comp];omega)
     clear i p o c
     go_wp2_with fail
     refine(UF _ _ eT _ (by simp;omega) (by decide) v.out).mono ?_;rintro e u ⟨rfl,rfl⟩
     go_wp2_with fail
     go_roundw
     case rel=>exact⟨pos+m,n+1,by omega,by omega,rfl,by go_num,rfl,rfl,d.out⟩
     case measure=>simp;omega
    |false=>
     have v:=Lib.hid c;have d:Hid (Dw s.data.toList=U):=by show _=_;rw[i.out,p.out,o.out,c,if_pos (by simp)];rfl
     clear i p o c
     go_wp2_with fail
     refine(UF _ _ eF _ (by simp;omega) (by decide) v.out).mono ?_;rintro e u ⟨rfl,rfl⟩
     go_wp2_with fail
     go_ret2
     refine⟨?_,_,rfl⟩;rw[d.out];rfl
   ·have E:((N:Int)==65533)=eF:=by simp;omega
    have d:Hid (Dw s.data.toList=(Dw (s.data.toList.drop (pos+m))).map (· +(n+1))):=by
     have hb:Nat.beq N 65533=eF:=by rw[Bool.eq_false_iff];exactλh=>h5 (ay0 h)
     show _=_;rw[i.out,p.out,o.out,hb,if_neg (by simp),Option.map_map];exact congrArg (λf=>Option.map f (Dw _)) (funext λk=>by simp only[Function.comp];omega)
    clear i p o h5
    go_wp2_with fail
    go_roundw
    case rel=>exact⟨pos+m,n+1,by omega,by omega,rfl,by go_num,rfl,rfl,d.out⟩
    case measure=>simp;omega
  ·have y:∀l,(Instr.next (.pointer (J ⟨w.heap.size,0,U⟩)) eT l).run Tryz.prog (w.iter s pos)=_:=λl=>run_next_end w s pos l A
   go_wp2_with fail
   go_ret2
   have e:=i.out;rw[drop_end s _ (by omega),aoj]at e;refine⟨?_,_,rfl⟩;rw[e];simp
def ai7(w:World)(s:ByteArray)(pos:Nat):Below w.heap.size w (w.iter s pos):=(Below.refl _ _).alloc (a06 _) _
def alu (s:ByteArray) (w:World) (hs:s.size<=1099511627776):
  Calls Tryz.prog 82 #[.string s] w λe c=>e=.returned (.tuple #[.int r ((Dw s.data.toList).getD 0:Nat),.bool (Dw s.data.toList).isSome])/\Below w.heap.size w c:=
 (len_any s w hs).mono λ_ _ ⟨a,pos,b⟩=>⟨a,by rw[b];exact ai7 _ _ _⟩
open Go.Ev
def avH:JX Tryz.prog 82:=⟨_,Tryz.func82,by decide,rfl⟩
def air{C:Ctx}(a:C.P=Tryz.prog):POK C 82 (RH (λs=>.df [.cU r ((Dw s).getD 0:Nat),.cX (Dw s).isSome])):=arA (C:=C) (f:=82) (by rw[a];exact avH) (λs=>.df [.cU r ((Dw s).getD 0:Nat),.cX (Dw s).isSome]) (λs=>.tuple #[.int r ((Dw s).getD 0:Nat),.bool (Dw s).isSome])
 (λg s=>.df _ _ (.cW _ _ _ _ (.cU _ _) (.cW _ _ _ _ (.cX _) .de))) (λs w hs=>by rw[a];exact alu s w hs)
open Go.RowKit Go.Shelf Go.Lib
set_option maxRecDepth 1000000
def aqO (B b:Nat) (bs:List Value) (w:World) (h:Lib.IsBuilderF 305 5 B b bs w):
  Calls Tryz.prog 256 #[.pointer (J ⟨b,0,U⟩)] w λe c=>e=.returned (.tuple #[])/\Lib.BuilderAtF 305 5 B b (.pointer (J ⟨b,0,U⟩)) bs c/\Below B w c:=by
 rcases h with h|h;·exact(Nh b w h.cell0 h.shape h.frozen0).mono λe c ⟨d,a⟩=>⟨d,by rw[a];exact h.used _,by rw[a];exact(Below.refl B w).setCell (p:=⟨b,0,U⟩) h.1 _⟩
 ·exact(Zl b w h.cell0).mono λe c ⟨d,a⟩=>⟨d,by rw[<-a];exact h,by rw[<-a];exact Below.refl B _⟩
set_option maxHeartbeats 1000000 in
def QG (B b:Nat) (bs:List Value) (s:ByteArray) (w:World) (h:Lib.IsBuilderF 305 5 B b bs w) (y:z bs+s.size<=1099511627776) (G:B<=w.heap.size):
  Calls Tryz.prog 175 #[.pointer (J ⟨b,0,U⟩),.string s] w λe C=>e=.returned (.tuple #[.int r s.size,.nilIface])/\Lib.BuilderAtF 305 5 B b (.pointer (J ⟨b,0,U⟩)) (bs++Lib.strCells s) C/\Below B w C:=by
 obtain⟨I,hi,t,u,x⟩:=info_parts infoByte
 go_enter Tryz.func175,Tryz.ntmps175
 go_wp2_with fail
 refine(aqO B b bs _ h).mono ?_;rintro e l ⟨rfl,F,j⟩;obtain⟨hB,v,f,i,q⟩:=F;have L:l.cell? ⟨b,0,U⟩=J (.pointer (J ⟨b,0,U⟩)):=by rw[Lib.cell_of_heap f];rfl
 have M:l.cell? ⟨b,1,U⟩=J v:=by rw[Lib.cell_of_heap f];rfl
 go_wp2_with (at_builtin;refine Lib.wpList_append_own_stringF _ rfl _ _ 241 9 rfl B 5 I Tryz.underlying241 Tryz.underlying9 hi t u x _ _ _ rfl i s rfl ?c3 ?c4 ?c5 ?_)
 case c3=>unfold maxLen;omega
 case c4=>omega
 case c5=>have:=j.size;omega
 intro K m c a _;have o:b<l.heap.size:=by
  rcases aH3 b l.heap.size with n|n;·exact n
  ·simp[aH1 n]at f
 have d:m.heap[b]?=J (.cells #[.pointer (J ⟨b,0,U⟩),v] 305 (0,0)):=by rw[a.block b o (λe=>q e.symm)];exact f
 have d0:m.cell? ⟨b,0,U⟩=J (.pointer (J ⟨b,0,U⟩)):=by rw[Lib.cell_of_heap d];rfl
 have d1:m.cell? ⟨b,1,U⟩=J v:=by rw[Lib.cell_of_heap d];rfl
 have f1:m.frozen? ⟨b,1,U⟩=eF:=Lib.frozen_of_heap d 1;obtain⟨ao,A,cap,rfl⟩:∃ao A cap,K=.slice ao A cap:=by
  rcases c.2 with⟨hv,_⟩|⟨g,cap,E,N,hv,_⟩;·exact⟨_,_,_,hv⟩
  ·exact⟨_,_,_,hv⟩
 go_wp2
 go_ret2
 refine⟨rfl,?_,?_⟩;·exact Lib.BuilderAtF.put (T:=305) (e:=5) hB d (bs':=bs++Lib.strCells s) (by simpa[Lib.strCells_length]using c) (by decide)
 ·exact(j.grown a (by have:=j.size;omega) (λk H=>(i.lt k H).1)).setCell (p:=⟨b,1,U⟩) hB _
def abt(w:World)(o:Obj)(b i:Nat)(v:Value)(h:b<w.heap.size):(w.alloc o).setCell ⟨b,i,U⟩ v=(w.setCell ⟨b,i,U⟩ v).alloc o:=by
 have c:∀f,(w.heap.push o).modify b f=(w.heap.modify b f).push o:=λf=>by apply Array.ext_getElem?;intro k;rw[aG3,Array.getElem?_push,Array.getElem?_push,aG3,Array.size_modify];split<;>split<;>first|rfl|omega
 simp only[World.setCell,World.alloc,c]
def sizeByte:(Tryz.prog.info? 5).map (λi=>i.size)=J 1:=by kernel_rfl
set_option maxHeartbeats 2000000 in
def ahW (B b n:Nat) (w:World) (hB:B<=b) (a:w.heap[b]?=J (.cells #[.pointer (J ⟨b,0,U⟩),.slice U 0 0] 305 (0,0))) (j:B<=w.heap.size) (u:n<=1099511627776):
  Calls Tryz.prog 286 #[.pointer (J ⟨b,0,U⟩),.int r n] w λe o=>e=.returned (.tuple #[])/\(Lib.BuilderAt 305 5 B b (.pointer (J ⟨b,0,U⟩)) [] o/\Below B w o):=by
 obtain⟨cs,h,p,g⟩:=Lib.run_makeNoZero (P:=Tryz.prog) w.drew #[3] 241 5 Tryz.underlying241 n (by omega);have m:IntKind.i64.wrap (IntKind.i64.wrap 0+(n:Int))=n:=by rw[IntKind.wrap_i64,IntKind.wrap_i64];omega
 have k:(callFunc 316 #[.int r (IntKind.i64.wrap (IntKind.i64.wrap 0+(n:Int)))]).run Tryz.prog w.drew=.ok (.value (.slice (J ⟨w.drew.heap.size,0,U⟩) n cs.size)) (w.drew.drew.drew.alloc (.cells cs 5)):=by rw[m,run_callFunc_extern Tryz.func316 (by kernel_rfl) (by kernel_rfl) (by kernel_rfl) (e:=Extern.BytealgMakeNoZero.makeNoZero #[3] #[241]) (by kernel_rfl),h];rfl
 have f:b<w.heap.size:=by
  rcases aH3 b w.heap.size with i|i;·exact i
  ·simp[aH1 i]at a
 have q:w.drew.cell? ⟨b,1,U⟩=J (.slice U 0 0):=by have:w.drew.heap[b]?=_:=a;rw[Lib.cell_of_heap this];rfl
 have s:(w.alloc (.cells cs 5)).cell? ⟨b,1,U⟩=J (.slice U 0 0):=by have:(w.alloc (.cells cs 5)).heap[b]?=_:=(Lib.alloc_old w _ b f).trans a;rw[Lib.cell_of_heap this];rfl
 have t:(w.alloc (.cells cs 5)).frozen? ⟨b,1,U⟩=eF:=Lib.frozen_of_heap ((Lib.alloc_old w _ b f).trans a) 1;have l:∀W:World,(Builtin.copy_ #[241,241] 3 #[.slice (J ⟨w.heap.size,0,U⟩) 0 cs.size,.slice U 0 0]).run Tryz.prog W=.ok (goInt 0) W:=
  λW=>run_copy_none W 241 241 3 5 _ _ 0 cs.size 0 0 Tryz.underlying241 Tryz.Builder_Extra_169.sizeByte rfl
 clear m;have c:=Lib.grown_fresh (T:=305) (e:=5) (cs:=cs) hB a j (g (by unfold maxLen;omega)) (by decide)
 go_enter Tryz.func286,Tryz.ntmps286
 have d:∀v,(w.alloc (.cells cs 5)).setCell ⟨b,1,U⟩ v=(w.setCell ⟨b,1,U⟩ v).alloc (.cells cs 5):=λv=>abt w _ b 1 v f;rw[d]at c
 go_wp2
 go_region
 all_goals (go_wp2;go_end0;exact⟨rfl,c⟩)
set_option maxHeartbeats 2000000 in
def ahk (B b n:Nat) (w:World) (hB:B<=b) (c:w.heap[b]?=J (.cells #[.pointer U,.slice U 0 0] 305 (0,0))) (g:B<=w.heap.size) (l:n<=1099511627776):
  Calls Tryz.prog 235 #[.pointer (J ⟨b,0,U⟩),.int r n] w λe f=>e=.returned (.tuple #[])/\(Lib.BuilderAt 305 5 B b (.pointer (J ⟨b,0,U⟩)) [] f/\Below B w f):=by
 have a:(w.setCell ⟨b,0,U⟩ (.pointer (J ⟨b,0,U⟩))).heap[b]?=J (.cells #[.pointer (J ⟨b,0,U⟩),.slice U 0 0] 305 (0,0)):=by simp[World.setCell,aG3,c]
 have h:(w.setCell ⟨b,0,U⟩ (.pointer (J ⟨b,0,U⟩))).cell? ⟨b,1,U⟩=J (.slice U 0 0):=by rw[Lib.cell_of_heap a];rfl
 have d:Below B w (w.setCell ⟨b,0,U⟩ (.pointer (J ⟨b,0,U⟩))):=(Below.refl B w).setCell (p:=⟨b,0,U⟩) hB _;have k:Lib.BuilderAt 305 5 B b (.pointer (J ⟨b,0,U⟩)) [] (w.setCell ⟨b,0,U⟩ (.pointer (J ⟨b,0,U⟩))):=⟨hB,.slice U 0 0,a,World.ownsRow_nil _ _ _ _,by simp[Value.ownBlock]⟩;have i:(w.setCell ⟨b,0,U⟩ (.pointer (J ⟨b,0,U⟩))).drew.cell? ⟨b,1,U⟩=J (.slice U 0 0):=h;have m:¬((n:Int)<0):=by omega
 go_enter Tryz.func235,Tryz.ntmps235
 go_wp2_with (refine(Nh b w (by rw[Lib.cell_of_heap c];rfl) (by simp[World.shape?,c]) (Lib.frozen_of_heap c 0)).mono ?_;rintro e f ⟨rfl,rfl⟩)
 go_region
 all_goals go_wp2_with (refine(ahW B b n (w.setCell ⟨b,0,U⟩ (.pointer (J ⟨b,0,U⟩))).drew hB a (by simpa[World.setCell,World.drew,-World.drew_eq]using g) l).mono ?_;rintro e f ⟨rfl,j,h2⟩)
 all_goals first
  |(go_end0;exact⟨rfl,j,d.drew.trans h2⟩)|(go_end0;exact⟨rfl,k.drew,d.drew⟩)
open Go.RowKit Go.Shelf Go.Lib Go.Ev
def aoH(c:Nat)(f:Option (AV×St)):Bool:=
 match f with
 |J (.df [.cU .u64 (.ofNat 0),.cU .u64 (.ofNat d)],[])=>Nat.beq d c|_=>eF
def aoI{c:Nat}{f:Option (AV×St)}(h:aoH c f=eT):f=J (.df [.cU .u64 (0:Nat),.cU .u64 (c:Nat)],[]):=by
 unfold aoH at h;split at h;·rename_i d;have:=ay0 h;subst this;rfl
 ·cases h
def aun:(List.range 64).all (λc=>aoH c (evF (iW Tryz.prog (λ_=>U) (λ_=>eF) (λ_=>U)) 100 234 [.cU .u64 1,.cU .u64 (Int.ofNat c)] []))=eT:=by kernel_rfl
def avI:JX Tryz.prog 234:=⟨_,Tryz.func234,by decide,rfl⟩
def BR:Tryz.prog.follows .mixedOrders=eT:=by kernel_rfl
def bits_Mul(c:Nat)(d:c<64)(w:World):Calls Tryz.prog 234 #[.int .u64 1,.int .u64 c] w λe f=>e=.returned (.tuple #[.int .u64 0,.int .u64 c])/\Below w.heap.size w f:=by
 have h:=aoI (a97.mp aun c (aD4.mpr d));exact afi BR avI h w [.int .u64 1,.int .u64 c] _ (λg=>.cW _ _ _ _ (.cU _ _) (.cW _ _ _ _ (.cU _ _) .de)) (λg v2 hv=>by
  cases hv with
  |df l i hs=>
   cases hs with
   |cW _ _ _ _ a b=>
    cases a;cases b with
    |cW _ _ _ _ a b=>
     cases a;cases b;rfl)
set_option maxHeartbeats 4000000 in
def agv (c:Nat) (w:World) (P:2<=c) (O:c<64):
  Calls Tryz.prog 166 #[.string ⟨#[0]⟩,.int r c] w λe F=>e=.returned (.string ⟨(List.replicate c (0:UInt8)).toArray⟩)/\Below w.heap.size w F:=by
 have f:=bits_Mul c O w;have Z:¬((c:Int)=0):=by omega
 have k1:¬((c:Int)=1):=by omega
 have k2:¬((c:Int)<0):=by omega
 have k3:¬((c:Int)>9223372036854775807):=by omega
 have k4:¬((c:Int)>8192):=by omega
 have wu:IntKind.u64.wrap (c:Int)=c:=by unfold IntKind.wrap;simp[IntKind.signed,IntKind.bits];omega
 have wi:IntKind.i64.wrap (c:Int)=c:=by rw[IntKind.wrap_i64];omega
 go_enter Tryz.func166,Tryz.ntmps166
 go_wp2_with (refine f.mono ?_;rintro e a ⟨rfl,h⟩)
 have b0:Below w.heap.size w (a.alloc (.cells #[.pointer U,.slice U 0 0] 305)):=h.alloc h.size _;refine(ahk a.heap.size a.heap.size c (a.alloc (.cells #[.pointer U,.slice U 0 0] 305)) (a06 _) (heap_alloc_new a _) ((Below.refl a.heap.size a).alloc (a06 _) _).size (by omega)).mono ?_;rintro e H ⟨rfl,L,b1⟩;have hB0:=h.size;have hB1:a.heap.size<=H.heap.size:=aB9 ((Below.refl a.heap.size a).alloc (a06 _) _).size b1.size
 go_wp2_with (refine(QG a.heap.size a.heap.size [] ⟨#[0]⟩ H (Lib.IsBuilderF.of (Or.inr L)) (by simp[ByteArray.size]) hB1).mono ?_;rintro e s ⟨rfl,h2,v⟩)
 have y:Lib.IsBuilderF 305 5 a.heap.size a.heap.size (Lib.byteCells (List.replicate 1 0)) s:=Or.inr h2;have u:Below w.heap.size w s:=b0.trans ((b1.mono hB0).trans (v.mono hB0));have D:a.heap.size<=s.heap.size:=aB9 hB1 v.size;clear h2 L b0 b1 v f
 go_loopg [] (c-1) (λg G=>∃q:Nat,1<=q/\q+g=c/\Lib.IsBuilderF 305 5 a.heap.size a.heap.size (Lib.byteCells (List.replicate q 0)) G/\Below w.heap.size w G/\a.heap.size<=G.heap.size)
 case atStart=>exact⟨1,a06 _,by omega,y,u,D⟩
 case round=>
  obtain⟨q,V,X,hB,l,i⟩:=hrel;have o:z (Lib.byteCells (List.replicate q (0:UInt8)))=q:=(by simp[Lib.byteCells]);have b:=Any.Builder_Len_f Tryz.lays170 a.heap.size a.heap.size _ wr hB;rw[o]at b;have d:=Any.Builder_String_any_f Tryz.lays169 Tryz.Builder_Extra_169 a.heap.size a.heap.size (List.replicate q 0) wr hB i;obtain⟨S,p⟩:∃S:ByteArray,(⟨(List.replicate q (0:UInt8)).toArray⟩:ByteArray)=S:=⟨_,rfl⟩;have N:S.size=q:=by rw[<-p];simp[ByteArray.size]
  rw[p]at d;cases gk with
  |zero=>
   obtain rfl:q=c:=(by omega);have A:¬((q:Int)<(q:Int)):=by omega
   go_wp2_with (first
    |(refine b.mono ?_;rintro e F ⟨rfl,E⟩;rw[E])|(refine d.mono ?_;rintro e I ⟨rfl,h3,j⟩))
   go_ret
   exact⟨by rw[p]<;>rfl,l.trans (j.mono hB0)⟩
  |succ g=>
   have A:(q:Int)<(c:Int):=(by omega);obtain⟨k,Q⟩:∃k,k=min (c-q) q:=⟨_,rfl⟩;have R:1<=k:=(by omega);have C:∀(M:Array TypeId) (t:TypeId) (W:World),(Builtin.min_ M t #[.int r ((c:Int)-(q:Int)),.int r (q:Int),.int r (c:Int)]).run Tryz.prog W=.ok (.int r (k:Int)) W:=λM t W=>by rw[run_min_int3];congr 2;omega
   have B:k<=q:=(by omega);have T:q+k<=c:=(by omega);clear Q
   go_wp2_with (first
    |(refine b.mono ?_;rintro e F ⟨rfl,E⟩;rw[E])|(refine d.mono ?_;rintro e I ⟨rfl,h3,j⟩))
   have m:(S.extract 0 k)=⟨(List.replicate k (0:UInt8)).toArray⟩:=by rw[<-p];apply ByteArray.ext;rw[ByteArray.data_extract];apply aD6;simp[aF7 B]
   have n:(S.extract 0 k).size=k:=by rw[m];simp[ByteArray.size]
   have x:=QG a.heap.size a.heap.size _ (S.extract 0 k) I h3 (by rw[o,n];omega) (aB9 i j.size)
   go_wp2_with (go_fit x;rintro e Y ⟨rfl,h4,K⟩)
   go_roundg (c-(q+k))
   case measure=>omega
   case rel=>refine⟨q+k,by omega,by omega,Or.inr ?_,l.trans ((j.mono hB0).trans (K.mono hB0)),aB9 i (aB9 j.size K.size)⟩;rw[Lib.strCells_eq,<-Lib.byteCells_append,m]at h4;rw[List.replicate_append_replicate.symm];exact h4
def aiA (c:Nat) (w:World) (a:c<64):
  Calls Tryz.prog 166 #[.string ⟨#[0]⟩,.int r c] w λe b=>e=.returned (.string ⟨(List.replicate c (0:UInt8)).toArray⟩)/\Below w.heap.size w b:=by
 match c,a with
 |0,_=>
  go_enter Tryz.func166,Tryz.ntmps166
  go_wp2
  go_ret
  exact⟨rfl,Below.refl _ _⟩
 |1,_=>
  go_enter Tryz.func166,Tryz.ntmps166
  go_wp2
  go_ret
  exact⟨rfl,Below.refl _ _⟩
 |c+2,a=>exact agv (c+2) w (by omega) a
def anD:JX Tryz.prog 166:=⟨_,Tryz.func166,by decide,rfl⟩
def BZ(args:LA)(O:St):Option (AV×St):=
 match args with
 |[.cV s,.cU r (.ofNat n)]=>match s with
  |[b]=>match Nat.beq b.toNat 0 with
   |eT=>match Nat.blt n 64 with|eT=>J (.cV (List.replicate n 0),O)|eF=>U
   |eF=>U
  |_=>U
 |_=>U
def Px{C:Ctx}(i:C.P=Tryz.prog):POK C 166 BZ:=by
 intro args O v m h g w a j k o;unfold BZ at h;split at h
 ·rename_i s n;split at h
  ·rename_i b;split at h
   ·rename_i hb;have hb:b=0:=aI0.mp (ay0 hb);subst hb;split at h
    ·rename_i d;have d:n<64:=az7 d;simp only[a05,ay8]at h;obtain⟨rfl,rfl⟩:=h;cases j with
     |cW _ v1 _ l1 x y=>
      cases y with
      |cW _ v2 _ l2 x2 l=>cases l;cases x;cases x2;refine Fh (by rw[i];exact anD) ?_;rw[i];exact(aiA n w d).mono λe p ⟨c,f⟩=>⟨_,c,g,xH k f,.cV _⟩
    ·cases h
   ·cases h
  ·cases h
 ·cases h
open Go.Ev Go.RowKit
noncomputable section
noncomputable def ints(k:IntKind)(l:List Nat):LA:=l.map λn=>.cU k (.ofNat n)
noncomputable def glT(g:Nat):Option LA:=
 match Nat.beq g Fv with
 |eT=>J (ofBytes hexDigits)|eF=>match Nat.beq g zt with|eT=>J (hI.map iw)|eF=>match Nat.beq g vU with|eT=>J (kR.map iw)|eF=>match Nat.beq g Eo with|eT=>J [.cV [114,111,111,116],.cV [115,110,97,112,115,104,111,116],.cV [116,97,114,103,101,116,115]]|eF=>match Nat.beq g wU with|eT=>J (ints r [0,31,59,90,120,151,181,212,243,273,304,334,365])|eF=>match Nat.beq g uM with|eT=>J (ints .u64 [1,10,100,1000,10000,100000,1000000,10000000,100000000,1000000000,10000000000,100000000000,1000000000000,10000000000000,100000000000000,1000000000000000,10000000000000000,100000000000000000,1000000000000000000,10000000000000000000])|eF=>U
noncomputable def XD(f:FuncId):Option (LA->St->Option (AV×St)):=match Nat.beq f qE with|eT=>J BZ|eF=>U
noncomputable def CC:Ctx:=iW Tryz.prog glT (λ_=>eF) XD
def kw:∀n l,CC.gl n=J l->ae 0 l=eT:=by
 intro n l h;change glT n=J l at h;unfold glT at h;repeat' split at h
 all_goals first
  |(cases h;done)|(simp only[a05]at h;subst h;kernel_rfl)
def aqu:VB CC:=by
 intro f h a;change XD f=J h at a;unfold XD at a;split at a;·rename_i hf;have:=ay0 hf;subst this;cases a;exact Px (C:=CC) rfl
 ·cases a
def ade:eY CC (ai CC):=JO BR (yF _ _ _ _) aqu
noncomputable def CR:Ctx:=iW Tryz.prog glT (λ_=>eT) (λ_=>U)
def avk(n:Nat):eY CR (evF CR n):=Nl BR (yF _ _ _ _) (λf h a=>by simp[iW]at a) n
def Pv{f:FuncId}(a:dW (evF CR 100 f [.cY] []) .cY=eT)(h2:dW (evF CR 100 f [.fu] []) (.eC 0 [])=eT):POK CC f KZ:=aal (C:=CR) (avk 100) kw a h2
def ok0:Ok []:=rfl
def Rl{f:FuncId}{K:KF}(a:cF Tryz.prog f=J K.V:=by kernel_rfl)(h2:Ri Tryz.prog f=eT:=by kernel_rfl)(h3:K.ok=eT:=by kernel_rfl)(b:XD f=U:=by exact rfl):Has CC f K:=ahZ a h2 h3 b rfl
def aiJ:QR CC where
 eN:=Rl
 lr:=Rl
 hR:=Rl
 mf:=Rl
 mr:=Rl
 lP:=Rl
 h0:=Rl
 g5:=Rl
 gr:=rfl
 gi:=rfl
 gd:=rfl
 nj:=λn hn O=>by have hp:CC.fg qE=J BZ:=rfl;rw[aey];unfold ZO;rw[hp];have hb:Nat.blt n 64=eT:=aD9 hn;change BZ [.cV [0],.cU r (.ofNat n)] O=_;unfold BZ;simp only[hb];rfl
def aul:adl CC where
 li:=aiJ
 eE:=Rl
 fU:=Rl
 of:=Rl
 ng:=Rl
 nh:=Rl
def auD:POK CC Du (RH λs=>.cV (tN s)):=aan ade kw _ λs hs=>PN aiJ s hs [] ok0
def auB:POK CC zi (akf λs t=>.cV (hmac s t)):=apc ade kw _ λs t hs a=>aoy aul s t (by omega) a [] ok0
def ap6:POK CC Np (RH λs=>.cX (s.all ZZ)):=aan ade kw _ λs hs=>au3 (Rl) (Rl) s hs []
def aej:POK CC Fp (RH λs=>.cV (yU s)):=aan ade kw _ λs hs=>hex_Encode aiJ.g5 rfl s hs [] ok0
def auz:POK CC uX aru:=arz λargs w=>by rw[show CC.P=Tryz.prog from rfl,run_callFunc_extern Tryz.func255 (by kernel_rfl) (by kernel_rfl) (by kernel_rfl) (e:=Extern.BytealgCompare.compare) (by kernel_rfl)]
noncomputable def aws(c:Nat)(d:Option (AV×St)):Bool:=dW d (.cV (List.replicate c 48))
def arH:(List.range 5).all (λc=>aws c (evF (iW Tryz.prog glT (λ_=>eF) (λ_=>U)) 1000 166 [.cV [48],.cU r (Int.ofNat c)] []))=eT:=by kernel_rfl
noncomputable def ap3(args:LA)(O:St):Option (AV×St):=
 match args with
 |[.cV [b],.cU r (.ofNat n)]=>match Fe (Nat.beq b.toNat 48) (Nat.ble n 4)with|eT=>J (.cV (List.replicate n 48),O)|eF=>U
 |_=>U
def ary:POK CC qE ap3:=by
 intro args O v m h g w a e l j;unfold ap3 at h;split at h
 ·rename_i b n;split at h;·rename_i hb;rw[kX,a01]at hb;have c:b=48:=aI0.mp (ay0 hb.1);have d:n<5:=Nat.lt_succ_of_le (az7 hb.2);subst c;simp only[a05,ay8]at h;obtain⟨rfl,rfl⟩:=h;have i:eY (iW Tryz.prog glT (λ_=>eF) (λ_=>U)) (evF (iW Tryz.prog glT (λ_=>eF) (λ_=>U)) 1000):=Nl BR (yF _ _ _ _) (λf h k=>by simp[iW]at k) 1000;exact qg i kw (by rfl) (IM (a97.mp arH n (aD4.mpr d))) e l j
  ·cases h
 ·cases h
end
variable{C:Ctx}
def nmG(b:C.P=Tryz.prog){f:FuncId}(h:Ri Tryz.prog f=eT):QQ C f:=by
 rw[<-b]at h;unfold Ri at h;split at h;·rename_i fn a;exact⟨fn,a,by simpa using h⟩
 ·cases h
def cT1:cTF Tryz.prog qi=J DL:=by kernel_rfl
def cT2:cTF Tryz.prog su=J wZ:=by kernel_rfl
def cT3:cTF Tryz.prog oh=J nX:=by kernel_rfl
def cT4:cTF Tryz.prog iM=J jE:=by kernel_rfl
def amE(a:C.P=Tryz.prog):atw C TT:=by
 intro f x h;rw[a];unfold TT at h;split at h;·rename_i hb;have:=ay0 hb;subst this;cases h;exact⟨cT1,nmG a (by kernel_rfl)⟩
 ·split at h;·rename_i hb;have:=ay0 hb;subst this;cases h;exact⟨cT2,nmG a (by kernel_rfl)⟩
  ·split at h;·rename_i hb;have:=ay0 hb;subst this;cases h;exact⟨cT3,nmG a (by kernel_rfl)⟩
   ·split at h;·rename_i hb;have:=ay0 hb;subst this;cases h;exact⟨cT4,nmG a (by kernel_rfl)⟩
    ·cases h
def cX1:cCF Tryz.prog gK=J fC:=by kernel_rfl
def cX2:cCF Tryz.prog uG=J jA:=by kernel_rfl
def cQ1:cKF Tryz.prog BL=J dU:=by kernel_rfl
def cQ2:cKF Tryz.prog GK=J gV:=by kernel_rfl
def akh(a:C.P=Tryz.prog)(call:bH)(b:eY C call):POK C gK (Ar C call (qf C call TT 8) fC dU):=
 acO (by rw[a];exact BR) (amE a) 8 (by rw[a];exact cX1) (nmG a (by kernel_rfl)) (by rw[a];exact cQ1) (nmG a (by kernel_rfl)) call b
def akg(a:C.P=Tryz.prog)(call:bH)(b:eY C call):POK C uG (Ar C call (qf C call TT 8) jA gV):=
 acO (by rw[a];exact BR) (amE a) 8 (by rw[a];exact cX2) (nmG a (by kernel_rfl)) (by rw[a];exact cQ2) (nmG a (by kernel_rfl)) call b
end Go.Proofs.YtmbaofiahlcnhaaGreatDoor
