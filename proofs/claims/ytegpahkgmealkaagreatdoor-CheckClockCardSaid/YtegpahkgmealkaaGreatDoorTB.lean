/- Contracts of functions over this translation. No conditions. -/
import Derived.Test.YtegpahkgmealkaaGreatDoorTA
import Derived.Shelf.Strings.Builder1
import Derived.Test.YtegpahkgmealkaaGreatDoorProg
import Derived.WalkKit
import Derived.WalkLawsBesides
import Derived.WalkSpells
import Derived.Lib.Hide
import Derived.Outline
import Derived.Test.YtegpahkgmealkaaGreatDoorEC
import Derived.Lib.DecodeN
import Derived.Laws.RangeAny
import Derived.Lib.Strings
import Derived.Lib.IndexBytes
import Derived.Below
import Derived.Shelf.Strings.Repeat
import Derived.KernelRfl
import Derived.Test.YtegpahkgmealkaaGreatDoorCB
set_option linter.unusedVariables false
set_option linter.unusedSimpArgs false
namespace Go.Ev
set_option maxRecDepth 100000
variable{C:Ctx}
theorem u8_xor(b c:UInt8):IntKind.u8.wrap ((BitVec.ofInt IntKind.u8.bits (b.toNat:Int)^^^BitVec.ofInt IntKind.u8.bits (c.toNat:Int)).toNat:Int)=((b^^^c).toNat:Int):=by
 rw[anm .u8 rfl b.toNat c.toNat b.toNat_lt c.toNat_lt,UInt8.toNat_xor]
theorem aoh(hC:Has C DD Jb)(b:UInt8)(O:St):ai C DD [.int .u8 (b.toNat:Int)] O=some (.int .u8 ((b^^^54).toNat:Int),O):=by
 rw[hC.run];unfold yH;have h:IntKind.u8.wrap ((BitVec.ofInt IntKind.u8.bits (b.toNat:Int)^^^BitVec.ofInt IntKind.u8.bits 54).toNat:Int)=((b^^^54).toNat:Int):=u8_xor b 54;simp only[Jb,h,EVY,seval]
theorem aoi(hC:Has C DF Jc)(b:UInt8)(O:St):ai C DF [.int .u8 (b.toNat:Int)] O=some (.int .u8 ((b^^^92).toNat:Int),O):=by
 rw[hC.run];unfold yH;have h:IntKind.u8.wrap ((BitVec.ofInt IntKind.u8.bits (b.toNat:Int)^^^BitVec.ofInt IntKind.u8.bits 92).toNat:Int)=((b^^^92).toNat:Int):=u8_xor b 92;simp only[Jc,h,EVY,seval]
def FD(c:UInt8):Nat->Nat->LU->LU
 |0,_,l=>l
 |n+1,i,l=>FD c n (i+1) (l.set i (l.getD i 0^^^c))
theorem zn(c:UInt8):∀(n i:Nat) (l:LU),(FD c n i l).length=l.length
 |0,_,_=>rfl
 |n+1,i,l=>by unfold FD;rw[zn c n,List.length_set]
theorem bytes_at(l:LU)(i:Nat)(h:i<l.length):((ofBytes l).drop i).head? =some (.int .u8 ((l.getD i 0).toNat:Int)):=by
 unfold ofBytes;rw[List.head?_drop,List.getElem?_map,List.getElem?_eq_getElem h,List.getD_eq_getElem?_getD,List.getElem?_eq_getElem h];rfl
theorem KU (f:FuncId) (c:UInt8) (hf:∀(b:UInt8) (O:St),ai C f [.int .u8 (b.toNat:Int)] O=some (.int .u8 ((b^^^c).toNat:Int),O)) (O:St):
  ∀(n i:Nat) (l:LU),i+n=64->l.length=64->
  aB C (ai C) 19 [1,2,6] lU [(1,.func (.func f) [] []),(2,.ref O.length 0),(6,.int .i64 i)] (O++[.cells (ofBytes l) FZ])=
   some (.exit 0,[(2,.ref O.length 0)],O++[.cells (ofBytes (FD c n i l)) FZ])
 |0,i,l,hi,hl=>by
  rw[iE (he:=rfl)];have h:¬((i:Int)<64):=by omega
  simp only[lU,h,FD,EVY,seval]
 |n+1,i,l,hi,hl=>by
  rw[iE (he:=rfl)];generalize hk:aB C (ai C) 19 [1,2,6] lU=rest;have h:((i:Int)<64):=by omega
  have w5:=wrS i (by omega)
  have p1:∀j:Nat,(0:Int)<=(j:Int):=fun j=>by omega
  have l5:i<64:=by omega
  have l6:i+1<=64:=by omega
  have a0:=bytes_at l i (by omega)
  have s1:=PP l i (l.getD i 0^^^c) (by omega)
  simp only[lU,h,w5,p1,l5,l6,a0,s1,hf,hl,Dt,au,jm,mY,Int.toNat_natCast,EVY,seval];rw[<-hk];exact KU f c hf O n (i+1) _ (by omega) (by rw[List.length_set,hl])
theorem Pg (hC:Has C BQ BJ) (f:FuncId) (c:UInt8) (hf:∀(b:UInt8) (O:St),ai C f [.int .u8 (b.toNat:Int)] O=some (.int .u8 ((b^^^c).toNat:Int),O)) (O:St) (hσ:Ok O) (l:LU) (hl:l.length=64):
  ai C BQ [.agg (ofBytes l),.func (.func f) [] []] O=some (.str (FD c 64 0 l),O):=by
 rw[hC.run];unfold yH;have hn:∀(r) (l:LU),aJ O r (ofBytes l)=some (ofBytes l,[]):=by
  intro r l
  induction l with
  |nil=>rfl
  |cons b l ih=>
   show(match aU O r (.int .u8 (b.toNat:Int)),aJ O r (ofBytes l)with|some (v,fs),some (l,gs)=>some (v::l,fs++gs)|_,_=>none)=_
   rw[ih];rfl
 have q:=KU f c hf O 64 0 l (by omega) hl
 simp only[Int.cast_ofNat_Int]at q;obtain⟨r,hr⟩:∃r,r=FD c 64 0 l:=⟨_,rfl⟩;rw[<-hr]at q⊢;have lr:r.length=64:=by rw[hr,zn,hl]
 have bt:=qI r;have tk:(ofBytes r).take 64=ofBytes r:=List.take_of_length_le (by rw[au];omega)
 have ty:∀x,tidy O.length [.str r] (O++[x])=O:=fun x=>yz hσ rfl _;simp only[BJ,hn,q,lr,bt,tk,ty,au,jm,EVY,seval]
theorem Jz(O:St)(r):∀l:LU,aJ O r (ofBytes l)=some (ofBytes l,[])
 |[]=>rfl
 |b::l=>by
  show(match aU O r (.int .u8 (b.toNat:Int)),aJ O r (ofBytes l)with|some (v,fs),some (l,gs)=>some (v::l,fs++gs)|_,_=>none)=_
  rw[Jz O r l];rfl
def oI(key:LU):LU:=lay qi 0 ((if key.length>64 then oL key else key))
theorem Eu(key:LU):(oI key).length=64:=by
 unfold oI;have:qi.length=64:=rfl;rw[Jv,this];split
 ·rw[nP,this];omega
 ·rw[this];omega
theorem aeJ{part s:LU}{used:Nat}(h:used+s.length<=part.length):splice (ofBytes part) used (ofBytes s)=ofBytes (lay part used s):=by
 unfold splice lay ofBytes;simp
theorem WB(e:As)(O:St)(t:Nat)(ag:Bool)(sz:Nat)(l:List XR):bI e O (.cell t ag sz::l)=match look e t,bI e O l with
 |.ref o off,some vs=>match O[o]? with
  |some (.cells c _)=>match pt ag sz (c.drop off)with
   |some v=>some (v::vs)
   |none=>none
  |_=>none
 |_,_=>none:=rfl
theorem aeS (hC:Has C E8 AP) (h:Je C) (key:LU) (hk:key.length<=1099511627776) (O:St) (hσ:Ok O):
  ai C E8 [.str key] O=some (.agg (ofBytes (oI key)),O):=by
 rw[hC.run];unfold yH;have z:∀Y:St,Y++[AO.cells [.int .u8 0,.int .u8 0,.int .u8 0,.int .u8 0,.int .u8 0,.int .u8 0,.int .u8 0,.int .u8 0,.int .u8 0,.int .u8 0,.int .u8 0,.int .u8 0,.int .u8 0,.int .u8 0,.int .u8 0,.int .u8 0,.int .u8 0,.int .u8 0,.int .u8 0,.int .u8 0,.int .u8 0,.int .u8 0,.int .u8 0,.int .u8 0,.int .u8 0,.int .u8 0,.int .u8 0,.int .u8 0,.int .u8 0,.int .u8 0,.int .u8 0,.int .u8 0,.int .u8 0,.int .u8 0,.int .u8 0,.int .u8 0,.int .u8 0,.int .u8 0,.int .u8 0,.int .u8 0,.int .u8 0,.int .u8 0,.int .u8 0,.int .u8 0,.int .u8 0,.int .u8 0,.int .u8 0,.int .u8 0,.int .u8 0,.int .u8 0,.int .u8 0,.int .u8 0,.int .u8 0,.int .u8 0,.int .u8 0,.int .u8 0,.int .u8 0,.int .u8 0,.int .u8 0,.int .u8 0,.int .u8 0,.int .u8 0,.int .u8 0,.int .u8 0] FZ]=Y++[AO.cells (ofBytes qi) FZ]:=fun _=>rfl;have ok1:∀{Y:St},Ok Y->Ok (Y++[.cells (ofBytes qi) FZ]):=fun{Y} h=>h.app (by simp[AO.below,iT])
 have lz:qi.length=64:=rfl;obtain⟨s,hs⟩:∃s,s=(if key.length>64 then oL key else key):=⟨_,rfl⟩;have ls:s.length<=64:=by rw[hs];split;(rw[nP];omega);omega
 have mn:min s.length 64=s.length:=by omega
 have tk:(ofBytes s).take s.length=ofBytes s:=List.take_of_length_le (by rw[au];omega)
 have hb:oI key=lay qi 0 s:=by unfold oI;rw[hs]
 have lb:=Eu key;have sp:=aeJ (part:=qi) (used:=0) (s:=s) (by rw[lz];omega)
 rw[<-hb]at sp;have tkb:(ofBytes (oI key)).take 64=ofBytes (oI key):=List.take_of_length_le (by rw[au];omega)
 have spa:splice (ofBytes qi) 0 (ofBytes (oI key))=ofBytes (oI key):=AB _ _ (by rw[au,au,lb,lz])
 have e3:∀x y z:AO,(O++[x]++[y]).set O.length z=O++[z]++[y]:=fun x y z=>by
  rw[List.set_append_left _ _ (by simp),mY]
 have g3:∀x y:AO,(O++[x]++[y])[O.length]?=some x:=fun x y=>Bz (jm _ _) _;have ty:∀x y,tidy O.length [.agg (ofBytes (oI key))] (O++[x]++[y])=O:=fun x y=>by
  rw[List.append_assoc];exact yz hσ (by simp[ae,below,iT]) _
 by_cases hg:key.length>64
 ·have q:=Nc h key hk (O++[.cells (ofBytes qi) FZ]++[.cells (ofBytes qi) FZ]) (ok1 (ok1 hσ));rw[if_pos hg]at hs;rw[<-hs]at q;have hg':((key.length:Int)>64):=by omega
  simp only[AP,z,hg',q,lz,mn,tk,sp,spa,tkb,lb,ls,e3,g3,ty,jm,mY,Jz,WB,au,rE,EVY,seval]
 ·rw[if_neg hg]at hs;have hg':¬((key.length:Int)>64):=by omega
  rw[hs]at*;simp only[AP,z,hg',lz,mn,tk,sp,spa,tkb,lb,ls,e3,g3,ty,jm,mY,Jz,WB,au,rE,EVY,seval]
def hmac(key s:LU):LU:=oL (FD 92 64 0 (oI key)++oL (FD 54 64 0 (oI key)++s))
structure Xb(C:Ctx):Prop where
 sha:Je C
 block:Has C E8 AP
 combine:Has C BQ BJ
 of:Has C vF YL
 of1:Has C DD Jb
 of2:Has C DF Jc
theorem ahu (h:Xb C) (key s:LU) (hk:key.length<=1099511627776) (hs:s.length<=1099511627000) (O:St) (hσ:Ok O):
  ai C vF [.str key,.str s] O=some (.str (hmac key s),O):=by
 rw[h.of.run];unfold yH;have z:∀Y:St,Y++[AO.cells [.int .u8 0,.int .u8 0,.int .u8 0,.int .u8 0,.int .u8 0,.int .u8 0,.int .u8 0,.int .u8 0,.int .u8 0,.int .u8 0,.int .u8 0,.int .u8 0,.int .u8 0,.int .u8 0,.int .u8 0,.int .u8 0,.int .u8 0,.int .u8 0,.int .u8 0,.int .u8 0,.int .u8 0,.int .u8 0,.int .u8 0,.int .u8 0,.int .u8 0,.int .u8 0,.int .u8 0,.int .u8 0,.int .u8 0,.int .u8 0,.int .u8 0,.int .u8 0,.int .u8 0,.int .u8 0,.int .u8 0,.int .u8 0,.int .u8 0,.int .u8 0,.int .u8 0,.int .u8 0,.int .u8 0,.int .u8 0,.int .u8 0,.int .u8 0,.int .u8 0,.int .u8 0,.int .u8 0,.int .u8 0,.int .u8 0,.int .u8 0,.int .u8 0,.int .u8 0,.int .u8 0,.int .u8 0,.int .u8 0,.int .u8 0,.int .u8 0,.int .u8 0,.int .u8 0,.int .u8 0,.int .u8 0,.int .u8 0,.int .u8 0,.int .u8 0] FZ]=Y++[AO.cells (ofBytes qi) FZ]:=fun _=>rfl;have q0:=aeS h.block h.sha key hk O hσ;have lb:=Eu key;obtain⟨b,hb⟩:∃b,b=oI key:=⟨_,rfl⟩;rw[<-hb]at q0 lb;have ok1:Ok (O++[.cells (ofBytes b) FZ]):=hσ.app (by simp[AO.below,iT])
 have q1:=Pg h.combine DD 54 (aoh h.of1) _ ok1 b lb;have q2:=Pg h.combine DF 92 (aoi h.of2) _ ok1 b lb;have l1:=zn 54 64 0 b;have l2:=zn 92 64 0 b;obtain⟨x,hx⟩:∃x,x=FD 54 64 0 b:=⟨_,rfl⟩;obtain⟨y,hy⟩:∃y,y=FD 92 64 0 b:=⟨_,rfl⟩;rw[<-hx]at q1 l1;rw[<-hy]at q2 l2;have q3:=Nc h.sha (x++s) (by rw[List.length_append,l1,lb];omega) _ ok1
 have q4:=Nc h.sha (y++oL (x++s)) (by rw[List.length_append,l2,lb,nP];omega) _ ok1
 have e:hmac key s=oL (y++oL (x++s)):=by unfold hmac;rw[hy,hx,hb]
 rw[e];have b1:pF .add x s=some (.str (x++s)):=by unfold pF;dsimp only;rw[if_neg (by omega)]
 have b2:pF .add y (oL (x++s))=some (.str (y++oL (x++s))):=by unfold pF;dsimp only;rw[if_neg (by rw[nP];omega)]
 have spa:splice (ofBytes qi) 0 (ofBytes b)=ofBytes b:=AB _ _ (by rw[au,au,lb];rfl)
 have lz:qi.length=64:=rfl;have tkb:(ofBytes b).take 64=ofBytes b:=List.take_of_length_le (by rw[au];omega)
 have ty:∀v w,tidy O.length [.str v] (O++[w])=O:=fun v w=>yz hσ rfl _;simp only[YL,z,q0,q1,q2,q3,q4,b1,b2,spa,lz,tkb,lb,ty,jm,mY,au,rE,EVY,seval]
end Go.Ev
namespace Go.Proofs.YtegpahkgmealkaaGreatDoor
open Go.Shelf Go.Proofs
def Tryz.lays170_ren:Go.Shelf.Ren:=⟨fun|170=>211|n=>n,fun|70=>245|3=>3|0=>0|72=>248|37=>246|5=>5|n=>n,fun|n=>n⟩
theorem Tryz.lays170:Go.Proofs.Lays.n170 Tryz.prog Tryz.lays170_ren:={
 mixed:=by kernel_rfl
 f170:=Tryz.func211.trans (congrArg some (by kernel_rfl))
 t0:=Tryz.underlying0
 a0:=Tryz.isAgg0
 z0:=Tryz.sizeOf0
 v0:=Tryz.zeroValue0
 t3:=Tryz.underlying3
 a3:=Tryz.isAgg3
 z3:=Tryz.sizeOf3
 v3:=Tryz.zeroValue3
 t37:=Tryz.underlying246
 a37:=Tryz.isAgg246
 z37:=Tryz.sizeOf246
 v37:=Tryz.zeroValue246
 t70:=Tryz.underlying245
 a70:=Tryz.isAgg245
 z70:=Tryz.sizeOf245
 v70:=Tryz.zeroValue245
 t72:=Tryz.underlying248
 a72:=Tryz.isAgg248
 z72:=Tryz.sizeOf248
 v72:=Tryz.zeroValue248}
def Tryz.lays169_ren:Go.Shelf.Ren:=⟨fun|169=>147|n=>n,fun|70=>245|9=>9|0=>0|72=>248|37=>246|127=>310|3=>3|5=>5|n=>n,fun|n=>n⟩
theorem Tryz.lays169:Go.Proofs.Lays.n169 Tryz.prog Tryz.lays169_ren:={
 mixed:=by kernel_rfl
 f169:=Tryz.func147.trans (congrArg some (by kernel_rfl))
 t0:=Tryz.underlying0
 a0:=Tryz.isAgg0
 z0:=Tryz.sizeOf0
 v0:=Tryz.zeroValue0
 t3:=Tryz.underlying3
 a3:=Tryz.isAgg3
 z3:=Tryz.sizeOf3
 v3:=Tryz.zeroValue3
 t9:=Tryz.underlying9
 a9:=Tryz.isAgg9
 z9:=Tryz.sizeOf9
 v9:=Tryz.zeroValue9
 t37:=Tryz.underlying246
 a37:=Tryz.isAgg246
 z37:=Tryz.sizeOf246
 v37:=Tryz.zeroValue246
 t70:=Tryz.underlying245
 a70:=Tryz.isAgg245
 z70:=Tryz.sizeOf245
 v70:=Tryz.zeroValue245
 t72:=Tryz.underlying248
 a72:=Tryz.isAgg248
 z72:=Tryz.sizeOf248
 v72:=Tryz.zeroValue248
 t127:=Tryz.underlying310
 a127:=Tryz.isAgg310
 z127:=Tryz.sizeOf310
 v127:=Tryz.zeroValue310}
theorem Tryz.Builder_Extra_169:Builder.Extra Tryz.prog Tryz.lays169_ren:={
 sizeBuilder:=by kernel_rfl
 liesBuilder:=by kernel_rfl
 t5:=Tryz.underlying5
 a5:=Tryz.isAgg5
 z5:=Tryz.sizeOf5
 v5:=Tryz.zeroValue5
 infoByte:=by kernel_rfl
 cellsByte:=by kernel_rfl
 sizeByte:=by kernel_rfl
 neB5:=by decide}
open Go.RowKit
set_option maxRecDepth 100000
theorem ald:(Tryz.prog.info? 248).map (fun i=>i.size)=some 2:=by kernel_rfl
theorem infoByte:(Tryz.prog.info? 5).map (fun i=>(i.zero,i.size,i.bytes))=some (some (.int .u8 0),1,1):=by kernel_rfl
theorem aoc:liesAt Tryz.prog Tryz.prog.depth 248 (2/Tryz.prog.cellsOf 248) 0 248 1=true:=by kernel_rfl
theorem Rq (b:Nat) (w:World) (h0:w.cell? ⟨b,0,none⟩=some (.pointer (some ⟨b,0,none⟩))):
  Calls Tryz.prog 199 #[.pointer (some ⟨b,0,none⟩)] w fun e w'=>e=.returned (.tuple #[])/\w=w':=by
 obtain⟨j,hj,_⟩:=Option.map_eq_some_iff.1 ald;have hq:=Lib.run_neq_ptr_same (P:=Tryz.prog) w (⟨b,0,none⟩) Tryz.underlying245 hj
 go_enter Tryz.func199,Tryz.ntmps199
 go_wp2
 go_end0
 exact⟨rfl,rfl⟩
theorem ES (b:Nat) (w:World) (h0:w.cell? ⟨b,0,none⟩=some (.pointer none)) (hsh:w.shape? b=some (248,2)) (hfz:w.frozen? ⟨b,0,none⟩=false):
  Calls Tryz.prog 199 #[.pointer (some ⟨b,0,none⟩)] w fun e w'=>e=.returned (.tuple #[])/\w'=w.setCell ⟨b,0,none⟩ (.pointer (some ⟨b,0,none⟩)):=by
 obtain⟨j,hj,hjs⟩:=Option.map_eq_some_iff.1 ald;have h1:=Lib.run_to_unsafe (P:=Tryz.prog) w ⟨b,0,none⟩ Tryz.underlying245 Tryz.underlying365 hj (by rw[hjs];decide) hsh (Nat.zero_lt_succ 1)
 have h2:=Lib.run_from_unsafe (P:=Tryz.prog) w ⟨b,0,none⟩ Tryz.underlying365 Tryz.underlying245 hj hsh aoc;have h3:(callFunc 256 #[.pointer (some ⟨b,0,none⟩)]).run Tryz.prog w=.ok (Next.value (.pointer (some ⟨b,0,none⟩))) w:=by
  rw[run_callFunc_extern Tryz.func256 (by kernel_rfl) (by kernel_rfl) (by kernel_rfl) (e:=Extern.AbiNoEscape.same) (by kernel_rfl),Lib.run_noEscape];rfl
 go_enter Tryz.func199,Tryz.ntmps199
 go_wp2
 go_end0
 exact⟨rfl,rfl⟩
open Go.Ev Go.RowKit Go.Shelf
theorem agu:EG Tryz.prog 199:=⟨_,Tryz.func199,by decide,rfl⟩
theorem Zt:EG Tryz.prog 147:=⟨_,Tryz.func147,by decide,rfl⟩
def Pq(args:LA)(O:St):Option (AV×St):=
 match args with
 |[.ref o 0]=>match O[o]? with
  |some (.cells [.nilp,b] ⟨false,some (248,true)⟩)=>some (.undef,O.set o (.cells [.ref o 0,b] ⟨false,some (248,true)⟩))
  |some (.cells (.ref p 0::l) fz)=>match Nat.beq o p with
   |true=>some (.undef,O)
   |false=>none
  |_=>none
 |_=>none
theorem adD{C:Ctx}(hP:C.P=Tryz.prog):POK C 199 Pq:=by
 intro args O v O' h g w args' ha hw hg;unfold Pq at h;split at h
 ·rename_i o;cases ha with
  |cons _ v1 _ l1 x y=>
   cases y;cases x with
   |ref _ _ ho=>
    split at h
    ·rename_i b hb;simp at h;obtain⟨rfl,rfl⟩:=h;obtain⟨c,e,fr,h1,h2,h3,h4,h5,h6⟩:=hw.obj o _ hb;obtain⟨he,hx⟩:=h5.2 _ _ rfl;obtain⟨u,hu,hr⟩:=h4 0 .nilp rfl;cases hr;have hc0:w.cell? ⟨g.ob o,0,none⟩=some (.pointer none):=by rw[cell_of_heap h1];exact hu
     have hsz:c.size=2:=hx rfl;have hgo:=aex (P:=C.P) hw hb (off:=0) (.ref o 0 ho) (by simp) rfl
     refine Bd (by rw[hP];exact agu) ?_
     rw[hP];exact(ES (g.ob o) w hc0 (by simp[World.shape?,h1,hsz,he]) (by rw[World.frozen?,h1,h5.1];rfl)).mono fun e w2 ⟨he2,hw2⟩=>⟨_,he2,g,by rw[hw2];exact hgo,.tup _ _ .nil⟩
    ·rename_i p l fz hb;split at h
     ·rename_i hop;have hop:=Nat.eq_of_beq_eq_true hop;subst hop;simp at h;obtain⟨rfl,rfl⟩:=h;obtain⟨c,e,fr,h1,h2,h3,h4,h5,h6⟩:=hw.obj o _ hb;obtain⟨u,hu,hr⟩:=h4 0 (.ref o 0) rfl;cases hr;have hc0:w.cell? ⟨g.ob o,0,none⟩=some (.pointer (some ⟨g.ob o,0,none⟩)):=by rw[cell_of_heap h1];exact hu
      refine Bd (by rw[hP];exact agu) ?_
      rw[hP];exact(Rq (g.ob o) w hc0).mono fun e w2 ⟨he2,hw2⟩=>⟨_,he2,g,by rw[<-hw2];exact .refl hw,.tup _ _ .nil⟩
     ·cases h
    ·cases h
 ·cases h
section
variable{P:Program}{ρ:Ren}
set_option maxHeartbeats 1000000 in
theorem Yx (L:Lays.n169 P ρ) (X:Builder.Extra P ρ) (b g cap:Nat) (p:Value) (cur:Array Value) (l:LU) (w:World) (hbk:w.heap[b]?=some (.cells #[p,.slice (some ⟨g,0,none⟩) l.length cap] (ρ.t 72) (0,0))) (hg:w.heap[g]?=some (.cells cur (ρ.t 5) (0,0)))
  (h0:l≠[]) (hnc:l.length<=cap) (hcs:l.length<=cur.size) (hcm:l.length<=1099511627776) (htake:∀(j:Nat) (x:UInt8),l[j]?=some x->cur[j]?=some (Value.int .u8 x.toNat)):
  Calls P (ρ.f 169) #[.pointer (some ⟨b,0,none⟩)] w fun e w'=>e=.returned (.string ⟨l.toArray⟩)/\w'=w.drew.freeze ⟨g,0,none⟩ l.length:=by
 have hl0:l.length≠0:=by simpa using h0
 have c1:w.drew.cell? ⟨b,1,none⟩=some (.slice (some ⟨g,0,none⟩) l.length cap):=by
  have:w.drew.heap[b]?=some (.cells #[p,.slice (some ⟨g,0,none⟩) l.length cap] (ρ.t 72) (0,0)):=hbk;rw[Lib.cell_of_heap this];rfl
 have hSD:(Builtin.unsafeSliceData_ #[(ρ.t 37)] (ρ.t 127) #[.slice (some ⟨g,0,none⟩) l.length cap]).run P w.drew=.ok (.pointer (some ⟨g,0,none⟩)) w.drew:=
  Lib.run_unsafeSliceData_row _ _ _ _ _ _ (by omega)
 have hUS:(Builtin.unsafeString_ #[(ρ.t 127),(ρ.t 3)] (ρ.t 9) #[.pointer (some ⟨g,0,none⟩),.int .i64 l.length]).run P w.drew=.ok (.string ⟨l.toArray⟩) (w.drew.freeze ⟨g,0,none⟩ l.length):=by
  refine Lib.run_unsafeString_row w.drew (ρ.t 127) (ρ.t 3) (ρ.t 9) (ρ.t 5) L.t127 X.cellsByte g cur.size (by have hg':w.drew.heap[g]?=some (.cells cur (ρ.t 5) (0,0)):=hg;simp[World.shape?,hg']) l h0 (by omega) (by omega) ?_
  intro j x hx;have hg':w.drew.heap[g]?=some (.cells cur (ρ.t 5) (0,0)):=hg;have ha:(⟨g,0,none⟩:Addr).add j=⟨g,0+j,none⟩:=by unfold Addr.add;split<;>simp_all
  rw[ha,Lib.cell_of_heap hg',Nat.zero_add];exact htake j x hx
 clear htake hcm hcs hnc;have mixed:=L.mixed;have t72:=L.t72;have a72:=L.a72;have z72:=L.z72;have v72:=L.v72;have u72:=run_underlying L.t72;have t70:=L.t70;have a70:=L.a70;have z70:=L.z70;have v70:=L.v70;have u70:=run_underlying L.t70;have t37:=L.t37;have a37:=L.a37;have z37:=L.z37;have v37:=L.v37;have u37:=run_underlying L.t37;have t127:=L.t127;have a127:=L.a127;have z127:=L.z127;have v127:=L.v127;have u127:=run_underlying L.t127;have t3:=L.t3;have a3:=L.a3;have z3:=L.z3;have v3:=L.v3;have u3:=run_underlying L.t3;have t9:=L.t9;have a9:=L.a9;have z9:=L.z9;have v9:=L.v9;have u9:=run_underlying L.t9;have t5:=X.t5;have a5:=X.a5;have z5:=X.z5;have v5:=X.v5;have u5:=run_underlying X.t5
 go_enter L.f169,Body.n169_ntmps ρ
 go_wp2
 go_region_o
 all_goals (go_wp2;go_ret;exact⟨rfl,rfl⟩)
end
noncomputable def BB(args:LA)(O:St):Option (AV×St):=
 match args with
 |[.ref o 0]=>match O[o]? with
  |some (.cells [p,.nils] ⟨false,some (248,true)⟩)=>some (.str [],O)
  |some (.cells [p,.msl ob 0 n 1] ⟨false,some (248,true)⟩)=>match O[ob]? with
   |some (.cells l ⟨false,some (5,x)⟩)=>match EP l with
    |some (b::s)=>match Jf (Nat.beq (b::s).length n) (Nat.ble (b::s).length 1099511627776)with
     |true=>some (.str (b::s),O.set ob .dead)
     |false=>none
    |_=>none
   |_=>none
  |_=>none
 |_=>none
theorem Wv{C:Ctx}(hP:C.P=Tryz.prog):POK C 147 BB:=by
 intro args O v O' h g w args' ha hw hg;unfold BB at h;split at h
 ·rename_i o;cases ha with
  |cons _ v1 _ l1 x y=>
   cases y;cases x with
   |ref _ _ ho=>
    split at h
    ·rename_i p hb;simp at h;obtain⟨rfl,rfl⟩:=h;obtain⟨c,e,fr,h1,h2,h3,h4,h5,h6⟩:=hw.obj o _ hb;obtain⟨he,hx⟩:=h5.2 _ _ rfl;have hfr:=h5.1;obtain⟨u0,hu0,hr0⟩:=h4 0 p rfl;obtain⟨u1,hu1,hr1⟩:=h4 1 .nils rfl;cases hr1;have hsz:c.size=2:=hx rfl;have hc:c=#[u0,.slice none 0 0]:=by
      apply Array.ext_getElem?;intro i
      match i with
      |0=>exact hu0
      |1=>exact hu1
      |i+2=>simp[hsz]
     subst hc he hfr;refine Bd (by rw[hP];exact Zt) ?_
     rw[hP];exact(Any.Builder_String_nil Tryz.lays169 Tryz.Builder_Extra_169 w.heap.size (g.ob o) u0 w h1).mono fun e w2 ⟨he2,hw2⟩=>⟨_,he2,g,ul hw hw2,.str []⟩
    ·rename_i p ob n hb;split at h
     ·rename_i l x hbl;split at h
      ·rename_i b s hbx;split at h
       ·rename_i hn;rw[qy,Bool.and_eq_true]at hn;have hn1:=Nat.eq_of_beq_eq_true hn.1;have hn2:=Nat.le_of_ble_eq_true hn.2;simp only[Option.some.injEq,Prod.mk.injEq]at h;obtain⟨rfl,rfl⟩:=h;obtain⟨c,e,fr,h1,h2,h3,h4,h5,h6⟩:=hw.obj o _ hb;obtain⟨he,hx⟩:=h5.2 _ _ rfl;have hfr:=h5.1;obtain⟨u0,hu0,hr0⟩:=h4 0 p rfl;obtain⟨u1,hu1,hr1⟩:=h4 1 (.msl ob 0 n 1) rfl;cases hr1 with
        |msl _ _ _ _ cap hob hncap hcap=>
        have hsz:c.size=2:=hx rfl;have hc:c=#[u0,.slice (some ⟨g.ob ob,0,none⟩) n cap]:=by
         apply Array.ext_getElem?;intro i
         match i with
         |0=>exact hu0
         |1=>exact hu1
         |i+2=>simp[hsz]
        subst hc he hfr;obtain⟨c',e',fr',k1,k2,k3,k4,k5,k6⟩:=hw.obj ob _ hbl;obtain⟨he',hx'⟩:=k5.2 _ _ rfl;have hfr':=k5.1;subst he' hfr';obtain⟨e1,e2⟩:=Rj hbx;refine Bd (by rw[hP];exact Zt) ?_
        rw[hP];rw[<-hn1]at h1 hncap;refine(Yx Tryz.lays169 Tryz.Builder_Extra_169 (g.ob o) (g.ob ob) cap u0 c' (b::s) w h1 k1 (by simp) hncap (by omega) hn2 (fun j x hx=>?_)).mono fun e w2 ⟨he2,hw2⟩=>⟨_,he2,g,?_,.str (b::s)⟩
        ·obtain⟨v,hv,hr⟩:=k4 j _ (e2 j x hx);cases hr;exact hv
        ·subst hw2;obtain⟨f1,f2,f3,f4,f5⟩:=Zu w.drew (g.ob ob) (b::s).length;exact aey hw hbl f1 f2 f3 f4 f5
       ·cases h
      ·cases h
     ·cases h
    ·cases h
 ·cases h
def at0(l:LU)(k:Nat):Nat:=(l.getD k 0).toNat
theorem LM(s:ByteArray)(p k:Nat):(s.get! (p+k)).toNat=at0 (s.data.toList.drop p) k:=by
 unfold at0
 congr 1
 rw[List.getD_eq_getElem?_getD,List.getElem?_drop,Array.getElem?_toList];show s.data[p+k]! =_;rw[getElem!_def];rfl
theorem Za (s:ByteArray) (p:Nat) (h:p<=s.size):Utf8.decode s p=
  Lib.decodeN (s.data.toList.drop p).length (at0 (s.data.toList.drop p) 0) (at0 (s.data.toList.drop p) 1) (at0 (s.data.toList.drop p) 2) (at0 (s.data.toList.drop p) 3):=by
 rw[Lib.decode_at,<-LM,<-LM,<-LM,<-LM];have e:(s.data.toList.drop p).length=s.size-p:=by simp
 rw[e];rfl
def PX(l:LU):Nat×Nat:=Lib.decodeN l.length (at0 l 0) (at0 l 1) (at0 l 2) (at0 l 3)
theorem alD(l:LU)(k:Nat):at0 l k<256:=UInt8.toNat_lt _
theorem Ru(l:LU)(hl:l≠[]):1<=(PX l).2/\(PX l).2<=l.length/\(PX l).1<=1114111:=by
 have h1:1<=l.length:=Nat.pos_of_ne_zero (fun h=>hl (List.eq_nil_of_length_eq_zero h));have h0:=alD l 0;unfold PX Lib.decodeN;repeat' split
 all_goals simp only;omega
def badL(l:LU):Bool:=Nat.beq (PX l).1 65533&& !List.isPrefixOf [239,191,189] l
def ZN:Nat->LU->Option Nat
 |0,l=>if l.isEmpty then some 0 else none
 |f+1,l=>if l.isEmpty then some 0 else if badL l then none else(ZN f (l.drop (PX l).2)).map (· +1)
def wQ(l:LU):Option Nat:=ZN l.length l
theorem MB(f:Nat):ZN f []=some 0:=by cases f<;>rfl
theorem aeK(f:Nat):∀(g:Nat) (l:LU),l.length<=f->l.length<=g->ZN f l=ZN g l:=by
 induction f with
 |zero=>
  intro g l hf hg;obtain rfl:l=[]:=List.eq_nil_of_length_eq_zero (by omega)
  rw[MB,MB]
 |succ f ih=>
  intro g l hf hg
  match l with
  |[]=>rw[MB,MB]
  |b::t=>
   cases g with
   |zero=>simp at hg
   |succ g=>
    have hn:=(Ru (b::t) (by simp)).1
    simp only[ZN,List.isEmpty_cons,Bool.false_eq_true,if_false];rw[ih g _ (by simp at hf⊢;omega) (by simp at hg⊢;omega)]
theorem ahd:wQ []=some 0:=rfl
theorem aeL(l:LU)(hl:l≠[]):wQ l=if badL l then none else(wQ (l.drop (PX l).2)).map (· +1):=by
 match l with
 |[]=>exact absurd rfl hl
 |b::t=>
  have hn:=(Ru (b::t) (by simp)).1
  unfold wQ;rw[List.length_cons];simp only[ZN,List.isEmpty_cons,Bool.false_eq_true,if_false];rw[aeK t.length _ _ (by simp;omega) (Nat.le_refl _)]
theorem drop_cons(s:ByteArray)(k:Nat)(h:k<s.size):s.data.toList.drop k≠[]:=by
 intro e;have:=congrArg List.length e;simp at this;have:s.data.size=s.size:=rfl;omega
theorem drop_end(s:ByteArray)(k:Nat)(h:s.size<=k):s.data.toList.drop k=[]:=
 List.drop_eq_nil_of_le (by rw[Array.length_toList];exact h)
theorem aaj{a b:Bool}(h:a=b):Ending.returned (.bool a)=.returned (.bool b):=by rw[h]
theorem hasPrefix (s p:ByteArray) (w:World) (hs:s.size<=1099511627776) (hp:p.size<=1099511627776):
  Calls Tryz.prog 209 #[.string s,.string p] w fun e w'=>e=.returned (.bool (p.data.toList.isPrefixOf s.data.toList))/\w=w':=by
 have key:=Lib.hasPrefix_of_take s.data.toList p.data.toList;rw[<-Lib.size_eq,<-Lib.size_eq]at key;unfold Lib.hasPrefix at key;have HK:=Lib.hid key;clear key;by_cases h:p.size<=s.size
 ·have hX:Hid (((s.extract 0 p.size).toList==p.toList)=p.data.toList.isPrefixOf s.data.toList):=by
   show _=_;rw[<-HK.out,Lib.extract_toList,Lib.toList_data];simp[h]
  clear HK
  go_enter Tryz.func209,Tryz.ntmps209
  go_wp2
  go_ret
  exact⟨aaj hX.out,rfl⟩
 ·have hX:Hid (false=p.data.toList.isPrefixOf s.data.toList):=by
   show _=_;rw[<-HK.out];simp[h]
  clear HK
  go_enter Tryz.func209,Tryz.ntmps209
  go_wp2
  go_ret
  exact⟨aaj hX.out,rfl⟩
theorem LX (s p:ByteArray) (b:Bool) (w:World) (hs:s.size<=1099511627776) (hp:p.size<=1099511627776) (h:p.data.toList.isPrefixOf s.data.toList=b):
  Calls Tryz.prog 209 #[.string s,.string p] w fun e w'=>e=.returned (.bool b)/\w=w':=by
 subst h;exact hasPrefix s p w hs hp
def alp(s:ByteArray)(w0:World)(nv:Value)(a b:Value)(w':World):Prop:=
 ∃(pos n:Nat),pos<=s.size/\n<=pos/\w'=w0.iter s pos/\nv=.int .i64 n/\a=.int .i64 0/\b=.bool false/\wQ s.data.toList=(wQ (s.data.toList.drop pos)).map (· +n)
def aj1(s:ByteArray)(w:World)(e:Ending)(w':World):Prop:=
 e=.returned (.tuple #[.int .i64 ((wQ s.data.toList).getD 0:Nat),.bool (wQ s.data.toList).isSome])/\∃pos,w'=w.iter s pos
theorem len_any (s:ByteArray) (w:World) (hs:s.size<=1099511627776):
  Calls Tryz.prog 237 #[.string s] w (aj1 s w):=by
 go_enter Tryz.func237,Tryz.ntmps237
 go_wp2_with fail
 go_loopw [4,2,3] (fun n a b w'=>alp s w n a b w') (fun _ _ _ w'=>s.size-w'.iterPos w.heap.size)
 case atStart=>exact⟨0,0,by omega,by omega,rfl,rfl,rfl,rfl,by simp⟩
 case round=>
  obtain⟨pos,n,hpos,hn,rfl,rfl,rfl,rfl,hl⟩:=hrel;have HL:=Lib.hid hl;clear hl;by_cases hp:pos<s.size
  ·have hd:Utf8.decode s pos=PX (s.data.toList.drop pos):=Za s pos hpos;have hne:=drop_cons s pos hp;have st:=aeL _ hne;have ft:=Ru _ hne;have hdd:(s.data.toList.drop pos).drop (PX (s.data.toList.drop pos)).2=s.data.toList.drop (pos+(PX (s.data.toList.drop pos)).2):=List.drop_drop ..;have hlen:(s.data.toList.drop pos).length=s.size-pos:=by simp
   rw[hdd]at st;rw[hlen]at ft;have HB:=Lib.hid (show badL (s.data.toList.drop pos)=(Nat.beq (PX (s.data.toList.drop pos)).1 65533&& !List.isPrefixOf [239,191,189] (s.extract pos s.size).data.toList) by rw[Lib.extract_to_end];rfl)
   have HS:=Lib.hid st;generalize hx:PX (s.data.toList.drop pos)=x at*;obtain⟨r,m⟩:=x;simp only at ft;have hnx:∀ty,(Instr.next (.pointer (some ⟨w.heap.size,0,none⟩)) true ty).run Tryz.prog (w.iter s pos)=.ok (.tuple #[.bool true,.int .i64 pos,.int .i32 r]) (w.iter s (pos+m)):=
    fun ty=>by have:=run_next_any (P:=Tryz.prog) w s pos ty hp;rw[hd]at this;exact this
   clear st hd hdd hlen hne hx;by_cases h5:r=65533
   ·subst h5;cases hpr:List.isPrefixOf [239,191,189] (s.extract pos s.size).data.toList with
    |true=>
     have HP:=Lib.hid hpr;have HL2:Hid (wQ s.data.toList=(wQ (s.data.toList.drop (pos+m))).map (· +(n+1))):=by
      show _=_;rw[HL.out,HS.out,HB.out,hpr,if_neg (by simp),Option.map_map]
      exact congrArg (fun f=>Option.map f (wQ _)) (funext fun k=>by simp only[Function.comp];omega)
     clear HL HS HB hpr
     go_wp2_with fail
     refine(LX _ _ true _ (by simp;omega) (by decide) HP.out).mono ?_
     rintro e w' ⟨rfl,rfl⟩
     go_wp2_with fail
     go_roundw
     case rel=>exact⟨pos+m,n+1,by omega,by omega,rfl,by go_num,rfl,rfl,HL2.out⟩
     case measure=>simp;omega
    |false=>
     have HP:=Lib.hid hpr;have HL2:Hid (wQ s.data.toList=none):=by
      show _=_;rw[HL.out,HS.out,HB.out,hpr,if_pos (by simp)];rfl
     clear HL HS HB hpr
     go_wp2_with fail
     refine(LX _ _ false _ (by simp;omega) (by decide) HP.out).mono ?_
     rintro e w' ⟨rfl,rfl⟩
     go_wp2_with fail
     go_ret2
     refine⟨?_,_,rfl⟩;rw[HL2.out];rfl
   ·have h5':((r:Int)==65533)=false:=by simp;omega
    have HL2:Hid (wQ s.data.toList=(wQ (s.data.toList.drop (pos+m))).map (· +(n+1))):=by
     have hb:Nat.beq r 65533=false:=by rw[Bool.eq_false_iff];exact fun h=>h5 (Nat.eq_of_beq_eq_true h)
     show _=_;rw[HL.out,HS.out,HB.out,hb,if_neg (by simp),Option.map_map]
     exact congrArg (fun f=>Option.map f (wQ _)) (funext fun k=>by simp only[Function.comp];omega)
    clear HL HS HB h5
    go_wp2_with fail
    go_roundw
    case rel=>exact⟨pos+m,n+1,by omega,by omega,rfl,by go_num,rfl,rfl,HL2.out⟩
    case measure=>simp;omega
  ·have hnx:∀ty,(Instr.next (.pointer (some ⟨w.heap.size,0,none⟩)) true ty).run Tryz.prog (w.iter s pos)=_:=fun ty=>run_next_end w s pos ty hp
   go_wp2_with fail
   go_ret2
   have e:=HL.out;rw[drop_end s _ (by omega),ahd]at e
   refine⟨?_,_,rfl⟩;rw[e];simp
theorem abv(w:World)(s:ByteArray)(pos:Nat):Below w.heap.size w (w.iter s pos):=(Below.refl _ _).alloc (Nat.le_refl _) _
theorem aeM (s:ByteArray) (w:World) (hs:s.size<=1099511627776):
  Calls Tryz.prog 237 #[.string s] w fun e w'=>e=.returned (.tuple #[.int .i64 ((wQ s.data.toList).getD 0:Nat),.bool (wQ s.data.toList).isSome])/\Below w.heap.size w w':=
 (len_any s w hs).mono fun _ _ ⟨he,pos,hw⟩=>⟨he,by rw[hw];exact abv _ _ _⟩
open Go.Ev
theorem anQ:EG Tryz.prog 237:=⟨_,Tryz.func237,by decide,rfl⟩
theorem ahV{C:Ctx}(hP:C.P=Tryz.prog):POK C 237 (MO (fun s=>.tup [.int .i64 ((wQ s).getD 0:Nat),.bool (wQ s).isSome])):=ajZ (C:=C) (f:=237) (by rw[hP];exact anQ) (fun s=>.tup [.int .i64 ((wQ s).getD 0:Nat),.bool (wQ s).isSome]) (fun s=>.tuple #[.int .i64 ((wQ s).getD 0:Nat),.bool (wQ s).isSome])
 (fun g s=>.tup _ _ (.cons _ _ _ _ (.int _ _) (.cons _ _ _ _ (.bool _) .nil))) (fun s w hs=>by rw[hP];exact aeM s w hs)
open Go.RowKit Go.Shelf Go.Lib
set_option maxRecDepth 1000000
theorem ajj (B b:Nat) (bs:List Value) (w:World) (h:Lib.IsBuilderF 248 5 B b bs w):
  Calls Tryz.prog 199 #[.pointer (some ⟨b,0,none⟩)] w fun e w'=>e=.returned (.tuple #[])/\Lib.BuilderAtF 248 5 B b (.pointer (some ⟨b,0,none⟩)) bs w'/\Below B w w':=by
 rcases h with h|h
 ·exact(ES b w h.cell0 h.shape h.frozen0).mono fun e w' ⟨he,hw⟩=>⟨he,by rw[hw];exact h.used _,by rw[hw];exact(Below.refl B w).setCell (p:=⟨b,0,none⟩) h.1 _⟩
 ·exact(Rq b w h.cell0).mono fun e w' ⟨he,hw⟩=>⟨he,by rw[<-hw];exact h,by rw[<-hw];exact Below.refl B _⟩
set_option maxHeartbeats 1000000 in
theorem IZ (B b:Nat) (bs:List Value) (s:ByteArray) (w:World) (h:Lib.IsBuilderF 248 5 B b bs w) (hlen:bs.length+s.size<=1099511627776) (hBw:B<=w.heap.size):
  Calls Tryz.prog 143 #[.pointer (some ⟨b,0,none⟩),.string s] w fun e w'=>e=.returned (.tuple #[.int .i64 s.size,.nilIface])/\Lib.BuilderAtF 248 5 B b (.pointer (some ⟨b,0,none⟩)) (bs++Lib.strCells s) w'/\Below B w w':=by
 obtain⟨i0,hi,hz0,hz1,hz2⟩:=info_parts infoByte
 go_enter Tryz.func143,Tryz.ntmps143
 go_wp2_with fail
 refine(ajj B b bs _ h).mono ?_;rintro e w1 ⟨rfl,h1,hb1⟩;obtain⟨hB,v,hbk,hown,hne⟩:=h1;have c0:w1.cell? ⟨b,0,none⟩=some (.pointer (some ⟨b,0,none⟩)):=by rw[Lib.cell_of_heap hbk];rfl
 have c1:w1.cell? ⟨b,1,none⟩=some v:=by rw[Lib.cell_of_heap hbk];rfl
 go_wp2_with (at_builtin;refine Lib.wpList_append_own_stringF _ rfl _ _ 246 9 rfl B 5 i0 Tryz.underlying246 Tryz.underlying9 hi hz0 hz1 hz2 _ _ _ rfl hown s rfl ?c3 ?c4 ?c5 ?_)
 case c3=>unfold maxLen;omega
 case c4=>omega
 case c5=>have:=hb1.size;omega
 intro v' w2 hown' hgrow _;have hlt:b<w1.heap.size:=by
  rcases Nat.lt_or_ge b w1.heap.size with h'|h'
  ·exact h'
  ·simp[Array.getElem?_eq_none h']at hbk
 have hb2:w2.heap[b]?=some (.cells #[.pointer (some ⟨b,0,none⟩),v] 248 (0,0)):=by
  rw[hgrow.block b hlt (fun e=>hne e.symm)];exact hbk
 have d0:w2.cell? ⟨b,0,none⟩=some (.pointer (some ⟨b,0,none⟩)):=by rw[Lib.cell_of_heap hb2];rfl
 have d1:w2.cell? ⟨b,1,none⟩=some v:=by rw[Lib.cell_of_heap hb2];rfl
 have f1:w2.frozen? ⟨b,1,none⟩=false:=Lib.frozen_of_heap hb2 1;obtain⟨ao,n',cap,rfl⟩:∃ao n' cap,v'=.slice ao n' cap:=by
  rcases hown'.2 with⟨hv,_⟩|⟨g,cap,cur,fz,hv,_⟩
  ·exact⟨_,_,_,hv⟩
  ·exact⟨_,_,_,hv⟩
 go_wp2
 go_ret2
 refine⟨rfl,?_,?_⟩
 ·exact Lib.BuilderAtF.put (T:=248) (e:=5) hB hb2 (bs':=bs++Lib.strCells s) (by simpa[Lib.strCells_length]using hown') (by decide)
 ·exact(hb1.grown hgrow (by have:=hb1.size;omega) (fun k hk=>(hown.lt k hk).1)).setCell (p:=⟨b,1,none⟩) hB _
theorem UX(w:World)(o:Obj)(b i:Nat)(v:Value)(h:b<w.heap.size):(w.alloc o).setCell ⟨b,i,none⟩ v=(w.setCell ⟨b,i,none⟩ v).alloc o:=by
 have hp:∀f,(w.heap.push o).modify b f=(w.heap.modify b f).push o:=fun f=>by
  apply Array.ext_getElem?;intro k;rw[Array.getElem?_modify,Array.getElem?_push,Array.getElem?_push,Array.getElem?_modify,Array.size_modify];split<;>split<;>first|rfl|omega
 simp only[World.setCell,World.alloc,hp]
theorem sizeByte:(Tryz.prog.info? 5).map (fun i=>i.size)=some 1:=by kernel_rfl
set_option maxHeartbeats 2000000 in
theorem abn (B b n:Nat) (w:World) (hB:B<=b) (hbk:w.heap[b]?=some (.cells #[.pointer (some ⟨b,0,none⟩),.slice none 0 0] 248 (0,0))) (hBw:B<=w.heap.size) (hn:n<=1099511627776):
  Calls Tryz.prog 265 #[.pointer (some ⟨b,0,none⟩),.int .i64 n] w fun e w'=>e=.returned (.tuple #[])/\(Lib.BuilderAt 248 5 B b (.pointer (some ⟨b,0,none⟩)) [] w'/\Below B w w'):=by
 obtain⟨cs,hrun,hle,hmax⟩:=Lib.run_makeNoZero (P:=Tryz.prog) w.drew #[3] 246 5 Tryz.underlying246 n (by omega)
 have hw:IntKind.i64.wrap (IntKind.i64.wrap 0+(n:Int))=n:=by
  rw[IntKind.wrap_i64,IntKind.wrap_i64];omega
 have hcall:(callFunc 303 #[.int .i64 (IntKind.i64.wrap (IntKind.i64.wrap 0+(n:Int)))]).run Tryz.prog w.drew=.ok (.value (.slice (some ⟨w.drew.heap.size,0,none⟩) n cs.size)) (w.drew.drew.drew.alloc (.cells cs 5)):=by
  rw[hw,run_callFunc_extern Tryz.func303 (by kernel_rfl) (by kernel_rfl) (by kernel_rfl) (e:=Extern.BytealgMakeNoZero.makeNoZero #[3] #[246]) (by kernel_rfl),hrun]
  rfl
 have hlt:b<w.heap.size:=by
  rcases Nat.lt_or_ge b w.heap.size with h'|h'
  ·exact h'
  ·simp[Array.getElem?_eq_none h']at hbk
 have c1:w.drew.cell? ⟨b,1,none⟩=some (.slice none 0 0):=by
  have:w.drew.heap[b]?=_:=hbk;rw[Lib.cell_of_heap this];rfl
 have c2:(w.alloc (.cells cs 5)).cell? ⟨b,1,none⟩=some (.slice none 0 0):=by
  have:(w.alloc (.cells cs 5)).heap[b]?=_:=(Lib.alloc_old w _ b hlt).trans hbk;rw[Lib.cell_of_heap this];rfl
 have f2:(w.alloc (.cells cs 5)).frozen? ⟨b,1,none⟩=false:=Lib.frozen_of_heap ((Lib.alloc_old w _ b hlt).trans hbk) 1;have hcopy:∀W:World,(Builtin.copy_ #[246,246] 3 #[.slice (some ⟨w.heap.size,0,none⟩) 0 cs.size,.slice none 0 0]).run Tryz.prog W=.ok (goInt 0) W:=
  fun W=>run_copy_none W 246 246 3 5 _ _ 0 cs.size 0 0 Tryz.underlying246 Tryz.Builder_Extra_169.sizeByte rfl
 clear hw;have hfin:=Lib.grown_fresh (T:=248) (e:=5) (cs:=cs) hB hbk hBw (hmax (by unfold maxLen;omega)) (by decide)
 go_enter Tryz.func265,Tryz.ntmps265
 have hcomm:∀v,(w.alloc (.cells cs 5)).setCell ⟨b,1,none⟩ v=(w.setCell ⟨b,1,none⟩ v).alloc (.cells cs 5):=fun v=>UX w _ b 1 v hlt;rw[hcomm]at hfin
 go_wp2
 go_region
 all_goals (go_wp2;go_end0;exact⟨rfl,hfin⟩)
set_option maxHeartbeats 2000000 in
theorem aaJ (B b n:Nat) (w:World) (hB:B<=b) (hbk:w.heap[b]?=some (.cells #[.pointer none,.slice none 0 0] 248 (0,0))) (hBw:B<=w.heap.size) (hn:n<=1099511627776):
  Calls Tryz.prog 210 #[.pointer (some ⟨b,0,none⟩),.int .i64 n] w fun e w'=>e=.returned (.tuple #[])/\(Lib.BuilderAt 248 5 B b (.pointer (some ⟨b,0,none⟩)) [] w'/\Below B w w'):=by
 have hbk1:(w.setCell ⟨b,0,none⟩ (.pointer (some ⟨b,0,none⟩))).heap[b]?=some (.cells #[.pointer (some ⟨b,0,none⟩),.slice none 0 0] 248 (0,0)):=by
  simp[World.setCell,Array.getElem?_modify,hbk]
 have c1:(w.setCell ⟨b,0,none⟩ (.pointer (some ⟨b,0,none⟩))).cell? ⟨b,1,none⟩=some (.slice none 0 0):=by rw[Lib.cell_of_heap hbk1];rfl
 have hb1:Below B w (w.setCell ⟨b,0,none⟩ (.pointer (some ⟨b,0,none⟩))):=(Below.refl B w).setCell (p:=⟨b,0,none⟩) hB _;have hU:Lib.BuilderAt 248 5 B b (.pointer (some ⟨b,0,none⟩)) [] (w.setCell ⟨b,0,none⟩ (.pointer (some ⟨b,0,none⟩))):=⟨hB,.slice none 0 0,hbk1,World.ownsRow_nil _ _ _ _,by simp[Value.ownBlock]⟩
 have c1':(w.setCell ⟨b,0,none⟩ (.pointer (some ⟨b,0,none⟩))).drew.cell? ⟨b,1,none⟩=some (.slice none 0 0):=c1;have hn0:¬((n:Int)<0):=by omega
 go_enter Tryz.func210,Tryz.ntmps210
 go_wp2_with (refine(ES b w (by rw[Lib.cell_of_heap hbk];rfl) (by simp[World.shape?,hbk]) (Lib.frozen_of_heap hbk 0)).mono ?_;rintro e w' ⟨rfl,rfl⟩)
 go_region
 all_goals go_wp2_with (refine(abn B b n (w.setCell ⟨b,0,none⟩ (.pointer (some ⟨b,0,none⟩))).drew hB hbk1 (by simpa[World.setCell,World.drew,-World.drew_eq]using hBw) hn).mono ?_;rintro e w' ⟨rfl,h1,h2⟩)
 all_goals first
  |(go_end0;exact⟨rfl,h1,hb1.drew.trans h2⟩)
  |(go_end0;exact⟨rfl,hU.drew,hb1.drew⟩)
open Go.RowKit Go.Shelf Go.Lib Go.Ev
def ahB(c:Nat)(r:Option (AV×St)):Bool:=
 match r with
 |some (.tup [.int .u64 (.ofNat 0),.int .u64 (.ofNat d)],[])=>Nat.beq d c
 |_=>false
theorem ahC{c:Nat}{r:Option (AV×St)}(h:ahB c r=true):r=some (.tup [.int .u64 (0:Nat),.int .u64 (c:Nat)],[]):=by
 unfold ahB at h;split at h
 ·rename_i d;have:=Nat.eq_of_beq_eq_true h;subst this;rfl
 ·cases h
theorem aml:(List.range 64).all (fun c=>ahB c (evF (gX Tryz.prog (fun _=>none) (fun _=>false) (fun _=>none)) 100 208 [.int .u64 1,.int .u64 (Int.ofNat c)] []))=true:=by kernel_rfl
theorem anR:EG Tryz.prog 208:=⟨_,Tryz.func208,by decide,rfl⟩
theorem Ap:Tryz.prog.follows .mixedOrders=true:=by kernel_rfl
theorem bits_Mul(c:Nat)(hc:c<64)(w:World):Calls Tryz.prog 208 #[.int .u64 1,.int .u64 c] w fun e w'=>e=.returned (.tuple #[.int .u64 0,.int .u64 c])/\Below w.heap.size w w':=by
 have h:=ahC (List.all_eq_true.mp aml c (List.mem_range.mpr hc));exact YZ Ap anR h w [.int .u64 1,.int .u64 c] _ (fun g=>.cons _ _ _ _ (.int _ _) (.cons _ _ _ _ (.int _ _) .nil)) (fun g v2 hv=>by
  cases hv with
  |tup l l' hs=>
   cases hs with
   |cons _ _ _ _ a b=>
    cases a;cases b with
    |cons _ _ _ _ a b=>
     cases a;cases b;rfl)
set_option maxHeartbeats 4000000 in
theorem aah (c:Nat) (w:World) (hc2:2<=c) (hc:c<64):
  Calls Tryz.prog 163 #[.string ⟨#[0]⟩,.int .i64 c] w fun e w'=>e=.returned (.string ⟨(List.replicate c (0:UInt8)).toArray⟩)/\Below w.heap.size w w':=by
 have hMul:=bits_Mul c hc w;have k0:¬((c:Int)=0):=by omega
 have k1:¬((c:Int)=1):=by omega
 have k2:¬((c:Int)<0):=by omega
 have k3:¬((c:Int)>9223372036854775807):=by omega
 have k4:¬((c:Int)>8192):=by omega
 have wu:IntKind.u64.wrap (c:Int)=c:=by unfold IntKind.wrap;simp[IntKind.signed,IntKind.bits];omega
 have wi:IntKind.i64.wrap (c:Int)=c:=by rw[IntKind.wrap_i64];omega
 go_enter Tryz.func163,Tryz.ntmps163
 go_wp2_with (refine hMul.mono ?_;rintro e W0 ⟨rfl,hb0⟩)
 have b0:Below w.heap.size w (W0.alloc (.cells #[.pointer none,.slice none 0 0] 248)):=hb0.alloc hb0.size _;refine(aaJ W0.heap.size W0.heap.size c (W0.alloc (.cells #[.pointer none,.slice none 0 0] 248)) (Nat.le_refl _) (heap_alloc_new W0 _) ((Below.refl W0.heap.size W0).alloc (Nat.le_refl _) _).size (by omega)).mono ?_
 rintro e W1 ⟨rfl,h1,b1⟩;have hB0:=hb0.size;have hB1:W0.heap.size<=W1.heap.size:=Nat.le_trans ((Below.refl W0.heap.size W0).alloc (Nat.le_refl _) _).size b1.size
 go_wp2_with (refine(IZ W0.heap.size W0.heap.size [] ⟨#[0]⟩ W1 (Lib.IsBuilderF.of (Or.inr h1)) (by simp[ByteArray.size]) hB1).mono ?_;rintro e W2 ⟨rfl,h2,b2⟩)
 have h2':Lib.IsBuilderF 248 5 W0.heap.size W0.heap.size (Lib.byteCells (List.replicate 1 0)) W2:=Or.inr h2;have b02:Below w.heap.size w W2:=b0.trans ((b1.mono hB0).trans (b2.mono hB0));have hs2:W0.heap.size<=W2.heap.size:=Nat.le_trans hB1 b2.size;clear h2 h1 b0 b1 b2 hMul
 go_loopg [] (c-1) (fun g wx=>∃q:Nat,1<=q/\q+g=c/\Lib.IsBuilderF 248 5 W0.heap.size W0.heap.size (Lib.byteCells (List.replicate q 0)) wx/\Below w.heap.size w wx/\W0.heap.size<=wx.heap.size)
 case atStart=>exact⟨1,Nat.le_refl _,by omega,h2',b02,hs2⟩
 case round=>
  obtain⟨q,hq1,hqg,hB,hbx,hsx⟩:=hrel;have hlq:(Lib.byteCells (List.replicate q (0:UInt8))).length=q:=by simp[Lib.byteCells]
  have cLen:=Any.Builder_Len_f Tryz.lays170 W0.heap.size W0.heap.size _ wr hB;rw[hlq]at cLen;have cStr:=Any.Builder_String_any_f Tryz.lays169 Tryz.Builder_Extra_169 W0.heap.size W0.heap.size (List.replicate q 0) wr hB hsx;obtain⟨S,hS⟩:∃S:ByteArray,(⟨(List.replicate q (0:UInt8)).toArray⟩:ByteArray)=S:=⟨_,rfl⟩;have hSz:S.size=q:=by rw[<-hS];simp[ByteArray.size]
  rw[hS]at cStr;cases gk with
  |zero=>
   obtain rfl:q=c:=by omega
   have hQn:¬((q:Int)<(q:Int)):=by omega
   go_wp2_with (first
    |(refine cLen.mono ?_;rintro e w' ⟨rfl,hw⟩;rw[hw])
    |(refine cStr.mono ?_;rintro e W3 ⟨rfl,h3,b3⟩))
   go_ret
   exact⟨by rw[hS]<;>rfl,hbx.trans (b3.mono hB0)⟩
  |succ g=>
   have hQn:(q:Int)<(c:Int):=by omega
   obtain⟨k,hk⟩:∃k,k=min (c-q) q:=⟨_,rfl⟩;have hk1:1<=k:=by omega
   have hmin3:∀(ts:Array TypeId) (t:TypeId) (W:World),(Builtin.min_ ts t #[.int .i64 ((c:Int)-(q:Int)),.int .i64 (q:Int),.int .i64 (c:Int)]).run Tryz.prog W=.ok (.int .i64 (k:Int)) W:=fun ts t W=>by
    rw[run_min_int3]
    congr 2
    omega
   have hkq:k<=q:=by omega
   have hkc:q+k<=c:=by omega
   clear hk
   go_wp2_with (first
    |(refine cLen.mono ?_;rintro e w' ⟨rfl,hw⟩;rw[hw])
    |(refine cStr.mono ?_;rintro e W3 ⟨rfl,h3,b3⟩))
   have hex:(S.extract 0 k)=⟨(List.replicate k (0:UInt8)).toArray⟩:=by
    rw[<-hS];apply ByteArray.ext;rw[ByteArray.data_extract];apply Array.ext';simp[Nat.min_eq_left hkq]
   have hexs:(S.extract 0 k).size=k:=by rw[hex];simp[ByteArray.size]
   have cWr:=IZ W0.heap.size W0.heap.size _ (S.extract 0 k) W3 h3 (by rw[hlq,hexs];omega) (Nat.le_trans hsx b3.size)
   go_wp2_with (go_fit cWr;rintro e W4 ⟨rfl,h4,b4⟩)
   go_roundg (c-(q+k))
   case measure=>omega
   case rel=>
    refine⟨q+k,by omega,by omega,Or.inr ?_,hbx.trans ((b3.mono hB0).trans (b4.mono hB0)),Nat.le_trans hsx (Nat.le_trans b3.size b4.size)⟩
    rw[Lib.strCells_eq,<-Lib.byteCells_append,hex]at h4;rw[List.replicate_append_replicate.symm];exact h4
theorem abZ (c:Nat) (w:World) (hc:c<64):
  Calls Tryz.prog 163 #[.string ⟨#[0]⟩,.int .i64 c] w fun e w'=>e=.returned (.string ⟨(List.replicate c (0:UInt8)).toArray⟩)/\Below w.heap.size w w':=by
 match c,hc with
 |0,_=>
  go_enter Tryz.func163,Tryz.ntmps163
  go_wp2
  go_ret
  exact⟨rfl,Below.refl _ _⟩
 |1,_=>
  go_enter Tryz.func163,Tryz.ntmps163
  go_wp2
  go_ret
  exact⟨rfl,Below.refl _ _⟩
 |c+2,hc=>exact aah (c+2) w (by omega) hc
theorem agw:EG Tryz.prog 163:=⟨_,Tryz.func163,by decide,rfl⟩
def vO(args:LA)(O:St):Option (AV×St):=
 match args with
 |[.str s,.int .i64 (.ofNat n)]=>match s with
  |[b]=>match Nat.beq b.toNat 0 with
   |true=>match Nat.blt n 64 with
    |true=>some (.str (List.replicate n 0),O)
    |false=>none
   |false=>none
  |_=>none
 |_=>none
theorem Ht{C:Ctx}(hP:C.P=Tryz.prog):POK C 163 vO:=by
 intro args O v O' h g w args' ha hw hg;unfold vO at h;split at h
 ·rename_i s n;split at h
  ·rename_i b;split at h
   ·rename_i hb;have hb:b=0:=UInt8.toNat_inj.mp (Nat.eq_of_beq_eq_true hb);subst hb;split at h
    ·rename_i hn;have hn:n<64:=Nat.le_of_ble_eq_true hn;simp only[Option.some.injEq,Prod.mk.injEq]at h;obtain⟨rfl,rfl⟩:=h;cases ha with
     |cons _ v1 _ l1 x y=>
      cases y with
      |cons _ v2 _ l2 x2 y2=>
       cases y2;cases x;cases x2;refine Bd (by rw[hP];exact agw) ?_
       rw[hP];exact(abZ n w hn).mono fun e w2 ⟨he2,hw2⟩=>⟨_,he2,g,ul hw hw2,.str _⟩
    ·cases h
   ·cases h
  ·cases h
 ·cases h
open Go.Ev Go.RowKit
noncomputable section
noncomputable def ints(k:IntKind)(l:List Nat):LA:=l.map fun n=>.int k (.ofNat n)
noncomputable def glT(g:Nat):Option LA:=
 match Nat.beq g zl with
 |true=>some (ofBytes hexDigits)
 |false=>match Nat.beq g rY with
  |true=>some (hI.map iw)
  |false=>match Nat.beq g pM with
   |true=>some (kR.map iw)
   |false=>match Nat.beq g Zv with
    |true=>some [.str [114,111,111,116],.str [115,110,97,112,115,104,111,116],.str [116,97,114,103,101,116,115]]
    |false=>match Nat.beq g qm with
     |true=>some (ints .i64 [0,31,59,90,120,151,181,212,243,273,304,334,365])
     |false=>match Nat.beq g oG with
      |true=>some (ints .u64 [1,10,100,1000,10000,100000,1000000,10000000,100000000,1000000000,10000000000,100000000000,1000000000000,10000000000000,100000000000000,1000000000000000,10000000000000000,100000000000000000,1000000000000000000,10000000000000000000])
      |false=>none
noncomputable def TL(f:FuncId):Option (LA->St->Option (AV×St)):=match Nat.beq f kX with
 |true=>some vO
 |false=>none
noncomputable def CC:Ctx:=gX Tryz.prog glT (fun _=>false) TL
theorem gV:∀n l,CC.gl n=some l->ae 0 l=true:=by
 intro n l h;change glT n=some l at h;unfold glT at h;repeat' split at h
 all_goals first
  |(cases h;done)
  |(simp only[Option.some.injEq]at h;subst h;kernel_rfl)
theorem aiV:Jd CC:=by
 intro f h hh;change TL f=some h at hh;unfold TL at hh;split at hh
 ·rename_i hf;have:=Nat.eq_of_beq_eq_true hf;subst this;cases hh;exact Ht (C:=CC) rfl
 ·cases hh
theorem WU:fO CC (ai CC):=H7 Ap (uK _ _ _ _) aiV
noncomputable def CR:Ctx:=gX Tryz.prog glT (fun _=>true) (fun _=>none)
theorem anr(n:Nat):fO CR (evF CR n):=EY Ap (uK _ _ _ _) (fun f h hh=>by simp[gX]at hh) n
theorem Wu{f:FuncId}(h1:fF (evF CR 100 f [.nils] []) .nils=true)(h2:fF (evF CR 100 f [.emp] []) (.xsl 0 [])=true):POK CC f MN:=JC (C:=CR) (anr 100) gV h1 h2
theorem ok0:Ok []:=rfl
theorem Jr{f:FuncId}{K:KF}(h1:cF Tryz.prog f=some K.forget:=by kernel_rfl)(h2:UR Tryz.prog f=true:=by kernel_rfl)(h3:K.ok=true:=by kernel_rfl)(hp:TL f=none:=by exact rfl):Has CC f K:=XK h1 h2 h3 hp rfl
theorem ac2:Je CC where
 new:=Jr
 sum:=Jr
 write:=Jr
 mix:=Jr
 rot:=Jr
 sumF:=Jr
 digest:=Jr
 encode:=Jr
 gr:=rfl
 gi:=rfl
 gd:=rfl
 rep:=fun n hn O=>by
  have hp:CC.prim kX=some vO:=rfl;rw[Ym];unfold SA;rw[hp];have hb:Nat.blt n 64=true:=Nat.ble_eq_true_of_le hn;change vO [.str [0],.int .i64 (.ofNat n)] O=_;unfold vO;simp only[hb];rfl
theorem amj:Xb CC where
 sha:=ac2
 block:=Jr
 combine:=Jr
 of:=Jr
 of1:=Jr
 of2:=Jr
theorem amH:POK CC NM (MO fun s=>.str (oL s)):=TK WU gV _ fun s hs=>Nc ac2 s hs [] ok0
theorem amG:POK CC vF (adC fun s t=>.str (hmac s t)):=ai2 WU gV _ fun s t hs ht=>ahu amj s t (by omega) ht [] ok0
theorem ahU:POK CC EZ (MO fun s=>.bool (s.all SV)):=TK WU gV _ fun s hs=>am1 (Jr) (Jr) s hs []
theorem Ye:POK CC zh (MO fun s=>.str (rQ s)):=TK WU gV _ fun s hs=>hex_Encode ac2.encode rfl s hs [] ok0
theorem amE:POK CC oO ajV:=ajY fun args w=>by
 rw[show CC.P=Tryz.prog from rfl,run_callFunc_extern Tryz.func230 (by kernel_rfl) (by kernel_rfl) (by kernel_rfl) (e:=Extern.BytealgCompare.compare) (by kernel_rfl)]
noncomputable def aoI(c:Nat)(r:Option (AV×St)):Bool:=fF r (.str (List.replicate c 48))
theorem ak5:(List.range 5).all (fun c=>aoI c (evF (gX Tryz.prog glT (fun _=>false) (fun _=>none)) 1000 163 [.str [48],.int .i64 (Int.ofNat c)] []))=true:=by kernel_rfl
noncomputable def ahT(args:LA)(O:St):Option (AV×St):=
 match args with
 |[.str [b],.int .i64 (.ofNat n)]=>match Jf (Nat.beq b.toNat 48) (Nat.ble n 4)with
  |true=>some (.str (List.replicate n 48),O)
  |false=>none
 |_=>none
theorem ajX:POK CC kX ahT:=by
 intro args O v O' h g w args' ha hw hg;unfold ahT at h;split at h
 ·rename_i b n;split at h
  ·rename_i hb;rw[qy,Bool.and_eq_true]at hb;have hb1:b=48:=UInt8.toNat_inj.mp (Nat.eq_of_beq_eq_true hb.1);have hb2:n<5:=Nat.lt_succ_of_le (Nat.le_of_ble_eq_true hb.2);subst hb1;simp only[Option.some.injEq,Prod.mk.injEq]at h;obtain⟨rfl,rfl⟩:=h;have hc:fO (gX Tryz.prog glT (fun _=>false) (fun _=>none)) (evF (gX Tryz.prog glT (fun _=>false) (fun _=>none)) 1000):=EY Ap (uK _ _ _ _) (fun f h hh=>by simp[gX]at hh) 1000
   exact mi hc gV (by rfl) (Ea (List.all_eq_true.mp ak5 n (List.mem_range.mpr hb2))) ha hw hg
  ·cases h
 ·cases h
end
def vi(n:Int):AV:=.int .i64 n
def vu(n:Int):AV:=.int .u8 n
def ve:AV:=.str []
noncomputable def spL(M:MM):List (FuncId×WY):=[(90,.prim (MO fun s=>.str (rQ s))),(91,.prim (orP (memo (M 91)) (adC fun s t=>.str (hmac s t)))),(104,.both MN (kA Tryz.prog 104) true false),(132,.prim (MO fun s=>.str (oL s))),(147,.prim BB),(149,.prim (MO fun s=>.bool (s.all SV))),(163,.prim (orP vO ahT)),(169,.both MN (kA Tryz.prog 169) true false),(199,.prim Pq),(230,.prim ajV),(237,.prim (MO (fun s=>.tup [.int .i64 ((wQ s).getD 0:Nat),.bool (wQ s).isSome])))]
theorem an6{M:MM}(hM:MOK CC M):∀p∈spL M,EOK CC p.1 p.2:=by
 unfold spL;simp only[List.forall_mem_cons];exact⟨Ye,ahQ (hM 91) (amG),⟨Wu (by kernel_rfl) (by kernel_rfl),XT (by kernel_rfl)⟩,amH,Wv rfl,ahU,ahQ (Ht rfl) ajX,⟨Wu (by kernel_rfl) (by kernel_rfl),XT (by kernel_rfl)⟩,adD rfl,amE,ahV rfl,fun _ h=>by simp at h⟩
noncomputable def T0(M:MM):Tr2:=tA Tryz.prog (spL M) [101,103,105,164,167,207,212,222,254,257,296,298,299,300,310,311,312,320,330,337] [22,68] M
theorem afA{M:MM}(hM:MOK CC M):akA CC (T0 M):=⟨aoW (an6 hM) hM,gV⟩
end Go.Proofs.YtegpahkgmealkaaGreatDoor
