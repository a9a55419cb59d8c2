/- Contracts. No conditions. -/
import Derived.Test.YtddcpkepggkllaaGreatDoorTA
import Derived.Shelf.Strings.Builder1
import Derived.Test.YtddcpkepggkllaaGreatDoorProg
import Derived.WalkKit
import Derived.WalkLawsBesides
import Derived.WalkSpells
import Derived.Lib.Hide
import Derived.Outline
import Derived.Test.YtddcpkepggkllaaGreatDoorEB
import Derived.Shelf.Strconv.ParseIntPublic10
import Derived.Test.YtddcpkepggkllaaGreatDoorCF
import Derived.Lib.DecodeN
import Derived.Laws.RangeAny
import Derived.Lib.Strings
import Derived.Lib.IndexBytes
import Derived.Below
import Derived.Shelf.Strings.Repeat
import Derived.KernelRfl
import Derived.Test.YtddcpkepggkllaaGreatDoorCE
import Derived.Test.YtddcpkepggkllaaGreatDoorCB
set_option linter.unusedVariables false
set_option linter.unusedSimpArgs false
set_option linter.defProp false
namespace Go.Ev
set_option maxRecDepth 100000
variable{C:Ctx}
def u8_xor(b c:UInt8):IntKind.u8.wrap ((BitVec.ofInt IntKind.u8.bits (b.toNat:Int)^^^BitVec.ofInt IntKind.u8.bits (c.toNat:Int)).toNat:Int)=((b^^^c).toNat:Int):=by
 rw[arW .u8 rfl b.toNat c.toNat b.toNat_lt c.toNat_lt,UInt8.toNat_xor]
def asH(hC:Has C Jg Pg)(b:UInt8)(O:St):aj C Jg [.int .u8 (b.toNat:Int)] O=some (.int .u8 ((b^^^54).toNat:Int),O):=by
 rw[hC.run];unfold DD;have h:IntKind.u8.wrap ((BitVec.ofInt IntKind.u8.bits (b.toNat:Int)^^^BitVec.ofInt IntKind.u8.bits 54).toNat:Int)=((b^^^54).toNat:Int):=u8_xor b 54;simp only[Pg,h,EVY,seval]
def asI(hC:Has C Jh Ph)(b:UInt8)(O:St):aj C Jh [.int .u8 (b.toNat:Int)] O=some (.int .u8 ((b^^^92).toNat:Int),O):=by
 rw[hC.run];unfold DD;have h:IntKind.u8.wrap ((BitVec.ofInt IntKind.u8.bits (b.toNat:Int)^^^BitVec.ofInt IntKind.u8.bits 92).toNat:Int)=((b^^^92).toNat:Int):=u8_xor b 92;simp only[Ph,h,EVY,seval]
def Lp(c:UInt8):Nat->Nat->LU->LU
 |0,_,l=>l
 |n+1,i,l=>Lp c n (i+1) (l.set i (l.getD i 0^^^c))
def Ew(c:UInt8):∀(n i:Nat) (l:LU),(Lp c n i l).length=l.length
 |0,_,_=>rfl
 |n+1,i,l=>by unfold Lp;rw[Ew c n,a96]
def bytes_at(l:LU)(i:Nat)(h:i<l.length):((ofBytes l).drop i).head? =some (.int .u8 ((l.getD i 0).toNat:Int)):=by
 unfold ofBytes;rw[aD1,ay4,a01 h,aw1,a01 h];rfl
def QQ (f:FuncId) (c:UInt8) (hf:∀(b:UInt8) (O:St),aj C f [.int .u8 (b.toNat:Int)] O=some (.int .u8 ((b^^^c).toNat:Int),O)) (O:St):
  ∀(n i:Nat) (l:LU),i+n=64->l.length=64->
  aH C (aj C) 19 [1,2,6] qw [(1,.func (.func f) [] []),(2,.ref O.length 0),(6,.int .i64 i)] (O++[.cells (ofBytes l) FZ])=
   some (.exit 0,[(2,.ref O.length 0)],O++[.cells (ofBytes (Lp c n i l)) FZ])
 |0,i,l,hi,hl=>by
  rw[jX (he:=rfl)];have h:¬((i:Int)<64):=by omega
  simp only[qw,h,Lp,EVY,seval]
 |n+1,i,l,hi,hl=>by
  rw[jX (he:=rfl)];generalize hk:aH C (aj C) 19 [1,2,6] qw=rest;have h:((i:Int)<64):=by omega
  have w5:=wrS i (by omega)
  have p1:∀j:Nat,(0:Int)<=(j:Int):=fun j=>by omega
  have l5:i<64:=by omega
  have l6:i+1<=64:=by omega
  have a0:=bytes_at l i (by omega)
  have s1:=VO l i (l.getD i 0^^^c) (by omega)
  simp only[qw,h,w5,p1,l5,l6,a0,s1,hf,hl,I9,aK,lK,qQ,a95,EVY,seval];rw[<-hk];exact QQ f c hf O n (i+1) _ (by omega) (by rw[a96,hl])
def Vt (hC:Has C Ho Ha) (f:FuncId) (c:UInt8) (hf:∀(b:UInt8) (O:St),aj C f [.int .u8 (b.toNat:Int)] O=some (.int .u8 ((b^^^c).toNat:Int),O)) (O:St) (hσ:Ok O) (l:LU) (hl:l.length=64):
  aj C Ho [.agg (ofBytes l),.func (.func f) [] []] O=some (.str (Lp c 64 0 l),O):=by
 rw[hC.run];unfold DD;have hn:∀(r) (l:LU),aV O r (ofBytes l)=some (ofBytes l,[]):=by
  intro r l
  induction l with
  |nil=>rfl
  |cons b l ih=>
   show(match bF O r (.int .u8 (b.toNat:Int)),aV O r (ofBytes l)with|some (v,fs),some (l,gs)=>some (v::l,fs++gs)|_,_=>none)=_
   rw[ih];rfl
 have q:=QQ f c hf O 64 0 l (by omega) hl
 simp only[a97]at q;obtain⟨r,hr⟩:∃r,r=Lp c 64 0 l:=⟨_,rfl⟩;rw[<-hr]at q⊢;have lr:r.length=64:=by rw[hr,Ew,hl]
 have bt:=wF r;have tk:(ofBytes r).take 64=ofBytes r:=a08 (by rw[aK];omega)
 have ty:∀x,tidy O.length [.str r] (O++[x])=O:=fun x=>DI hσ rfl _;simp only[Ha,hn,q,lr,bt,tk,ty,aK,lK,EVY,seval]
def PU(O:St)(r):∀l:LU,aV O r (ofBytes l)=some (ofBytes l,[])
 |[]=>rfl
 |b::l=>by
  show(match bF O r (.int .u8 (b.toNat:Int)),aV O r (ofBytes l)with|some (v,fs),some (l,gs)=>some (v::l,fs++gs)|_,_=>none)=_
  rw[PU O r l];rfl
def sZ(key:LU):LU:=lay vM 0 ((if key.length>64 then tN key else key))
def JZ(key:LU):(sZ key).length=64:=by
 unfold sZ;have:vM.length=64:=rfl;rw[PP,this];split
 ·rw[rJ,this];omega
 ·rw[this];omega
def ajp{part s:LU}{used:Nat}(h:used+s.length<=part.length):splice (ofBytes part) used (ofBytes s)=ofBytes (lay part used s):=by
 unfold splice lay ofBytes;simp
def abo(e:As)(O:St)(t:Nat)(ag:Bool)(sz:Nat)(l:List XR):bg e O (.cell t ag sz::l)=match look e t,bg e O l with
 |.ref o off,some vs=>match O[o]? with
  |some (.cells c _)=>match pt ag sz (c.drop off)with
   |some v=>some (v::vs)
   |none=>none
  |_=>none
 |_,_=>none:=rfl
def ajy (hC:Has C KW Gg) (h:Pm C) (key:LU) (hk:key.length<=1099511627776) (O:St) (hσ:Ok O):
  aj C KW [.str key] O=some (.agg (ofBytes (sZ key)),O):=by
 rw[hC.run];unfold DD;have z:∀Y:St,Y++[AO.cells (List.replicate 64 (AV.int .u8 0)) FZ]=Y++[AO.cells (ofBytes vM) FZ]:=fun _=>rfl;simp only[List.reduceReplicate]at z;have ok1:∀{Y:St},Ok Y->Ok (Y++[.cells (ofBytes vM) FZ]):=fun{Y} h=>h.app (by simp[AO.below,kU])
 have lz:vM.length=64:=rfl;obtain⟨s,hs⟩:∃s,s=(if key.length>64 then tN key else key):=⟨_,rfl⟩;have ls:s.length<=64:=by rw[hs];split;(rw[rJ];omega);omega
 have mn:min s.length 64=s.length:=by omega
 have tk:(ofBytes s).take s.length=ofBytes s:=a08 (by rw[aK];omega)
 have hb:sZ key=lay vM 0 s:=by unfold sZ;rw[hs]
 have lb:=JZ key;have sp:=ajp (part:=vM) (used:=0) (s:=s) (by rw[lz];omega)
 rw[<-hb]at sp;have tkb:(ofBytes (sZ key)).take 64=ofBytes (sZ key):=a08 (by rw[aK];omega)
 have spa:splice (ofBytes vM) 0 (ofBytes (sZ key))=ofBytes (sZ key):=FW _ _ (by rw[aK,aK,lb,lz])
 have e3:∀x y z:AO,(O++[x]++[y]).set O.length z=O++[z]++[y]:=fun x y z=>by
  rw[aA2 _ _ (by simp),qQ]
 have g3:∀x y:AO,(O++[x]++[y])[O.length]?=some x:=fun x y=>GR (lK _ _) _;have ty:∀x y,tidy O.length [.agg (ofBytes (sZ key))] (O++[x]++[y])=O:=fun x y=>by
  rw[au4];exact DI hσ (by simp[ai,below,kU]) _
 by_cases hg:key.length>64
 ·have q:=Tt h key hk (O++[.cells (ofBytes vM) FZ]++[.cells (ofBytes vM) FZ]) (ok1 (ok1 hσ));rw[if_pos hg]at hs;rw[<-hs]at q;have hg':((key.length:Int)>64):=by omega
  simp only[Gg,z,hg',q,lz,mn,tk,sp,spa,tkb,lb,ls,e3,g3,ty,lK,qQ,PU,abo,aK,xC,EVY,seval]
 ·rw[if_neg hg]at hs;have hg':¬((key.length:Int)>64):=by omega
  rw[hs]at*;simp only[Gg,z,hg',lz,mn,tk,sp,spa,tkb,lb,ls,e3,g3,ty,lK,qQ,PU,abo,aK,xC,EVY,seval]
def hmac(key s:LU):LU:=tN (Lp 92 64 0 (sZ key)++tN (Lp 54 64 0 (sZ key)++s))
structure abO(C:Ctx):Prop where
 sha:Pm C
 block:Has C KW Gg
 combine:Has C Ho Ha
 of:Has C Dk ads
 of1:Has C Jg Pg
 of2:Has C Jh Ph
def am0 (h:abO C) (key s:LU) (hk:key.length<=1099511627776) (hs:s.length<=1099511627000) (O:St) (hσ:Ok O):
  aj C Dk [.str key,.str s] O=some (.str (hmac key s),O):=by
 rw[h.of.run];unfold DD;have z:∀Y:St,Y++[AO.cells (List.replicate 64 (AV.int .u8 0)) FZ]=Y++[AO.cells (ofBytes vM) FZ]:=fun _=>rfl;simp only[List.reduceReplicate]at z;have q0:=ajy h.block h.sha key hk O hσ;have lb:=JZ key;obtain⟨b,hb⟩:∃b,b=sZ key:=⟨_,rfl⟩;rw[<-hb]at q0 lb;have ok1:Ok (O++[.cells (ofBytes b) FZ]):=hσ.app (by simp[AO.below,kU])
 have q1:=Vt h.combine Jg 54 (asH h.of1) _ ok1 b lb;have q2:=Vt h.combine Jh 92 (asI h.of2) _ ok1 b lb;have l1:=Ew 54 64 0 b;have l2:=Ew 92 64 0 b;obtain⟨x,hx⟩:∃x,x=Lp 54 64 0 b:=⟨_,rfl⟩;obtain⟨y,hy⟩:∃y,y=Lp 92 64 0 b:=⟨_,rfl⟩;rw[<-hx]at q1 l1;rw[<-hy]at q2 l2;have q3:=Tt h.sha (x++s) (by rw[a04,l1,lb];omega) _ ok1
 have q4:=Tt h.sha (y++tN (x++s)) (by rw[a04,l2,lb,rJ];omega) _ ok1
 have e:hmac key s=tN (y++tN (x++s)):=by unfold hmac;rw[hy,hx,hb]
 rw[e];have b1:uD .add x s=some (.str (x++s)):=by unfold uD;dsimp only;rw[if_neg (by omega)]
 have b2:uD .add y (tN (x++s))=some (.str (y++tN (x++s))):=by unfold uD;dsimp only;rw[if_neg (by rw[rJ];omega)]
 have spa:splice (ofBytes vM) 0 (ofBytes b)=ofBytes b:=FW _ _ (by rw[aK,aK,lb];rfl)
 have lz:vM.length=64:=rfl;have tkb:(ofBytes b).take 64=ofBytes b:=a08 (by rw[aK];omega)
 have ty:∀v w,tidy O.length [.str v] (O++[w])=O:=fun v w=>DI hσ rfl _;simp only[ads,z,q0,q1,q2,q3,q4,b1,b2,spa,lz,tkb,lb,ty,lK,qQ,aK,xC,EVY,seval]
end Go.Ev
namespace Go.Proofs.YtddcpkepggkllaaGreatDoor
open Go.Shelf Go.Proofs
def Tryz.lays170_ren:Go.Shelf.Ren:=⟨fun|170=>224|n=>n,fun|70=>232|3=>3|0=>0|72=>235|37=>233|5=>5|n=>n,fun|n=>n⟩
def Tryz.lays170:Go.Proofs.Lays.n170 Tryz.prog Tryz.lays170_ren:={
 mixed:=by kernel_rfl
 f170:=Tryz.func224.trans (congrArg some (by kernel_rfl))
 t0:=Tryz.underlying0
 a0:=Tryz.isAgg0
 z0:=Tryz.sizeOf0
 v0:=Tryz.zeroValue0
 t3:=Tryz.underlying3
 a3:=Tryz.isAgg3
 z3:=Tryz.sizeOf3
 v3:=Tryz.zeroValue3
 t37:=Tryz.underlying233
 a37:=Tryz.isAgg233
 z37:=Tryz.sizeOf233
 v37:=Tryz.zeroValue233
 t70:=Tryz.underlying232
 a70:=Tryz.isAgg232
 z70:=Tryz.sizeOf232
 v70:=Tryz.zeroValue232
 t72:=Tryz.underlying235
 a72:=Tryz.isAgg235
 z72:=Tryz.sizeOf235
 v72:=Tryz.zeroValue235}
def Tryz.lays169_ren:Go.Shelf.Ren:=⟨fun|169=>126|n=>n,fun|70=>232|9=>9|0=>0|72=>235|37=>233|127=>304|3=>3|5=>5|n=>n,fun|n=>n⟩
def Tryz.lays169:Go.Proofs.Lays.n169 Tryz.prog Tryz.lays169_ren:={
 mixed:=by kernel_rfl
 f169:=Tryz.func126.trans (congrArg some (by kernel_rfl))
 t0:=Tryz.underlying0
 a0:=Tryz.isAgg0
 z0:=Tryz.sizeOf0
 v0:=Tryz.zeroValue0
 t3:=Tryz.underlying3
 a3:=Tryz.isAgg3
 z3:=Tryz.sizeOf3
 v3:=Tryz.zeroValue3
 t9:=Tryz.underlying9
 a9:=Tryz.isAgg9
 z9:=Tryz.sizeOf9
 v9:=Tryz.zeroValue9
 t37:=Tryz.underlying233
 a37:=Tryz.isAgg233
 z37:=Tryz.sizeOf233
 v37:=Tryz.zeroValue233
 t70:=Tryz.underlying232
 a70:=Tryz.isAgg232
 z70:=Tryz.sizeOf232
 v70:=Tryz.zeroValue232
 t72:=Tryz.underlying235
 a72:=Tryz.isAgg235
 z72:=Tryz.sizeOf235
 v72:=Tryz.zeroValue235
 t127:=Tryz.underlying304
 a127:=Tryz.isAgg304
 z127:=Tryz.sizeOf304
 v127:=Tryz.zeroValue304}
def Tryz.Builder_Extra_169:Builder.Extra Tryz.prog Tryz.lays169_ren:={
 sizeBuilder:=by kernel_rfl
 liesBuilder:=by kernel_rfl
 t5:=Tryz.underlying5
 a5:=Tryz.isAgg5
 z5:=Tryz.sizeOf5
 v5:=Tryz.zeroValue5
 infoByte:=by kernel_rfl
 cellsByte:=by kernel_rfl
 sizeByte:=by kernel_rfl
 neB5:=by decide}
open Go.RowKit
set_option maxRecDepth 100000
def apP:(Tryz.prog.info? 235).map (fun i=>i.size)=some 2:=by kernel_rfl
def infoByte:(Tryz.prog.info? 5).map (fun i=>(i.zero,i.size,i.bytes))=some (some (.int .u8 0),1,1):=by kernel_rfl
def asD:liesAt Tryz.prog Tryz.prog.depth 235 (2/Tryz.prog.cellsOf 235) 0 235 1=true:=by kernel_rfl
def XJ (b:Nat) (w:World) (h0:w.cell? ⟨b,0,none⟩=some (.pointer (some ⟨b,0,none⟩))):
  Calls Tryz.prog 190 #[.pointer (some ⟨b,0,none⟩)] w fun e w'=>e=.returned (.tuple #[])/\w=w':=by
 obtain⟨j,hj,_⟩:=Option.map_eq_some_iff.1 apP;have hq:=Lib.run_neq_ptr_same (P:=Tryz.prog) w (⟨b,0,none⟩) Tryz.underlying232 hj
 go_enter Tryz.func190,Tryz.ntmps190
 go_wp2
 go_end0
 exact⟨rfl,rfl⟩
def KJ (b:Nat) (w:World) (h0:w.cell? ⟨b,0,none⟩=some (.pointer none)) (hsh:w.shape? b=some (235,2)) (hfz:w.frozen? ⟨b,0,none⟩=false):
  Calls Tryz.prog 190 #[.pointer (some ⟨b,0,none⟩)] w fun e w'=>e=.returned (.tuple #[])/\w'=w.setCell ⟨b,0,none⟩ (.pointer (some ⟨b,0,none⟩)):=by
 obtain⟨j,hj,hjs⟩:=Option.map_eq_some_iff.1 apP;have h1:=Lib.run_to_unsafe (P:=Tryz.prog) w ⟨b,0,none⟩ Tryz.underlying232 Tryz.underlying379 hj (by rw[hjs];decide) hsh (Nat.zero_lt_succ 1)
 have h2:=Lib.run_from_unsafe (P:=Tryz.prog) w ⟨b,0,none⟩ Tryz.underlying379 Tryz.underlying232 hj hsh asD;have h3:(callFunc 256 #[.pointer (some ⟨b,0,none⟩)]).run Tryz.prog w=.ok (Next.value (.pointer (some ⟨b,0,none⟩))) w:=by
  rw[run_callFunc_extern Tryz.func256 (by kernel_rfl) (by kernel_rfl) (by kernel_rfl) (e:=Extern.AbiNoEscape.same) (by kernel_rfl),Lib.run_noEscape];rfl
 go_enter Tryz.func190,Tryz.ntmps190
 go_wp2
 go_end0
 exact⟨rfl,rfl⟩
open Go.Ev Go.RowKit Go.Shelf
def al4:IJ Tryz.prog 190:=⟨_,Tryz.func190,by decide,rfl⟩
def ae7:IJ Tryz.prog 126:=⟨_,Tryz.func126,by decide,rfl⟩
def VA(args:LA)(O:St):Option (AV×St):=
 match args with
 |[.ref o 0]=>match O[o]? with
  |some (.cells [.nilp,b] ⟨false,some (235,true)⟩)=>some (.undef,O.set o (.cells [.ref o 0,b] ⟨false,some (235,true)⟩))
  |some (.cells (.ref p 0::l) fz)=>match Nat.beq o p with
   |true=>some (.undef,O)
   |false=>none
  |_=>none
 |_=>none
def aij{C:Ctx}(hP:C.P=Tryz.prog):POK C 190 VA:=by
 intro args O v O' h g w args' ha hw hg;unfold VA at h;split at h
 ·rename_i o;cases ha with
  |cons _ v1 _ l1 x y=>
   cases y;cases x with
   |ref _ _ ho=>
    split at h
    ·rename_i b hb;simp at h;obtain⟨rfl,rfl⟩:=h;obtain⟨c,e,fr,h1,h2,h3,h4,h5,h6⟩:=hw.obj o _ hb;obtain⟨he,hx⟩:=h5.2 _ _ rfl;obtain⟨u,hu,hr⟩:=h4 0 .nilp rfl;cases hr;have hc0:w.cell? ⟨g.ob o,0,none⟩=some (.pointer none):=by rw[cell_of_heap h1];exact hu
     have hsz:c.size=2:=hx rfl;have hgo:=ajf (P:=C.P) hw hb (off:=0) (.ref o 0 ho) (by simp) rfl
     refine Cm (by rw[hP];exact al4) ?_
     rw[hP];exact(KJ (g.ob o) w hc0 (by simp[World.shape?,h1,hsz,he]) (by rw[World.frozen?,h1,h5.1];rfl)).mono fun e w2 ⟨he2,hw2⟩=>⟨_,he2,g,by rw[hw2];exact hgo,.tup _ _ .nil⟩
    ·rename_i p l fz hb;split at h
     ·rename_i hop;have hop:=a98 hop;subst hop;simp at h;obtain⟨rfl,rfl⟩:=h;obtain⟨c,e,fr,h1,h2,h3,h4,h5,h6⟩:=hw.obj o _ hb;obtain⟨u,hu,hr⟩:=h4 0 (.ref o 0) rfl;cases hr;have hc0:w.cell? ⟨g.ob o,0,none⟩=some (.pointer (some ⟨g.ob o,0,none⟩)):=by rw[cell_of_heap h1];exact hu
      refine Cm (by rw[hP];exact al4) ?_
      rw[hP];exact(XJ (g.ob o) w hc0).mono fun e w2 ⟨he2,hw2⟩=>⟨_,he2,g,by rw[<-hw2];exact .refl hw,.tup _ _ .nil⟩
     ·cases h
    ·cases h
 ·cases h
section
variable{P:Program}{ρ:Ren}
set_option maxHeartbeats 1000000 in
def adf (L:Lays.n169 P ρ) (X:Builder.Extra P ρ) (b g cap:Nat) (p:Value) (cur:Array Value) (l:LU) (w:World) (hbk:w.heap[b]?=some (.cells #[p,.slice (some ⟨g,0,none⟩) l.length cap] (ρ.t 72) (0,0))) (hg:w.heap[g]?=some (.cells cur (ρ.t 5) (0,0)))
  (h0:l≠[]) (hnc:l.length<=cap) (hcs:l.length<=cur.size) (hcm:l.length<=1099511627776) (htake:∀(j:Nat) (x:UInt8),l[j]?=some x->cur[j]?=some (Value.int .u8 x.toNat)):
  Calls P (ρ.f 169) #[.pointer (some ⟨b,0,none⟩)] w fun e w'=>e=.returned (.string ⟨l.toArray⟩)/\w'=w.drew.freeze ⟨g,0,none⟩ l.length:=by
 have hl0:l.length≠0:=by simpa using h0
 have c1:w.drew.cell? ⟨b,1,none⟩=some (.slice (some ⟨g,0,none⟩) l.length cap):=by
  have:w.drew.heap[b]?=some (.cells #[p,.slice (some ⟨g,0,none⟩) l.length cap] (ρ.t 72) (0,0)):=hbk;rw[Lib.cell_of_heap this];rfl
 have hSD:(Builtin.unsafeSliceData_ #[(ρ.t 37)] (ρ.t 127) #[.slice (some ⟨g,0,none⟩) l.length cap]).run P w.drew=.ok (.pointer (some ⟨g,0,none⟩)) w.drew:=
  Lib.run_unsafeSliceData_row _ _ _ _ _ _ (by omega)
 have hUS:(Builtin.unsafeString_ #[(ρ.t 127),(ρ.t 3)] (ρ.t 9) #[.pointer (some ⟨g,0,none⟩),.int .i64 l.length]).run P w.drew=.ok (.string ⟨l.toArray⟩) (w.drew.freeze ⟨g,0,none⟩ l.length):=by
  refine Lib.run_unsafeString_row w.drew (ρ.t 127) (ρ.t 3) (ρ.t 9) (ρ.t 5) L.t127 X.cellsByte g cur.size (by have hg':w.drew.heap[g]?=some (.cells cur (ρ.t 5) (0,0)):=hg;simp[World.shape?,hg']) l h0 (by omega) (by omega) ?_
  intro j x hx;have hg':w.drew.heap[g]?=some (.cells cur (ρ.t 5) (0,0)):=hg;have ha:(⟨g,0,none⟩:Addr).add j=⟨g,0+j,none⟩:=by unfold Addr.add;split<;>simp_all
  rw[ha,Lib.cell_of_heap hg',av5];exact htake j x hx
 clear htake hcm hcs hnc;have mixed:=L.mixed;have t72:=L.t72;have a72:=L.a72;have z72:=L.z72;have v72:=L.v72;have u72:=run_underlying L.t72;have t70:=L.t70;have a70:=L.a70;have z70:=L.z70;have v70:=L.v70;have u70:=run_underlying L.t70;have t37:=L.t37;have a37:=L.a37;have z37:=L.z37;have v37:=L.v37;have u37:=run_underlying L.t37;have t127:=L.t127;have a127:=L.a127;have z127:=L.z127;have v127:=L.v127;have u127:=run_underlying L.t127;have t3:=L.t3;have a3:=L.a3;have z3:=L.z3;have v3:=L.v3;have u3:=run_underlying L.t3;have t9:=L.t9;have a9:=L.a9;have z9:=L.z9;have v9:=L.v9;have u9:=run_underlying L.t9;have t5:=X.t5;have a5:=X.a5;have z5:=X.z5;have v5:=X.v5;have u5:=run_underlying X.t5
 go_enter L.f169,Body.n169_ntmps ρ
 go_wp2
 go_region_o
 all_goals (go_wp2;go_ret;exact⟨rfl,rfl⟩)
end
noncomputable def GV(args:LA)(O:St):Option (AV×St):=
 match args with
 |[.ref o 0]=>match O[o]? with
  |some (.cells [p,.nils] ⟨false,some (235,true)⟩)=>some (.str [],O)
  |some (.cells [p,.msl ob 0 n 1] ⟨false,some (235,true)⟩)=>match O[ob]? with
   |some (.cells l ⟨false,some (5,x)⟩)=>match KH l with
    |some (b::s)=>match Ky (Nat.beq (b::s).length n) (Nat.ble (b::s).length 1099511627776)with
     |true=>some (.str (b::s),O.set ob .dead)
     |false=>none
    |_=>none
   |_=>none
  |_=>none
 |_=>none
def abl{C:Ctx}(hP:C.P=Tryz.prog):POK C 126 GV:=by
 intro args O v O' h g w args' ha hw hg;unfold GV at h;split at h
 ·rename_i o;cases ha with
  |cons _ v1 _ l1 x y=>
   cases y;cases x with
   |ref _ _ ho=>
    split at h
    ·rename_i p hb;simp at h;obtain⟨rfl,rfl⟩:=h;obtain⟨c,e,fr,h1,h2,h3,h4,h5,h6⟩:=hw.obj o _ hb;obtain⟨he,hx⟩:=h5.2 _ _ rfl;have hfr:=h5.1;obtain⟨u0,hu0,hr0⟩:=h4 0 p rfl;obtain⟨u1,hu1,hr1⟩:=h4 1 .nils rfl;cases hr1;have hsz:c.size=2:=hx rfl;have hc:c=#[u0,.slice none 0 0]:=by
      apply Array.ext_getElem?;intro i
      match i with
      |0=>exact hu0
      |1=>exact hu1
      |i+2=>simp[hsz]
     subst hc he hfr;refine Cm (by rw[hP];exact ae7) ?_
     rw[hP];exact(Any.Builder_String_nil Tryz.lays169 Tryz.Builder_Extra_169 w.heap.size (g.ob o) u0 w h1).mono fun e w2 ⟨he2,hw2⟩=>⟨_,he2,g,wL hw hw2,.str []⟩
    ·rename_i p ob n hb;split at h
     ·rename_i l x hbl;split at h
      ·rename_i b s hbx;split at h
       ·rename_i hn;rw[qF,a02]at hn;have hn1:=a98 hn.1;have hn2:=aw4 hn.2;simp only[a05,aw3]at h;obtain⟨rfl,rfl⟩:=h;obtain⟨c,e,fr,h1,h2,h3,h4,h5,h6⟩:=hw.obj o _ hb;obtain⟨he,hx⟩:=h5.2 _ _ rfl;have hfr:=h5.1;obtain⟨u0,hu0,hr0⟩:=h4 0 p rfl;obtain⟨u1,hu1,hr1⟩:=h4 1 (.msl ob 0 n 1) rfl;cases hr1 with
        |msl _ _ _ _ cap hob hncap hcap=>
        have hsz:c.size=2:=hx rfl;have hc:c=#[u0,.slice (some ⟨g.ob ob,0,none⟩) n cap]:=by
         apply Array.ext_getElem?;intro i
         match i with
         |0=>exact hu0
         |1=>exact hu1
         |i+2=>simp[hsz]
        subst hc he hfr;obtain⟨c',e',fr',k1,k2,k3,k4,k5,k6⟩:=hw.obj ob _ hbl;obtain⟨he',hx'⟩:=k5.2 _ _ rfl;have hfr':=k5.1;subst he' hfr';obtain⟨e1,e2⟩:=XB hbx;refine Cm (by rw[hP];exact ae7) ?_
        rw[hP];rw[<-hn1]at h1 hncap;refine(adf Tryz.lays169 Tryz.Builder_Extra_169 (g.ob o) (g.ob ob) cap u0 c' (b::s) w h1 k1 (by simp) hncap (by omega) hn2 (fun j x hx=>?_)).mono fun e w2 ⟨he2,hw2⟩=>⟨_,he2,g,?_,.str (b::s)⟩
        ·obtain⟨v,hv,hr⟩:=k4 j _ (e2 j x hx);cases hr;exact hv
        ·subst hw2;obtain⟨f1,f2,f3,f4,f5⟩:=ae8 w.drew (g.ob ob) (b::s).length;exact ajg hw hbl f1 f2 f3 f4 f5
       ·cases h
      ·cases h
     ·cases h
    ·cases h
 ·cases h
def fxP{P:Program}{f:Nat}{a b:Func}(h:P.funcs[f]?=some a)(e:a=b:=by kernel_rfl):P.funcs[f]?=some b:=h.trans (congrArg some e)
def Tryz.laysPI_ren:Go.Shelf.Ren:=⟨fun|174=>352|247=>363|245=>364|287=>370|279=>371|280=>372|281=>373|282=>374|321=>380|322=>381|316=>382|171=>161|205=>383|243=>220|246=>257|283=>298|284=>299|285=>300|286=>301|129=>234|317=>320|318=>321|319=>322|320=>323|337=>343|338=>344|n=>n,fun|9=>9|3=>3|2=>2|75=>237|85=>469|4=>4|167=>483|5=>5|53=>364|175=>484|46=>282|168=>486|37=>233|0=>0|210=>494|21=>21|127=>304|145=>500|143=>498|171=>417|173=>419|212=>452|51=>362|20=>20|213=>453|232=>468|233=>299|80=>70|n=>n,fun|15=>9|16=>10|17=>6|18=>7|19=>8|n=>n⟩
def Tryz.laysPI:Go.Proofs.LaysC.n174 Tryz.prog Tryz.laysPI_ren:={
 mixed:=by kernel_rfl
 f129:=fxP Tryz.func234
 f171:=fxP Tryz.func161
 f174:=fxP Tryz.func352
 f205:=fxP Tryz.func383
 f243:=fxP Tryz.func220
 f245:=fxP Tryz.func364
 f246:=fxP Tryz.func257
 f247:=fxP Tryz.func363
 f279:=fxP Tryz.func371
 f280:=fxP Tryz.func372
 f281:=fxP Tryz.func373
 f282:=fxP Tryz.func374
 f283:=fxP Tryz.func298
 f284:=fxP Tryz.func299
 f285:=fxP Tryz.func300
 f286:=fxP Tryz.func301
 f287:=fxP Tryz.func370
 f316:=fxP Tryz.func382
 f317:=fxP Tryz.func320
 f318:=fxP Tryz.func321
 f319:=fxP Tryz.func322
 f320:=fxP Tryz.func323
 f321:=fxP Tryz.func380
 f322:=fxP Tryz.func381
 f337:=fxP Tryz.func343
 f338:=fxP Tryz.func344
 t0:=Tryz.underlying0
 a0:=Tryz.isAgg0
 z0:=Tryz.sizeOf0
 v0:=Tryz.zeroValue0
 t2:=Tryz.underlying2
 a2:=Tryz.isAgg2
 z2:=Tryz.sizeOf2
 v2:=Tryz.zeroValue2
 t3:=Tryz.underlying3
 a3:=Tryz.isAgg3
 z3:=Tryz.sizeOf3
 v3:=Tryz.zeroValue3
 t4:=Tryz.underlying4
 a4:=Tryz.isAgg4
 z4:=Tryz.sizeOf4
 v4:=Tryz.zeroValue4
 t5:=Tryz.underlying5
 a5:=Tryz.isAgg5
 z5:=Tryz.sizeOf5
 v5:=Tryz.zeroValue5
 t9:=Tryz.underlying9
 a9:=Tryz.isAgg9
 z9:=Tryz.sizeOf9
 v9:=Tryz.zeroValue9
 t20:=Tryz.underlying20
 a20:=Tryz.isAgg20
 z20:=Tryz.sizeOf20
 v20:=Tryz.zeroValue20
 t21:=Tryz.underlying21
 a21:=Tryz.isAgg21
 z21:=Tryz.sizeOf21
 v21:=Tryz.zeroValue21
 t37:=Tryz.underlying233
 a37:=Tryz.isAgg233
 z37:=Tryz.sizeOf233
 v37:=Tryz.zeroValue233
 t46:=Tryz.underlying282
 a46:=Tryz.isAgg282
 z46:=Tryz.sizeOf282
 v46:=Tryz.zeroValue282
 t51:=Tryz.underlying362
 a51:=Tryz.isAgg362
 z51:=Tryz.sizeOf362
 v51:=Tryz.zeroValue362
 t53:=Tryz.underlying364
 a53:=Tryz.isAgg364
 z53:=Tryz.sizeOf364
 v53:=Tryz.zeroValue364
 t75:=Tryz.underlying237
 a75:=Tryz.isAgg237
 z75:=Tryz.sizeOf237
 v75:=Tryz.zeroValue237
 t85:=Tryz.underlying469
 a85:=Tryz.isAgg469
 z85:=Tryz.sizeOf469
 v85:=Tryz.zeroValue469
 t127:=Tryz.underlying304
 a127:=Tryz.isAgg304
 z127:=Tryz.sizeOf304
 v127:=Tryz.zeroValue304
 t143:=Tryz.underlying498
 a143:=Tryz.isAgg498
 z143:=Tryz.sizeOf498
 v143:=Tryz.zeroValue498
 t145:=Tryz.underlying500
 a145:=Tryz.isAgg500
 z145:=Tryz.sizeOf500
 v145:=Tryz.zeroValue500
 t167:=Tryz.underlying483
 a167:=Tryz.isAgg483
 z167:=Tryz.sizeOf483
 v167:=Tryz.zeroValue483
 t168:=Tryz.underlying486
 a168:=Tryz.isAgg486
 z168:=Tryz.sizeOf486
 v168:=Tryz.zeroValue486
 t171:=Tryz.underlying417
 a171:=Tryz.isAgg417
 z171:=Tryz.sizeOf417
 v171:=Tryz.zeroValue417
 t173:=Tryz.underlying419
 a173:=Tryz.isAgg419
 z173:=Tryz.sizeOf419
 v173:=Tryz.zeroValue419
 t175:=Tryz.underlying484
 a175:=Tryz.isAgg484
 z175:=Tryz.sizeOf484
 v175:=Tryz.zeroValue484
 t210:=Tryz.underlying494
 a210:=Tryz.isAgg494
 z210:=Tryz.sizeOf494
 v210:=Tryz.zeroValue494
 t212:=Tryz.underlying452
 a212:=Tryz.isAgg452
 z212:=Tryz.sizeOf452
 v212:=Tryz.zeroValue452
 t213:=Tryz.underlying453
 a213:=Tryz.isAgg453
 z213:=Tryz.sizeOf453
 t232:=Tryz.underlying468
 a232:=Tryz.isAgg468
 z232:=Tryz.sizeOf468
 v232:=Tryz.zeroValue468
 t233:=Tryz.underlying299
 a233:=Tryz.isAgg299
 z233:=Tryz.sizeOf299
 v233:=Tryz.zeroValue299
 g15:=by kernel_rfl
 g16:=by kernel_rfl
 g17:=by kernel_rfl
 g18:=by kernel_rfl
 g19:=by kernel_rfl
 t80:=Tryz.underlying70
 a80:=Tryz.isAgg70
 z80:=Tryz.sizeOf70
 v80:=Tryz.zeroValue70
 i0:=by kernel_rfl
 i2:=by kernel_rfl
 i3:=by kernel_rfl
 i4:=by kernel_rfl
 i5:=by kernel_rfl
 i9:=by kernel_rfl
 i20:=by kernel_rfl
 i21:=by kernel_rfl
 i37:=by kernel_rfl
 i46:=by kernel_rfl
 i51:=by kernel_rfl
 i53:=by kernel_rfl
 i75:=by kernel_rfl
 i80:=by kernel_rfl
 i85:=by kernel_rfl
 i127:=by kernel_rfl
 i143:=by kernel_rfl
 i145:=by kernel_rfl
 i167:=by kernel_rfl
 i168:=by kernel_rfl
 i171:=by kernel_rfl
 i173:=by kernel_rfl
 i175:=by kernel_rfl
 i210:=by kernel_rfl
 i212:=by kernel_rfl
 i232:=by kernel_rfl
 i233:=by kernel_rfl
 m15:=by kernel_rfl
 m16:=by kernel_rfl
 m17:=by kernel_rfl
 m18:=by kernel_rfl
 m19:=by kernel_rfl
 c0:=by kernel_rfl
 c2:=by kernel_rfl
 c3:=by kernel_rfl
 c4:=by kernel_rfl
 c5:=by kernel_rfl
 c9:=by kernel_rfl
 c20:=by kernel_rfl
 c21:=by kernel_rfl
 c37:=by kernel_rfl
 c46:=by kernel_rfl
 c51:=by kernel_rfl
 c53:=by kernel_rfl
 c75:=by kernel_rfl
 c80:=by kernel_rfl
 c85:=by kernel_rfl
 c127:=by kernel_rfl
 c143:=by kernel_rfl
 c145:=by kernel_rfl
 c167:=by kernel_rfl
 c168:=by kernel_rfl
 c171:=by kernel_rfl
 c173:=by kernel_rfl
 c175:=by kernel_rfl
 c210:=by kernel_rfl
 c212:=by kernel_rfl
 c213:=by kernel_rfl
 c232:=by kernel_rfl
 c233:=by kernel_rfl}
def ahS:IJ Tryz.prog 352:=⟨_,Tryz.func352,by decide,rfl⟩
noncomputable def ajH(args:LA)(O:St):Option (AV×St):=
 match args with
 |[.str s,.int .i64 a,.int .i64 b]=>if a=10/\b=64/\s.length<=1099511627776 then match Lib.parseIntB 64 s with
  |.ok v=>some (.tup [.int .i64 v,.nilIface],O)
  |.range=>some (.tup [.int .i64 (Lib.intSat 64 s),.iface 486 (.eptr [])],O)
  |_=>some (.tup [.int .i64 0,.iface 486 (.eptr [])],O)
  else none
 |_=>none
def aqL:AV->Bool
 |.iface _ _=>true
 |_=>false
def ahY{C:Ctx}{g:Gh}{w:World}{O:St}(hw:WR g w O)(hg:GL C g){n:Nat}{e:AV}(h:C.gl n=some [e])(hi:aqL e=true):∃ev,w.cell? ⟨n,0,none⟩=some ev/\(ev=.nilIface\/∃te pe,ev=.iface te pe):=by
 obtain⟨v,h1,h2⟩:=(hg.1 n _ h).1.get (i:=0) (a:=e) rfl;refine⟨v,hw.im _ _ _ h1,?_⟩;cases h2<;>first|(cases hi;done)|exact .inr ⟨_,_,rfl⟩
def ara{C:Ctx}(hP:C.P=Tryz.prog){e1 e2:AV}(h1:C.gl pU=some [e1])(h2:C.gl oC=some [e2])(i1:aqL e1=true)(i2:aqL e2=true):POK C 352 ajH:=by
 intro args O v O' h g w args' ha hw hg;unfold ajH at h;split at h
 ·rename_i s a b;split at h
  ·rename_i hc;obtain⟨rfl,rfl,hl⟩:=hc;cases ha with
   |cons _ v1 _ l1 x1 y1=>
   cases y1 with
   |cons _ v2 _ l2 x2 y2=>
   cases y2 with
   |cons _ v3 _ l3 x3 y3=>
   cases y3;cases x1;cases x2;cases x3;have hsz:(⟨⟨s⟩⟩:ByteArray).size=s.length:=rfl;obtain⟨ev1,c1,d1⟩:=ahY hw hg h1 i1;obtain⟨ev2,c2,d2⟩:=ahY hw hg h2 i2;refine Cm (by rw[hP];exact ahS) ?_
   rw[hP];cases hz:Lib.parseIntB 64 s
   ·rename_i z;rw[hz]at h;cases h;refine(Any.strconv_ParseInt_10_at64_ok Tryz.laysPI ⟨⟨s⟩⟩ (by rw[hsz];omega) z hz w).mono fun e w' ⟨he,hw'⟩=>⟨_,he,g,?_,.tup _ _ (.cons _ _ _ _ (.int _ _) (.cons _ _ _ _ .nilIface .nil))⟩
    refine wL hw ?_;rcases hw' with rfl|⟨t,rfl⟩
    ·exact Below.refl _ _
    ·exact Lib.bytesWorld_below _ _ _
   ·rw[hz]at h;cases h;exact(Any.strconv_ParseInt_10_at64_syntax Tryz.laysPI ⟨⟨s⟩⟩ (by rw[hsz];omega) hz ev2 w c2 d2).mono fun e w' ⟨n,he,_,_,hb⟩=>⟨_,he,g,wL hw hb,.tup _ _ (.cons _ _ _ _ (.int _ _) (.cons _ _ _ _ (.iface _ _ _ (.eptr _ _ _ (.nil _ _))) .nil))⟩
   ·rw[hz]at h;cases h;exact(Any.strconv_ParseInt_10_at64_range Tryz.laysPI ⟨⟨s⟩⟩ (by rw[hsz];omega) hz ev1 w c1 d1).mono fun e w' ⟨n,he,_,_,hb⟩=>⟨_,he,g,wL hw hb,.tup _ _ (.cons _ _ _ _ (.int _ _) (.cons _ _ _ _ (.iface _ _ _ (.eptr _ _ _ (.nil _ _))) .nil))⟩
  ·cases h
 ·cases h
noncomputable def amq(args:LA)(O:St):Option (AV×St):=
 match args with
 |[.str s,.int .i64 (.ofNat a),.int .i64 (.ofNat b)]=>match Ky (Ky (Nat.beq a 10) (Nat.beq b 64)) (Nat.ble s.length 1000)with
  |true=>match Lib.parseIntB 64 s with
   |.ok v=>some (.tup [.int .i64 v,.nilIface],O)
   |_=>none
  |false=>none
 |_=>none
def aoG{C:Ctx}(hP:C.P=Tryz.prog):POK C 352 amq:=by
 intro args O v O' h g w args' ha hw hg;unfold amq at h;split at h
 ·rename_i s a b;split at h
  ·rename_i hc;rw[qF,a02,qF,a02]at hc;have e1:=a98 hc.1.1;have e2:=a98 hc.1.2;have hl:=aw4 hc.2;subst e1 e2;split at h
   ·rename_i z hz;cases h;cases ha with
    |cons _ v1 _ l1 x1 y1=>
    cases y1 with
    |cons _ v2 _ l2 x2 y2=>
    cases y2 with
    |cons _ v3 _ l3 x3 y3=>
    cases y3;cases x1;cases x2;cases x3;refine Cm (by rw[hP];exact ahS) ?_
    rw[hP];refine(Any.strconv_ParseInt_10_at64_ok Tryz.laysPI ⟨⟨s⟩⟩ (by show s.length<=_;omega) z hz w).mono fun e w' ⟨he,hw'⟩=>⟨_,he,g,?_,.tup _ _ (.cons _ _ _ _ (.int _ _) (.cons _ _ _ _ .nilIface .nil))⟩
    refine wL hw ?_;rcases hw' with rfl|⟨t,rfl⟩
    ·exact Below.refl _ _
    ·exact Lib.bytesWorld_below _ _ _
   ·cases h
  ·cases h
 ·cases h
def at0(l:LU)(k:Nat):Nat:=(l.getD k 0).toNat
def RI(s:ByteArray)(p k:Nat):(s.get! (p+k)).toNat=at0 (s.data.toList.drop p) k:=by
 unfold at0
 congr 1
 rw[aw1,List.getElem?_drop,Array.getElem?_toList];show s.data[p+k]! =_;rw[getElem!_def];rfl
def adN (s:ByteArray) (p:Nat) (h:p<=s.size):Utf8.decode s p=
  Lib.decodeN (s.data.toList.drop p).length (at0 (s.data.toList.drop p) 0) (at0 (s.data.toList.drop p) 1) (at0 (s.data.toList.drop p) 2) (at0 (s.data.toList.drop p) 3):=by
 rw[Lib.decode_at,<-RI,<-RI,<-RI,<-RI];have e:(s.data.toList.drop p).length=s.size-p:=by simp
 rw[e];rfl
def VZ(l:LU):Nat×Nat:=Lib.decodeN l.length (at0 l 0) (at0 l 1) (at0 l 2) (at0 l 3)
def aqh(l:LU)(k:Nat):at0 l k<256:=UInt8.toNat_lt _
def XL(l:LU)(hl:l≠[]):1<=(VZ l).2/\(VZ l).2<=l.length/\(VZ l).1<=1114111:=by
 have h1:1<=l.length:=Nat.pos_of_ne_zero (fun h=>hl (av1 h));have h0:=aqh l 0;unfold VZ Lib.decodeN;repeat' split
 all_goals simp only;omega
def badL(l:LU):Bool:=Nat.beq (VZ l).1 65533&& !List.isPrefixOf [239,191,189] l
def agm:Nat->LU->Option Nat
 |0,l=>if l.isEmpty then some 0 else none
 |f+1,l=>if l.isEmpty then some 0 else if badL l then none else(agm f (l.drop (VZ l).2)).map (· +1)
def BO(l:LU):Option Nat:=agm l.length l
def SA(f:Nat):agm f []=some 0:=by cases f<;>rfl
def ajq(f:Nat):∀(g:Nat) (l:LU),l.length<=f->l.length<=g->agm f l=agm g l:=by
 induction f with
 |zero=>
  intro g l hf hg;obtain rfl:l=[]:=av1 (by omega)
  rw[SA,SA]
 |succ f ih=>
  intro g l hf hg
  match l with
  |[]=>rw[SA,SA]
  |b::t=>
   cases g with
   |zero=>simp at hg
   |succ g=>
    have hn:=(XL (b::t) (by simp)).1
    simp only[agm,List.isEmpty_cons,ay7,if_false];rw[ih g _ (by simp at hf⊢;omega) (by simp at hg⊢;omega)]
def alK:BO []=some 0:=rfl
def ajr(l:LU)(hl:l≠[]):BO l=if badL l then none else(BO (l.drop (VZ l).2)).map (· +1):=by
 match l with
 |[]=>exact absurd rfl hl
 |b::t=>
  have hn:=(XL (b::t) (by simp)).1
  unfold BO;rw[a09];simp only[agm,List.isEmpty_cons,ay7,if_false];rw[ajq t.length _ _ (by simp;omega) (a06 _)]
def drop_cons(s:ByteArray)(k:Nat)(h:k<s.size):s.data.toList.drop k≠[]:=by
 intro e;have:=congrArg List.length e;simp at this;have:s.data.size=s.size:=rfl;omega
def drop_end(s:ByteArray)(k:Nat)(h:s.size<=k):s.data.toList.drop k=[]:=
 au5 (by rw[aC6];exact h)
def aeZ{a b:Bool}(h:a=b):Ending.returned (.bool a)=.returned (.bool b):=by rw[h]
def hasPrefix (s p:ByteArray) (w:World) (hs:s.size<=1099511627776) (hp:p.size<=1099511627776):
  Calls Tryz.prog 222 #[.string s,.string p] w fun e w'=>e=.returned (.bool (p.data.toList.isPrefixOf s.data.toList))/\w=w':=by
 have key:=Lib.hasPrefix_of_take s.data.toList p.data.toList;rw[<-Lib.size_eq,<-Lib.size_eq]at key;unfold Lib.hasPrefix at key;have HK:=Lib.hid key;clear key;by_cases h:p.size<=s.size
 ·have hX:Hid (((s.extract 0 p.size).toList==p.toList)=p.data.toList.isPrefixOf s.data.toList):=by
   show _=_;rw[<-HK.out,Lib.extract_toList,Lib.toList_data];simp[h]
  clear HK
  go_enter Tryz.func222,Tryz.ntmps222
  go_wp2
  go_ret
  exact⟨aeZ hX.out,rfl⟩
 ·have hX:Hid (false=p.data.toList.isPrefixOf s.data.toList):=by
   show _=_;rw[<-HK.out];simp[h]
  clear HK
  go_enter Tryz.func222,Tryz.ntmps222
  go_wp2
  go_ret
  exact⟨aeZ hX.out,rfl⟩
def RS (s p:ByteArray) (b:Bool) (w:World) (hs:s.size<=1099511627776) (hp:p.size<=1099511627776) (h:p.data.toList.isPrefixOf s.data.toList=b):
  Calls Tryz.prog 222 #[.string s,.string p] w fun e w'=>e=.returned (.bool b)/\w=w':=by
 subst h;exact hasPrefix s p w hs hp
def aq2(s:ByteArray)(w0:World)(nv:Value)(a b:Value)(w':World):Prop:=
 ∃(pos n:Nat),pos<=s.size/\n<=pos/\w'=w0.iter s pos/\nv=.int .i64 n/\a=.int .i64 0/\b=.bool false/\BO s.data.toList=(BO (s.data.toList.drop pos)).map (· +n)
def anL(s:ByteArray)(w:World)(e:Ending)(w':World):Prop:=
 e=.returned (.tuple #[.int .i64 ((BO s.data.toList).getD 0:Nat),.bool (BO s.data.toList).isSome])/\∃pos,w'=w.iter s pos
def len_any (s:ByteArray) (w:World) (hs:s.size<=1099511627776):
  Calls Tryz.prog 255 #[.string s] w (anL s w):=by
 go_enter Tryz.func255,Tryz.ntmps255
 go_wp2_with fail
 go_loopw [4,2,3] (fun n a b w'=>aq2 s w n a b w') (fun _ _ _ w'=>s.size-w'.iterPos w.heap.size)
 case atStart=>exact⟨0,0,by omega,by omega,rfl,rfl,rfl,rfl,by simp⟩
 case round=>
  obtain⟨pos,n,hpos,hn,rfl,rfl,rfl,rfl,hl⟩:=hrel;have HL:=Lib.hid hl;clear hl;by_cases hp:pos<s.size
  ·have hd:Utf8.decode s pos=VZ (s.data.toList.drop pos):=adN s pos hpos;have hne:=drop_cons s pos hp;have st:=ajr _ hne;have ft:=XL _ hne;have hdd:(s.data.toList.drop pos).drop (VZ (s.data.toList.drop pos)).2=s.data.toList.drop (pos+(VZ (s.data.toList.drop pos)).2):=aD4 ..;have hlen:(s.data.toList.drop pos).length=s.size-pos:=by simp
   rw[hdd]at st;rw[hlen]at ft;have HB:=Lib.hid (show badL (s.data.toList.drop pos)=(Nat.beq (VZ (s.data.toList.drop pos)).1 65533&& !List.isPrefixOf [239,191,189] (s.extract pos s.size).data.toList) by rw[Lib.extract_to_end];rfl)
   have HS:=Lib.hid st;generalize hx:VZ (s.data.toList.drop pos)=x at*;obtain⟨r,m⟩:=x;simp only at ft;have hnx:∀ty,(Instr.next (.pointer (some ⟨w.heap.size,0,none⟩)) true ty).run Tryz.prog (w.iter s pos)=.ok (.tuple #[.bool true,.int .i64 pos,.int .i32 r]) (w.iter s (pos+m)):=
    fun ty=>by have:=run_next_any (P:=Tryz.prog) w s pos ty hp;rw[hd]at this;exact this
   clear st hd hdd hlen hne hx;by_cases h5:r=65533
   ·subst h5;cases hpr:List.isPrefixOf [239,191,189] (s.extract pos s.size).data.toList with
    |true=>
     have HP:=Lib.hid hpr;have HL2:Hid (BO s.data.toList=(BO (s.data.toList.drop (pos+m))).map (· +(n+1))):=by
      show _=_;rw[HL.out,HS.out,HB.out,hpr,if_neg (by simp),Option.map_map]
      exact congrArg (fun f=>Option.map f (BO _)) (funext fun k=>by simp only[Function.comp];omega)
     clear HL HS HB hpr
     go_wp2_with fail
     refine(RS _ _ true _ (by simp;omega) (by decide) HP.out).mono ?_
     rintro e w' ⟨rfl,rfl⟩
     go_wp2_with fail
     go_roundw
     case rel=>exact⟨pos+m,n+1,by omega,by omega,rfl,by go_num,rfl,rfl,HL2.out⟩
     case measure=>simp;omega
    |false=>
     have HP:=Lib.hid hpr;have HL2:Hid (BO s.data.toList=none):=by
      show _=_;rw[HL.out,HS.out,HB.out,hpr,if_pos (by simp)];rfl
     clear HL HS HB hpr
     go_wp2_with fail
     refine(RS _ _ false _ (by simp;omega) (by decide) HP.out).mono ?_
     rintro e w' ⟨rfl,rfl⟩
     go_wp2_with fail
     go_ret2
     refine⟨?_,_,rfl⟩;rw[HL2.out];rfl
   ·have h5':((r:Int)==65533)=false:=by simp;omega
    have HL2:Hid (BO s.data.toList=(BO (s.data.toList.drop (pos+m))).map (· +(n+1))):=by
     have hb:Nat.beq r 65533=false:=by rw[Bool.eq_false_iff];exact fun h=>h5 (a98 h)
     show _=_;rw[HL.out,HS.out,HB.out,hb,if_neg (by simp),Option.map_map]
     exact congrArg (fun f=>Option.map f (BO _)) (funext fun k=>by simp only[Function.comp];omega)
    clear HL HS HB h5
    go_wp2_with fail
    go_roundw
    case rel=>exact⟨pos+m,n+1,by omega,by omega,rfl,by go_num,rfl,rfl,HL2.out⟩
    case measure=>simp;omega
  ·have hnx:∀ty,(Instr.next (.pointer (some ⟨w.heap.size,0,none⟩)) true ty).run Tryz.prog (w.iter s pos)=_:=fun ty=>run_next_end w s pos ty hp
   go_wp2_with fail
   go_ret2
   have e:=HL.out;rw[drop_end s _ (by omega),alK]at e
   refine⟨?_,_,rfl⟩;rw[e];simp
def agh(w:World)(s:ByteArray)(pos:Nat):Below w.heap.size w (w.iter s pos):=(Below.refl _ _).alloc (a06 _) _
def ajs (s:ByteArray) (w:World) (hs:s.size<=1099511627776):
  Calls Tryz.prog 255 #[.string s] w fun e w'=>e=.returned (.tuple #[.int .i64 ((BO s.data.toList).getD 0:Nat),.bool (BO s.data.toList).isSome])/\Below w.heap.size w w':=
 (len_any s w hs).mono fun _ _ ⟨he,pos,hw⟩=>⟨he,by rw[hw];exact agh _ _ _⟩
open Go.Ev
def asj:IJ Tryz.prog 255:=⟨_,Tryz.func255,by decide,rfl⟩
def amu{C:Ctx}(hP:C.P=Tryz.prog):POK C 255 (Tc (fun s=>.tup [.int .i64 ((BO s).getD 0:Nat),.bool (BO s).isSome])):=aoK (C:=C) (f:=255) (by rw[hP];exact asj) (fun s=>.tup [.int .i64 ((BO s).getD 0:Nat),.bool (BO s).isSome]) (fun s=>.tuple #[.int .i64 ((BO s).getD 0:Nat),.bool (BO s).isSome])
 (fun g s=>.tup _ _ (.cons _ _ _ _ (.int _ _) (.cons _ _ _ _ (.bool _) .nil))) (fun s w hs=>by rw[hP];exact ajs s w hs)
open Go.RowKit Go.Shelf Go.Lib
set_option maxRecDepth 1000000
def anY (B b:Nat) (bs:List Value) (w:World) (h:Lib.IsBuilderF 235 5 B b bs w):
  Calls Tryz.prog 190 #[.pointer (some ⟨b,0,none⟩)] w fun e w'=>e=.returned (.tuple #[])/\Lib.BuilderAtF 235 5 B b (.pointer (some ⟨b,0,none⟩)) bs w'/\Below B w w':=by
 rcases h with h|h
 ·exact(KJ b w h.cell0 h.shape h.frozen0).mono fun e w' ⟨he,hw⟩=>⟨he,by rw[hw];exact h.used _,by rw[hw];exact(Below.refl B w).setCell (p:=⟨b,0,none⟩) h.1 _⟩
 ·exact(XJ b w h.cell0).mono fun e w' ⟨he,hw⟩=>⟨he,by rw[<-hw];exact h,by rw[<-hw];exact Below.refl B _⟩
set_option maxHeartbeats 1000000 in
def O6 (B b:Nat) (bs:List Value) (s:ByteArray) (w:World) (h:Lib.IsBuilderF 235 5 B b bs w) (hlen:bs.length+s.size<=1099511627776) (hBw:B<=w.heap.size):
  Calls Tryz.prog 122 #[.pointer (some ⟨b,0,none⟩),.string s] w fun e w'=>e=.returned (.tuple #[.int .i64 s.size,.nilIface])/\Lib.BuilderAtF 235 5 B b (.pointer (some ⟨b,0,none⟩)) (bs++Lib.strCells s) w'/\Below B w w':=by
 obtain⟨i0,hi,hz0,hz1,hz2⟩:=info_parts infoByte
 go_enter Tryz.func122,Tryz.ntmps122
 go_wp2_with fail
 refine(anY B b bs _ h).mono ?_;rintro e w1 ⟨rfl,h1,hb1⟩;obtain⟨hB,v,hbk,hown,hne⟩:=h1;have c0:w1.cell? ⟨b,0,none⟩=some (.pointer (some ⟨b,0,none⟩)):=by rw[Lib.cell_of_heap hbk];rfl
 have c1:w1.cell? ⟨b,1,none⟩=some v:=by rw[Lib.cell_of_heap hbk];rfl
 go_wp2_with (at_builtin;refine Lib.wpList_append_own_stringF _ rfl _ _ 233 9 rfl B 5 i0 Tryz.underlying233 Tryz.underlying9 hi hz0 hz1 hz2 _ _ _ rfl hown s rfl ?c3 ?c4 ?c5 ?_)
 case c3=>unfold maxLen;omega
 case c4=>omega
 case c5=>have:=hb1.size;omega
 intro v' w2 hown' hgrow _;have hlt:b<w1.heap.size:=by
  rcases aD5 b w1.heap.size with h'|h'
  ·exact h'
  ·simp[Array.getElem?_eq_none h']at hbk
 have hb2:w2.heap[b]?=some (.cells #[.pointer (some ⟨b,0,none⟩),v] 235 (0,0)):=by
  rw[hgrow.block b hlt (fun e=>hne e.symm)];exact hbk
 have d0:w2.cell? ⟨b,0,none⟩=some (.pointer (some ⟨b,0,none⟩)):=by rw[Lib.cell_of_heap hb2];rfl
 have d1:w2.cell? ⟨b,1,none⟩=some v:=by rw[Lib.cell_of_heap hb2];rfl
 have f1:w2.frozen? ⟨b,1,none⟩=false:=Lib.frozen_of_heap hb2 1;obtain⟨ao,n',cap,rfl⟩:∃ao n' cap,v'=.slice ao n' cap:=by
  rcases hown'.2 with⟨hv,_⟩|⟨g,cap,cur,fz,hv,_⟩
  ·exact⟨_,_,_,hv⟩
  ·exact⟨_,_,_,hv⟩
 go_wp2
 go_ret2
 refine⟨rfl,?_,?_⟩
 ·exact Lib.BuilderAtF.put (T:=235) (e:=5) hB hb2 (bs':=bs++Lib.strCells s) (by simpa[Lib.strCells_length]using hown') (by decide)
 ·exact(hb1.grown hgrow (by have:=hb1.size;omega) (fun k hk=>(hown.lt k hk).1)).setCell (p:=⟨b,1,none⟩) hB _
def Z4(w:World)(o:Obj)(b i:Nat)(v:Value)(h:b<w.heap.size):(w.alloc o).setCell ⟨b,i,none⟩ v=(w.setCell ⟨b,i,none⟩ v).alloc o:=by
 have hp:∀f,(w.heap.push o).modify b f=(w.heap.modify b f).push o:=fun f=>by
  apply Array.ext_getElem?;intro k;rw[aB6,Array.getElem?_push,Array.getElem?_push,aB6,Array.size_modify];split<;>split<;>first|rfl|omega
 simp only[World.setCell,World.alloc,hp]
def sizeByte:(Tryz.prog.info? 5).map (fun i=>i.size)=some 1:=by kernel_rfl
set_option maxHeartbeats 2000000 in
def aga (B b n:Nat) (w:World) (hB:B<=b) (hbk:w.heap[b]?=some (.cells #[.pointer (some ⟨b,0,none⟩),.slice none 0 0] 235 (0,0))) (hBw:B<=w.heap.size) (hn:n<=1099511627776):
  Calls Tryz.prog 280 #[.pointer (some ⟨b,0,none⟩),.int .i64 n] w fun e w'=>e=.returned (.tuple #[])/\(Lib.BuilderAt 235 5 B b (.pointer (some ⟨b,0,none⟩)) [] w'/\Below B w w'):=by
 obtain⟨cs,hrun,hle,hmax⟩:=Lib.run_makeNoZero (P:=Tryz.prog) w.drew #[3] 233 5 Tryz.underlying233 n (by omega)
 have hw:IntKind.i64.wrap (IntKind.i64.wrap 0+(n:Int))=n:=by
  rw[IntKind.wrap_i64,IntKind.wrap_i64];omega
 have hcall:(callFunc 316 #[.int .i64 (IntKind.i64.wrap (IntKind.i64.wrap 0+(n:Int)))]).run Tryz.prog w.drew=.ok (.value (.slice (some ⟨w.drew.heap.size,0,none⟩) n cs.size)) (w.drew.drew.drew.alloc (.cells cs 5)):=by
  rw[hw,run_callFunc_extern Tryz.func316 (by kernel_rfl) (by kernel_rfl) (by kernel_rfl) (e:=Extern.BytealgMakeNoZero.makeNoZero #[3] #[233]) (by kernel_rfl),hrun]
  rfl
 have hlt:b<w.heap.size:=by
  rcases aD5 b w.heap.size with h'|h'
  ·exact h'
  ·simp[Array.getElem?_eq_none h']at hbk
 have c1:w.drew.cell? ⟨b,1,none⟩=some (.slice none 0 0):=by
  have:w.drew.heap[b]?=_:=hbk;rw[Lib.cell_of_heap this];rfl
 have c2:(w.alloc (.cells cs 5)).cell? ⟨b,1,none⟩=some (.slice none 0 0):=by
  have:(w.alloc (.cells cs 5)).heap[b]?=_:=(Lib.alloc_old w _ b hlt).trans hbk;rw[Lib.cell_of_heap this];rfl
 have f2:(w.alloc (.cells cs 5)).frozen? ⟨b,1,none⟩=false:=Lib.frozen_of_heap ((Lib.alloc_old w _ b hlt).trans hbk) 1;have hcopy:∀W:World,(Builtin.copy_ #[233,233] 3 #[.slice (some ⟨w.heap.size,0,none⟩) 0 cs.size,.slice none 0 0]).run Tryz.prog W=.ok (goInt 0) W:=
  fun W=>run_copy_none W 233 233 3 5 _ _ 0 cs.size 0 0 Tryz.underlying233 Tryz.Builder_Extra_169.sizeByte rfl
 clear hw;have hfin:=Lib.grown_fresh (T:=235) (e:=5) (cs:=cs) hB hbk hBw (hmax (by unfold maxLen;omega)) (by decide)
 go_enter Tryz.func280,Tryz.ntmps280
 have hcomm:∀v,(w.alloc (.cells cs 5)).setCell ⟨b,1,none⟩ v=(w.setCell ⟨b,1,none⟩ v).alloc (.cells cs 5):=fun v=>Z4 w _ b 1 v hlt;rw[hcomm]at hfin
 go_wp2
 go_region
 all_goals (go_wp2;go_end0;exact⟨rfl,hfin⟩)
set_option maxHeartbeats 2000000 in
def afy (B b n:Nat) (w:World) (hB:B<=b) (hbk:w.heap[b]?=some (.cells #[.pointer none,.slice none 0 0] 235 (0,0))) (hBw:B<=w.heap.size) (hn:n<=1099511627776):
  Calls Tryz.prog 223 #[.pointer (some ⟨b,0,none⟩),.int .i64 n] w fun e w'=>e=.returned (.tuple #[])/\(Lib.BuilderAt 235 5 B b (.pointer (some ⟨b,0,none⟩)) [] w'/\Below B w w'):=by
 have hbk1:(w.setCell ⟨b,0,none⟩ (.pointer (some ⟨b,0,none⟩))).heap[b]?=some (.cells #[.pointer (some ⟨b,0,none⟩),.slice none 0 0] 235 (0,0)):=by
  simp[World.setCell,aB6,hbk]
 have c1:(w.setCell ⟨b,0,none⟩ (.pointer (some ⟨b,0,none⟩))).cell? ⟨b,1,none⟩=some (.slice none 0 0):=by rw[Lib.cell_of_heap hbk1];rfl
 have hb1:Below B w (w.setCell ⟨b,0,none⟩ (.pointer (some ⟨b,0,none⟩))):=(Below.refl B w).setCell (p:=⟨b,0,none⟩) hB _;have hU:Lib.BuilderAt 235 5 B b (.pointer (some ⟨b,0,none⟩)) [] (w.setCell ⟨b,0,none⟩ (.pointer (some ⟨b,0,none⟩))):=⟨hB,.slice none 0 0,hbk1,World.ownsRow_nil _ _ _ _,by simp[Value.ownBlock]⟩
 have c1':(w.setCell ⟨b,0,none⟩ (.pointer (some ⟨b,0,none⟩))).drew.cell? ⟨b,1,none⟩=some (.slice none 0 0):=c1;have hn0:¬((n:Int)<0):=by omega
 go_enter Tryz.func223,Tryz.ntmps223
 go_wp2_with (refine(KJ b w (by rw[Lib.cell_of_heap hbk];rfl) (by simp[World.shape?,hbk]) (Lib.frozen_of_heap hbk 0)).mono ?_;rintro e w' ⟨rfl,rfl⟩)
 go_region
 all_goals go_wp2_with (refine(aga B b n (w.setCell ⟨b,0,none⟩ (.pointer (some ⟨b,0,none⟩))).drew hB hbk1 (by simpa[World.setCell,World.drew,-World.drew_eq]using hBw) hn).mono ?_;rintro e w' ⟨rfl,h1,h2⟩)
 all_goals first
  |(go_end0;exact⟨rfl,h1,hb1.drew.trans h2⟩)
  |(go_end0;exact⟨rfl,hU.drew,hb1.drew⟩)
open Go.RowKit Go.Shelf Go.Lib Go.Ev
def am8(c:Nat)(r:Option (AV×St)):Bool:=
 match r with
 |some (.tup [.int .u64 (.ofNat 0),.int .u64 (.ofNat d)],[])=>Nat.beq d c
 |_=>false
def am9{c:Nat}{r:Option (AV×St)}(h:am8 c r=true):r=some (.tup [.int .u64 (0:Nat),.int .u64 (c:Nat)],[]):=by
 unfold am8 at h;split at h
 ·rename_i d;have:=a98 h;subst this;rfl
 ·cases h
def aqV:(List.range 64).all (fun c=>am8 c (evF (iG Tryz.prog (fun _=>none) (fun _=>false) (fun _=>none)) 100 221 [.int .u64 1,.int .u64 (Int.ofNat c)] []))=true:=by kernel_rfl
def asl:IJ Tryz.prog 221:=⟨_,Tryz.func221,by decide,rfl⟩
def AY:Tryz.prog.follows .mixedOrders=true:=by kernel_rfl
def bits_Mul(c:Nat)(hc:c<64)(w:World):Calls Tryz.prog 221 #[.int .u64 1,.int .u64 c] w fun e w'=>e=.returned (.tuple #[.int .u64 0,.int .u64 c])/\Below w.heap.size w w':=by
 have h:=am9 (a94.mp aqV c (az4.mpr hc));exact adJ AY asl h w [.int .u64 1,.int .u64 c] _ (fun g=>.cons _ _ _ _ (.int _ _) (.cons _ _ _ _ (.int _ _) .nil)) (fun g v2 hv=>by
  cases hv with
  |tup l l' hs=>
   cases hs with
   |cons _ _ _ _ a b=>
    cases a;cases b with
    |cons _ _ _ _ a b=>
     cases a;cases b;rfl)
set_option maxHeartbeats 4000000 in
def aeU (c:Nat) (w:World) (hc2:2<=c) (hc:c<64):
  Calls Tryz.prog 162 #[.string ⟨#[0]⟩,.int .i64 c] w fun e w'=>e=.returned (.string ⟨(List.replicate c (0:UInt8)).toArray⟩)/\Below w.heap.size w w':=by
 have hMul:=bits_Mul c hc w;have k0:¬((c:Int)=0):=by omega
 have k1:¬((c:Int)=1):=by omega
 have k2:¬((c:Int)<0):=by omega
 have k3:¬((c:Int)>9223372036854775807):=by omega
 have k4:¬((c:Int)>8192):=by omega
 have wu:IntKind.u64.wrap (c:Int)=c:=by unfold IntKind.wrap;simp[IntKind.signed,IntKind.bits];omega
 have wi:IntKind.i64.wrap (c:Int)=c:=by rw[IntKind.wrap_i64];omega
 go_enter Tryz.func162,Tryz.ntmps162
 go_wp2_with (refine hMul.mono ?_;rintro e W0 ⟨rfl,hb0⟩)
 have b0:Below w.heap.size w (W0.alloc (.cells #[.pointer none,.slice none 0 0] 235)):=hb0.alloc hb0.size _;refine(afy W0.heap.size W0.heap.size c (W0.alloc (.cells #[.pointer none,.slice none 0 0] 235)) (a06 _) (heap_alloc_new W0 _) ((Below.refl W0.heap.size W0).alloc (a06 _) _).size (by omega)).mono ?_
 rintro e W1 ⟨rfl,h1,b1⟩;have hB0:=hb0.size;have hB1:W0.heap.size<=W1.heap.size:=ax8 ((Below.refl W0.heap.size W0).alloc (a06 _) _).size b1.size
 go_wp2_with (refine(O6 W0.heap.size W0.heap.size [] ⟨#[0]⟩ W1 (Lib.IsBuilderF.of (Or.inr h1)) (by simp[ByteArray.size]) hB1).mono ?_;rintro e W2 ⟨rfl,h2,b2⟩)
 have h2':Lib.IsBuilderF 235 5 W0.heap.size W0.heap.size (Lib.byteCells (List.replicate 1 0)) W2:=Or.inr h2;have b02:Below w.heap.size w W2:=b0.trans ((b1.mono hB0).trans (b2.mono hB0));have hs2:W0.heap.size<=W2.heap.size:=ax8 hB1 b2.size;clear h2 h1 b0 b1 b2 hMul
 go_loopg [] (c-1) (fun g wx=>∃q:Nat,1<=q/\q+g=c/\Lib.IsBuilderF 235 5 W0.heap.size W0.heap.size (Lib.byteCells (List.replicate q 0)) wx/\Below w.heap.size w wx/\W0.heap.size<=wx.heap.size)
 case atStart=>exact⟨1,a06 _,by omega,h2',b02,hs2⟩
 case round=>
  obtain⟨q,hq1,hqg,hB,hbx,hsx⟩:=hrel;have hlq:(Lib.byteCells (List.replicate q (0:UInt8))).length=q:=by simp[Lib.byteCells]
  have cLen:=Any.Builder_Len_f Tryz.lays170 W0.heap.size W0.heap.size _ wr hB;rw[hlq]at cLen;have cStr:=Any.Builder_String_any_f Tryz.lays169 Tryz.Builder_Extra_169 W0.heap.size W0.heap.size (List.replicate q 0) wr hB hsx;obtain⟨S,hS⟩:∃S:ByteArray,(⟨(List.replicate q (0:UInt8)).toArray⟩:ByteArray)=S:=⟨_,rfl⟩;have hSz:S.size=q:=by rw[<-hS];simp[ByteArray.size]
  rw[hS]at cStr;cases gk with
  |zero=>
   obtain rfl:q=c:=by omega
   have hQn:¬((q:Int)<(q:Int)):=by omega
   go_wp2_with (first
    |(refine cLen.mono ?_;rintro e w' ⟨rfl,hw⟩;rw[hw])
    |(refine cStr.mono ?_;rintro e W3 ⟨rfl,h3,b3⟩))
   go_ret
   exact⟨by rw[hS]<;>rfl,hbx.trans (b3.mono hB0)⟩
  |succ g=>
   have hQn:(q:Int)<(c:Int):=by omega
   obtain⟨k,hk⟩:∃k,k=min (c-q) q:=⟨_,rfl⟩;have hk1:1<=k:=by omega
   have hmin3:∀(ts:Array TypeId) (t:TypeId) (W:World),(Builtin.min_ ts t #[.int .i64 ((c:Int)-(q:Int)),.int .i64 (q:Int),.int .i64 (c:Int)]).run Tryz.prog W=.ok (.int .i64 (k:Int)) W:=fun ts t W=>by
    rw[run_min_int3]
    congr 2
    omega
   have hkq:k<=q:=by omega
   have hkc:q+k<=c:=by omega
   clear hk
   go_wp2_with (first
    |(refine cLen.mono ?_;rintro e w' ⟨rfl,hw⟩;rw[hw])
    |(refine cStr.mono ?_;rintro e W3 ⟨rfl,h3,b3⟩))
   have hex:(S.extract 0 k)=⟨(List.replicate k (0:UInt8)).toArray⟩:=by
    rw[<-hS];apply ByteArray.ext;rw[ByteArray.data_extract];apply aA0;simp[az5 hkq]
   have hexs:(S.extract 0 k).size=k:=by rw[hex];simp[ByteArray.size]
   have cWr:=O6 W0.heap.size W0.heap.size _ (S.extract 0 k) W3 h3 (by rw[hlq,hexs];omega) (ax8 hsx b3.size)
   go_wp2_with (go_fit cWr;rintro e W4 ⟨rfl,h4,b4⟩)
   go_roundg (c-(q+k))
   case measure=>omega
   case rel=>
    refine⟨q+k,by omega,by omega,Or.inr ?_,hbx.trans ((b3.mono hB0).trans (b4.mono hB0)),ax8 hsx (ax8 b3.size b4.size)⟩
    rw[Lib.strCells_eq,<-Lib.byteCells_append,hex]at h4;rw[List.replicate_append_replicate.symm];exact h4
def agL (c:Nat) (w:World) (hc:c<64):
  Calls Tryz.prog 162 #[.string ⟨#[0]⟩,.int .i64 c] w fun e w'=>e=.returned (.string ⟨(List.replicate c (0:UInt8)).toArray⟩)/\Below w.heap.size w w':=by
 match c,hc with
 |0,_=>
  go_enter Tryz.func162,Tryz.ntmps162
  go_wp2
  go_ret
  exact⟨rfl,Below.refl _ _⟩
 |1,_=>
  go_enter Tryz.func162,Tryz.ntmps162
  go_wp2
  go_ret
  exact⟨rfl,Below.refl _ _⟩
 |c+2,hc=>exact aeU (c+2) w (by omega) hc
def al6:IJ Tryz.prog 162:=⟨_,Tryz.func162,by decide,rfl⟩
def A7(args:LA)(O:St):Option (AV×St):=
 match args with
 |[.str s,.int .i64 (.ofNat n)]=>match s with
  |[b]=>match Nat.beq b.toNat 0 with
   |true=>match Nat.blt n 64 with
    |true=>some (.str (List.replicate n 0),O)
    |false=>none
   |false=>none
  |_=>none
 |_=>none
def NT{C:Ctx}(hP:C.P=Tryz.prog):POK C 162 A7:=by
 intro args O v O' h g w args' ha hw hg;unfold A7 at h;split at h
 ·rename_i s n;split at h
  ·rename_i b;split at h
   ·rename_i hb;have hb:b=0:=UInt8.toNat_inj.mp (a98 hb);subst hb;split at h
    ·rename_i hn;have hn:n<64:=aw4 hn;simp only[a05,aw3]at h;obtain⟨rfl,rfl⟩:=h;cases ha with
     |cons _ v1 _ l1 x y=>
      cases y with
      |cons _ v2 _ l2 x2 y2=>
       cases y2;cases x;cases x2;refine Cm (by rw[hP];exact al6) ?_
       rw[hP];exact(agL n w hn).mono fun e w2 ⟨he2,hw2⟩=>⟨_,he2,g,wL hw hw2,.str _⟩
    ·cases h
   ·cases h
  ·cases h
 ·cases h
open Go.Ev Go.RowKit
noncomputable section
noncomputable def ints(k:IntKind)(l:List Nat):LA:=l.map fun n=>.int k (.ofNat n)
noncomputable def glT(g:Nat):Option LA:=
 match Nat.beq g Eu with
 |true=>some (ofBytes hexDigits)
 |false=>match Nat.beq g yB with
  |true=>some (hI.map iw)
  |false=>match Nat.beq g uP with
   |true=>some (kR.map iw)
   |false=>match Nat.beq g Dy with
    |true=>some [.str [114,111,111,116],.str [115,110,97,112,115,104,111,116],.str [116,97,114,103,101,116,115]]
    |false=>match Nat.beq g vO with
     |true=>some (ints .i64 [0,31,59,90,120,151,181,212,243,273,304,334,365])
     |false=>match Nat.beq g sV with
      |true=>some (ints .u64 [1,10,100,1000,10000,100000,1000000,10000000,100000000,1000000000,10000000000,100000000000,1000000000000,10000000000000,100000000000000,1000000000000000,10000000000000000,100000000000000000,1000000000000000000,10000000000000000000])
      |false=>none
noncomputable def VD(f:FuncId):Option (LA->St->Option (AV×St)):=match Nat.beq f o7 with
 |true=>some A7
 |false=>none
noncomputable def CC:Ctx:=iG Tryz.prog glT (fun _=>false) VD
def jL:∀n l,CC.gl n=some l->ai 0 l=true:=by
 intro n l h;change glT n=some l at h;unfold glT at h;repeat' split at h
 all_goals first
  |(cases h;done)
  |(simp only[a05]at h;subst h;kernel_rfl)
def anG:TS CC:=by
 intro f h hh;change VD f=some h at hh;unfold VD at hh;split at hh
 ·rename_i hf;have:=a98 hf;subst this;cases hh;exact NT (C:=CC) rfl
 ·cases hh
def abH:fC CC (aj CC):=IC AY (xE _ _ _ _) anG
noncomputable def CR:Ctx:=iG Tryz.prog glT (fun _=>true) (fun _=>none)
def arY(n:Nat):fC CR (evF CR n):=KR AY (xE _ _ _ _) (fun f h hh=>by simp[iG]at hh) n
def NS{f:FuncId}(h1:nI (evF CR 100 f [.nils] []) .nils=true)(h2:nI (evF CR 100 f [.emp] []) (.xsl 0 [])=true):POK CC f Ju:=PY (C:=CR) (arY 100) jL h1 h2
def ok0:Ok []:=rfl
def PM{f:FuncId}{K:KF}(h1:cF Tryz.prog f=some K.forget:=by kernel_rfl)(h2:PI Tryz.prog f=true:=by kernel_rfl)(h3:K.ok=true:=by kernel_rfl)(hp:VD f=none:=by exact rfl):Has CC f K:=acz h1 h2 h3 hp rfl
def agR:Pm CC where
 new:=PM
 sum:=PM
 write:=PM
 mix:=PM
 rot:=PM
 sumF:=PM
 digest:=PM
 encode:=PM
 gr:=rfl
 gi:=rfl
 gd:=rfl
 rep:=fun n hn O=>by
  have hp:CC.prim o7=some A7:=rfl;rw[ad2];unfold Yc;rw[hp];have hb:Nat.blt n 64=true:=az8 hn;change A7 [.str [0],.int .i64 (.ofNat n)] O=_;unfold A7;simp only[hb];rfl
def aqT:abO CC where
 sha:=agR
 block:=PM
 combine:=PM
 of:=PM
 of1:=PM
 of2:=PM
def arf:POK CC Uk (Tc fun s=>.str (tN s)):=YN abH jL _ fun s hs=>Tt agR s hs [] ok0
def arb:POK CC Dk (aii fun s t=>.str (hmac s t)):=amA abH jL _ fun s t hs ht=>am0 aqT s t (by omega) ht [] ok0
def ams:POK CC KT (Tc fun s=>.bool (s.all Ym)):=YN abH jL _ fun s hs=>aqF (PM) (PM) s hs []
def acS:POK CC Ep (Tc fun s=>.str (xY s)):=YN abH jL _ fun s hs=>hex_Encode agR.encode rfl s hs [] ok0
def ar9:POK CC tZ aoD:=aoJ fun args w=>by
 rw[show CC.P=Tryz.prog from rfl,run_callFunc_extern Tryz.func243 (by kernel_rfl) (by kernel_rfl) (by kernel_rfl) (e:=Extern.BytealgCompare.compare) (by kernel_rfl)]
noncomputable def atb(c:Nat)(r:Option (AV×St)):Bool:=nI r (.str (List.replicate c 48))
def aoQ:(List.range 5).all (fun c=>atb c (evF (iG Tryz.prog glT (fun _=>false) (fun _=>none)) 1000 162 [.str [48],.int .i64 (Int.ofNat c)] []))=true:=by kernel_rfl
noncomputable def amr(args:LA)(O:St):Option (AV×St):=
 match args with
 |[.str [b],.int .i64 (.ofNat n)]=>match Ky (Nat.beq b.toNat 48) (Nat.ble n 4)with
  |true=>some (.str (List.replicate n 48),O)
  |false=>none
 |_=>none
def aoI:POK CC o7 amr:=by
 intro args O v O' h g w args' ha hw hg;unfold amr at h;split at h
 ·rename_i b n;split at h
  ·rename_i hb;rw[qF,a02]at hb;have hb1:b=48:=UInt8.toNat_inj.mp (a98 hb.1);have hb2:n<5:=Nat.lt_succ_of_le (aw4 hb.2);subst hb1;simp only[a05,aw3]at h;obtain⟨rfl,rfl⟩:=h;have hc:fC (iG Tryz.prog glT (fun _=>false) (fun _=>none)) (evF (iG Tryz.prog glT (fun _=>false) (fun _=>none)) 1000):=KR AY (xE _ _ _ _) (fun f h hh=>by simp[iG]at hh) 1000
   exact qH hc jL (by rfl) (Jz (a94.mp aoQ n (az4.mpr hb2))) ha hw hg
  ·cases h
 ·cases h
end
variable{C:Ctx}
def nmG(hP:C.P=Tryz.prog){f:FuncId}(h:PI Tryz.prog f=true):Pi C f:=by
 rw[<-hP]at h;unfold PI at h;split at h
 ·rename_i fn hfn;exact⟨fn,hfn,by simpa using h⟩
 ·cases h
def cT1:cTF Tryz.prog oP=some Cf:=by kernel_rfl
def cT2:cTF Tryz.prog qN=some vV:=by kernel_rfl
def cT3:cTF Tryz.prog nG=some ni:=by kernel_rfl
def cT4:cTF Tryz.prog ik=some iW:=by kernel_rfl
def aki(hP:C.P=Tryz.prog):aq8 C TT:=by
 intro f x h;rw[hP];unfold TT at h;split at h
 ·rename_i hb;have:=a98 hb;subst this;cases h;exact⟨cT1,nmG hP (by kernel_rfl)⟩
 ·split at h
  ·rename_i hb;have:=a98 hb;subst this;cases h;exact⟨cT2,nmG hP (by kernel_rfl)⟩
  ·split at h
   ·rename_i hb;have:=a98 hb;subst this;cases h;exact⟨cT3,nmG hP (by kernel_rfl)⟩
   ·split at h
    ·rename_i hb;have:=a98 hb;subst this;cases h;exact⟨cT4,nmG hP (by kernel_rfl)⟩
    ·cases h
def cX1:cCF Tryz.prog nC=some eU:=by kernel_rfl
def cX2:cCF Tryz.prog sS=some iU:=by kernel_rfl
def cQ1:cKF Tryz.prog AP=some dL:=by kernel_rfl
def cQ2:cKF Tryz.prog Fv=some gy:=by kernel_rfl
def ail(hP:C.P=Tryz.prog)(call:bD)(hc:fC C call):POK C nC (zC C call (oO C call TT 8) eU dL):=
 abm (by rw[hP];exact AY) (aki hP) 8 (by rw[hP];exact cX1) (nmG hP (by kernel_rfl)) (by rw[hP];exact cQ1) (nmG hP (by kernel_rfl)) call hc
def aik(hP:C.P=Tryz.prog)(call:bD)(hc:fC C call):POK C sS (zC C call (oO C call TT 8) iU gy):=
 abm (by rw[hP];exact AY) (aki hP) 8 (by rw[hP];exact cX2) (nmG hP (by kernel_rfl)) (by rw[hP];exact cQ2) (nmG hP (by kernel_rfl)) call hc
def vi(n:Int):AV:=.int .i64 n
def vu(n:Int):AV:=.int .u8 n
def ve:AV:=.str []
noncomputable def spL(M:MM):List (FuncId×abL):=[(27,.rel (fun call=>zC CC call (oO CC call TT 8) iU gy)),(28,.rel (fun call=>zC CC call (oO CC call TT 8) eU dL)),(61,.both Ju (kA Tryz.prog 61) true false),(63,.both Ju (kA Tryz.prog 63) true false),(101,.both Ju (kA Tryz.prog 101) true false),(116,.prim (Tc fun s=>.str (xY s))),(117,.prim (orP (memo (M 117)) (aii fun s t=>.str (hmac s t)))),(126,.prim GV),(127,.prim (Tc fun s=>.str (tN s))),(162,.prim (orP A7 amr)),(183,.prim (Tc fun s=>.bool (s.all Ym))),(190,.prim VA),(195,.both Ju (kA Tryz.prog 195) true false),(243,.prim aoD),(255,.prim (Tc (fun s=>.tup [.int .i64 ((BO s).getD 0:Nat),.bool (BO s).isSome]))),(352,.prim amq)]
def arI{M:MM}(hM:MOK CC M):∀p∈spL M,EOK CC p.1 p.2:=by
 unfold spL;simp only[az1];exact⟨aik rfl,ail rfl,⟨NS (by kernel_rfl) (by kernel_rfl),Sv (by kernel_rfl)⟩,⟨NS (by kernel_rfl) (by kernel_rfl),Sv (by kernel_rfl)⟩,⟨NS (by kernel_rfl) (by kernel_rfl),Sv (by kernel_rfl)⟩,acS,aml (hM 117) (arb),abl rfl,arf,aml (NT rfl) aoI,ams,aij rfl,⟨NS (by kernel_rfl) (by kernel_rfl),Sv (by kernel_rfl)⟩,ar9,amu rfl,aoG rfl,fun _ h=>by simp at h⟩
noncomputable def T0(M:MM):Tr2:=tA Tryz.prog (spL M) [29,50,98,100,102,163,166,220,225,235,257,298,299,300,313,320,321,339,350,355] [8,30,53,148] M
def akh{M:MM}(hM:MOK CC M):apk CC (T0 M):=⟨att (arI hM) hM,jL⟩
end Go.Proofs.YtddcpkepggkllaaGreatDoor
