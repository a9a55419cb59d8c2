/- Contracts. No conditions. -/
import Derived.Test.YtpikfmmkcckclaaGreatDoorTA
import Derived.Shelf.Strings.Builder1
import Derived.Test.YtpikfmmkcckclaaGreatDoorProg
import Derived.WalkKit
import Derived.WalkLawsBesides
import Derived.WalkSpells
import Derived.Lib.Hide
import Derived.Outline
import Derived.Test.YtpikfmmkcckclaaGreatDoorEB
import Derived.Shelf.Strconv.ParseIntPublic10
import Derived.Test.YtpikfmmkcckclaaGreatDoorCE
import Derived.Lib.DecodeN
import Derived.Laws.RangeAny
import Derived.Lib.Strings
import Derived.Lib.IndexBytes
import Derived.Below
import Derived.Shelf.Strings.Repeat
import Derived.KernelRfl
import Derived.Test.YtpikfmmkcckclaaGreatDoorCB
set_option linter.unusedVariables false
set_option linter.unusedSimpArgs false
set_option linter.defProp false
namespace Go.Ev
set_option maxRecDepth 100000
variable{C:Ctx}
def u8_xor(b c:UInt8):IntKind.u8.wrap ((BitVec.ofInt IntKind.u8.bits (b.toNat:Int)^^^BitVec.ofInt IntKind.u8.bits (c.toNat:Int)).toNat:Int)=((b^^^c).toNat:Int):=by
 rw[aqm .u8 rfl b.toNat c.toNat b.toNat_lt c.toNat_lt,UInt8.toNat_xor]
def ar5(hC:Has C Hl NY)(b:UInt8)(O:St):ai C Hl [.int .u8 (b.toNat:Int)] O=some (.int .u8 ((b^^^54).toNat:Int),O):=by
 rw[hC.run];unfold BG;have h:IntKind.u8.wrap ((BitVec.ofInt IntKind.u8.bits (b.toNat:Int)^^^BitVec.ofInt IntKind.u8.bits 54).toNat:Int)=((b^^^54).toNat:Int):=u8_xor b 54;simp only[NY,h,EVY,seval]
def ar6(hC:Has C Hm NZ)(b:UInt8)(O:St):ai C Hm [.int .u8 (b.toNat:Int)] O=some (.int .u8 ((b^^^92).toNat:Int),O):=by
 rw[hC.run];unfold BG;have h:IntKind.u8.wrap ((BitVec.ofInt IntKind.u8.bits (b.toNat:Int)^^^BitVec.ofInt IntKind.u8.bits 92).toNat:Int)=((b^^^92).toNat:Int):=u8_xor b 92;simp only[NZ,h,EVY,seval]
def JB(c:UInt8):Nat->Nat->LU->LU
 |0,_,l=>l
 |n+1,i,l=>JB c n (i+1) (l.set i (l.getD i 0^^^c))
def CY(c:UInt8):∀(n i:Nat) (l:LU),(JB c n i l).length=l.length
 |0,_,_=>rfl
 |n+1,i,l=>by unfold JB;rw[CY c n,a95]
def bytes_at(l:LU)(i:Nat)(h:i<l.length):((ofBytes l).drop i).head? =some (.int .u8 ((l.getD i 0).toNat:Int)):=by
 unfold ofBytes;rw[aC7,ax5,a02 h,av4,a02 h];rfl
def P9 (f:FuncId) (c:UInt8) (hf:∀(b:UInt8) (O:St),ai C f [.int .u8 (b.toNat:Int)] O=some (.int .u8 ((b^^^c).toNat:Int),O)) (O:St):
  ∀(n i:Nat) (l:LU),i+n=64->l.length=64->
  aH C (ai C) 19 [1,2,6] oh [(1,.func (.func f) [] []),(2,.ref O.length 0),(6,.int .i64 i)] (O++[.cells (ofBytes l) FZ])=
   some (.exit 0,[(2,.ref O.length 0)],O++[.cells (ofBytes (JB c n i l)) FZ])
 |0,i,l,hi,hl=>by
  rw[jh (he:=rfl)];have h:¬((i:Int)<64):=by omega
  simp only[oh,h,JB,EVY,seval]
 |n+1,i,l,hi,hl=>by
  rw[jh (he:=rfl)];generalize hk:aH C (ai C) 19 [1,2,6] oh=rest;have h:((i:Int)<64):=by omega
  have w5:=wrS i (by omega)
  have p1:∀j:Nat,(0:Int)<=(j:Int):=fun j=>by omega
  have l5:i<64:=by omega
  have l6:i+1<=64:=by omega
  have a0:=bytes_at l i (by omega)
  have s1:=UR l i (l.getD i 0^^^c) (by omega)
  simp only[oh,h,w5,p1,l5,l6,a0,s1,hf,hl,G7,aI,jY,oZ,a81,EVY,seval];rw[<-hk];exact P9 f c hf O n (i+1) _ (by omega) (by rw[a95,hl])
def Uz (hC:Has C FO FB) (f:FuncId) (c:UInt8) (hf:∀(b:UInt8) (O:St),ai C f [.int .u8 (b.toNat:Int)] O=some (.int .u8 ((b^^^c).toNat:Int),O)) (O:St) (hσ:Ok O) (l:LU) (hl:l.length=64):
  ai C FO [.agg (ofBytes l),.func (.func f) [] []] O=some (.str (JB c 64 0 l),O):=by
 rw[hC.run];unfold BG;have hn:∀(r) (l:LU),aT O r (ofBytes l)=some (ofBytes l,[]):=by
  intro r l
  induction l with
  |nil=>rfl
  |cons b l ih=>
   show(match asb O r (.int .u8 (b.toNat:Int)),aT O r (ofBytes l)with|some (v,fs),some (l,gs)=>some (v::l,fs++gs)|_,_=>none)=_
   rw[ih];rfl
 have q:=P9 f c hf O 64 0 l (by omega) hl
 simp only[at6]at q;obtain⟨r,hr⟩:∃r,r=JB c 64 0 l:=⟨_,rfl⟩;rw[<-hr]at q⊢;have lr:r.length=64:=by rw[hr,CY,hl]
 have bt:=uC r;have tk:(ofBytes r).take 64=ofBytes r:=a08 (by rw[aI];omega)
 have ty:∀x,tidy O.length [.str r] (O++[x])=O:=fun x=>BA hσ rfl _;simp only[FB,hn,q,lr,bt,tk,ty,aI,jY,EVY,seval]
def OG(O:St)(r):∀l:LU,aT O r (ofBytes l)=some (ofBytes l,[])
 |[]=>rfl
 |b::l=>by
  show(match asb O r (.int .u8 (b.toNat:Int)),aT O r (ofBytes l)with|some (v,fs),some (l,gs)=>some (v::l,fs++gs)|_,_=>none)=_
  rw[OG O r l];rfl
def qO(key:LU):LU:=lay tX 0 ((if key.length>64 then qV key else key))
def IC(key:LU):(qO key).length=64:=by
 unfold qO;have:tX.length=64:=rfl;rw[OC,this];split
 ·rw[pY,this];omega
 ·rw[this];omega
def ahU{part s:LU}{used:Nat}(h:used+s.length<=part.length):splice (ofBytes part) used (ofBytes s)=ofBytes (lay part used s):=by
 unfold splice lay ofBytes;simp
def aa5(e:As)(O:St)(t:Nat)(ag:Bool)(sz:Nat)(l:List XR):aY e O (.cell t ag sz::l)=match look e t,aY e O l with
 |.ref o off,some vs=>match O[o]? with
  |some (.cells c _)=>match pt ag sz (c.drop off)with
   |some v=>some (v::vs)
   |none=>none
  |_=>none
 |_,_=>none:=rfl
def ai3 (hC:Has C Jp EC) (h:N8 C) (key:LU) (hk:key.length<=1099511627776) (O:St) (hσ:Ok O):
  ai C Jp [.str key] O=some (.agg (ofBytes (qO key)),O):=by
 rw[hC.run];unfold BG;have z:∀Y:St,Y++[AO.cells (List.replicate 64 (AV.int .u8 0)) FZ]=Y++[AO.cells (ofBytes tX) FZ]:=fun _=>rfl;simp only[List.reduceReplicate]at z;have ok1:∀{Y:St},Ok Y->Ok (Y++[.cells (ofBytes tX) FZ]):=fun{Y} h=>h.app (by simp[AO.below,jG])
 have lz:tX.length=64:=rfl;obtain⟨s,hs⟩:∃s,s=(if key.length>64 then qV key else key):=⟨_,rfl⟩;have ls:s.length<=64:=by rw[hs];split;(rw[pY];omega);omega
 have mn:min s.length 64=s.length:=by omega
 have tk:(ofBytes s).take s.length=ofBytes s:=a08 (by rw[aI];omega)
 have hb:qO key=lay tX 0 s:=by unfold qO;rw[hs]
 have lb:=IC key;have sp:=ahU (part:=tX) (used:=0) (s:=s) (by rw[lz];omega)
 rw[<-hb]at sp;have tkb:(ofBytes (qO key)).take 64=ofBytes (qO key):=a08 (by rw[aI];omega)
 have spa:splice (ofBytes tX) 0 (ofBytes (qO key))=ofBytes (qO key):=En _ _ (by rw[aI,aI,lb,lz])
 have e3:∀x y z:AO,(O++[x]++[y]).set O.length z=O++[z]++[y]:=fun x y z=>by
  rw[az5 _ _ (by simp),oZ]
 have g3:∀x y:AO,(O++[x]++[y])[O.length]?=some x:=fun x y=>E8 (jY _ _) _;have ty:∀x y,tidy O.length [.agg (ofBytes (qO key))] (O++[x]++[y])=O:=fun x y=>by
  rw[au2];exact BA hσ (by simp[ae,below,jG]) _
 by_cases hg:key.length>64
 ·have q:=Rx h key hk (O++[.cells (ofBytes tX) FZ]++[.cells (ofBytes tX) FZ]) (ok1 (ok1 hσ));rw[if_pos hg]at hs;rw[<-hs]at q;have hg':((key.length:Int)>64):=by omega
  simp only[EC,z,hg',q,lz,mn,tk,sp,spa,tkb,lb,ls,e3,g3,ty,jY,oZ,OG,aa5,aI,vH,EVY,seval]
 ·rw[if_neg hg]at hs;have hg':¬((key.length:Int)>64):=by omega
  rw[hs]at*;simp only[EC,z,hg',lz,mn,tk,sp,spa,tkb,lb,ls,e3,g3,ty,jY,oZ,OG,aa5,aI,vH,EVY,seval]
def hmac(key s:LU):LU:=qV (JB 92 64 0 (qO key)++qV (JB 54 64 0 (qO key)++s))
structure aas(C:Ctx):Prop where
 sha:N8 C
 block:Has C Jp EC
 combine:Has C FO FB
 of:Has C A8 aca
 of1:Has C Hl NY
 of2:Has C Hm NZ
def aks (h:aas C) (key s:LU) (hk:key.length<=1099511627776) (hs:s.length<=1099511627000) (O:St) (hσ:Ok O):
  ai C A8 [.str key,.str s] O=some (.str (hmac key s),O):=by
 rw[h.of.run];unfold BG;have z:∀Y:St,Y++[AO.cells (List.replicate 64 (AV.int .u8 0)) FZ]=Y++[AO.cells (ofBytes tX) FZ]:=fun _=>rfl;simp only[List.reduceReplicate]at z;have q0:=ai3 h.block h.sha key hk O hσ;have lb:=IC key;obtain⟨b,hb⟩:∃b,b=qO key:=⟨_,rfl⟩;rw[<-hb]at q0 lb;have ok1:Ok (O++[.cells (ofBytes b) FZ]):=hσ.app (by simp[AO.below,jG])
 have q1:=Uz h.combine Hl 54 (ar5 h.of1) _ ok1 b lb;have q2:=Uz h.combine Hm 92 (ar6 h.of2) _ ok1 b lb;have l1:=CY 54 64 0 b;have l2:=CY 92 64 0 b;obtain⟨x,hx⟩:∃x,x=JB 54 64 0 b:=⟨_,rfl⟩;obtain⟨y,hy⟩:∃y,y=JB 92 64 0 b:=⟨_,rfl⟩;rw[<-hx]at q1 l1;rw[<-hy]at q2 l2;have q3:=Rx h.sha (x++s) (by rw[a04,l1,lb];omega) _ ok1
 have q4:=Rx h.sha (y++qV (x++s)) (by rw[a04,l2,lb,pY];omega) _ ok1
 have e:hmac key s=qV (y++qV (x++s)):=by unfold hmac;rw[hy,hx,hb]
 rw[e];have b1:rQ .add x s=some (.str (x++s)):=by unfold rQ;dsimp only;rw[if_neg (by omega)]
 have b2:rQ .add y (qV (x++s))=some (.str (y++qV (x++s))):=by unfold rQ;dsimp only;rw[if_neg (by rw[pY];omega)]
 have spa:splice (ofBytes tX) 0 (ofBytes b)=ofBytes b:=En _ _ (by rw[aI,aI,lb];rfl)
 have lz:tX.length=64:=rfl;have tkb:(ofBytes b).take 64=ofBytes b:=a08 (by rw[aI];omega)
 have ty:∀v w,tidy O.length [.str v] (O++[w])=O:=fun v w=>BA hσ rfl _;simp only[aca,z,q0,q1,q2,q3,q4,b1,b2,spa,lz,tkb,lb,ty,jY,oZ,aI,vH,EVY,seval]
end Go.Ev
namespace Go.Proofs.YtpikfmmkcckclaaGreatDoor
open Go.Shelf Go.Proofs
def Tryz.lays170_ren:Go.Shelf.Ren:=⟨fun|170=>230|n=>n,fun|70=>251|3=>3|0=>0|72=>254|37=>252|5=>5|n=>n,fun|n=>n⟩
def Tryz.lays170:Go.Proofs.Lays.n170 Tryz.prog Tryz.lays170_ren:={
 mixed:=by kernel_rfl
 f170:=Tryz.func230.trans (congrArg some (by kernel_rfl))
 t0:=Tryz.underlying0
 a0:=Tryz.isAgg0
 z0:=Tryz.sizeOf0
 v0:=Tryz.zeroValue0
 t3:=Tryz.underlying3
 a3:=Tryz.isAgg3
 z3:=Tryz.sizeOf3
 v3:=Tryz.zeroValue3
 t37:=Tryz.underlying252
 a37:=Tryz.isAgg252
 z37:=Tryz.sizeOf252
 v37:=Tryz.zeroValue252
 t70:=Tryz.underlying251
 a70:=Tryz.isAgg251
 z70:=Tryz.sizeOf251
 v70:=Tryz.zeroValue251
 t72:=Tryz.underlying254
 a72:=Tryz.isAgg254
 z72:=Tryz.sizeOf254
 v72:=Tryz.zeroValue254}
def Tryz.lays169_ren:Go.Shelf.Ren:=⟨fun|169=>143|n=>n,fun|70=>251|9=>9|0=>0|72=>254|37=>252|127=>317|3=>3|5=>5|n=>n,fun|n=>n⟩
def Tryz.lays169:Go.Proofs.Lays.n169 Tryz.prog Tryz.lays169_ren:={
 mixed:=by kernel_rfl
 f169:=Tryz.func143.trans (congrArg some (by kernel_rfl))
 t0:=Tryz.underlying0
 a0:=Tryz.isAgg0
 z0:=Tryz.sizeOf0
 v0:=Tryz.zeroValue0
 t3:=Tryz.underlying3
 a3:=Tryz.isAgg3
 z3:=Tryz.sizeOf3
 v3:=Tryz.zeroValue3
 t9:=Tryz.underlying9
 a9:=Tryz.isAgg9
 z9:=Tryz.sizeOf9
 v9:=Tryz.zeroValue9
 t37:=Tryz.underlying252
 a37:=Tryz.isAgg252
 z37:=Tryz.sizeOf252
 v37:=Tryz.zeroValue252
 t70:=Tryz.underlying251
 a70:=Tryz.isAgg251
 z70:=Tryz.sizeOf251
 v70:=Tryz.zeroValue251
 t72:=Tryz.underlying254
 a72:=Tryz.isAgg254
 z72:=Tryz.sizeOf254
 v72:=Tryz.zeroValue254
 t127:=Tryz.underlying317
 a127:=Tryz.isAgg317
 z127:=Tryz.sizeOf317
 v127:=Tryz.zeroValue317}
def Tryz.Builder_Extra_169:Builder.Extra Tryz.prog Tryz.lays169_ren:={
 sizeBuilder:=by kernel_rfl
 liesBuilder:=by kernel_rfl
 t5:=Tryz.underlying5
 a5:=Tryz.isAgg5
 z5:=Tryz.sizeOf5
 v5:=Tryz.zeroValue5
 infoByte:=by kernel_rfl
 cellsByte:=by kernel_rfl
 sizeByte:=by kernel_rfl
 neB5:=by decide}
open Go.RowKit
set_option maxRecDepth 100000
def aok:(Tryz.prog.info? 254).map (fun i=>i.size)=some 2:=by kernel_rfl
def infoByte:(Tryz.prog.info? 5).map (fun i=>(i.zero,i.size,i.bytes))=some (some (.int .u8 0),1,1):=by kernel_rfl
def ar0:liesAt Tryz.prog Tryz.prog.depth 254 (2/Tryz.prog.cellsOf 254) 0 254 1=true:=by kernel_rfl
def Wv (b:Nat) (w:World) (h0:w.cell? ⟨b,0,none⟩=some (.pointer (some ⟨b,0,none⟩))):
  Calls Tryz.prog 196 #[.pointer (some ⟨b,0,none⟩)] w fun e w'=>e=.returned (.tuple #[])/\w=w':=by
 obtain⟨j,hj,_⟩:=Option.map_eq_some_iff.1 aok;have hq:=Lib.run_neq_ptr_same (P:=Tryz.prog) w (⟨b,0,none⟩) Tryz.underlying251 hj
 go_enter Tryz.func196,Tryz.ntmps196
 go_wp2
 go_end0
 exact⟨rfl,rfl⟩
def Jh (b:Nat) (w:World) (h0:w.cell? ⟨b,0,none⟩=some (.pointer none)) (hsh:w.shape? b=some (254,2)) (hfz:w.frozen? ⟨b,0,none⟩=false):
  Calls Tryz.prog 196 #[.pointer (some ⟨b,0,none⟩)] w fun e w'=>e=.returned (.tuple #[])/\w'=w.setCell ⟨b,0,none⟩ (.pointer (some ⟨b,0,none⟩)):=by
 obtain⟨j,hj,hjs⟩:=Option.map_eq_some_iff.1 aok;have h1:=Lib.run_to_unsafe (P:=Tryz.prog) w ⟨b,0,none⟩ Tryz.underlying251 Tryz.underlying379 hj (by rw[hjs];decide) hsh (Nat.zero_lt_succ 1)
 have h2:=Lib.run_from_unsafe (P:=Tryz.prog) w ⟨b,0,none⟩ Tryz.underlying379 Tryz.underlying251 hj hsh ar0;have h3:(callFunc 261 #[.pointer (some ⟨b,0,none⟩)]).run Tryz.prog w=.ok (Next.value (.pointer (some ⟨b,0,none⟩))) w:=by
  rw[run_callFunc_extern Tryz.func261 (by kernel_rfl) (by kernel_rfl) (by kernel_rfl) (e:=Extern.AbiNoEscape.same) (by kernel_rfl),Lib.run_noEscape];rfl
 go_enter Tryz.func196,Tryz.ntmps196
 go_wp2
 go_end0
 exact⟨rfl,rfl⟩
open Go.Ev Go.RowKit Go.Shelf
def ajz:IV Tryz.prog 196:=⟨_,Tryz.func196,by decide,rfl⟩
def acO:IV Tryz.prog 143:=⟨_,Tryz.func143,by decide,rfl⟩
def UF(args:LA)(O:St):Option (AV×St):=
 match args with
 |[.ref o 0]=>match O[o]? with
  |some (.cells [.nilp,b] ⟨false,some (254,true)⟩)=>some (.undef,O.set o (.cells [.ref o 0,b] ⟨false,some (254,true)⟩))
  |some (.cells (.ref p 0::l) fz)=>match Nat.beq o p with
   |true=>some (.undef,O)
   |false=>none
  |_=>none
 |_=>none
def agO{C:Ctx}(hP:C.P=Tryz.prog):POK C 196 UF:=by
 intro args O v O' h g w args' ha hw hg;unfold UF at h;split at h
 ·rename_i o;cases ha with
  |cons _ v1 _ l1 x y=>
   cases y;cases x with
   |ref _ _ ho=>
    split at h
    ·rename_i b hb;simp at h;obtain⟨rfl,rfl⟩:=h;obtain⟨c,e,fr,h1,h2,h3,h4,h5,h6⟩:=hw.obj o _ hb;obtain⟨he,hx⟩:=h5.2 _ _ rfl;obtain⟨u,hu,hr⟩:=h4 0 .nilp rfl;cases hr;have hc0:w.cell? ⟨g.ob o,0,none⟩=some (.pointer none):=by rw[cell_of_heap h1];exact hu
     have hsz:c.size=2:=hx rfl;have hgo:=ahI (P:=C.P) hw hb (off:=0) (.ref o 0 ho) (by simp) rfl
     refine CQ (by rw[hP];exact ajz) ?_
     rw[hP];exact(Jh (g.ob o) w hc0 (by simp[World.shape?,h1,hsz,he]) (by rw[World.frozen?,h1,h5.1];rfl)).mono fun e w2 ⟨he2,hw2⟩=>⟨_,he2,g,by rw[hw2];exact hgo,.tup _ _ .nil⟩
    ·rename_i p l fz hb;split at h
     ·rename_i hop;have hop:=at7 hop;subst hop;simp at h;obtain⟨rfl,rfl⟩:=h;obtain⟨c,e,fr,h1,h2,h3,h4,h5,h6⟩:=hw.obj o _ hb;obtain⟨u,hu,hr⟩:=h4 0 (.ref o 0) rfl;cases hr;have hc0:w.cell? ⟨g.ob o,0,none⟩=some (.pointer (some ⟨g.ob o,0,none⟩)):=by rw[cell_of_heap h1];exact hu
      refine CQ (by rw[hP];exact ajz) ?_
      rw[hP];exact(Wv (g.ob o) w hc0).mono fun e w2 ⟨he2,hw2⟩=>⟨_,he2,g,by rw[<-hw2];exact .refl hw,.tup _ _ .nil⟩
     ·cases h
    ·cases h
 ·cases h
section
variable{P:Program}{ρ:Ren}
set_option maxHeartbeats 1000000 in
def abW (L:Lays.n169 P ρ) (X:Builder.Extra P ρ) (b g cap:Nat) (p:Value) (cur:Array Value) (l:LU) (w:World) (hbk:w.heap[b]?=some (.cells #[p,.slice (some ⟨g,0,none⟩) l.length cap] (ρ.t 72) (0,0))) (hg:w.heap[g]?=some (.cells cur (ρ.t 5) (0,0)))
  (h0:l≠[]) (hnc:l.length<=cap) (hcs:l.length<=cur.size) (hcm:l.length<=1099511627776) (htake:∀(j:Nat) (x:UInt8),l[j]?=some x->cur[j]?=some (Value.int .u8 x.toNat)):
  Calls P (ρ.f 169) #[.pointer (some ⟨b,0,none⟩)] w fun e w'=>e=.returned (.string ⟨l.toArray⟩)/\w'=w.drew.freeze ⟨g,0,none⟩ l.length:=by
 have hl0:l.length≠0:=by simpa using h0
 have c1:w.drew.cell? ⟨b,1,none⟩=some (.slice (some ⟨g,0,none⟩) l.length cap):=by
  have:w.drew.heap[b]?=some (.cells #[p,.slice (some ⟨g,0,none⟩) l.length cap] (ρ.t 72) (0,0)):=hbk;rw[Lib.cell_of_heap this];rfl
 have hSD:(Builtin.unsafeSliceData_ #[(ρ.t 37)] (ρ.t 127) #[.slice (some ⟨g,0,none⟩) l.length cap]).run P w.drew=.ok (.pointer (some ⟨g,0,none⟩)) w.drew:=
  Lib.run_unsafeSliceData_row _ _ _ _ _ _ (by omega)
 have hUS:(Builtin.unsafeString_ #[(ρ.t 127),(ρ.t 3)] (ρ.t 9) #[.pointer (some ⟨g,0,none⟩),.int .i64 l.length]).run P w.drew=.ok (.string ⟨l.toArray⟩) (w.drew.freeze ⟨g,0,none⟩ l.length):=by
  refine Lib.run_unsafeString_row w.drew (ρ.t 127) (ρ.t 3) (ρ.t 9) (ρ.t 5) L.t127 X.cellsByte g cur.size (by have hg':w.drew.heap[g]?=some (.cells cur (ρ.t 5) (0,0)):=hg;simp[World.shape?,hg']) l h0 (by omega) (by omega) ?_
  intro j x hx;have hg':w.drew.heap[g]?=some (.cells cur (ρ.t 5) (0,0)):=hg;have ha:(⟨g,0,none⟩:Addr).add j=⟨g,0+j,none⟩:=by unfold Addr.add;split<;>simp_all
  rw[ha,Lib.cell_of_heap hg',av2];exact htake j x hx
 clear htake hcm hcs hnc;have mixed:=L.mixed;have t72:=L.t72;have a72:=L.a72;have z72:=L.z72;have v72:=L.v72;have u72:=run_underlying L.t72;have t70:=L.t70;have a70:=L.a70;have z70:=L.z70;have v70:=L.v70;have u70:=run_underlying L.t70;have t37:=L.t37;have a37:=L.a37;have z37:=L.z37;have v37:=L.v37;have u37:=run_underlying L.t37;have t127:=L.t127;have a127:=L.a127;have z127:=L.z127;have v127:=L.v127;have u127:=run_underlying L.t127;have t3:=L.t3;have a3:=L.a3;have z3:=L.z3;have v3:=L.v3;have u3:=run_underlying L.t3;have t9:=L.t9;have a9:=L.a9;have z9:=L.z9;have v9:=L.v9;have u9:=run_underlying L.t9;have t5:=X.t5;have a5:=X.a5;have z5:=X.z5;have v5:=X.v5;have u5:=run_underlying X.t5
 go_enter L.f169,Body.n169_ntmps ρ
 go_wp2
 go_region_o
 all_goals (go_wp2;go_ret;exact⟨rfl,rfl⟩)
end
noncomputable def Fb(args:LA)(O:St):Option (AV×St):=
 match args with
 |[.ref o 0]=>match O[o]? with
  |some (.cells [p,.nils] ⟨false,some (254,true)⟩)=>some (.str [],O)
  |some (.cells [p,.msl ob 0 n 1] ⟨false,some (254,true)⟩)=>match O[ob]? with
   |some (.cells l ⟨false,some (5,x)⟩)=>match Jf l with
    |some (b::s)=>match I9 (Nat.beq (b::s).length n) (Nat.ble (b::s).length 1099511627776)with
     |true=>some (.str (b::s),O.set ob .dead)
     |false=>none
    |_=>none
   |_=>none
  |_=>none
 |_=>none
def aa2{C:Ctx}(hP:C.P=Tryz.prog):POK C 143 Fb:=by
 intro args O v O' h g w args' ha hw hg;unfold Fb at h;split at h
 ·rename_i o;cases ha with
  |cons _ v1 _ l1 x y=>
   cases y;cases x with
   |ref _ _ ho=>
    split at h
    ·rename_i p hb;simp at h;obtain⟨rfl,rfl⟩:=h;obtain⟨c,e,fr,h1,h2,h3,h4,h5,h6⟩:=hw.obj o _ hb;obtain⟨he,hx⟩:=h5.2 _ _ rfl;have hfr:=h5.1;obtain⟨u0,hu0,hr0⟩:=h4 0 p rfl;obtain⟨u1,hu1,hr1⟩:=h4 1 .nils rfl;cases hr1;have hsz:c.size=2:=hx rfl;have hc:c=#[u0,.slice none 0 0]:=by
      apply Array.ext_getElem?;intro i
      match i with
      |0=>exact hu0
      |1=>exact hu1
      |i+2=>simp[hsz]
     subst hc he hfr;refine CQ (by rw[hP];exact acO) ?_
     rw[hP];exact(Any.Builder_String_nil Tryz.lays169 Tryz.Builder_Extra_169 w.heap.size (g.ob o) u0 w h1).mono fun e w2 ⟨he2,hw2⟩=>⟨_,he2,g,uJ hw hw2,.str []⟩
    ·rename_i p ob n hb;split at h
     ·rename_i l x hbl;split at h
      ·rename_i b s hbx;split at h
       ·rename_i hn;rw[qi,a01]at hn;have hn1:=at7 hn.1;have hn2:=av8 hn.2;simp only[a05,av6]at h;obtain⟨rfl,rfl⟩:=h;obtain⟨c,e,fr,h1,h2,h3,h4,h5,h6⟩:=hw.obj o _ hb;obtain⟨he,hx⟩:=h5.2 _ _ rfl;have hfr:=h5.1;obtain⟨u0,hu0,hr0⟩:=h4 0 p rfl;obtain⟨u1,hu1,hr1⟩:=h4 1 (.msl ob 0 n 1) rfl;cases hr1 with
        |msl _ _ _ _ cap hob hncap hcap=>
        have hsz:c.size=2:=hx rfl;have hc:c=#[u0,.slice (some ⟨g.ob ob,0,none⟩) n cap]:=by
         apply Array.ext_getElem?;intro i
         match i with
         |0=>exact hu0
         |1=>exact hu1
         |i+2=>simp[hsz]
        subst hc he hfr;obtain⟨c',e',fr',k1,k2,k3,k4,k5,k6⟩:=hw.obj ob _ hbl;obtain⟨he',hx'⟩:=k5.2 _ _ rfl;have hfr':=k5.1;subst he' hfr';obtain⟨e1,e2⟩:=Wq hbx;refine CQ (by rw[hP];exact acO) ?_
        rw[hP];rw[<-hn1]at h1 hncap;refine(abW Tryz.lays169 Tryz.Builder_Extra_169 (g.ob o) (g.ob ob) cap u0 c' (b::s) w h1 k1 (by simp) hncap (by omega) hn2 (fun j x hx=>?_)).mono fun e w2 ⟨he2,hw2⟩=>⟨_,he2,g,?_,.str (b::s)⟩
        ·obtain⟨v,hv,hr⟩:=k4 j _ (e2 j x hx);cases hr;exact hv
        ·subst hw2;obtain⟨f1,f2,f3,f4,f5⟩:=acP w.drew (g.ob ob) (b::s).length;exact ahJ hw hbl f1 f2 f3 f4 f5
       ·cases h
      ·cases h
     ·cases h
    ·cases h
 ·cases h
def fxP{P:Program}{f:Nat}{a b:Func}(h:P.funcs[f]?=some a)(e:a=b:=by kernel_rfl):P.funcs[f]?=some b:=h.trans (congrArg some e)
def Tryz.laysPI_ren:Go.Shelf.Ren:=⟨fun|174=>351|247=>362|245=>363|287=>369|279=>370|280=>371|281=>372|282=>373|321=>379|322=>380|316=>381|171=>168|205=>382|243=>226|246=>262|283=>299|284=>300|285=>301|286=>302|129=>240|317=>319|318=>320|319=>321|320=>322|337=>342|338=>343|n=>n,fun|9=>9|3=>3|2=>2|75=>256|85=>469|4=>4|167=>483|5=>5|53=>365|175=>484|46=>295|168=>486|37=>252|0=>0|210=>494|21=>21|127=>317|145=>500|143=>498|171=>419|173=>421|212=>452|51=>77|20=>20|213=>453|232=>468|233=>312|80=>89|n=>n,fun|15=>9|16=>10|17=>6|18=>7|19=>8|n=>n⟩
def Tryz.laysPI:Go.Proofs.LaysC.n174 Tryz.prog Tryz.laysPI_ren:={
 mixed:=by kernel_rfl
 f129:=fxP Tryz.func240
 f171:=fxP Tryz.func168
 f174:=fxP Tryz.func351
 f205:=fxP Tryz.func382
 f243:=fxP Tryz.func226
 f245:=fxP Tryz.func363
 f246:=fxP Tryz.func262
 f247:=fxP Tryz.func362
 f279:=fxP Tryz.func370
 f280:=fxP Tryz.func371
 f281:=fxP Tryz.func372
 f282:=fxP Tryz.func373
 f283:=fxP Tryz.func299
 f284:=fxP Tryz.func300
 f285:=fxP Tryz.func301
 f286:=fxP Tryz.func302
 f287:=fxP Tryz.func369
 f316:=fxP Tryz.func381
 f317:=fxP Tryz.func319
 f318:=fxP Tryz.func320
 f319:=fxP Tryz.func321
 f320:=fxP Tryz.func322
 f321:=fxP Tryz.func379
 f322:=fxP Tryz.func380
 f337:=fxP Tryz.func342
 f338:=fxP Tryz.func343
 t0:=Tryz.underlying0
 a0:=Tryz.isAgg0
 z0:=Tryz.sizeOf0
 v0:=Tryz.zeroValue0
 t2:=Tryz.underlying2
 a2:=Tryz.isAgg2
 z2:=Tryz.sizeOf2
 v2:=Tryz.zeroValue2
 t3:=Tryz.underlying3
 a3:=Tryz.isAgg3
 z3:=Tryz.sizeOf3
 v3:=Tryz.zeroValue3
 t4:=Tryz.underlying4
 a4:=Tryz.isAgg4
 z4:=Tryz.sizeOf4
 v4:=Tryz.zeroValue4
 t5:=Tryz.underlying5
 a5:=Tryz.isAgg5
 z5:=Tryz.sizeOf5
 v5:=Tryz.zeroValue5
 t9:=Tryz.underlying9
 a9:=Tryz.isAgg9
 z9:=Tryz.sizeOf9
 v9:=Tryz.zeroValue9
 t20:=Tryz.underlying20
 a20:=Tryz.isAgg20
 z20:=Tryz.sizeOf20
 v20:=Tryz.zeroValue20
 t21:=Tryz.underlying21
 a21:=Tryz.isAgg21
 z21:=Tryz.sizeOf21
 v21:=Tryz.zeroValue21
 t37:=Tryz.underlying252
 a37:=Tryz.isAgg252
 z37:=Tryz.sizeOf252
 v37:=Tryz.zeroValue252
 t46:=Tryz.underlying295
 a46:=Tryz.isAgg295
 z46:=Tryz.sizeOf295
 v46:=Tryz.zeroValue295
 t51:=Tryz.underlying77
 a51:=Tryz.isAgg77
 z51:=Tryz.sizeOf77
 v51:=Tryz.zeroValue77
 t53:=Tryz.underlying365
 a53:=Tryz.isAgg365
 z53:=Tryz.sizeOf365
 v53:=Tryz.zeroValue365
 t75:=Tryz.underlying256
 a75:=Tryz.isAgg256
 z75:=Tryz.sizeOf256
 v75:=Tryz.zeroValue256
 t85:=Tryz.underlying469
 a85:=Tryz.isAgg469
 z85:=Tryz.sizeOf469
 v85:=Tryz.zeroValue469
 t127:=Tryz.underlying317
 a127:=Tryz.isAgg317
 z127:=Tryz.sizeOf317
 v127:=Tryz.zeroValue317
 t143:=Tryz.underlying498
 a143:=Tryz.isAgg498
 z143:=Tryz.sizeOf498
 v143:=Tryz.zeroValue498
 t145:=Tryz.underlying500
 a145:=Tryz.isAgg500
 z145:=Tryz.sizeOf500
 v145:=Tryz.zeroValue500
 t167:=Tryz.underlying483
 a167:=Tryz.isAgg483
 z167:=Tryz.sizeOf483
 v167:=Tryz.zeroValue483
 t168:=Tryz.underlying486
 a168:=Tryz.isAgg486
 z168:=Tryz.sizeOf486
 v168:=Tryz.zeroValue486
 t171:=Tryz.underlying419
 a171:=Tryz.isAgg419
 z171:=Tryz.sizeOf419
 v171:=Tryz.zeroValue419
 t173:=Tryz.underlying421
 a173:=Tryz.isAgg421
 z173:=Tryz.sizeOf421
 v173:=Tryz.zeroValue421
 t175:=Tryz.underlying484
 a175:=Tryz.isAgg484
 z175:=Tryz.sizeOf484
 v175:=Tryz.zeroValue484
 t210:=Tryz.underlying494
 a210:=Tryz.isAgg494
 z210:=Tryz.sizeOf494
 v210:=Tryz.zeroValue494
 t212:=Tryz.underlying452
 a212:=Tryz.isAgg452
 z212:=Tryz.sizeOf452
 v212:=Tryz.zeroValue452
 t213:=Tryz.underlying453
 a213:=Tryz.isAgg453
 z213:=Tryz.sizeOf453
 t232:=Tryz.underlying468
 a232:=Tryz.isAgg468
 z232:=Tryz.sizeOf468
 v232:=Tryz.zeroValue468
 t233:=Tryz.underlying312
 a233:=Tryz.isAgg312
 z233:=Tryz.sizeOf312
 v233:=Tryz.zeroValue312
 g15:=by kernel_rfl
 g16:=by kernel_rfl
 g17:=by kernel_rfl
 g18:=by kernel_rfl
 g19:=by kernel_rfl
 t80:=Tryz.underlying89
 a80:=Tryz.isAgg89
 z80:=Tryz.sizeOf89
 v80:=Tryz.zeroValue89
 i0:=by kernel_rfl
 i2:=by kernel_rfl
 i3:=by kernel_rfl
 i4:=by kernel_rfl
 i5:=by kernel_rfl
 i9:=by kernel_rfl
 i20:=by kernel_rfl
 i21:=by kernel_rfl
 i37:=by kernel_rfl
 i46:=by kernel_rfl
 i51:=by kernel_rfl
 i53:=by kernel_rfl
 i75:=by kernel_rfl
 i80:=by kernel_rfl
 i85:=by kernel_rfl
 i127:=by kernel_rfl
 i143:=by kernel_rfl
 i145:=by kernel_rfl
 i167:=by kernel_rfl
 i168:=by kernel_rfl
 i171:=by kernel_rfl
 i173:=by kernel_rfl
 i175:=by kernel_rfl
 i210:=by kernel_rfl
 i212:=by kernel_rfl
 i232:=by kernel_rfl
 i233:=by kernel_rfl
 m15:=by kernel_rfl
 m16:=by kernel_rfl
 m17:=by kernel_rfl
 m18:=by kernel_rfl
 m19:=by kernel_rfl
 c0:=by kernel_rfl
 c2:=by kernel_rfl
 c3:=by kernel_rfl
 c4:=by kernel_rfl
 c5:=by kernel_rfl
 c9:=by kernel_rfl
 c20:=by kernel_rfl
 c21:=by kernel_rfl
 c37:=by kernel_rfl
 c46:=by kernel_rfl
 c51:=by kernel_rfl
 c53:=by kernel_rfl
 c75:=by kernel_rfl
 c80:=by kernel_rfl
 c85:=by kernel_rfl
 c127:=by kernel_rfl
 c143:=by kernel_rfl
 c145:=by kernel_rfl
 c167:=by kernel_rfl
 c168:=by kernel_rfl
 c171:=by kernel_rfl
 c173:=by kernel_rfl
 c175:=by kernel_rfl
 c210:=by kernel_rfl
 c212:=by kernel_rfl
 c213:=by kernel_rfl
 c232:=by kernel_rfl
 c233:=by kernel_rfl}
def agn:IV Tryz.prog 351:=⟨_,Tryz.func351,by decide,rfl⟩
noncomputable def aia(args:LA)(O:St):Option (AV×St):=
 match args with
 |[.str s,.int .i64 a,.int .i64 b]=>if a=10/\b=64/\s.length<=1099511627776 then match Lib.parseIntB 64 s with
  |.ok v=>some (.tup [.int .i64 v,.nilIface],O)
  |.range=>some (.tup [.int .i64 (Lib.intSat 64 s),.iface 486 (.eptr [])],O)
  |_=>some (.tup [.int .i64 0,.iface 486 (.eptr [])],O)
  else none
 |_=>none
def api:AV->Bool
 |.iface _ _=>true
 |_=>false
def agu{C:Ctx}{g:Gh}{w:World}{O:St}(hw:WR g w O)(hg:GL C g){n:Nat}{e:AV}(h:C.gl n=some [e])(hi:api e=true):∃ev,w.cell? ⟨n,0,none⟩=some ev/\(ev=.nilIface\/∃te pe,ev=.iface te pe):=by
 obtain⟨v,h1,h2⟩:=(hg.1 n _ h).1.get (i:=0) (a:=e) rfl;refine⟨v,hw.im _ _ _ h1,?_⟩;cases h2<;>first|(cases hi;done)|exact .inr ⟨_,_,rfl⟩
def apG{C:Ctx}(hP:C.P=Tryz.prog){e1 e2:AV}(h1:C.gl sH=some [e1])(h2:C.gl qx=some [e2])(i1:api e1=true)(i2:api e2=true):POK C 351 aia:=by
 intro args O v O' h g w args' ha hw hg;unfold aia at h;split at h
 ·rename_i s a b;split at h
  ·rename_i hc;obtain⟨rfl,rfl,hl⟩:=hc;cases ha with
   |cons _ v1 _ l1 x1 y1=>
   cases y1 with
   |cons _ v2 _ l2 x2 y2=>
   cases y2 with
   |cons _ v3 _ l3 x3 y3=>
   cases y3;cases x1;cases x2;cases x3;have hsz:(⟨⟨s⟩⟩:ByteArray).size=s.length:=rfl;obtain⟨ev1,c1,d1⟩:=agu hw hg h1 i1;obtain⟨ev2,c2,d2⟩:=agu hw hg h2 i2;refine CQ (by rw[hP];exact agn) ?_
   rw[hP];cases hz:Lib.parseIntB 64 s
   ·rename_i z;rw[hz]at h;cases h;refine(Any.strconv_ParseInt_10_at64_ok Tryz.laysPI ⟨⟨s⟩⟩ (by rw[hsz];omega) z hz w).mono fun e w' ⟨he,hw'⟩=>⟨_,he,g,?_,.tup _ _ (.cons _ _ _ _ (.int _ _) (.cons _ _ _ _ .nilIface .nil))⟩
    refine uJ hw ?_;rcases hw' with rfl|⟨t,rfl⟩
    ·exact Below.refl _ _
    ·exact Lib.bytesWorld_below _ _ _
   ·rw[hz]at h;cases h;exact(Any.strconv_ParseInt_10_at64_syntax Tryz.laysPI ⟨⟨s⟩⟩ (by rw[hsz];omega) hz ev2 w c2 d2).mono fun e w' ⟨n,he,_,_,hb⟩=>⟨_,he,g,uJ hw hb,.tup _ _ (.cons _ _ _ _ (.int _ _) (.cons _ _ _ _ (.iface _ _ _ (.eptr _ _ _ (.nil _ _))) .nil))⟩
   ·rw[hz]at h;cases h;exact(Any.strconv_ParseInt_10_at64_range Tryz.laysPI ⟨⟨s⟩⟩ (by rw[hsz];omega) hz ev1 w c1 d1).mono fun e w' ⟨n,he,_,_,hb⟩=>⟨_,he,g,uJ hw hb,.tup _ _ (.cons _ _ _ _ (.int _ _) (.cons _ _ _ _ (.iface _ _ _ (.eptr _ _ _ (.nil _ _))) .nil))⟩
  ·cases h
 ·cases h
noncomputable def akR(args:LA)(O:St):Option (AV×St):=
 match args with
 |[.str s,.int .i64 (.ofNat a),.int .i64 (.ofNat b)]=>match I9 (I9 (Nat.beq a 10) (Nat.beq b 64)) (Nat.ble s.length 1000)with
  |true=>match Lib.parseIntB 64 s with
   |.ok v=>some (.tup [.int .i64 v,.nilIface],O)
   |_=>none
  |false=>none
 |_=>none
def an9{C:Ctx}(hP:C.P=Tryz.prog):POK C 351 akR:=by
 intro args O v O' h g w args' ha hw hg;unfold akR at h;split at h
 ·rename_i s a b;split at h
  ·rename_i hc;rw[qi,a01,qi,a01]at hc;have e1:=at7 hc.1.1;have e2:=at7 hc.1.2;have hl:=av8 hc.2;subst e1 e2;split at h
   ·rename_i z hz;cases h;cases ha with
    |cons _ v1 _ l1 x1 y1=>
    cases y1 with
    |cons _ v2 _ l2 x2 y2=>
    cases y2 with
    |cons _ v3 _ l3 x3 y3=>
    cases y3;cases x1;cases x2;cases x3;refine CQ (by rw[hP];exact agn) ?_
    rw[hP];refine(Any.strconv_ParseInt_10_at64_ok Tryz.laysPI ⟨⟨s⟩⟩ (by show s.length<=_;omega) z hz w).mono fun e w' ⟨he,hw'⟩=>⟨_,he,g,?_,.tup _ _ (.cons _ _ _ _ (.int _ _) (.cons _ _ _ _ .nilIface .nil))⟩
    refine uJ hw ?_;rcases hw' with rfl|⟨t,rfl⟩
    ·exact Below.refl _ _
    ·exact Lib.bytesWorld_below _ _ _
   ·cases h
  ·cases h
 ·cases h
def at0(l:LU)(k:Nat):Nat:=(l.getD k 0).toNat
def QC(s:ByteArray)(p k:Nat):(s.get! (p+k)).toNat=at0 (s.data.toList.drop p) k:=by
 unfold at0
 congr 1
 rw[av4,List.getElem?_drop,Array.getElem?_toList];show s.data[p+k]! =_;rw[getElem!_def];rfl
def acw (s:ByteArray) (p:Nat) (h:p<=s.size):Utf8.decode s p=
  Lib.decodeN (s.data.toList.drop p).length (at0 (s.data.toList.drop p) 0) (at0 (s.data.toList.drop p) 1) (at0 (s.data.toList.drop p) 2) (at0 (s.data.toList.drop p) 3):=by
 rw[Lib.decode_at,<-QC,<-QC,<-QC,<-QC];have e:(s.data.toList.drop p).length=s.size-p:=by simp
 rw[e];rfl
def U2(l:LU):Nat×Nat:=Lib.decodeN l.length (at0 l 0) (at0 l 1) (at0 l 2) (at0 l 3)
def aoO(l:LU)(k:Nat):at0 l k<256:=UInt8.toNat_lt _
def Wy(l:LU)(hl:l≠[]):1<=(U2 l).2/\(U2 l).2<=l.length/\(U2 l).1<=1114111:=by
 have h1:1<=l.length:=Nat.pos_of_ne_zero (fun h=>hl (au5 h));have h0:=aoO l 0;unfold U2 Lib.decodeN;repeat' split
 all_goals simp only;omega
def badL(l:LU):Bool:=Nat.beq (U2 l).1 65533&& !List.isPrefixOf [239,191,189] l
def aeX:Nat->LU->Option Nat
 |0,l=>if l.isEmpty then some 0 else none
 |f+1,l=>if l.isEmpty then some 0 else if badL l then none else(aeX f (l.drop (U2 l).2)).map (· +1)
def zN(l:LU):Option Nat:=aeX l.length l
def QQ(f:Nat):aeX f []=some 0:=by cases f<;>rfl
def ahV(f:Nat):∀(g:Nat) (l:LU),l.length<=f->l.length<=g->aeX f l=aeX g l:=by
 induction f with
 |zero=>
  intro g l hf hg;obtain rfl:l=[]:=au5 (by omega)
  rw[QQ,QQ]
 |succ f ih=>
  intro g l hf hg
  match l with
  |[]=>rw[QQ,QQ]
  |b::t=>
   cases g with
   |zero=>simp at hg
   |succ g=>
    have hn:=(Wy (b::t) (by simp)).1
    simp only[aeX,List.isEmpty_cons,ay4,if_false];rw[ih g _ (by simp at hf⊢;omega) (by simp at hg⊢;omega)]
def akc:zN []=some 0:=rfl
def ahW(l:LU)(hl:l≠[]):zN l=if badL l then none else(zN (l.drop (U2 l).2)).map (· +1):=by
 match l with
 |[]=>exact absurd rfl hl
 |b::t=>
  have hn:=(Wy (b::t) (by simp)).1
  unfold zN;rw[a07];simp only[aeX,List.isEmpty_cons,ay4,if_false];rw[ahV t.length _ _ (by simp;omega) (a06 _)]
def drop_cons(s:ByteArray)(k:Nat)(h:k<s.size):s.data.toList.drop k≠[]:=by
 intro e;have:=congrArg List.length e;simp at this;have:s.data.size=s.size:=rfl;omega
def drop_end(s:ByteArray)(k:Nat)(h:s.size<=k):s.data.toList.drop k=[]:=
 au1 (by rw[aC0];exact h)
def adH{a b:Bool}(h:a=b):Ending.returned (.bool a)=.returned (.bool b):=by rw[h]
def hasPrefix (s p:ByteArray) (w:World) (hs:s.size<=1099511627776) (hp:p.size<=1099511627776):
  Calls Tryz.prog 228 #[.string s,.string p] w fun e w'=>e=.returned (.bool (p.data.toList.isPrefixOf s.data.toList))/\w=w':=by
 have key:=Lib.hasPrefix_of_take s.data.toList p.data.toList;rw[<-Lib.size_eq,<-Lib.size_eq]at key;unfold Lib.hasPrefix at key;have HK:=Lib.hid key;clear key;by_cases h:p.size<=s.size
 ·have hX:Hid (((s.extract 0 p.size).toList==p.toList)=p.data.toList.isPrefixOf s.data.toList):=by
   show _=_;rw[<-HK.out,Lib.extract_toList,Lib.toList_data];simp[h]
  clear HK
  go_enter Tryz.func228,Tryz.ntmps228
  go_wp2
  go_ret
  exact⟨adH hX.out,rfl⟩
 ·have hX:Hid (false=p.data.toList.isPrefixOf s.data.toList):=by
   show _=_;rw[<-HK.out];simp[h]
  clear HK
  go_enter Tryz.func228,Tryz.ntmps228
  go_wp2
  go_ret
  exact⟨adH hX.out,rfl⟩
def QG (s p:ByteArray) (b:Bool) (w:World) (hs:s.size<=1099511627776) (hp:p.size<=1099511627776) (h:p.data.toList.isPrefixOf s.data.toList=b):
  Calls Tryz.prog 228 #[.string s,.string p] w fun e w'=>e=.returned (.bool b)/\w=w':=by
 subst h;exact hasPrefix s p w hs hp
def aow(s:ByteArray)(w0:World)(nv:Value)(a b:Value)(w':World):Prop:=
 ∃(pos n:Nat),pos<=s.size/\n<=pos/\w'=w0.iter s pos/\nv=.int .i64 n/\a=.int .i64 0/\b=.bool false/\zN s.data.toList=(zN (s.data.toList.drop pos)).map (· +n)
def am9(s:ByteArray)(w:World)(e:Ending)(w':World):Prop:=
 e=.returned (.tuple #[.int .i64 ((zN s.data.toList).getD 0:Nat),.bool (zN s.data.toList).isSome])/\∃pos,w'=w.iter s pos
def len_any (s:ByteArray) (w:World) (hs:s.size<=1099511627776):
  Calls Tryz.prog 260 #[.string s] w (am9 s w):=by
 go_enter Tryz.func260,Tryz.ntmps260
 go_wp2_with fail
 go_loopw [4,2,3] (fun n a b w'=>aow s w n a b w') (fun _ _ _ w'=>s.size-w'.iterPos w.heap.size)
 case atStart=>exact⟨0,0,by omega,by omega,rfl,rfl,rfl,rfl,by simp⟩
 case round=>
  obtain⟨pos,n,hpos,hn,rfl,rfl,rfl,rfl,hl⟩:=hrel;have HL:=Lib.hid hl;clear hl;by_cases hp:pos<s.size
  ·have hd:Utf8.decode s pos=U2 (s.data.toList.drop pos):=acw s pos hpos;have hne:=drop_cons s pos hp;have st:=ahW _ hne;have ft:=Wy _ hne;have hdd:(s.data.toList.drop pos).drop (U2 (s.data.toList.drop pos)).2=s.data.toList.drop (pos+(U2 (s.data.toList.drop pos)).2):=aD0 ..;have hlen:(s.data.toList.drop pos).length=s.size-pos:=by simp
   rw[hdd]at st;rw[hlen]at ft;have HB:=Lib.hid (show badL (s.data.toList.drop pos)=(Nat.beq (U2 (s.data.toList.drop pos)).1 65533&& !List.isPrefixOf [239,191,189] (s.extract pos s.size).data.toList) by rw[Lib.extract_to_end];rfl)
   have HS:=Lib.hid st;generalize hx:U2 (s.data.toList.drop pos)=x at*;obtain⟨r,m⟩:=x;simp only at ft;have hnx:∀ty,(Instr.next (.pointer (some ⟨w.heap.size,0,none⟩)) true ty).run Tryz.prog (w.iter s pos)=.ok (.tuple #[.bool true,.int .i64 pos,.int .i32 r]) (w.iter s (pos+m)):=
    fun ty=>by have:=run_next_any (P:=Tryz.prog) w s pos ty hp;rw[hd]at this;exact this
   clear st hd hdd hlen hne hx;by_cases h5:r=65533
   ·subst h5;cases hpr:List.isPrefixOf [239,191,189] (s.extract pos s.size).data.toList with
    |true=>
     have HP:=Lib.hid hpr;have HL2:Hid (zN s.data.toList=(zN (s.data.toList.drop (pos+m))).map (· +(n+1))):=by
      show _=_;rw[HL.out,HS.out,HB.out,hpr,if_neg (by simp),Option.map_map]
      exact congrArg (fun f=>Option.map f (zN _)) (funext fun k=>by simp only[Function.comp];omega)
     clear HL HS HB hpr
     go_wp2_with fail
     refine(QG _ _ true _ (by simp;omega) (by decide) HP.out).mono ?_
     rintro e w' ⟨rfl,rfl⟩
     go_wp2_with fail
     go_roundw
     case rel=>exact⟨pos+m,n+1,by omega,by omega,rfl,by go_num,rfl,rfl,HL2.out⟩
     case measure=>simp;omega
    |false=>
     have HP:=Lib.hid hpr;have HL2:Hid (zN s.data.toList=none):=by
      show _=_;rw[HL.out,HS.out,HB.out,hpr,if_pos (by simp)];rfl
     clear HL HS HB hpr
     go_wp2_with fail
     refine(QG _ _ false _ (by simp;omega) (by decide) HP.out).mono ?_
     rintro e w' ⟨rfl,rfl⟩
     go_wp2_with fail
     go_ret2
     refine⟨?_,_,rfl⟩;rw[HL2.out];rfl
   ·have h5':((r:Int)==65533)=false:=by simp;omega
    have HL2:Hid (zN s.data.toList=(zN (s.data.toList.drop (pos+m))).map (· +(n+1))):=by
     have hb:Nat.beq r 65533=false:=by rw[Bool.eq_false_iff];exact fun h=>h5 (at7 h)
     show _=_;rw[HL.out,HS.out,HB.out,hb,if_neg (by simp),Option.map_map]
     exact congrArg (fun f=>Option.map f (zN _)) (funext fun k=>by simp only[Function.comp];omega)
    clear HL HS HB h5
    go_wp2_with fail
    go_roundw
    case rel=>exact⟨pos+m,n+1,by omega,by omega,rfl,by go_num,rfl,rfl,HL2.out⟩
    case measure=>simp;omega
  ·have hnx:∀ty,(Instr.next (.pointer (some ⟨w.heap.size,0,none⟩)) true ty).run Tryz.prog (w.iter s pos)=_:=fun ty=>run_next_end w s pos ty hp
   go_wp2_with fail
   go_ret2
   have e:=HL.out;rw[drop_end s _ (by omega),akc]at e
   refine⟨?_,_,rfl⟩;rw[e];simp
def aeR(w:World)(s:ByteArray)(pos:Nat):Below w.heap.size w (w.iter s pos):=(Below.refl _ _).alloc (a06 _) _
def ahX (s:ByteArray) (w:World) (hs:s.size<=1099511627776):
  Calls Tryz.prog 260 #[.string s] w fun e w'=>e=.returned (.tuple #[.int .i64 ((zN s.data.toList).getD 0:Nat),.bool (zN s.data.toList).isSome])/\Below w.heap.size w w':=
 (len_any s w hs).mono fun _ _ ⟨he,pos,hw⟩=>⟨he,by rw[hw];exact aeR _ _ _⟩
open Go.Ev
def aqJ:IV Tryz.prog 260:=⟨_,Tryz.func260,by decide,rfl⟩
def akU{C:Ctx}(hP:C.P=Tryz.prog):POK C 260 (Rj (fun s=>.tup [.int .i64 ((zN s).getD 0:Nat),.bool (zN s).isSome])):=anc (C:=C) (f:=260) (by rw[hP];exact aqJ) (fun s=>.tup [.int .i64 ((zN s).getD 0:Nat),.bool (zN s).isSome]) (fun s=>.tuple #[.int .i64 ((zN s).getD 0:Nat),.bool (zN s).isSome])
 (fun g s=>.tup _ _ (.cons _ _ _ _ (.int _ _) (.cons _ _ _ _ (.bool _) .nil))) (fun s w hs=>by rw[hP];exact ahX s w hs)
open Go.RowKit Go.Shelf Go.Lib
set_option maxRecDepth 1000000
def amq (B b:Nat) (bs:List Value) (w:World) (h:Lib.IsBuilderF 254 5 B b bs w):
  Calls Tryz.prog 196 #[.pointer (some ⟨b,0,none⟩)] w fun e w'=>e=.returned (.tuple #[])/\Lib.BuilderAtF 254 5 B b (.pointer (some ⟨b,0,none⟩)) bs w'/\Below B w w':=by
 rcases h with h|h
 ·exact(Jh b w h.cell0 h.shape h.frozen0).mono fun e w' ⟨he,hw⟩=>⟨he,by rw[hw];exact h.used _,by rw[hw];exact(Below.refl B w).setCell (p:=⟨b,0,none⟩) h.1 _⟩
 ·exact(Wv b w h.cell0).mono fun e w' ⟨he,hw⟩=>⟨he,by rw[<-hw];exact h,by rw[<-hw];exact Below.refl B _⟩
set_option maxHeartbeats 1000000 in
def NI (B b:Nat) (bs:List Value) (s:ByteArray) (w:World) (h:Lib.IsBuilderF 254 5 B b bs w) (hlen:bs.length+s.size<=1099511627776) (hBw:B<=w.heap.size):
  Calls Tryz.prog 139 #[.pointer (some ⟨b,0,none⟩),.string s] w fun e w'=>e=.returned (.tuple #[.int .i64 s.size,.nilIface])/\Lib.BuilderAtF 254 5 B b (.pointer (some ⟨b,0,none⟩)) (bs++Lib.strCells s) w'/\Below B w w':=by
 obtain⟨i0,hi,hz0,hz1,hz2⟩:=info_parts infoByte
 go_enter Tryz.func139,Tryz.ntmps139
 go_wp2_with fail
 refine(amq B b bs _ h).mono ?_;rintro e w1 ⟨rfl,h1,hb1⟩;obtain⟨hB,v,hbk,hown,hne⟩:=h1;have c0:w1.cell? ⟨b,0,none⟩=some (.pointer (some ⟨b,0,none⟩)):=by rw[Lib.cell_of_heap hbk];rfl
 have c1:w1.cell? ⟨b,1,none⟩=some v:=by rw[Lib.cell_of_heap hbk];rfl
 go_wp2_with (at_builtin;refine Lib.wpList_append_own_stringF _ rfl _ _ 252 9 rfl B 5 i0 Tryz.underlying252 Tryz.underlying9 hi hz0 hz1 hz2 _ _ _ rfl hown s rfl ?c3 ?c4 ?c5 ?_)
 case c3=>unfold maxLen;omega
 case c4=>omega
 case c5=>have:=hb1.size;omega
 intro v' w2 hown' hgrow _;have hlt:b<w1.heap.size:=by
  rcases aD2 b w1.heap.size with h'|h'
  ·exact h'
  ·simp[Array.getElem?_eq_none h']at hbk
 have hb2:w2.heap[b]?=some (.cells #[.pointer (some ⟨b,0,none⟩),v] 254 (0,0)):=by
  rw[hgrow.block b hlt (fun e=>hne e.symm)];exact hbk
 have d0:w2.cell? ⟨b,0,none⟩=some (.pointer (some ⟨b,0,none⟩)):=by rw[Lib.cell_of_heap hb2];rfl
 have d1:w2.cell? ⟨b,1,none⟩=some v:=by rw[Lib.cell_of_heap hb2];rfl
 have f1:w2.frozen? ⟨b,1,none⟩=false:=Lib.frozen_of_heap hb2 1;obtain⟨ao,n',cap,rfl⟩:∃ao n' cap,v'=.slice ao n' cap:=by
  rcases hown'.2 with⟨hv,_⟩|⟨g,cap,cur,fz,hv,_⟩
  ·exact⟨_,_,_,hv⟩
  ·exact⟨_,_,_,hv⟩
 go_wp2
 go_ret2
 refine⟨rfl,?_,?_⟩
 ·exact Lib.BuilderAtF.put (T:=254) (e:=5) hB hb2 (bs':=bs++Lib.strCells s) (by simpa[Lib.strCells_length]using hown') (by decide)
 ·exact(hb1.grown hgrow (by have:=hb1.size;omega) (fun k hk=>(hown.lt k hk).1)).setCell (p:=⟨b,1,none⟩) hB _
def atb(w:World)(o:Obj)(b i:Nat)(v:Value)(h:b<w.heap.size):(w.alloc o).setCell ⟨b,i,none⟩ v=(w.setCell ⟨b,i,none⟩ v).alloc o:=by
 have hp:∀f,(w.heap.push o).modify b f=(w.heap.modify b f).push o:=fun f=>by
  apply Array.ext_getElem?;intro k;rw[aB3,Array.getElem?_push,Array.getElem?_push,aB3,Array.size_modify];split<;>split<;>first|rfl|omega
 simp only[World.setCell,World.alloc,hp]
def sizeByte:(Tryz.prog.info? 5).map (fun i=>i.size)=some 1:=by kernel_rfl
set_option maxHeartbeats 2000000 in
def aeL (B b n:Nat) (w:World) (hB:B<=b) (hbk:w.heap[b]?=some (.cells #[.pointer (some ⟨b,0,none⟩),.slice none 0 0] 254 (0,0))) (hBw:B<=w.heap.size) (hn:n<=1099511627776):
  Calls Tryz.prog 282 #[.pointer (some ⟨b,0,none⟩),.int .i64 n] w fun e w'=>e=.returned (.tuple #[])/\(Lib.BuilderAt 254 5 B b (.pointer (some ⟨b,0,none⟩)) [] w'/\Below B w w'):=by
 obtain⟨cs,hrun,hle,hmax⟩:=Lib.run_makeNoZero (P:=Tryz.prog) w.drew #[3] 252 5 Tryz.underlying252 n (by omega)
 have hw:IntKind.i64.wrap (IntKind.i64.wrap 0+(n:Int))=n:=by
  rw[IntKind.wrap_i64,IntKind.wrap_i64];omega
 have hcall:(callFunc 316 #[.int .i64 (IntKind.i64.wrap (IntKind.i64.wrap 0+(n:Int)))]).run Tryz.prog w.drew=.ok (.value (.slice (some ⟨w.drew.heap.size,0,none⟩) n cs.size)) (w.drew.drew.drew.alloc (.cells cs 5)):=by
  rw[hw,run_callFunc_extern Tryz.func316 (by kernel_rfl) (by kernel_rfl) (by kernel_rfl) (e:=Extern.BytealgMakeNoZero.makeNoZero #[3] #[252]) (by kernel_rfl),hrun]
  rfl
 have hlt:b<w.heap.size:=by
  rcases aD2 b w.heap.size with h'|h'
  ·exact h'
  ·simp[Array.getElem?_eq_none h']at hbk
 have c1:w.drew.cell? ⟨b,1,none⟩=some (.slice none 0 0):=by
  have:w.drew.heap[b]?=_:=hbk;rw[Lib.cell_of_heap this];rfl
 have c2:(w.alloc (.cells cs 5)).cell? ⟨b,1,none⟩=some (.slice none 0 0):=by
  have:(w.alloc (.cells cs 5)).heap[b]?=_:=(Lib.alloc_old w _ b hlt).trans hbk;rw[Lib.cell_of_heap this];rfl
 have f2:(w.alloc (.cells cs 5)).frozen? ⟨b,1,none⟩=false:=Lib.frozen_of_heap ((Lib.alloc_old w _ b hlt).trans hbk) 1;have hcopy:∀W:World,(Builtin.copy_ #[252,252] 3 #[.slice (some ⟨w.heap.size,0,none⟩) 0 cs.size,.slice none 0 0]).run Tryz.prog W=.ok (goInt 0) W:=
  fun W=>run_copy_none W 252 252 3 5 _ _ 0 cs.size 0 0 Tryz.underlying252 Tryz.Builder_Extra_169.sizeByte rfl
 clear hw;have hfin:=Lib.grown_fresh (T:=254) (e:=5) (cs:=cs) hB hbk hBw (hmax (by unfold maxLen;omega)) (by decide)
 go_enter Tryz.func282,Tryz.ntmps282
 have hcomm:∀v,(w.alloc (.cells cs 5)).setCell ⟨b,1,none⟩ v=(w.setCell ⟨b,1,none⟩ v).alloc (.cells cs 5):=fun v=>atb w _ b 1 v hlt;rw[hcomm]at hfin
 go_wp2
 go_region
 all_goals (go_wp2;go_end0;exact⟨rfl,hfin⟩)
set_option maxHeartbeats 2000000 in
def aed (B b n:Nat) (w:World) (hB:B<=b) (hbk:w.heap[b]?=some (.cells #[.pointer none,.slice none 0 0] 254 (0,0))) (hBw:B<=w.heap.size) (hn:n<=1099511627776):
  Calls Tryz.prog 229 #[.pointer (some ⟨b,0,none⟩),.int .i64 n] w fun e w'=>e=.returned (.tuple #[])/\(Lib.BuilderAt 254 5 B b (.pointer (some ⟨b,0,none⟩)) [] w'/\Below B w w'):=by
 have hbk1:(w.setCell ⟨b,0,none⟩ (.pointer (some ⟨b,0,none⟩))).heap[b]?=some (.cells #[.pointer (some ⟨b,0,none⟩),.slice none 0 0] 254 (0,0)):=by
  simp[World.setCell,aB3,hbk]
 have c1:(w.setCell ⟨b,0,none⟩ (.pointer (some ⟨b,0,none⟩))).cell? ⟨b,1,none⟩=some (.slice none 0 0):=by rw[Lib.cell_of_heap hbk1];rfl
 have hb1:Below B w (w.setCell ⟨b,0,none⟩ (.pointer (some ⟨b,0,none⟩))):=(Below.refl B w).setCell (p:=⟨b,0,none⟩) hB _;have hU:Lib.BuilderAt 254 5 B b (.pointer (some ⟨b,0,none⟩)) [] (w.setCell ⟨b,0,none⟩ (.pointer (some ⟨b,0,none⟩))):=⟨hB,.slice none 0 0,hbk1,World.ownsRow_nil _ _ _ _,by simp[Value.ownBlock]⟩
 have c1':(w.setCell ⟨b,0,none⟩ (.pointer (some ⟨b,0,none⟩))).drew.cell? ⟨b,1,none⟩=some (.slice none 0 0):=c1;have hn0:¬((n:Int)<0):=by omega
 go_enter Tryz.func229,Tryz.ntmps229
 go_wp2_with (refine(Jh b w (by rw[Lib.cell_of_heap hbk];rfl) (by simp[World.shape?,hbk]) (Lib.frozen_of_heap hbk 0)).mono ?_;rintro e w' ⟨rfl,rfl⟩)
 go_region
 all_goals go_wp2_with (refine(aeL B b n (w.setCell ⟨b,0,none⟩ (.pointer (some ⟨b,0,none⟩))).drew hB hbk1 (by simpa[World.setCell,World.drew,-World.drew_eq]using hBw) hn).mono ?_;rintro e w' ⟨rfl,h1,h2⟩)
 all_goals first
  |(go_end0;exact⟨rfl,h1,hb1.drew.trans h2⟩)
  |(go_end0;exact⟨rfl,hU.drew,hb1.drew⟩)
open Go.RowKit Go.Shelf Go.Lib Go.Ev
def akA(c:Nat)(r:Option (AV×St)):Bool:=
 match r with
 |some (.tup [.int .u64 (.ofNat 0),.int .u64 (.ofNat d)],[])=>Nat.beq d c
 |_=>false
def akB{c:Nat}{r:Option (AV×St)}(h:akA c r=true):r=some (.tup [.int .u64 (0:Nat),.int .u64 (c:Nat)],[]):=by
 unfold akA at h;split at h
 ·rename_i d;have:=at7 h;subst this;rfl
 ·cases h
def apt:(List.range 64).all (fun c=>akA c (evF (iy Tryz.prog (fun _=>none) (fun _=>false) (fun _=>none)) 100 227 [.int .u64 1,.int .u64 (Int.ofNat c)] []))=true:=by kernel_rfl
def aqK:IV Tryz.prog 227:=⟨_,Tryz.func227,by decide,rfl⟩
def zQ:Tryz.prog.follows .mixedOrders=true:=by kernel_rfl
def bits_Mul(c:Nat)(hc:c<64)(w:World):Calls Tryz.prog 227 #[.int .u64 1,.int .u64 c] w fun e w'=>e=.returned (.tuple #[.int .u64 0,.int .u64 c])/\Below w.heap.size w w':=by
 have h:=akB (a90.mp apt c (ay9.mpr hc));exact acr zQ aqK h w [.int .u64 1,.int .u64 c] _ (fun g=>.cons _ _ _ _ (.int _ _) (.cons _ _ _ _ (.int _ _) .nil)) (fun g v2 hv=>by
  cases hv with
  |tup l l' hs=>
   cases hs with
   |cons _ _ _ _ a b=>
    cases a;cases b with
    |cons _ _ _ _ a b=>
     cases a;cases b;rfl)
set_option maxHeartbeats 4000000 in
def adC (c:Nat) (w:World) (hc2:2<=c) (hc:c<64):
  Calls Tryz.prog 169 #[.string ⟨#[0]⟩,.int .i64 c] w fun e w'=>e=.returned (.string ⟨(List.replicate c (0:UInt8)).toArray⟩)/\Below w.heap.size w w':=by
 have hMul:=bits_Mul c hc w;have k0:¬((c:Int)=0):=by omega
 have k1:¬((c:Int)=1):=by omega
 have k2:¬((c:Int)<0):=by omega
 have k3:¬((c:Int)>9223372036854775807):=by omega
 have k4:¬((c:Int)>8192):=by omega
 have wu:IntKind.u64.wrap (c:Int)=c:=by unfold IntKind.wrap;simp[IntKind.signed,IntKind.bits];omega
 have wi:IntKind.i64.wrap (c:Int)=c:=by rw[IntKind.wrap_i64];omega
 go_enter Tryz.func169,Tryz.ntmps169
 go_wp2_with (refine hMul.mono ?_;rintro e W0 ⟨rfl,hb0⟩)
 have b0:Below w.heap.size w (W0.alloc (.cells #[.pointer none,.slice none 0 0] 254)):=hb0.alloc hb0.size _;refine(aed W0.heap.size W0.heap.size c (W0.alloc (.cells #[.pointer none,.slice none 0 0] 254)) (a06 _) (heap_alloc_new W0 _) ((Below.refl W0.heap.size W0).alloc (a06 _) _).size (by omega)).mono ?_
 rintro e W1 ⟨rfl,h1,b1⟩;have hB0:=hb0.size;have hB1:W0.heap.size<=W1.heap.size:=ax7 ((Below.refl W0.heap.size W0).alloc (a06 _) _).size b1.size
 go_wp2_with (refine(NI W0.heap.size W0.heap.size [] ⟨#[0]⟩ W1 (Lib.IsBuilderF.of (Or.inr h1)) (by simp[ByteArray.size]) hB1).mono ?_;rintro e W2 ⟨rfl,h2,b2⟩)
 have h2':Lib.IsBuilderF 254 5 W0.heap.size W0.heap.size (Lib.byteCells (List.replicate 1 0)) W2:=Or.inr h2;have b02:Below w.heap.size w W2:=b0.trans ((b1.mono hB0).trans (b2.mono hB0));have hs2:W0.heap.size<=W2.heap.size:=ax7 hB1 b2.size;clear h2 h1 b0 b1 b2 hMul
 go_loopg [] (c-1) (fun g wx=>∃q:Nat,1<=q/\q+g=c/\Lib.IsBuilderF 254 5 W0.heap.size W0.heap.size (Lib.byteCells (List.replicate q 0)) wx/\Below w.heap.size w wx/\W0.heap.size<=wx.heap.size)
 case atStart=>exact⟨1,a06 _,by omega,h2',b02,hs2⟩
 case round=>
  obtain⟨q,hq1,hqg,hB,hbx,hsx⟩:=hrel;have hlq:(Lib.byteCells (List.replicate q (0:UInt8))).length=q:=by simp[Lib.byteCells]
  have cLen:=Any.Builder_Len_f Tryz.lays170 W0.heap.size W0.heap.size _ wr hB;rw[hlq]at cLen;have cStr:=Any.Builder_String_any_f Tryz.lays169 Tryz.Builder_Extra_169 W0.heap.size W0.heap.size (List.replicate q 0) wr hB hsx;obtain⟨S,hS⟩:∃S:ByteArray,(⟨(List.replicate q (0:UInt8)).toArray⟩:ByteArray)=S:=⟨_,rfl⟩;have hSz:S.size=q:=by rw[<-hS];simp[ByteArray.size]
  rw[hS]at cStr;cases gk with
  |zero=>
   obtain rfl:q=c:=by omega
   have hQn:¬((q:Int)<(q:Int)):=by omega
   go_wp2_with (first
    |(refine cLen.mono ?_;rintro e w' ⟨rfl,hw⟩;rw[hw])
    |(refine cStr.mono ?_;rintro e W3 ⟨rfl,h3,b3⟩))
   go_ret
   exact⟨by rw[hS]<;>rfl,hbx.trans (b3.mono hB0)⟩
  |succ g=>
   have hQn:(q:Int)<(c:Int):=by omega
   obtain⟨k,hk⟩:∃k,k=min (c-q) q:=⟨_,rfl⟩;have hk1:1<=k:=by omega
   have hmin3:∀(ts:Array TypeId) (t:TypeId) (W:World),(Builtin.min_ ts t #[.int .i64 ((c:Int)-(q:Int)),.int .i64 (q:Int),.int .i64 (c:Int)]).run Tryz.prog W=.ok (.int .i64 (k:Int)) W:=fun ts t W=>by
    rw[run_min_int3]
    congr 2
    omega
   have hkq:k<=q:=by omega
   have hkc:q+k<=c:=by omega
   clear hk
   go_wp2_with (first
    |(refine cLen.mono ?_;rintro e w' ⟨rfl,hw⟩;rw[hw])
    |(refine cStr.mono ?_;rintro e W3 ⟨rfl,h3,b3⟩))
   have hex:(S.extract 0 k)=⟨(List.replicate k (0:UInt8)).toArray⟩:=by
    rw[<-hS];apply ByteArray.ext;rw[ByteArray.data_extract];apply az3;simp[az7 hkq]
   have hexs:(S.extract 0 k).size=k:=by rw[hex];simp[ByteArray.size]
   have cWr:=NI W0.heap.size W0.heap.size _ (S.extract 0 k) W3 h3 (by rw[hlq,hexs];omega) (ax7 hsx b3.size)
   go_wp2_with (go_fit cWr;rintro e W4 ⟨rfl,h4,b4⟩)
   go_roundg (c-(q+k))
   case measure=>omega
   case rel=>
    refine⟨q+k,by omega,by omega,Or.inr ?_,hbx.trans ((b3.mono hB0).trans (b4.mono hB0)),ax7 hsx (ax7 b3.size b4.size)⟩
    rw[Lib.strCells_eq,<-Lib.byteCells_append,hex]at h4;rw[List.replicate_append_replicate.symm];exact h4
def afh (c:Nat) (w:World) (hc:c<64):
  Calls Tryz.prog 169 #[.string ⟨#[0]⟩,.int .i64 c] w fun e w'=>e=.returned (.string ⟨(List.replicate c (0:UInt8)).toArray⟩)/\Below w.heap.size w w':=by
 match c,hc with
 |0,_=>
  go_enter Tryz.func169,Tryz.ntmps169
  go_wp2
  go_ret
  exact⟨rfl,Below.refl _ _⟩
 |1,_=>
  go_enter Tryz.func169,Tryz.ntmps169
  go_wp2
  go_ret
  exact⟨rfl,Below.refl _ _⟩
 |c+2,hc=>exact adC (c+2) w (by omega) hc
def ajA:IV Tryz.prog 169:=⟨_,Tryz.func169,by decide,rfl⟩
def yZ(args:LA)(O:St):Option (AV×St):=
 match args with
 |[.str s,.int .i64 (.ofNat n)]=>match s with
  |[b]=>match Nat.beq b.toNat 0 with
   |true=>match Nat.blt n 64 with
    |true=>some (.str (List.replicate n 0),O)
    |false=>none
   |false=>none
  |_=>none
 |_=>none
def LK{C:Ctx}(hP:C.P=Tryz.prog):POK C 169 yZ:=by
 intro args O v O' h g w args' ha hw hg;unfold yZ at h;split at h
 ·rename_i s n;split at h
  ·rename_i b;split at h
   ·rename_i hb;have hb:b=0:=UInt8.toNat_inj.mp (at7 hb);subst hb;split at h
    ·rename_i hn;have hn:n<64:=av8 hn;simp only[a05,av6]at h;obtain⟨rfl,rfl⟩:=h;cases ha with
     |cons _ v1 _ l1 x y=>
      cases y with
      |cons _ v2 _ l2 x2 y2=>
       cases y2;cases x;cases x2;refine CQ (by rw[hP];exact ajA) ?_
       rw[hP];exact(afh n w hn).mono fun e w2 ⟨he2,hw2⟩=>⟨_,he2,g,uJ hw hw2,.str _⟩
    ·cases h
   ·cases h
  ·cases h
 ·cases h
open Go.Ev Go.RowKit
noncomputable section
noncomputable def ints(k:IntKind)(l:List Nat):LA:=l.map fun n=>.int k (.ofNat n)
noncomputable def glT(g:Nat):Option LA:=
 match Nat.beq g CX with
 |true=>some (ofBytes hexDigits)
 |false=>match Nat.beq g wG with
  |true=>some (hI.map iw)
  |false=>match Nat.beq g sF with
   |true=>some (kR.map iw)
   |false=>match Nat.beq g Bj with
    |true=>some [.str [114,111,111,116],.str [115,110,97,112,115,104,111,116],.str [116,97,114,103,101,116,115]]
    |false=>match Nat.beq g tZ with
     |true=>some (ints .i64 [0,31,59,90,120,151,181,212,243,273,304,334,365])
     |false=>match Nat.beq g qM with
      |true=>some (ints .u64 [1,10,100,1000,10000,100000,1000000,10000000,100000000,1000000000,10000000000,100000000000,1000000000000,10000000000000,100000000000000,1000000000000000,10000000000000000,100000000000000000,1000000000000000000,10000000000000000000])
      |false=>none
noncomputable def UI(f:FuncId):Option (LA->St->Option (AV×St)):=match Nat.beq f nH with
 |true=>some yZ
 |false=>none
noncomputable def CC:Ctx:=iy Tryz.prog glT (fun _=>false) UI
def iY:∀n l,CC.gl n=some l->ae 0 l=true:=by
 intro n l h;change glT n=some l at h;unfold glT at h;repeat' split at h
 all_goals first
  |(cases h;done)
  |(simp only[a05]at h;subst h;kernel_rfl)
def am4:Sr CC:=by
 intro f h hh;change UI f=some h at hh;unfold UI at hh;split at hh
 ·rename_i hf;have:=at7 hf;subst this;cases hh;exact LK (C:=CC) rfl
 ·cases hh
def aam:dW CC (ai CC):=LX zQ (yg _ _ _ _) am4
noncomputable def CR:Ctx:=iy Tryz.prog glT (fun _=>true) (fun _=>none)
def aqo(n:Nat):dW CR (evF CR n):=Jm zQ (yg _ _ _ _) (fun f h hh=>by simp[iy]at hh) n
def LJ{f:FuncId}(h1:lI (evF CR 100 f [.nils] []) .nils=true)(h2:lI (evF CR 100 f [.emp] []) (.xsl 0 [])=true):POK CC f H9:=OO (C:=CR) (aqo 100) iY h1 h2
def ok0:Ok []:=rfl
def Oz{f:FuncId}{K:KF}(h1:cF Tryz.prog f=some K.forget:=by kernel_rfl)(h2:QB Tryz.prog f=true:=by kernel_rfl)(h3:K.ok=true:=by kernel_rfl)(hp:UI f=none:=by exact rfl):Has CC f K:=abb h1 h2 h3 hp rfl
def afn:N8 CC where
 new:=Oz
 sum:=Oz
 write:=Oz
 mix:=Oz
 rot:=Oz
 sumF:=Oz
 digest:=Oz
 encode:=Oz
 gr:=rfl
 gi:=rfl
 gd:=rfl
 rep:=fun n hn O=>by
  have hp:CC.prim nH=some yZ:=rfl;rw[abJ];unfold WZ;rw[hp];have hb:Nat.blt n 64=true:=aA1 hn;change yZ [.str [0],.int .i64 (.ofNat n)] O=_;unfold yZ;simp only[hb];rfl
def apr:aas CC where
 sha:=afn
 block:=Oz
 combine:=Oz
 of:=Oz
 of1:=Oz
 of2:=Oz
def apK:POK CC SS (Rj fun s=>.str (qV s)):=XH aam iY _ fun s hs=>Rx afn s hs [] ok0
def apH:POK CC A8 (agN fun s t=>.str (hmac s t)):=akZ aam iY _ fun s t hs ht=>aks apr s t (by omega) ht [] ok0
def akT:POK CC Jn (Rj fun s=>.bool (s.all Xg)):=XH aam iY _ fun s hs=>apc (Oz) (Oz) s hs []
def abx:POK CC CU (Rj fun s=>.str (vU s)):=XH aam iY _ fun s hs=>hex_Encode afn.encode rfl s hs [] ok0
def apF:POK CC qZ an6:=anb fun args w=>by
 rw[show CC.P=Tryz.prog from rfl,run_callFunc_extern Tryz.func249 (by kernel_rfl) (by kernel_rfl) (by kernel_rfl) (e:=Extern.BytealgCompare.compare) (by kernel_rfl)]
noncomputable def art(c:Nat)(r:Option (AV×St)):Bool:=lI r (.str (List.replicate c 48))
def ank:(List.range 5).all (fun c=>art c (evF (iy Tryz.prog glT (fun _=>false) (fun _=>none)) 1000 169 [.str [48],.int .i64 (Int.ofNat c)] []))=true:=by kernel_rfl
noncomputable def akS(args:LA)(O:St):Option (AV×St):=
 match args with
 |[.str [b],.int .i64 (.ofNat n)]=>match I9 (Nat.beq b.toNat 48) (Nat.ble n 4)with
  |true=>some (.str (List.replicate n 48),O)
  |false=>none
 |_=>none
def ana:POK CC nH akS:=by
 intro args O v O' h g w args' ha hw hg;unfold akS at h;split at h
 ·rename_i b n;split at h
  ·rename_i hb;rw[qi,a01]at hb;have hb1:b=48:=UInt8.toNat_inj.mp (at7 hb.1);have hb2:n<5:=Nat.lt_succ_of_le (av8 hb.2);subst hb1;simp only[a05,av6]at h;obtain⟨rfl,rfl⟩:=h;have hc:dW (iy Tryz.prog glT (fun _=>false) (fun _=>none)) (evF (iy Tryz.prog glT (fun _=>false) (fun _=>none)) 1000):=Jm zQ (yg _ _ _ _) (fun f h hh=>by simp[iy]at hh) 1000
   exact oK hc iY (by rfl) (Ie (a90.mp ank n (ay9.mpr hb2))) ha hw hg
  ·cases h
 ·cases h
end
variable{C:Ctx}
def nmG(hP:C.P=Tryz.prog){f:FuncId}(h:QB Tryz.prog f=true):N7 C f:=by
 rw[<-hP]at h;unfold QB at h;split at h
 ·rename_i fn hfn;exact⟨fn,hfn,by simpa using h⟩
 ·cases h
def cT1:cTF Tryz.prog mY=some Ac:=by kernel_rfl
def cT2:cTF Tryz.prog oQ=some uj:=by kernel_rfl
def cT3:cTF Tryz.prog lG=some lm:=by kernel_rfl
def cT4:cTF Tryz.prog fO=some ig:=by kernel_rfl
def aiL(hP:C.P=Tryz.prog):aoE C TT:=by
 intro f x h;rw[hP];unfold TT at h;split at h
 ·rename_i hb;have:=at7 hb;subst this;cases h;exact⟨cT1,nmG hP (by kernel_rfl)⟩
 ·split at h
  ·rename_i hb;have:=at7 hb;subst this;cases h;exact⟨cT2,nmG hP (by kernel_rfl)⟩
  ·split at h
   ·rename_i hb;have:=at7 hb;subst this;cases h;exact⟨cT3,nmG hP (by kernel_rfl)⟩
   ·split at h
    ·rename_i hb;have:=at7 hb;subst this;cases h;exact⟨cT4,nmG hP (by kernel_rfl)⟩
    ·cases h
def cX1:cCF Tryz.prog gJ=some dQ:=by kernel_rfl
def cX2:cCF Tryz.prog qK=some gX:=by kernel_rfl
def cQ1:cKF Tryz.prog yS=some dw:=by kernel_rfl
def cQ2:cKF Tryz.prog D5=some eY:=by kernel_rfl
def agQ(hP:C.P=Tryz.prog)(call:aZ)(hc:dW C call):POK C gJ (xJ C call (mX C call TT 8) dQ dw):=
 aa3 (by rw[hP];exact zQ) (aiL hP) 8 (by rw[hP];exact cX1) (nmG hP (by kernel_rfl)) (by rw[hP];exact cQ1) (nmG hP (by kernel_rfl)) call hc
def agP(hP:C.P=Tryz.prog)(call:aZ)(hc:dW C call):POK C qK (xJ C call (mX C call TT 8) gX eY):=
 aa3 (by rw[hP];exact zQ) (aiL hP) 8 (by rw[hP];exact cX2) (nmG hP (by kernel_rfl)) (by rw[hP];exact cQ2) (nmG hP (by kernel_rfl)) call hc
def vi(n:Int):AV:=.int .i64 n
def vu(n:Int):AV:=.int .u8 n
def ve:AV:=.str []
noncomputable def spL(M:MM):List (FuncId×aap):=[(15,.rel (fun call=>xJ CC call (mX CC call TT 8) dQ dw)),(31,.rel (fun call=>xJ CC call (mX CC call TT 8) gX eY)),(45,.both H9 (kA Tryz.prog 45) true false),(72,.both H9 (kA Tryz.prog 72) true false),(93,.both H9 (kA Tryz.prog 93) true false),(118,.both H9 (kA Tryz.prog 118) true false),(133,.prim (Rj fun s=>.str (vU s))),(134,.prim (orP (memo (M 134)) (agN fun s t=>.str (hmac s t)))),(143,.prim Fb),(144,.prim (Rj fun s=>.str (qV s))),(169,.prim (orP yZ akS)),(189,.prim (Rj fun s=>.bool (s.all Xg))),(196,.prim UF),(249,.prim an6),(260,.prim (Rj (fun s=>.tup [.int .i64 ((zN s).getD 0:Nat),.bool (zN s).isSome]))),(351,.prim akR)]
def aq8{M:MM}(hM:MOK CC M):∀p∈spL M,EOK CC p.1 p.2:=by
 unfold spL;simp only[ay3];exact⟨agQ rfl,agP rfl,⟨LJ (by kernel_rfl) (by kernel_rfl),QP (by kernel_rfl)⟩,⟨LJ (by kernel_rfl) (by kernel_rfl),QP (by kernel_rfl)⟩,⟨LJ (by kernel_rfl) (by kernel_rfl),QP (by kernel_rfl)⟩,⟨LJ (by kernel_rfl) (by kernel_rfl),QP (by kernel_rfl)⟩,abx,akO (hM 134) (apH),aa2 rfl,apK,akO (LK rfl) ana,akT,agO rfl,apF,akU rfl,an9 rfl,fun _ h=>by simp at h⟩
noncomputable def T0(M:MM):Tr2:=tA Tryz.prog (spL M) [32,58,115,117,119,170,173,226,231,241,262,299,300,301,313,319,320,338,349,354] [9,33,61,152] M
def aiK{M:MM}(hM:MOK CC M):anQ CC (T0 M):=⟨arF (aq8 hM) hM,iY⟩
end Go.Proofs.YtpikfmmkcckclaaGreatDoor
