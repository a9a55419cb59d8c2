/- Contracts of functions over this translation. No conditions. -/
import Derived.Shelf.SlSortCmp.WholeK
import Derived.Shelf.Small.Strs
import Derived.Test.YtegpahkgmealkaaGreatDoorProg
import Derived.Test.YtegpahkgmealkaaGreatDoorCE
import Derived.Test.YtegpahkgmealkaaGreatDoorEC
import Derived.Test.YtegpahkgmealkaaGreatDoorTE
import Derived.Test.YtegpahkgmealkaaGreatDoorCD
import Derived.Test.YtegpahkgmealkaaGreatDoorCB
import Derived.Test.YtegpahkgmealkaaGreatDoorTB
set_option linter.unusedVariables false
set_option linter.unusedSimpArgs false
namespace Go.Proofs.YtegpahkgmealkaaGreatDoor
open Go.Shelf Go.Proofs
def Tryz.laysSR_ren:Go.Shelf.Ren:=⟨fun|6=>296|15=>165|14=>310|28=>220|29=>221|20=>320|21=>321|22=>322|23=>323|24=>324|25=>325|26=>326|27=>327|46=>334|47=>267|48=>268|49=>335|50=>336|57=>346|n=>n,fun|22=>359|24=>361|25=>391|3=>3|39=>261|0=>0|53=>328|55=>330|4=>4|46=>322|45=>321|50=>259|5=>5|9=>9|66=>374|70=>214|76=>398|77=>399|n=>n,fun|n=>n⟩
theorem Tryz.laysSR:Go.Proofs.SlLaysF0.n6 Tryz.prog Tryz.laysSR_ren:={
 mixed:=by kernel_rfl
 f6:=⟨Tryz.f296.name,by decide,Tryz.func296.trans (congrArg some (by kernel_rfl))⟩
 f14:=⟨Tryz.f310.name,by decide,Tryz.func310.trans (congrArg some (by kernel_rfl))⟩
 f15:=Tryz.func165.trans (congrArg some (by kernel_rfl))
 f20:=⟨Tryz.f320.name,by decide,Tryz.func320.trans (congrArg some (by kernel_rfl))⟩
 f21:=⟨Tryz.f321.name,by decide,Tryz.func321.trans (congrArg some (by kernel_rfl))⟩
 f22:=⟨Tryz.f322.name,by decide,Tryz.func322.trans (congrArg some (by kernel_rfl))⟩
 f23:=⟨Tryz.f323.name,by decide,Tryz.func323.trans (congrArg some (by kernel_rfl))⟩
 f24:=⟨Tryz.f324.name,by decide,Tryz.func324.trans (congrArg some (by kernel_rfl))⟩
 f25:=⟨Tryz.f325.name,by decide,Tryz.func325.trans (congrArg some (by kernel_rfl))⟩
 f26:=⟨Tryz.f326.name,by decide,Tryz.func326.trans (congrArg some (by kernel_rfl))⟩
 f27:=⟨Tryz.f327.name,by decide,Tryz.func327.trans (congrArg some (by kernel_rfl))⟩
 f28:=Tryz.func220.trans (congrArg some (by kernel_rfl))
 f29:=Tryz.func221.trans (congrArg some (by kernel_rfl))
 f46:=⟨Tryz.f334.name,by decide,Tryz.func334.trans (congrArg some (by kernel_rfl))⟩
 f47:=Tryz.func267.trans (congrArg some (by kernel_rfl))
 f48:=Tryz.func268.trans (congrArg some (by kernel_rfl))
 f49:=⟨Tryz.f335.name,by decide,Tryz.func335.trans (congrArg some (by kernel_rfl))⟩
 f50:=⟨Tryz.f336.name,by decide,Tryz.func336.trans (congrArg some (by kernel_rfl))⟩
 f57:=⟨Tryz.f346.name,by decide,Tryz.func346.trans (congrArg some (by kernel_rfl))⟩
 t0:=Tryz.underlying0
 a0:=Tryz.isAgg0
 z0:=Tryz.sizeOf0
 v0:=Tryz.zeroValue0
 t3:=Tryz.underlying3
 a3:=Tryz.isAgg3
 z3:=Tryz.sizeOf3
 v3:=Tryz.zeroValue3
 t4:=Tryz.underlying4
 a4:=Tryz.isAgg4
 z4:=Tryz.sizeOf4
 v4:=Tryz.zeroValue4
 t5:=Tryz.underlying5
 a5:=Tryz.isAgg5
 z5:=Tryz.sizeOf5
 v5:=Tryz.zeroValue5
 t9:=Tryz.underlying9
 a9:=Tryz.isAgg9
 z9:=Tryz.sizeOf9
 v9:=Tryz.zeroValue9
 t22:=Tryz.underlying359
 a22:=Tryz.isAgg359
 z22:=Tryz.sizeOf359
 v22:=Tryz.zeroValue359
 t25:=Tryz.underlying391
 a25:=Tryz.isAgg391
 z25:=Tryz.sizeOf391
 v25:=Tryz.zeroValue391
 t39:=Tryz.underlying261
 a39:=Tryz.isAgg261
 z39:=Tryz.sizeOf261
 v39:=Tryz.zeroValue261
 t45:=Tryz.underlying321
 a45:=Tryz.isAgg321
 z45:=Tryz.sizeOf321
 v45:=Tryz.zeroValue321
 t46:=Tryz.underlying322
 a46:=Tryz.isAgg322
 z46:=Tryz.sizeOf322
 v46:=Tryz.zeroValue322
 t50:=Tryz.underlying259
 a50:=Tryz.isAgg259
 z50:=Tryz.sizeOf259
 v50:=Tryz.zeroValue259
 t53:=Tryz.underlying328
 a53:=Tryz.isAgg328
 z53:=Tryz.sizeOf328
 v53:=Tryz.zeroValue328
 t55:=Tryz.underlying330
 a55:=Tryz.isAgg330
 z55:=Tryz.sizeOf330
 v55:=Tryz.zeroValue330
 t66:=Tryz.underlying374
 a66:=Tryz.isAgg374
 z66:=Tryz.sizeOf374
 v66:=Tryz.zeroValue374
 t70:=Tryz.underlying214
 a70:=Tryz.isAgg214
 z70:=Tryz.sizeOf214
 v70:=Tryz.zeroValue214
 t76:=Tryz.underlying398
 a76:=Tryz.isAgg398
 z76:=Tryz.sizeOf398
 v76:=Tryz.zeroValue398
 t77:=Tryz.underlying399
 a77:=Tryz.isAgg399
 z77:=Tryz.sizeOf399
 v77:=Tryz.zeroValue399}
def Tryz.laysSM_ren:Go.Shelf.Ren:=⟨fun|6=>105|15=>165|14=>167|28=>220|29=>221|20=>222|21=>223|22=>224|23=>225|24=>226|25=>227|26=>228|27=>229|46=>271|47=>267|48=>268|49=>272|50=>273|57=>305|n=>n,fun|22=>126|24=>132|25=>201|3=>3|39=>261|0=>0|53=>328|55=>330|4=>4|46=>322|45=>321|50=>259|5=>5|9=>9|66=>374|70=>214|76=>398|77=>399|n=>n,fun|n=>n⟩
theorem Tryz.laysSM:Go.Proofs.SlLaysF0.n6 Tryz.prog Tryz.laysSM_ren:={
 mixed:=by kernel_rfl
 f6:=⟨Tryz.f105.name,by decide,Tryz.func105.trans (congrArg some (by kernel_rfl))⟩
 f14:=⟨Tryz.f167.name,by decide,Tryz.func167.trans (congrArg some (by kernel_rfl))⟩
 f15:=Tryz.func165.trans (congrArg some (by kernel_rfl))
 f20:=⟨Tryz.f222.name,by decide,Tryz.func222.trans (congrArg some (by kernel_rfl))⟩
 f21:=⟨Tryz.f223.name,by decide,Tryz.func223.trans (congrArg some (by kernel_rfl))⟩
 f22:=⟨Tryz.f224.name,by decide,Tryz.func224.trans (congrArg some (by kernel_rfl))⟩
 f23:=⟨Tryz.f225.name,by decide,Tryz.func225.trans (congrArg some (by kernel_rfl))⟩
 f24:=⟨Tryz.f226.name,by decide,Tryz.func226.trans (congrArg some (by kernel_rfl))⟩
 f25:=⟨Tryz.f227.name,by decide,Tryz.func227.trans (congrArg some (by kernel_rfl))⟩
 f26:=⟨Tryz.f228.name,by decide,Tryz.func228.trans (congrArg some (by kernel_rfl))⟩
 f27:=⟨Tryz.f229.name,by decide,Tryz.func229.trans (congrArg some (by kernel_rfl))⟩
 f28:=Tryz.func220.trans (congrArg some (by kernel_rfl))
 f29:=Tryz.func221.trans (congrArg some (by kernel_rfl))
 f46:=⟨Tryz.f271.name,by decide,Tryz.func271.trans (congrArg some (by kernel_rfl))⟩
 f47:=Tryz.func267.trans (congrArg some (by kernel_rfl))
 f48:=Tryz.func268.trans (congrArg some (by kernel_rfl))
 f49:=⟨Tryz.f272.name,by decide,Tryz.func272.trans (congrArg some (by kernel_rfl))⟩
 f50:=⟨Tryz.f273.name,by decide,Tryz.func273.trans (congrArg some (by kernel_rfl))⟩
 f57:=⟨Tryz.f305.name,by decide,Tryz.func305.trans (congrArg some (by kernel_rfl))⟩
 t0:=Tryz.underlying0
 a0:=Tryz.isAgg0
 z0:=Tryz.sizeOf0
 v0:=Tryz.zeroValue0
 t3:=Tryz.underlying3
 a3:=Tryz.isAgg3
 z3:=Tryz.sizeOf3
 v3:=Tryz.zeroValue3
 t4:=Tryz.underlying4
 a4:=Tryz.isAgg4
 z4:=Tryz.sizeOf4
 v4:=Tryz.zeroValue4
 t5:=Tryz.underlying5
 a5:=Tryz.isAgg5
 z5:=Tryz.sizeOf5
 v5:=Tryz.zeroValue5
 t9:=Tryz.underlying9
 a9:=Tryz.isAgg9
 z9:=Tryz.sizeOf9
 v9:=Tryz.zeroValue9
 t22:=Tryz.underlying126
 a22:=Tryz.isAgg126
 z22:=Tryz.sizeOf126
 v22:=Tryz.zeroValue126
 t25:=Tryz.underlying201
 a25:=Tryz.isAgg201
 z25:=Tryz.sizeOf201
 v25:=Tryz.zeroValue201
 t39:=Tryz.underlying261
 a39:=Tryz.isAgg261
 z39:=Tryz.sizeOf261
 v39:=Tryz.zeroValue261
 t45:=Tryz.underlying321
 a45:=Tryz.isAgg321
 z45:=Tryz.sizeOf321
 v45:=Tryz.zeroValue321
 t46:=Tryz.underlying322
 a46:=Tryz.isAgg322
 z46:=Tryz.sizeOf322
 v46:=Tryz.zeroValue322
 t50:=Tryz.underlying259
 a50:=Tryz.isAgg259
 z50:=Tryz.sizeOf259
 v50:=Tryz.zeroValue259
 t53:=Tryz.underlying328
 a53:=Tryz.isAgg328
 z53:=Tryz.sizeOf328
 v53:=Tryz.zeroValue328
 t55:=Tryz.underlying330
 a55:=Tryz.isAgg330
 z55:=Tryz.sizeOf330
 v55:=Tryz.zeroValue330
 t66:=Tryz.underlying374
 a66:=Tryz.isAgg374
 z66:=Tryz.sizeOf374
 v66:=Tryz.zeroValue374
 t70:=Tryz.underlying214
 a70:=Tryz.isAgg214
 z70:=Tryz.sizeOf214
 v70:=Tryz.zeroValue214
 t76:=Tryz.underlying398
 a76:=Tryz.isAgg398
 z76:=Tryz.sizeOf398
 v76:=Tryz.zeroValue398
 t77:=Tryz.underlying399
 a77:=Tryz.isAgg399
 z77:=Tryz.sizeOf399
 v77:=Tryz.zeroValue399}
def Tryz.laysCmp_ren:Go.Shelf.Ren:=⟨fun|106=>107|213=>168|265=>230|n=>n,fun|9=>9|3=>3|n=>n,fun|n=>n⟩
theorem Tryz.laysCmp:Go.Proofs.Lays.n106 Tryz.prog Tryz.laysCmp_ren:={
 mixed:=by kernel_rfl
 f106:=Tryz.func107.trans (congrArg some (by kernel_rfl))
 f213:=Tryz.func168.trans (congrArg some (by kernel_rfl))
 f265:=Tryz.func230.trans (congrArg some (by kernel_rfl))
 t3:=Tryz.underlying3
 a3:=Tryz.isAgg3
 z3:=Tryz.sizeOf3
 v3:=Tryz.zeroValue3
 t9:=Tryz.underlying9
 a9:=Tryz.isAgg9
 z9:=Tryz.sizeOf9
 v9:=Tryz.zeroValue9}
open Go.Ev Go.RowKit Go.Shelf Go.Proofs Go.Lib Go.Sort
set_option maxRecDepth 100000
theorem aju:EG Tryz.prog 296:=⟨_,Tryz.func296,by decide,rfl⟩
theorem ajt:EG Tryz.prog 105:=⟨_,Tryz.func105,by decide,rfl⟩
theorem five{u:List Value}(h:u.length=5):∃a b c d e,u=[a,b,c,d,e]:=by
 match u,h with
 |[a,b,c,d,e],_=>exact⟨a,b,c,d,e,rfl⟩
set_option maxHeartbeats 1000000 in
theorem apd(x y:LU)(u v:List Value)(W:World)(hu:u.length=5)(hv:v.length=5):Calls Tryz.prog 297 #[.agg (.string ⟨⟨x⟩⟩::u).toArray,.agg (.string ⟨⟨y⟩⟩::v).toArray] W fun e w'=>e=.returned (.int .i64 (compareBytes x y))/\∃q os',w'=grow (W.drewN q) os':=by
 obtain⟨a1,a2,a3,a4,a5,rfl⟩:=five hu;obtain⟨b1,b2,b3,b4,b5,rfl⟩:=five hv;have hcon:=fun W'=>Any.strings_Compare Tryz.laysCmp ⟨⟨x⟩⟩ ⟨⟨y⟩⟩ W';change∀W',Calls Tryz.prog 107 _ _ (fun e w'=>e=.returned (.int .i64 (compareBytes x y))/\w'=W')at hcon;generalize compareBytes x y=r at hcon⊢
 go_enter Tryz.func297,Tryz.ntmps297
 go_wp2_with (go_at_call 107;refine(hcon _).mono ?_;rintro e w' ⟨rfl,rfl⟩)
 go_ret
 exact⟨rfl,0,_,by rw[alloc_eq_grow,alloc_eq_grow,grow_grow];rfl⟩
set_option maxHeartbeats 1000000 in
theorem apc(x y:LU)(u v:List Value)(W:World)(hu:u.length=5)(hv:v.length=5):Calls Tryz.prog 106 #[.agg (.string ⟨⟨x⟩⟩::u).toArray,.agg (.string ⟨⟨y⟩⟩::v).toArray] W fun e w'=>e=.returned (.int .i64 (compareBytes x y))/\∃q os',w'=grow (W.drewN q) os':=by
 obtain⟨a1,a2,a3,a4,a5,rfl⟩:=five hu;obtain⟨b1,b2,b3,b4,b5,rfl⟩:=five hv;have hcon:=fun W'=>Any.strings_Compare Tryz.laysCmp ⟨⟨x⟩⟩ ⟨⟨y⟩⟩ W';change∀W',Calls Tryz.prog 107 _ _ (fun e w'=>e=.returned (.int .i64 (compareBytes x y))/\w'=W')at hcon;generalize compareBytes x y=r at hcon⊢
 go_enter Tryz.func106,Tryz.ntmps106
 go_wp2_with (go_at_call 107;refine(hcon _).mono ?_;rintro e w' ⟨rfl,rfl⟩)
 go_ret
 exact⟨rfl,0,_,by rw[alloc_eq_grow,alloc_eq_grow,grow_grow];rfl⟩
variable{C:Ctx}(hP:C.P=Tryz.prog)
 include hP
theorem ai0:POK C 296 (Pv 297):=by
 refine adE (C:=C) (ρ:=Tryz.laysSR_ren) (hP▸Tryz.laysSR) rfl (hP▸aju) ?_ ?_ ?_ ?_
 ·rw[hP];exact Tryz.isAgg361
 ·rw[hP];exact Tryz.sizeOf361
 ·rw[hP];exact enters_of Tryz.func297 (by kernel_rfl) rfl
 ·rw[hP];exact apd
theorem ahZ:POK C 105 (Pv 106):=by
 refine adE (C:=C) (ρ:=Tryz.laysSM_ren) (hP▸Tryz.laysSM) rfl (hP▸ajt) ?_ ?_ ?_ ?_
 ·rw[hP];exact Tryz.isAgg132
 ·rw[hP];exact Tryz.sizeOf132
 ·rw[hP];exact enters_of Tryz.func106 (by kernel_rfl) rfl
 ·rw[hP];exact apc
end Go.Proofs.YtegpahkgmealkaaGreatDoor
namespace Go.Proofs.YtegpahkgmealkaaGreatDoor
open Go.Ev Go.RowKit
set_option maxRecDepth 1000000
noncomputable section
abbrev OC:=LA->St->Option (AV×St)
def prL:List (FuncId×OC)->FuncId->Option OC
 |[],_=>none
 |(g,h)::l,f=>match Nat.beq f g with
  |true=>some h
  |false=>prL l f
theorem abQ{C:Ctx}:∀{l:List (FuncId×OC)},(∀p∈l,POK C p.1 p.2)->∀f h,prL l f=some h->POK C f h
 |[],_,f,h,e=>by cases e
 |(g,k)::l,hl,f,h,e=>by
  unfold prL at e;split at e
  ·rename_i hb;have:=Nat.eq_of_beq_eq_true hb;subst this;cases e;exact hl (f,k) (by simp)
  ·exact abQ (fun p hp=>hl p (by simp[hp])) f h e
theorem kJ{C:Ctx}{f:FuncId}{h:OC}(hp:C.prim f=some h)(args:LA)(O:St):ai C f args O=h args O:=by
 rw[Ym];unfold SA;rw[hp]
theorem ai1{C D:Ctx}(hP:D.P=C.P)(hg:∀n l,C.gl n=some l->D.gl n=some l)(hn:C.np=true){f:FuncId}{p:OC}(h:POK C f p):POK D f p:=by
 intro args O v O' h1 g w args' ha hw hgl;rw[hP];exact h args O v O' h1 g w args' ha hw ⟨fun n l hl=>hgl.1 n l (hg n l hl),.inl hn⟩
def CL0:Ctx:={CC with np:=true}
theorem alg:aaI CL0:=fun f x h=>uK Tryz.prog glT (fun _=>false) TL f x h
theorem aft:Jd CL0:=by
 intro f h hh;change TL f=some h at hh;unfold TL at hh;split at hh
 ·rename_i hf;have:=Nat.eq_of_beq_eq_true hf;subst this;cases hh;exact Ht (C:=CL0) rfl
 ·cases hh
theorem acj:fO CL0 (ai CL0):=H7 Ap alg aft
def CR1:Ctx:={CR with np:=true}
theorem aaH(n:Nat):fO CR1 (evF CR1 n):=EY (C:=CR1) Ap (fun f x h=>uK Tryz.prog glT (fun _=>true) (fun _=>none) f x h) (fun f h hh=>by simp[CR1,CR,gX]at hh) n
theorem anT{f:FuncId}{K:KF}(h:Has CC f K):Has CL0 f K:=⟨h.fs,h.prim,h.raw,h.ok⟩
def isS:AV->Bool
 |.str _=>true
 |_=>false
def TG(args:LA)(O:St):Option (AV×St):=
 match args with
 |[.sl n l]=>match Jf (Jf (Nat.beq l.length n) (Nat.ble n 8192)) (l.all isS)with
  |true=>some (.sl n l,O)
  |false=>none
 |_=>none
theorem adg:∀{l:LA},l.all isS=true->∃ns:List LU,l=ns.map .str
 |[],_=>⟨[],rfl⟩
 |a::l,h=>by
  rw[List.all_cons,Bool.and_eq_true]at h;obtain⟨ns,rfl⟩:=adg h.2;cases a with
  |str s=>exact⟨s::ns,rfl⟩
  |_=>cases h.1
theorem ahX:POK CL0 dS TG:=by
 intro args O v O' h g w args' ha hw hg;unfold TG at h;split at h
 ·rename_i n l;split at h
  ·rename_i hb;rw[qy,Bool.and_eq_true,qy,Bool.and_eq_true]at hb;have hl:=Nat.eq_of_beq_eq_true hb.1.1;have hn:=Nat.le_of_ble_eq_true hb.1.2;cases h;by_cases h0:n=0
   ·subst h0;have:l=[]:=List.length_eq_zero_iff.mp hl;subst this;exact JC (C:=CR1) (aaH 100) gV (by kernel_rfl) (by kernel_rfl) [.sl 0 []] O _ _ rfl g w args' ha hw hg
   ·obtain⟨ns,rfl⟩:=adg hb.2;have hl:ns.length=n:=by simpa using hl
    subst hl;refine mi acj gV ?_ (ab6 (C:=CL0) (anT (XK (by kernel_rfl) (by kernel_rfl) (by kernel_rfl) rfl rfl)) ns (by omega) hn [] ok0) ha hw hg
    rw[ae,below,ny];rfl
  ·cases h
 ·cases h
theorem aih:fF (evF CR1 3000 uD [] []) (.agg vP)=true:=by kernel_rfl
def Ya(args:LA)(O:St):Option (AV×St):=match args with|[]=>some (.agg vP,O)|_=>none
theorem ahW:POK CL0 uD Ya:=by
 intro args O v O' h g w args' ha hw hg;unfold Ya at h;split at h
 ·cases h;exact mi (C:=CR1) (aaH 3000) gV rfl (Ea aih) ha hw hg
 ·cases h
def glX(u1 u2:TypeId)(g:Nat):Option LA:=match Nat.beq g pO with
 |true=>some [.iface u1 (.eptr [])]
 |false=>match Nat.beq g nX with
  |true=>some [.iface u2 (.eptr [])]
  |false=>glT g
def aac(f:FuncId):Bool:=match Nat.beq f bQ with
 |true=>true
 |false=>match Nat.beq f xw with
  |true=>true
  |false=>Nat.beq f dw
def amB:OC:=MO (fun s=>.tup [.int .i64 ((wQ s).getD 0:Nat),.bool (wQ s).isSome])
def IL:List (FuncId×OC):=[(iJ,Pq),(fV,BB),(kX,vO),(dU,Pv yF),(ji,Pv Bh),(dS,TG),(uD,Ya),(Af,aeZ),(Vy,amB)]
def C0(u1 u2:TypeId):Ctx:={gX Tryz.prog (glX u1 u2) aac (prL IL)with np:=true}
variable{u1 u2:TypeId}
theorem akH:∀n l,glT n=some l->glX u1 u2 n=some l:=by
 intro n l h;unfold glX;split
 ·rename_i hb;have:=Nat.eq_of_beq_eq_true hb;subst this;rw[show glT pO=none by kernel_rfl]at h
  cases h
 ·split
  ·rename_i hb;have:=Nat.eq_of_beq_eq_true hb;subst this;rw[show glT nX=none by kernel_rfl]at h
   cases h
  ·exact h
theorem ae8:∀n l,(C0 u1 u2).gl n=some l->ae 0 l=true:=by
 intro n l h;change glX u1 u2 n=some l at h;unfold glX at h;split at h
 ·cases h;rfl
 ·split at h
  ·cases h;rfl
  ·exact gV n l h
theorem anp:aaI (C0 u1 u2):=fun f x h=>uK Tryz.prog (glX u1 u2) aac (prL IL) f x h
theorem aiU:Jd (C0 u1 u2):=by
 have tr:∀{f p},POK CL0 f p->POK (C0 u1 u2) f p:=fun h=>ai1 (C:=CL0) (D:=C0 u1 u2) rfl (fun n l hl=>akH n l hl) rfl h;have hP:(C0 u1 u2).P=Tryz.prog:=rfl;have h:=abQ (C:=C0 u1 u2) (l:=IL) (by
  unfold IL;simp only[List.forall_mem_cons];exact⟨adD hP,Wv hP,Ht hP,ai0 hP,ahZ hP,tr ahX,tr ahW,amF hP rfl rfl rfl rfl,ahV hP,fun _ h=>by simp at h⟩)
 exact h
theorem EF:fO (C0 u1 u2) (ai (C0 u1 u2)):=H7 Ap anp aiU
theorem has{f:FuncId}{K:KF}(h1:cF Tryz.prog f=some K.forget:=by kernel_rfl)(h2:UR Tryz.prog f=true:=by kernel_rfl)(h3:K.ok=true:=by kernel_rfl)(hp:prL IL f=none:=by exact rfl)(hr:aac f=false:=by exact rfl):Has (C0 u1 u2) f K:=by
 refine⟨?_,hp,hr,h3⟩;show(gX Tryz.prog (glX u1 u2) aac (prL IL)).fs f=_;simp only[gX,h2,h1]
theorem alZ{f:FuncId}{K:KF}(h1:cF Tryz.prog f=some K.forget:=by kernel_rfl)(h2:UR Tryz.prog f=true:=by kernel_rfl)(h3:K.ok=true:=by kernel_rfl)(hp:prL IL f=none:=by exact rfl)(hr:aac f=true:=by exact rfl):W9 (C0 u1 u2) f K:=by
 refine⟨?_,hp,hr,h3⟩;show(gX Tryz.prog (glX u1 u2) aac (prL IL)).fs f=_;simp only[gX,h2,h1]
theorem apg{f:FuncId}(h:QQ Tryz.prog f=true)(hp:prL IL f=none)(hr:aac f=false):Has (C0 u1 u2) f (kA Tryz.prog f):=by
 have k:=ajy (gl:=glX u1 u2) h hp hr;exact⟨k.fs,k.prim,k.raw,k.ok⟩
end
section
variable{u1 u2:TypeId}
theorem amA(s:LU)(Y:St)(h:s.length<=1099511627776):∃(n:Int) (v:AV),aeZ [.str s,.int .i64 10,.int .i64 64] Y=some (.tup [.int .i64 n,v],Y)/\(v=.nilIface\/∃t x,v=.iface t x):=by
 unfold aeZ;dsimp only;rw[if_pos ⟨rfl,rfl,h⟩];split
 ·exact⟨_,_,rfl,.inl rfl⟩
 ·exact⟨_,_,rfl,.inr ⟨_,_,rfl⟩⟩
 ·exact⟨_,_,rfl,.inr ⟨_,_,rfl⟩⟩
end
theorem Vh:∀s:LU,EP (ofBytes s)=some s
 |[]=>rfl
 |a::s=>by
  have h:=Vh s;have hb:Nat.ble a.toNat 255=true:=Nat.ble_eq_true_of_le (Nat.le_of_lt_succ (UInt8.toNat_lt a));show EP (.int .u8 (.ofNat a.toNat)::ofBytes s)=_;unfold EP;simp only[hb,h];simp
section
variable(u1 u2:TypeId)
theorem ajW:acm (C0 u1 u2):=fun s Y hs hτ=>by
 obtain⟨n,v,h1,h2⟩:=amA s Y (by omega)
 exact⟨n,v,(kJ (h:=aeZ) rfl _ _).trans h1,h2⟩
theorem amq:aaL (C0 u1 u2):=fun s i Y hs hi hτ=>ahH (has) (has) (ajW u1 u2) s (by omega) i hi Y hτ
theorem afP:BldHas (C0 u1 u2)where
 copy0:=fun O o b h=>by
  rw[kJ (h:=Pq) rfl];simp only[Pq,h,bT]
 copy1:=fun O o b h=>by
  rw[kJ (h:=Pq) rfl];have e:=Nat.beq_refl o;simp only[Pq,h,bT,e]
 str0:=fun O o p h=>by
  rw[kJ (h:=BB) rfl];simp only[BB,h,bT]
 str1:=fun O o q p w h k hw hl=>by
  rw[kJ (h:=BB) rfl];cases w with
  |nil=>exact absurd rfl hw
  |cons b s=>
   have e:=Vh (b::s);have e1:Nat.beq (b::s).length (b::s).length=true:=Nat.beq_refl _;have e2:Nat.ble (b::s).length 1099511627776=true:=Nat.ble_eq_true_of_le hl;simp only[bT,uT]at k h;simp only[BB,h,k,e,qy,e1,e2,Bool.and_self]
 wstr:=has
 wbyte:=has
theorem abR:yE (C0 u1 u2)where
 toBldHas:=afP u1 u2
 lead:=has
 next:=has
 put:=has
 digit:=has
 number:=has
 four:=has
 coded:=has
 dec:=has
 dec1:=has
 dec11:=has
 item:=has
 blen:=has
 read:=has
 quote:=has
 valid:=has
 dig:=fun s i O=>by
  rw[Hg (has) s i O];cases LY s i<;>exact⟨_,_,rfl⟩
 len:=fun s O h=>by
  rw[kJ (h:=amB) rfl];unfold amB MO;dsimp only;rw[if_pos (Nat.ble_eq_true_of_le (by omega))]
  exact⟨_,_,rfl⟩
theorem amK:Xg (C0 u1 u2):=ak3 (abR u1 u2)
theorem aii:YM (C0 u1 u2):=fun Y hτ=>by rw[kJ (h:=Ya) rfl];rfl
theorem akl:AU (C0 u1 u2):=by constructor<;>exact has
theorem amg:QJ (C0 u1 u2)where
 sign:=akl u1 u2
 skip:=has
 word:=has
 number:=has
 text:=has
 num:=amq u1 u2
 quo:=amK u1 u2
 rules:=aii u1 u2
 token:=has
 next:=has
theorem afo:Gp (C0 u1 u2)where
 lex:=amg u1 u2
 space:=has
 next:=has
 wrong:=has
 expect:=has
 more:=has
 srt:=adU fun args O=>kJ rfl args O
 sorted:=alZ
 member:=has
 object:=has
 list:=has
 value:=has
theorem ag8:QC (C0 u1 u2):=fun ns O hn hσ=>by
 rw[kJ (h:=TG) rfl];have h1:Nat.beq (ns.map AV.str).length ns.length=true:=by rw[List.length_map];exact Nat.beq_refl _
 have h2:=Nat.ble_eq_true_of_le hn;have h3:(ns.map AV.str).all isS=true:=by
  rw[List.all_map,List.all_eq_true];exact fun _ _=>rfl
 unfold TG;simp only[qy,h1,h2,h3,Bool.and_self]
theorem Xw:CopyHas (C0 u1 u2):=⟨ag8 u1 u2,has,has,has⟩
theorem ajq:Qc (C0 u1 u2):=by constructor<;>exact has
theorem ams:Xe (C0 u1 u2)where
 toCopyHas:=Xw u1 u2
 clone:=fun xs h0 hn O hσ=>UQ (alZ) xs h0 hn O hσ
 srt:=adU fun args O=>kJ rfl args O
 of:=has
theorem alX:Nz (C0 u1 u2)where
 len:=has
 log:=has
 b2i:=has
 nd:=has
 gl:=rfl
 fb:=alZ
 small:=has
 int:=has
 fmt:=has
 show_:=has
theorem alP:I7 (C0 u1 u2)where
 toBldHas:=afP u1 u2
 quote:=fun s hs O hσ=>by
  obtain⟨q,e,h1,h2⟩:=TN (abR u1 u2) s O hσ;exact⟨q,e,h1,by omega⟩
 num:=fun n O hσ=>Z9 (alX u1 u2) n O hσ
 enc:=has
 enc1:=has
 enc2:=has
theorem adS:Je (C0 u1 u2)where
 new:=has
 sum:=has
 write:=has
 mix:=has
 rot:=has
 sumF:=has
 digest:=has
 encode:=has
 gr:=rfl
 gi:=rfl
 gd:=rfl
 rep:=fun n hn O=>by
  rw[kJ (h:=vO) rfl];have hb:Nat.blt n 64=true:=Nat.ble_eq_true_of_le hn;change vO [.str [0],.int .i64 (.ofNat n)] O=_;unfold vO;simp only[hb];rfl
theorem ajM:Xb (C0 u1 u2)where
 sha:=adS u1 u2
 block:=has
 combine:=has
 of:=has
 of1:=has
 of2:=has
theorem aaw:fC (C0 u1 u2) eY xR (.pure [.strb] .bool):=fun O bs bs' O1 hok hh hok1 hm=>by
 obtain⟨x,rfl,h1⟩:=SQ hm;obtain⟨a,rfl,ha⟩:=wO h1;obtain⟨rfl,rfl⟩:=aeA (ss:=[a]) hh;obtain⟨b,hb⟩:=Nq (abR u1 u2) a (by simp only[LB]at ha;omega) O1
 exact⟨.bool b,hb,.bool _⟩
end
open Go.Ev
def mtL:List (TypeId×String×FuncId):=[(119,"legate/judge.good",370),(212,"legate/judge.good",372)]
def aoN:List (FuncId×Sm):=[(123,.pure [.int .i64] .bool),
 (122,.pure [.int .i64,.int .i64] .bool),
 (121,.pure [.strb] (.int .i64)),
 (236,.pure [.slx [.strb]] .bool),
 (149,.pure [.strb] .bool),
 (161,.pure [.int .i64] (.int .i64)),
 (97,.pure [.int .i64] (.int .i64))]
def ai9:List (FuncId×Sm):=[(78,.pure [.slx [.strb,.strb],.strb] (.tup [.strb,.bool])),
 (10,.pure [.int .i64,.int .i64] .bool),
 (68,.pof [.jv]),
 (118,.chg [.cells [.jv,.map 1,.int .i64],.map (.int .i64)] [.ref 0 0] (.int .i64)),
 (118,.chg [.cells [.ic .u8 0,.ic .i64 0,.sc [],.nils,.nils,.nilM,.ic .i64 10]] [.ref 0 0] (.ic .i64 10)),
 (118,.chg [.cells [.ic .u8 0,.ic .i64 0,.sc [],.nils,.nils,.nilM,.ic .i64 3]] [.ref 0 0] (.ic .i64 3)),
 (118,.pk [] (.int .i64)),
 (127,.chg [.dead,.dead,.cells [.int .i64]] [.jv,.ref 2 0] (.tup [.jv,.int .i64])),
 (117,.pure [.jv] (.tup [.strb,.int .i64])),
 (120,.chg [.dead,.dead,.cells [.int .i64],.cells [.int .i64]] [.jv,.ref 2 0,.ref 3 0] (.tup [.int .i64,.int .i64])),
 (124,.pure [.strb] .bool),
 (275,.pure [.strb,.strb] (.tup [.strb,.bool])),
 (188,.pure [.jv,.int .i64] (.tup [.sljx,.int .i64])),
 (149,.pure [.strb] .bool),
 (185,.pure [.slx [.strb,.int .i64,.slx [.strb],.bool,.slx [.strb],.slx [.strb]],.strb] .bool),
 (255,.pure [.int .u8] .bool)]
def aia:List (FuncId×Sm):=[(239,.pure [.jv] (.tup [.jv,.int .i64])),
 (245,.pure [.strb] .bool),
 (274,.pure [.strb] .bool),
 (57,.pure [.strb] .jv),
 (277,.chg [.dead,.dead,.cells [.int .i64]] [.jv,.ref 2 0] (.tup [.slx [.strb],.int .i64])),
 (278,.pure [.int .i64] .bool),
 (279,.pure [.int .i64] (.int .i64)),
 (281,.pure [.jv] (.tup [.bool,.int .i64])),
 (283,.pure [.strb] .bool),
 (284,.pure [.strb] .bool),
 (371,.pure [.strb,.strb] .bool),
 (374,.pure [.slx [.strb,.strb,.strb],.agg [.strb,.strb,.strb]] (.int .i64)),
 (70,.chg [.cells [.jv,.map 1,.int .i64],.map (.int .i64)] [.ref 0 0,.int .i64] (.tup [])),
 (70,.chg [.cells [.ic .u8 0,.ic .i64 0,.sc [],.nils,.nils,.nilM,.ic .i64 10]] [.ref 0 0,.int .i64] (.tup [])),
 (70,.chg [.cells [.ic .u8 0,.ic .i64 0,.sc [],.nils,.nils,.nilM,.ic .i64 3]] [.ref 0 0,.int .i64] (.tup [])),
 (70,.pk [.int .i64] (.tup []))]
def aib:List (FuncId×Sm):=[(77,.chg [.cells [.jv,.map 1,.int .i64],.map (.int .i64)] [.ref 0 0] (.int .i64)),
 (77,.chg [.cells [.ic .u8 0,.ic .i64 0,.sc [],.nils,.nils,.nilM,.ic .i64 10]] [.ref 0 0] (.int .i64)),
 (77,.chg [.cells [.ic .u8 0,.ic .i64 0,.sc [],.nils,.nils,.nilM,.ic .i64 3]] [.ref 0 0] (.int .i64)),
 (77,.pk [] (.int .i64)),
 (75,.chg [.cells [.jv,.map 1,.int .i64],.map (.int .i64)] [.ref 0 0,.strb] .bool),
 (75,.chg [.cells [.ic .u8 0,.ic .i64 0,.sc [],.nils,.nils,.nilM,.ic .i64 10]] [.ref 0 0,.strb] .bool),
 (75,.chg [.cells [.ic .u8 0,.ic .i64 0,.sc [],.nils,.nils,.nilM,.ic .i64 3]] [.ref 0 0,.strb] .bool),
 (75,.pk [.strb] .bool),
 (187,.chg [.dead,.dead,.cells [.int .i64]] [.jv,.ref 2 0] (.tup [.sljx,.int .i64])),
 (186,.chg [.cells [.jv,.map 1,.int .i64],.map (.int .i64),.cells [.int .i64]] [.ref 0 0,.strb,.func (.func 187) [] [.ref 2 0]] .sljx),
 (186,.chg [.cells [.ic .u8 0,.ic .i64 0,.sc [],.nils,.nils,.nilM,.ic .i64 10],.cells [.int .i64]] [.ref 0 0,.strb,.func (.func 187) [] [.ref 1 0]] .sljx),
 (186,.chg [.cells [.ic .u8 0,.ic .i64 0,.sc [],.nils,.nils,.nilM,.ic .i64 3],.cells [.int .i64]] [.ref 0 0,.strb,.func (.func 187) [] [.ref 1 0]] .sljx),
 (148,.pure [.agg [.strb,.strb]] .bool),
 (126,.chg [.cells [.jv,.map 1,.int .i64],.map (.int .i64),.cells [.int .i64]] [.ref 0 0,.strb,.func (.func 127) [] [.ref 2 0]] .jv),
 (126,.chg [.cells [.ic .u8 0,.ic .i64 0,.sc [],.nils,.nils,.nilM,.ic .i64 10],.cells [.int .i64]] [.ref 0 0,.strb,.func (.func 127) [] [.ref 1 0]] .jv),
 (126,.chg [.cells [.ic .u8 0,.ic .i64 0,.sc [],.nils,.nils,.nilM,.ic .i64 3],.cells [.int .i64]] [.ref 0 0,.strb,.func (.func 127) [] [.ref 1 0]] .jv)]
def aic:List (FuncId×Sm):=[(126,.chg [.cells [.jv,.map 1,.int .i64],.map (.int .i64)] [.ref 0 0,.strb,.func (.func 239) [] []] .jv),
 (126,.chg [.cells [.ic .u8 0,.ic .i64 0,.sc [],.nils,.nils,.nilM,.ic .i64 10]] [.ref 0 0,.strb,.func (.func 239) [] []] .jv),
 (126,.chg [.cells [.ic .u8 0,.ic .i64 0,.sc [],.nils,.nils,.nilM,.ic .i64 3]] [.ref 0 0,.strb,.func (.func 239) [] []] .jv),
 (116,.chg [.cells [.jv,.map 1,.int .i64],.map (.int .i64)] [.ref 0 0,.strb,.func (.func 117) [] []] .strb),
 (116,.chg [.cells [.ic .u8 0,.ic .i64 0,.sc [],.nils,.nils,.nilM,.ic .i64 10]] [.ref 0 0,.strb,.func (.func 117) [] []] .strb),
 (116,.chg [.cells [.ic .u8 0,.ic .i64 0,.sc [],.nils,.nils,.nilM,.ic .i64 3]] [.ref 0 0,.strb,.func (.func 117) [] []] .strb),
 (119,.chg [.cells [.jv,.map 1,.int .i64],.map (.int .i64),.cells [.int .i64],.cells [.int .i64]] [.ref 0 0,.strb,.func (.func 120) [] [.ref 2 0,.ref 3 0]] (.int .i64)),
 (119,.chg [.cells [.ic .u8 0,.ic .i64 0,.sc [],.nils,.nils,.nilM,.ic .i64 10],.cells [.int .i64],.cells [.int .i64]] [.ref 0 0,.strb,.func (.func 120) [] [.ref 1 0,.ref 2 0]] (.int .i64)),
 (119,.chg [.cells [.ic .u8 0,.ic .i64 0,.sc [],.nils,.nils,.nilM,.ic .i64 3],.cells [.int .i64],.cells [.int .i64]] [.ref 0 0,.strb,.func (.func 120) [] [.ref 1 0,.ref 2 0]] (.int .i64)),
 (160,.pure [.slx [.strb]] (.int .i64)),
 (198,.pure [.strb] .bool),
 (238,.pure [.strb] .bool),
 (180,.chg [.cells [.jv,.map 1,.int .i64],.map (.int .i64)] [.ref 0 0,.strb] .jv),
 (180,.chg [.cells [.ic .u8 0,.ic .i64 0,.sc [],.nils,.nils,.nilM,.ic .i64 10]] [.ref 0 0,.strb] .jv),
 (180,.chg [.cells [.ic .u8 0,.ic .i64 0,.sc [],.nils,.nils,.nilM,.ic .i64 3]] [.ref 0 0,.strb] .jv),
 (180,.pk [.strb] .jv)]
def aid:List (FuncId×Sm):=[(140,.pure [.agg [.strb,.strb]] .bool),
 (86,.pure [.agg [.strb,.strb]] (.tup [.jv,.int .i64])),
 (244,.pure [.agg [.int .i64,.slx [.strb],.int .i64,.strb]] (.int .i64)),
 (92,.pure [.agg [.jv,.slx [.strb,.strb]]] .jv),
 (370,.pure [.agg [],.agg [.strb,.strb],.agg [.strb,.strb],.strb] .bool),
 (276,.chg [.cells [.jv,.map 1,.int .i64],.map (.int .i64),.cells [.int .i64]] [.ref 0 0,.strb,.func (.func 277) [] [.ref 2 0]] (.slx [.strb])),
 (276,.chg [.cells [.ic .u8 0,.ic .i64 0,.sc [],.nils,.nils,.nilM,.ic .i64 10],.cells [.int .i64]] [.ref 0 0,.strb,.func (.func 277) [] [.ref 1 0]] (.slx [.strb])),
 (276,.chg [.cells [.ic .u8 0,.ic .i64 0,.sc [],.nils,.nils,.nilM,.ic .i64 3],.cells [.int .i64]] [.ref 0 0,.strb,.func (.func 277) [] [.ref 1 0]] (.slx [.strb])),
 (280,.chg [.cells [.jv,.map 1,.int .i64],.map (.int .i64)] [.ref 0 0,.strb,.func (.func 281) [] []] .bool),
 (280,.chg [.cells [.ic .u8 0,.ic .i64 0,.sc [],.nils,.nils,.nilM,.ic .i64 10]] [.ref 0 0,.strb,.func (.func 281) [] []] .bool),
 (280,.chg [.cells [.ic .u8 0,.ic .i64 0,.sc [],.nils,.nils,.nilM,.ic .i64 3]] [.ref 0 0,.strb,.func (.func 281) [] []] .bool),
 (282,.pure [.slx [.strb],.func (.func 283) [] []] .bool),
 (282,.pure [.slx [.strb],.func (.func 284) [] []] .bool),
 (373,.pure [.slx [.strb,.strb,.strb],.agg [.strb,.strb,.strb]] .bool),
 (131,.chg [.cells [.jv,.map 1,.int .i64],.map (.int .i64)] [.ref 0 0,.strb,.int .i64] .sljx),
 (131,.chg [.cells [.ic .u8 0,.ic .i64 0,.sc [],.nils,.nils,.nilM,.ic .i64 10]] [.ref 0 0,.strb,.int .i64] .sljx)]
def aie:List (FuncId×Sm):=[(131,.chg [.cells [.ic .u8 0,.ic .i64 0,.sc [],.nils,.nils,.nilM,.ic .i64 3]] [.ref 0 0,.strb,.int .i64] .sljx),
 (131,.pk [.strb,.int .i64] .sljx),
 (74,.chg [.cells [.jv,.map 1,.int .i64],.map (.int .i64)] [.ref 0 0,.strb,.int .i64] .jv),
 (74,.chg [.cells [.ic .u8 0,.ic .i64 0,.sc [],.nils,.nils,.nilM,.ic .i64 10]] [.ref 0 0,.strb,.int .i64] .jv),
 (74,.chg [.cells [.ic .u8 0,.ic .i64 0,.sc [],.nils,.nils,.nilM,.ic .i64 3]] [.ref 0 0,.strb,.int .i64] .jv),
 (74,.pk [.strb,.int .i64] .jv),
 (69,.chg [.cells [.jv,.map 1,.int .i64],.map (.int .i64)] [.ref 0 0,.strb] .strb),
 (69,.chg [.cells [.ic .u8 0,.ic .i64 0,.sc [],.nils,.nils,.nilM,.ic .i64 10]] [.ref 0 0,.strb] .strb),
 (69,.chg [.cells [.ic .u8 0,.ic .i64 0,.sc [],.nils,.nils,.nilM,.ic .i64 3]] [.ref 0 0,.strb] .strb),
 (69,.pk [.strb] .strb),
 (71,.chg [.cells [.jv,.map 1,.int .i64],.map (.int .i64)] [.ref 0 0,.strb,.int .i64,.int .i64] (.int .i64)),
 (71,.chg [.cells [.ic .u8 0,.ic .i64 0,.sc [],.nils,.nils,.nilM,.ic .i64 10]] [.ref 0 0,.strb,.int .i64,.int .i64] (.int .i64)),
 (71,.chg [.cells [.ic .u8 0,.ic .i64 0,.sc [],.nils,.nils,.nilM,.ic .i64 3]] [.ref 0 0,.strb,.int .i64,.int .i64] (.int .i64)),
 (71,.pk [.strb,.int .i64,.int .i64] (.int .i64)),
 (96,.pure [.agg [.int .i64,.slx [.strb]]] .bool),
 (232,.pure [.strb] (.tup [.strb,.int .i64]))]
def aif:List (FuncId×Sm):=[(179,.pure [.jv] (.tup [.slx [.strb,.strb],.int .i64])),
 (125,.pure [.jv] (.tup [.agg [.int .i64,.slx [.strb,.strb],.jv],.int .i64])),
 (109,.pure [.jv] (.tup [.agg [.strb,.strb],.int .i64])),
 (46,.pure [.agg [.strb,.strb]] (.tup [.strb,.int .i64])),
 (183,.pure [.agg [.int .i64,.slx [.strb],.int .i64,.strb]] .bool),
 (88,.pure [.agg [.jv,.slx [.strb,.strb]]] .bool),
 (243,.chg [.cells [.jv,.map 1,.int .i64],.map (.int .i64)] [.ref 0 0,.strb,.int .i64] (.slx [.strb])),
 (243,.chg [.cells [.ic .u8 0,.ic .i64 0,.sc [],.nils,.nils,.nilM,.ic .i64 10]] [.ref 0 0,.strb,.int .i64] (.slx [.strb])),
 (243,.chg [.cells [.ic .u8 0,.ic .i64 0,.sc [],.nils,.nils,.nilM,.ic .i64 3]] [.ref 0 0,.strb,.int .i64] (.slx [.strb])),
 (243,.pk [.strb,.int .i64] (.slx [.strb])),
 (246,.chg [.cells [.jv,.map 1,.int .i64],.map (.int .i64)] [.ref 0 0,.strb] .bool),
 (246,.chg [.cells [.ic .u8 0,.ic .i64 0,.sc [],.nils,.nils,.nilM,.ic .i64 10]] [.ref 0 0,.strb] .bool),
 (246,.chg [.cells [.ic .u8 0,.ic .i64 0,.sc [],.nils,.nils,.nilM,.ic .i64 3]] [.ref 0 0,.strb] .bool),
 (246,.pk [.strb] .bool),
 (247,.pure [.agg [.strb,.int .i64,.slx [.strb],.bool,.slx [.strb],.slx [.strb]]] .bool),
 (372,.pure [.agg [.slx [.strb,.strb,.strb]],.agg [.strb,.strb],.agg [.strb,.strb],.strb] .bool)]
def aig:List (FuncId×Sm):=[(197,.pure [.strb,.jv] (.tup [.agg [.strb,.int .i64,.int .i64,.slx [.strb,.strb]],.int .i64])),
 (135,.pure [.jv] (.tup [.agg [.strb,.strb],.int .i64])),
 (73,.pure [.jv] (.tup [.slx [.strb,.int .i64,.slx [.strb,.strb],.jv],.int .i64])),
 (59,.pure [.jv] (.tup [.slx [.strb,.strb],.int .i64])),
 (47,.pure [.agg [.jv,.slx [.strb,.strb]]] (.tup [.strb,.int .i64])),
 (173,.pure [.slx [.strb,.strb],.strb] (.tup [.agg [.strb,.strb],.bool])),
 (182,.chg [.cells [.jv,.map 1,.int .i64],.map (.int .i64)] [.ref 0 0] (.agg [.int .i64,.slx [.strb]])),
 (182,.chg [.cells [.ic .u8 0,.ic .i64 0,.sc [],.nils,.nils,.nilM,.ic .i64 10]] [.ref 0 0] (.agg [.int .i64,.slx [.strb]])),
 (182,.chg [.cells [.ic .u8 0,.ic .i64 0,.sc [],.nils,.nils,.nilM,.ic .i64 3]] [.ref 0 0] (.agg [.int .i64,.slx [.strb]])),
 (182,.pk [] (.agg [.int .i64,.slx [.strb]])),
 (184,.pure [.jv] (.tup [.agg [.strb,.int .i64,.slx [.strb],.bool,.slx [.strb],.slx [.strb]],.int .i64])),
 (231,.ro [.iface 119 (.agg [])] [.agg [.strb,.strb],.agg [.strb,.strb],.strb] .bool),
 (231,.ro [.iface 212 (.agg [.slx [.strb,.strb,.strb]])] [.agg [.strb,.strb],.agg [.strb,.strb],.strb] .bool),
 (81,.pure [.jv] (.tup [.agg [.jv,.slx [.strb,.strb]],.int .i64])),
 (129,.pure [.jv] (.tup [.agg [.int .i64,.slx [.strb],.int .i64,.strb],.int .i64])),
 (130,.pure [.sljx] (.tup [.slx [.strb,.int .i64,.slx [.strb],.bool,.slx [.strb],.slx [.strb]],.int .i64]))]
def amR:List (FuncId×Sm):=[(174,.ro [.iface 119 (.agg [])] [.agg [.strb,.strb],.strb,.slx [.strb,.strb],.strb] .bool),
 (174,.ro [.iface 212 (.agg [.slx [.strb,.strb,.strb]])] [.agg [.strb,.strb],.strb,.slx [.strb,.strb],.strb] .bool),
 (76,.pure [.jv] (.tup [.agg [.slx [.strb,.strb],.slx [.strb,.int .i64,.slx [.strb],.bool,.slx [.strb],.slx [.strb]],.int .i64,.slx [.strb],.int .i64,.strb],.int .i64])),
 (111,.ro [.iface 119 (.agg [])] [.agg [.jv,.slx [.strb,.strb]],.agg [.int .i64,.slx [.strb]],.slx [.strb,.strb]] (.int .i64)),
 (111,.ro [.iface 212 (.agg [.slx [.strb,.strb,.strb]])] [.agg [.jv,.slx [.strb,.strb]],.agg [.int .i64,.slx [.strb]],.slx [.strb,.strb]] (.int .i64)),
 (30,.pure [.jv] (.tup [.agg [.int .i64,.int .i64,.slx [.strb,.int .i64,.slx [.strb,.strb],.jv],.slx [.strb,.strb],.slx [.strb,.int .i64,.slx [.strb],.bool,.slx [.strb],.slx [.strb]],.int .i64,.slx [.strb],.int .i64,.strb],.int .i64])),
 (62,.ro [.iface 119 (.agg [])] [.agg [.jv,.slx [.strb,.strb]],.agg [.int .i64,.slx [.strb]],.slx [.strb,.strb]] .bool),
 (62,.ro [.iface 212 (.agg [.slx [.strb,.strb,.strb]])] [.agg [.jv,.slx [.strb,.strb]],.agg [.int .i64,.slx [.strb]],.slx [.strb,.strb]] .bool)]
theorem aoj:∀p∈mtL,methodOf Tryz.prog p.1 .nilp p.2.1=some (p.2.2,.nilp):=by
 unfold mtL;simp only[List.forall_mem_cons];exact⟨by kernel_rfl,by kernel_rfl,fun _ h=>by simp at h⟩
noncomputable def rowOk(p:FuncId×Sm):Bool:=QQ Tryz.prog p.1&&((prL IL p.1).isNone&& !aac p.1)
section
variable{u1 u2:TypeId}
theorem agD{rows:List (FuncId×Sm)}(h:rows.all rowOk=true):∀p∈rows,Has (C0 u1 u2) p.1 (kA Tryz.prog p.1):=fun p hp=>by
 have k:=List.all_eq_true.mp h p hp;unfold rowOk at k;simp only[Bool.and_eq_true,Option.isNone_iff_eq_none,Bool.not_eq_true']at k;exact apg k.1 k.2.1 k.2.2
def hand1:List (FuncId×Sm):=[(jS,.pure [.strb,.int .i64] (.tup [.int .i64,.bool]))]
theorem SH:∀p∈hand1,fC (C0 u1 u2) eY p.1 p.2:=by
 unfold hand1;simp only[List.forall_mem_cons];exact⟨Yq (has),fun _ h=>by simp at h⟩
def Ef(u1 u2:TypeId)(l:List (FuncId×Sm)):Prop:=∀p∈l,fC (C0 u1 u2) eY p.1 p.2
theorem stage{h rows:List (FuncId×Sm)}(H:Ef u1 u2 h)(c:rows.all rowOk=true)(r:(aaP (ag5 mtL h) (alc Tryz.prog rows)).isSome=true):Ef u1 u2 (rows++h):=fun p hp=>(List.mem_append.mp hp).elim (aeb aoj H (agD c) r p) (H p)
theorem sm1:Ef u1 u2 (aoN++hand1):=stage SH (by kernel_rfl) (by kernel_rfl)
theorem amX:fC (C0 u1 u2) eY OW (.pure [.int .i64] .bool):=sm1 _ (List.mem_of_getElem? (i:=0) rfl)
theorem an3:fC (C0 u1 u2) eY Fe (.pure [.int .i64,.int .i64] .bool):=sm1 _ (List.mem_of_getElem? (i:=1) rfl)
theorem aix:fC (C0 u1 u2) eY BV (.pure [.strb] (.int .i64)):=sm1 _ (List.mem_of_getElem? (i:=2) rfl)
theorem aoP:fC (C0 u1 u2) eY mV (.pure [.slx [.strb]] .bool):=sm1 _ (List.mem_of_getElem? (i:=3) rfl)
theorem apx:fC (C0 u1 u2) eY EZ (.pure [.strb] .bool):=sm1 _ (List.mem_of_getElem? (i:=4) rfl)
theorem akm:fC (C0 u1 u2) eY Ll (.pure [.int .i64] (.int .i64)):=sm1 _ (List.mem_of_getElem? (i:=6) rfl)
theorem akx:Qe (C0 u1 u2) eY where
 days:=has
 read:=has
 bef:=rfl
 leap:=amX
 upTo:=an3
 start:=akm
 digits:=aix
theorem aiQ:Di (C0 u1 u2) eY where
 proper:=has
 written:=has
 may:=has
 May:=has
 valid:=aaw u1 u2
 ascending:=aoP
theorem am0:QD (C0 u1 u2) eY:=⟨has,apx,SH _ (List.mem_of_getElem? (i:=0) rfl)⟩
def hand2:List (FuncId×Sm):=[(jS,.pure [.strb,.int .i64] (.tup [.int .i64,.bool])),(mQ,.pure [.jv] .bool),(xW,.pure [.strb] (.tup [.int .i64,.int .i64])),(zi,.pure [.jv] .jv),(xU,.pure [.jv,.strb] (.tup [.jv,.bool])),(xR,.pure [.strb] .bool),(dR,.pure [.jv] (.tup [.strb,.int .i64])),(mP,.pure [.strb] .strb),(qg,.pure [.slc 2 [.strb,.jv,.strb,.jv]] (.tup [.jv,.int .i64])),(zg,.pure [.strb] (.tup [.strb,.int .i64])),(vF,.pure [.strb,.strb] .strb),(apD,.pure [.strb,.strb] (.tup [.strb,.bool]))]
theorem LQ:∀p∈hand2,fC (C0 u1 u2) eY p.1 p.2:=by
 unfold hand2;simp only[List.forall_mem_cons];exact⟨SH _ (List.mem_of_getElem? (i:=0) rfl),Yu aiQ,Yv akx,U0 (Xw u1 u2),Yt (Xw u1 u2) (ajq u1 u2) (has),aaw u1 u2,P8 (alP u1 u2) aiQ (has),UZ (adS u1 u2),aav (ams u1 u2) (has),UY am0,afg (ajM u1 u2),apI _ (has) (has),fun _ h=>by simp at h⟩
theorem sB0:Ef u1 u2 (ai9++hand2):=stage LQ (by kernel_rfl) (by kernel_rfl)
def hB0:List (FuncId×Sm):=ai9++hand2
theorem sB1:Ef u1 u2 (aia++hB0):=stage sB0 (by kernel_rfl) (by kernel_rfl)
def hB1:List (FuncId×Sm):=aia++hB0
theorem sB2:Ef u1 u2 (aib++hB1):=stage sB1 (by kernel_rfl) (by kernel_rfl)
def hB2:List (FuncId×Sm):=aib++hB1
theorem sB3:Ef u1 u2 (aic++hB2):=stage sB2 (by kernel_rfl) (by kernel_rfl)
def hB3:List (FuncId×Sm):=aic++hB2
theorem sB4:Ef u1 u2 (aid++hB3):=stage sB3 (by kernel_rfl) (by kernel_rfl)
def hB4:List (FuncId×Sm):=aid++hB3
theorem sB5:Ef u1 u2 (aie++hB4):=stage sB4 (by kernel_rfl) (by kernel_rfl)
def hB5:List (FuncId×Sm):=aie++hB4
theorem sB6:Ef u1 u2 (aif++hB5):=stage sB5 (by kernel_rfl) (by kernel_rfl)
def hB6:List (FuncId×Sm):=aif++hB5
theorem sB7:Ef u1 u2 (aig++hB6):=stage sB6 (by kernel_rfl) (by kernel_rfl)
def hB7:List (FuncId×Sm):=aig++hB6
theorem sB8:Ef u1 u2 (amR++hB7):=stage sB7 (by kernel_rfl) (by kernel_rfl)
theorem amZ:fC (C0 u1 u2) eY fK (.pure [.strb] (.tup [.jv,.int .i64,.int .i64])):=Yr (afo u1 u2) (has)
theorem amW:fC (C0 u1 u2) eY rX (.pure [.slx [.strb,.strb],.strb] (.tup [.strb,.bool])):=sB0 _ (List.mem_of_getElem? (i:=0) rfl)
theorem amY:fC (C0 u1 u2) eY mW (.pure [.int .i64,.int .i64] .bool):=sB0 _ (List.mem_of_getElem? (i:=1) rfl)
theorem an0:fC (C0 u1 u2) eY ql (.pure [.jv] (.tup [.agg [.jv,.slx [.strb,.strb]],.int .i64])):=sB7 _ (List.mem_of_getElem? (i:=13) rfl)
theorem an1:fC (C0 u1 u2) eY wM (.pure [.jv] (.tup [.agg [.int .i64,.int .i64,.slx [.strb,.int .i64,.slx [.strb,.strb],.jv],.slx [.strb,.strb],.slx [.strb,.int .i64,.slx [.strb],.bool,.slx [.strb],.slx [.strb]],.int .i64,.slx [.strb],.int .i64,.strb],.int .i64])):=sB8 _ (List.mem_of_getElem? (i:=5) rfl)
theorem afe:fC (C0 u1 u2) eY iU (.ro [.iface 119 (.agg [])] [.agg [.jv,.slx [.strb,.strb]],.agg [.int .i64,.slx [.strb]],.slx [.strb,.strb]] .bool):=sB8 _ (List.mem_of_getElem? (i:=6) rfl)
theorem aff:fC (C0 u1 u2) eY iU (.ro [.iface 212 (.agg [.slx [.strb,.strb,.strb]])] [.agg [.jv,.slx [.strb,.strb]],.agg [.int .i64,.slx [.strb]],.slx [.strb,.strb]] .bool):=sB8 _ (List.mem_of_getElem? (i:=7) rfl)
theorem an2:fC (C0 u1 u2) eY En (.pk [.strb] .strb):=sB5 _ (List.mem_of_getElem? (i:=9) rfl)
theorem aoQ:fC (C0 u1 u2) eY Fa (.pk [.strb,.int .i64,.int .i64] (.int .i64)):=sB5 _ (List.mem_of_getElem? (i:=13) rfl)
theorem aoR:fC (C0 u1 u2) eY Bg (.pk [.strb,.int .i64] .jv):=sB5 _ (List.mem_of_getElem? (i:=5) rfl)
theorem amV:fC (C0 u1 u2) eY Em (.pk [.int .i64] (.tup [])):=sB1 _ (List.mem_of_getElem? (i:=15) rfl)
theorem amU:fC (C0 u1 u2) eY Ej (.pk [] (.int .i64)):=sB2 _ (List.mem_of_getElem? (i:=3) rfl)
theorem apy:fC (C0 u1 u2) eY Vx (.pof [.jv]):=sB0 _ (List.mem_of_getElem? (i:=2) rfl)
theorem aoS:fC (C0 u1 u2) eY Ld (.pure [.strb,.jv] (.tup [.agg [.strb,.int .i64,.int .i64,.slx [.strb,.strb]],.int .i64])):=sB7 _ (List.mem_of_getElem? (i:=0) rfl)
theorem akn:xk (C0 u1 u2) eY where
 text:=an2
 num:=aoQ
 obj:=aoR
 fail:=amV
 done:=amU
 of:=apy
 pin:=aoS
 when:=LQ _ (List.mem_of_getElem? (i:=2) rfl)
 May:=LQ _ (List.mem_of_getElem? (i:=1) rfl)
 parts:=has
 pType:=has
 pVersion:=has
 pExpires:=has
 pMeta:=has
 snapOf:=has
end
end Go.Proofs.YtegpahkgmealkaaGreatDoor
