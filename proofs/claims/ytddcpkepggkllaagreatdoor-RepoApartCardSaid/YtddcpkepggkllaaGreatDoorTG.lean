/- Contracts. No conditions. -/
import Derived.Test.YtddcpkepggkllaaGreatDoorTC
import Derived.KernelRfl
import Derived.Test.YtddcpkepggkllaaGreatDoorTD
import Derived.Test.YtddcpkepggkllaaGreatDoorTE
import Derived.Test.YtddcpkepggkllaaGreatDoorTF
import Derived.Test.YtddcpkepggkllaaGreatDoorEB
import Derived.Test.YtddcpkepggkllaaGreatDoorProg
import Derived.Shelf.SlMaps.Clone
import Derived.Test.YtddcpkepggkllaaGreatDoorCD
import Derived.Test.YtddcpkepggkllaaGreatDoorTB
import Derived.Shelf.SlSortCmp.WholeK
import Derived.Shelf.Small.Strs
import Derived.Test.YtddcpkepggkllaaGreatDoorCF
import Derived.Test.YtddcpkepggkllaaGreatDoorEC
import Derived.Test.YtddcpkepggkllaaGreatDoorCC
import Derived.Test.YtddcpkepggkllaaGreatDoorCB
set_option linter.unusedVariables false
set_option linter.unusedSimpArgs false
set_option linter.defProp false
namespace Go.Proofs.YtddcpkepggkllaaGreatDoor
open Go.Ev
set_option maxRecDepth 1000000
def l38:nI (ja CC (T0 Q38) 5000 ou a38 []) v38=true:=by kernel_rfl
def nxq{M:MM}{f:FuncId}{a:LA}{v:AV}(q:MOK CC M)(l:nI (ja CC (T0 M) 5000 f a []) v=true)(c:ai 0 a=true:=by kernel_rfl):MOK CC (rO M f a v):=ape q (aem (Gq AY (akh q) 5000) jL c l)
def q0:MOK CC Q0:=as3 CC
def q1:MOK CC Q1:=nxq q0 l0
def q2:MOK CC Q2:=nxq q1 l1
def q3:MOK CC Q3:=nxq q2 l2
def q4:MOK CC Q4:=nxq q3 l3
def q5:MOK CC Q5:=nxq q4 l4
def q6:MOK CC Q6:=nxq q5 l5
def q7:MOK CC Q7:=nxq q6 l6
def q8:MOK CC Q8:=nxq q7 l7
def q9:MOK CC Q9:=nxq q8 l8
def q10:MOK CC Q10:=nxq q9 l9
def q11:MOK CC Q11:=nxq q10 l10
def q12:MOK CC Q12:=nxq q11 l11
def q13:MOK CC Q13:=nxq q12 l12
def q14:MOK CC Q14:=nxq q13 l13
def q15:MOK CC Q15:=nxq q14 l14
def q16:MOK CC Q16:=nxq q15 l15
def q17:MOK CC Q17:=nxq q16 l16
def q18:MOK CC Q18:=nxq q17 l17
def q19:MOK CC Q19:=nxq q18 l18
def q20:MOK CC Q20:=nxq q19 l19
def q21:MOK CC Q21:=nxq q20 l20
def q22:MOK CC Q22:=nxq q21 l21
def q23:MOK CC Q23:=nxq q22 l22
def q24:MOK CC Q24:=nxq q23 l23
def q25:MOK CC Q25:=nxq q24 l24
def q26:MOK CC Q26:=nxq q25 l25
def q27:MOK CC Q27:=nxq q26 l26
def q28:MOK CC Q28:=nxq q27 l27
def q29:MOK CC Q29:=nxq q28 l28
def q30:MOK CC Q30:=nxq q29 l29
def q31:MOK CC Q31:=nxq q30 l30
def q32:MOK CC Q32:=nxq q31 l31
def q33:MOK CC Q33:=nxq q32 l32
def q34:MOK CC Q34:=nxq q33 l33
def q35:MOK CC Q35:=nxq q34 l34
def q36:MOK CC Q36:=nxq q35 l35
def q37:MOK CC Q37:=nxq q36 l36
def q38:MOK CC Q38:=nxq q37 l37
def q39:MOK CC Q39:=nxq q38 l38
def anT:fC CC (ja CC (T0 Q39) 5000):=Gq AY (akh q39) 5000
def asC:nI (ja CC (T0 Q39) 5000 ou [] []) (.bool true)=true:=by kernel_rfl
def fin:ah9 CC ou [] (.bool true):=aem (Gq AY (akh q39) 5000) jL (by kernel_rfl) asC
open Go.Ev Go.RowKit Go.Shelf Go.Proofs
set_option maxRecDepth 100000
def aqC:IJ Tryz.prog 62:=⟨_,Tryz.func62,by decide,rfl⟩
def ajA(b:Nat)(es:Array MapEntry)(clock:Nat)(w:World)(hb:w.heap[b]?=some (.map es clock)):Calls Tryz.prog 62 #[.map (some b)] w fun e w'=>e=.returned (.map (some w.heap.size))/\w'=w.alloc (.map es clock):=by
 have hq:=fun w=>run_eql_map_nil_sl (P:=Tryz.prog) w 133 _ _ (some b) Tryz.underlying133
 go_enter Tryz.func62,Tryz.ntmps62
 go_wp2
 rw[run_callFunc_extern Tryz.func91 (by kernel_rfl) (by kernel_rfl) (by kernel_rfl) (e:=Extern.MapsClone.clone) (by kernel_rfl),run_maps_clone_sl w _ hb]
 simp only[Result.andThen];rw[Oper.upon_value]
 go_wp2
 rw[run_typeAssert_map_sl _ _ _ _ _ _ Tryz.underlying133];simp only[Result.andThen];rw[Oper.upon_value]
 go_wp2
 go_ret
 exact⟨rfl,rfl⟩
def aeK(args:LA)(O:St):Option (AV×St):=
 match args with
 |[.map m]=>match O[m]? with
  |some (.map es)=>some (.map O.length,O++[.map es])
  |_=>none
 |_=>none
def aoH{C:Ctx}(hP:C.P=Tryz.prog):POK C 62 aeK:=by
 intro args O v O' h g w args' ha hw hg;unfold aeK at h;split at h
 ·rename_i m;split at h
  ·rename_i es hm;cases h;obtain⟨ents,clock,h1,h2⟩:=hw.obj m _ hm;cases ha with
   |cons _ v1 _ l1 x y=>
   cases y;cases x with
   |map _ hlt=>
   have hgo:=Ye hw (.map ents clock) (.map es) 0 (by
    refine⟨ents,clock,by simp only[Gh.more,if_true];exact BQ w _,h2.size,h2.clk,fun i k v hkv=>?_⟩
    obtain⟨e,he,hk,hv,hborn⟩:=h2.at_ i k v hkv;exact⟨e,he,hk.mono (Gh.more_le g _ _),hv.mono (Gh.more_le g _ _),hborn⟩)
   refine Cm (by rw[hP];exact aqC) ?_
   rw[hP];refine(ajA (g.ob m) ents clock w h1).mono fun e w' ⟨he,hw'⟩=>⟨_,he,_,by subst hw';exact hgo,?_⟩
   have:=VR.map (g:=g.more w.heap.size 0) O.length (by simp[Gh.more,hw.n])
   simpa[Gh.more,hw.n]using this
  ·cases h
 ·cases h
end Go.Proofs.YtddcpkepggkllaaGreatDoor
namespace Go.Ev
set_option maxRecDepth 100000
variable{C:Ctx}{PK:PkI}
def ajl(s:LU):(xY s).length<=2*s.length:=by
 unfold xY
 induction s with
 |nil=>simp
 |cons a l ih=>
  have h:(akU a).length=2:=rfl;rw[ay2,a04,h,a09];omega
def ad7(hC:Has C ny mP):iF C PK ny (.pure [.strb,.int .i64] (.tup [.int .i64,.bool])):=
 xG hC rfl fun azs hm=>by
  obtain⟨x,y,rfl,h1,h2⟩:=ajm hm;obtain⟨a,rfl,ha⟩:=zu h1;cases h2 with
  |int _ n=>
   intro O hσ;refine⟨_,NH hC a n O,?_⟩;unfold LC;exact .tup _ _ (.cons _ _ _ _ (.int _ _) (.cons _ _ _ _ (.bool _) .nil))
def Z7(H:Pm C):iF C PK qO (.pure [.strb] .strb):=
 xG H.digest rfl fun azs hm=>by
  obtain⟨x,rfl,h1⟩:=ZW hm;obtain⟨a,rfl,ha⟩:=zu h1;intro O hσ;refine⟨_,agT H a (by simp only[LB]at ha;omega) O hσ,.strb _ ?_⟩
  have:=ajl (tN a);rw[rJ]at this;unfold agS;simp only[LB];omega
def ajX(H:abO C):iF C PK Dk (.pure [.strb,.strb] .strb):=
 xG H.of rfl fun azs hm=>by
  obtain⟨x,y,rfl,h1,h2⟩:=ajm hm;obtain⟨a,rfl,ha⟩:=zu h1;obtain⟨b,rfl,hb⟩:=zu h2;intro O hσ;refine⟨_,am0 H a b (by simp only[LB]at ha;omega) (by simp only[LB]at hb;omega) O hσ,.strb _ ?_⟩
  unfold hmac;simp only[rJ,LB];omega
end Go.Ev
namespace Go.Proofs.YtddcpkepggkllaaGreatDoor
open Go.Shelf Go.Proofs
def fxS{P:Program}{f:Nat}{a b:Func}(h:P.funcs[f]?=some a)(e:a=b:=by kernel_rfl):P.funcs[f]?=some b:=h.trans (congrArg some e)
def Tryz.laysSR_ren:Go.Shelf.Ren:=⟨fun|6=>339|15=>164|14=>350|28=>233|29=>234|20=>355|21=>356|22=>357|23=>358|24=>359|25=>360|26=>361|27=>362|46=>367|47=>282|48=>283|49=>368|50=>369|57=>379|n=>n,fun|22=>439|24=>441|25=>458|3=>3|39=>282|0=>0|53=>362|55=>364|4=>4|46=>356|45=>355|50=>296|5=>5|9=>9|66=>407|70=>293|76=>447|77=>448|n=>n,fun|n=>n⟩
def Tryz.laysSR:Go.Proofs.SlLaysF0.n6 Tryz.prog Tryz.laysSR_ren:={
 mixed:=by kernel_rfl
 f6:=⟨Tryz.f339.name,by decide,fxS Tryz.func339⟩
 f14:=⟨Tryz.f350.name,by decide,fxS Tryz.func350⟩
 f15:=fxS Tryz.func164
 f20:=⟨Tryz.f355.name,by decide,fxS Tryz.func355⟩
 f21:=⟨Tryz.f356.name,by decide,fxS Tryz.func356⟩
 f22:=⟨Tryz.f357.name,by decide,fxS Tryz.func357⟩
 f23:=⟨Tryz.f358.name,by decide,fxS Tryz.func358⟩
 f24:=⟨Tryz.f359.name,by decide,fxS Tryz.func359⟩
 f25:=⟨Tryz.f360.name,by decide,fxS Tryz.func360⟩
 f26:=⟨Tryz.f361.name,by decide,fxS Tryz.func361⟩
 f27:=⟨Tryz.f362.name,by decide,fxS Tryz.func362⟩
 f28:=fxS Tryz.func233
 f29:=fxS Tryz.func234
 f46:=⟨Tryz.f367.name,by decide,fxS Tryz.func367⟩
 f47:=fxS Tryz.func282
 f48:=fxS Tryz.func283
 f49:=⟨Tryz.f368.name,by decide,fxS Tryz.func368⟩
 f50:=⟨Tryz.f369.name,by decide,fxS Tryz.func369⟩
 f57:=⟨Tryz.f379.name,by decide,fxS Tryz.func379⟩
 t0:=Tryz.underlying0
 a0:=Tryz.isAgg0
 z0:=Tryz.sizeOf0
 v0:=Tryz.zeroValue0
 t3:=Tryz.underlying3
 a3:=Tryz.isAgg3
 z3:=Tryz.sizeOf3
 v3:=Tryz.zeroValue3
 t4:=Tryz.underlying4
 a4:=Tryz.isAgg4
 z4:=Tryz.sizeOf4
 v4:=Tryz.zeroValue4
 t5:=Tryz.underlying5
 a5:=Tryz.isAgg5
 z5:=Tryz.sizeOf5
 v5:=Tryz.zeroValue5
 t9:=Tryz.underlying9
 a9:=Tryz.isAgg9
 z9:=Tryz.sizeOf9
 v9:=Tryz.zeroValue9
 t22:=Tryz.underlying439
 a22:=Tryz.isAgg439
 z22:=Tryz.sizeOf439
 v22:=Tryz.zeroValue439
 t25:=Tryz.underlying458
 a25:=Tryz.isAgg458
 z25:=Tryz.sizeOf458
 v25:=Tryz.zeroValue458
 t39:=Tryz.underlying282
 a39:=Tryz.isAgg282
 z39:=Tryz.sizeOf282
 v39:=Tryz.zeroValue282
 t45:=Tryz.underlying355
 a45:=Tryz.isAgg355
 z45:=Tryz.sizeOf355
 v45:=Tryz.zeroValue355
 t46:=Tryz.underlying356
 a46:=Tryz.isAgg356
 z46:=Tryz.sizeOf356
 v46:=Tryz.zeroValue356
 t50:=Tryz.underlying296
 a50:=Tryz.isAgg296
 z50:=Tryz.sizeOf296
 v50:=Tryz.zeroValue296
 t53:=Tryz.underlying362
 a53:=Tryz.isAgg362
 z53:=Tryz.sizeOf362
 v53:=Tryz.zeroValue362
 t55:=Tryz.underlying364
 a55:=Tryz.isAgg364
 z55:=Tryz.sizeOf364
 v55:=Tryz.zeroValue364
 t66:=Tryz.underlying407
 a66:=Tryz.isAgg407
 z66:=Tryz.sizeOf407
 v66:=Tryz.zeroValue407
 t70:=Tryz.underlying293
 a70:=Tryz.isAgg293
 z70:=Tryz.sizeOf293
 v70:=Tryz.zeroValue293
 t76:=Tryz.underlying447
 a76:=Tryz.isAgg447
 z76:=Tryz.sizeOf447
 v76:=Tryz.zeroValue447
 t77:=Tryz.underlying448
 a77:=Tryz.isAgg448
 z77:=Tryz.sizeOf448
 v77:=Tryz.zeroValue448}
def Tryz.laysSM_ren:Go.Shelf.Ren:=⟨fun|6=>102|15=>164|14=>166|28=>233|29=>234|20=>235|21=>236|22=>237|23=>238|24=>239|25=>240|26=>241|27=>242|46=>286|47=>282|48=>283|49=>287|50=>288|57=>318|n=>n,fun|22=>152|24=>158|25=>218|3=>3|39=>282|0=>0|53=>362|55=>364|4=>4|46=>356|45=>355|50=>296|5=>5|9=>9|66=>407|70=>293|76=>447|77=>448|n=>n,fun|n=>n⟩
def Tryz.laysSM:Go.Proofs.SlLaysF0.n6 Tryz.prog Tryz.laysSM_ren:={
 mixed:=by kernel_rfl
 f6:=⟨Tryz.f102.name,by decide,fxS Tryz.func102⟩
 f14:=⟨Tryz.f166.name,by decide,fxS Tryz.func166⟩
 f15:=fxS Tryz.func164
 f20:=⟨Tryz.f235.name,by decide,fxS Tryz.func235⟩
 f21:=⟨Tryz.f236.name,by decide,fxS Tryz.func236⟩
 f22:=⟨Tryz.f237.name,by decide,fxS Tryz.func237⟩
 f23:=⟨Tryz.f238.name,by decide,fxS Tryz.func238⟩
 f24:=⟨Tryz.f239.name,by decide,fxS Tryz.func239⟩
 f25:=⟨Tryz.f240.name,by decide,fxS Tryz.func240⟩
 f26:=⟨Tryz.f241.name,by decide,fxS Tryz.func241⟩
 f27:=⟨Tryz.f242.name,by decide,fxS Tryz.func242⟩
 f28:=fxS Tryz.func233
 f29:=fxS Tryz.func234
 f46:=⟨Tryz.f286.name,by decide,fxS Tryz.func286⟩
 f47:=fxS Tryz.func282
 f48:=fxS Tryz.func283
 f49:=⟨Tryz.f287.name,by decide,fxS Tryz.func287⟩
 f50:=⟨Tryz.f288.name,by decide,fxS Tryz.func288⟩
 f57:=⟨Tryz.f318.name,by decide,fxS Tryz.func318⟩
 t0:=Tryz.underlying0
 a0:=Tryz.isAgg0
 z0:=Tryz.sizeOf0
 v0:=Tryz.zeroValue0
 t3:=Tryz.underlying3
 a3:=Tryz.isAgg3
 z3:=Tryz.sizeOf3
 v3:=Tryz.zeroValue3
 t4:=Tryz.underlying4
 a4:=Tryz.isAgg4
 z4:=Tryz.sizeOf4
 v4:=Tryz.zeroValue4
 t5:=Tryz.underlying5
 a5:=Tryz.isAgg5
 z5:=Tryz.sizeOf5
 v5:=Tryz.zeroValue5
 t9:=Tryz.underlying9
 a9:=Tryz.isAgg9
 z9:=Tryz.sizeOf9
 v9:=Tryz.zeroValue9
 t22:=Tryz.underlying152
 a22:=Tryz.isAgg152
 z22:=Tryz.sizeOf152
 v22:=Tryz.zeroValue152
 t25:=Tryz.underlying218
 a25:=Tryz.isAgg218
 z25:=Tryz.sizeOf218
 v25:=Tryz.zeroValue218
 t39:=Tryz.underlying282
 a39:=Tryz.isAgg282
 z39:=Tryz.sizeOf282
 v39:=Tryz.zeroValue282
 t45:=Tryz.underlying355
 a45:=Tryz.isAgg355
 z45:=Tryz.sizeOf355
 v45:=Tryz.zeroValue355
 t46:=Tryz.underlying356
 a46:=Tryz.isAgg356
 z46:=Tryz.sizeOf356
 v46:=Tryz.zeroValue356
 t50:=Tryz.underlying296
 a50:=Tryz.isAgg296
 z50:=Tryz.sizeOf296
 v50:=Tryz.zeroValue296
 t53:=Tryz.underlying362
 a53:=Tryz.isAgg362
 z53:=Tryz.sizeOf362
 v53:=Tryz.zeroValue362
 t55:=Tryz.underlying364
 a55:=Tryz.isAgg364
 z55:=Tryz.sizeOf364
 v55:=Tryz.zeroValue364
 t66:=Tryz.underlying407
 a66:=Tryz.isAgg407
 z66:=Tryz.sizeOf407
 v66:=Tryz.zeroValue407
 t70:=Tryz.underlying293
 a70:=Tryz.isAgg293
 z70:=Tryz.sizeOf293
 v70:=Tryz.zeroValue293
 t76:=Tryz.underlying447
 a76:=Tryz.isAgg447
 z76:=Tryz.sizeOf447
 v76:=Tryz.zeroValue447
 t77:=Tryz.underlying448
 a77:=Tryz.isAgg448
 z77:=Tryz.sizeOf448
 v77:=Tryz.zeroValue448}
def Tryz.laysCmp_ren:Go.Shelf.Ren:=⟨fun|106=>104|213=>167|265=>243|n=>n,fun|9=>9|3=>3|n=>n,fun|n=>n⟩
def Tryz.laysCmp:Go.Proofs.Lays.n106 Tryz.prog Tryz.laysCmp_ren:={
 mixed:=by kernel_rfl
 f106:=fxS Tryz.func104
 f213:=fxS Tryz.func167
 f265:=fxS Tryz.func243
 t3:=Tryz.underlying3
 a3:=Tryz.isAgg3
 z3:=Tryz.sizeOf3
 v3:=Tryz.zeroValue3
 t9:=Tryz.underlying9
 a9:=Tryz.isAgg9
 z9:=Tryz.sizeOf9
 v9:=Tryz.zeroValue9}
open Go.Ev Go.RowKit Go.Shelf Go.Proofs Go.Lib Go.Sort
set_option maxRecDepth 100000
def aoc:IJ Tryz.prog 339:=⟨_,Tryz.func339,by decide,rfl⟩
def aob:IJ Tryz.prog 102:=⟨_,Tryz.func102,by decide,rfl⟩
def five{u:List Value}(h:u.length=5):∃a b c d e,u=[a,b,c,d,e]:=by
 match u,h with
 |[a,b,c,d,e],_=>exact⟨a,b,c,d,e,rfl⟩
set_option maxHeartbeats 1000000 in
def atG(x y:LU)(u v:List Value)(W:World)(hu:u.length=5)(hv:v.length=5):Calls Tryz.prog 340 #[.agg (.string ⟨⟨x⟩⟩::u).toArray,.agg (.string ⟨⟨y⟩⟩::v).toArray] W fun e w'=>e=.returned (.int .i64 (compareBytes x y))/\∃q os',w'=grow (W.drewN q) os':=by
 obtain⟨a1,a2,a3,a4,a5,rfl⟩:=five hu;obtain⟨b1,b2,b3,b4,b5,rfl⟩:=five hv;have hcon:=fun W'=>Any.strings_Compare Tryz.laysCmp ⟨⟨x⟩⟩ ⟨⟨y⟩⟩ W';change∀W',Calls Tryz.prog 104 _ _ (fun e w'=>e=.returned (.int .i64 (compareBytes x y))/\w'=W')at hcon;generalize compareBytes x y=r at hcon⊢
 go_enter Tryz.func340,Tryz.ntmps340
 go_wp2_with (go_at_call 104;refine(hcon _).mono ?_;rintro e w' ⟨rfl,rfl⟩)
 go_ret
 exact⟨rfl,0,_,by rw[alloc_eq_grow,alloc_eq_grow,grow_grow];rfl⟩
set_option maxHeartbeats 1000000 in
def atF(x y:LU)(u v:List Value)(W:World)(hu:u.length=5)(hv:v.length=5):Calls Tryz.prog 103 #[.agg (.string ⟨⟨x⟩⟩::u).toArray,.agg (.string ⟨⟨y⟩⟩::v).toArray] W fun e w'=>e=.returned (.int .i64 (compareBytes x y))/\∃q os',w'=grow (W.drewN q) os':=by
 obtain⟨a1,a2,a3,a4,a5,rfl⟩:=five hu;obtain⟨b1,b2,b3,b4,b5,rfl⟩:=five hv;have hcon:=fun W'=>Any.strings_Compare Tryz.laysCmp ⟨⟨x⟩⟩ ⟨⟨y⟩⟩ W';change∀W',Calls Tryz.prog 104 _ _ (fun e w'=>e=.returned (.int .i64 (compareBytes x y))/\w'=W')at hcon;generalize compareBytes x y=r at hcon⊢
 go_enter Tryz.func103,Tryz.ntmps103
 go_wp2_with (go_at_call 104;refine(hcon _).mono ?_;rintro e w' ⟨rfl,rfl⟩)
 go_ret
 exact⟨rfl,0,_,by rw[alloc_eq_grow,alloc_eq_grow,grow_grow];rfl⟩
variable{C:Ctx}(hP:C.P=Tryz.prog)
 include hP
theorem amz:POK C 339 (VB 340):=by
 refine aim (C:=C) (ρ:=Tryz.laysSR_ren) (hP▸Tryz.laysSR) rfl (hP▸aoc) ?_ ?_ ?_ ?_
 ·rw[hP];exact Tryz.isAgg441
 ·rw[hP];exact Tryz.sizeOf441
 ·rw[hP];exact enters_of Tryz.func340 (by kernel_rfl) rfl
 ·rw[hP];exact atG
theorem amy:POK C 102 (VB 103):=by
 refine aim (C:=C) (ρ:=Tryz.laysSM_ren) (hP▸Tryz.laysSM) rfl (hP▸aob) ?_ ?_ ?_ ?_
 ·rw[hP];exact Tryz.isAgg158
 ·rw[hP];exact Tryz.sizeOf158
 ·rw[hP];exact enters_of Tryz.func103 (by kernel_rfl) rfl
 ·rw[hP];exact atF
end Go.Proofs.YtddcpkepggkllaaGreatDoor
namespace Go.Proofs.YtddcpkepggkllaaGreatDoor
open Go.Ev Go.RowKit
set_option maxRecDepth 1000000
noncomputable section
abbrev Bv:=LA->St->Option (AV×St)
def prL:List (FuncId×Bv)->FuncId->Option Bv
 |[],_=>none
 |(g,h)::l,f=>match Nat.beq f g with
  |true=>some h
  |false=>prL l f
def agA{C:Ctx}:∀{l:List (FuncId×Bv)},(∀p∈l,POK C p.1 p.2)->∀f h,prL l f=some h->POK C f h
 |[],_,f,h,e=>by cases e
 |(g,k)::l,hl,f,h,e=>by
  unfold prL at e;split at e
  ·rename_i hb;have:=a98 hb;subst this;cases e;exact hl (f,k) (by simp)
  ·exact agA (fun p hp=>hl p (by simp[hp])) f h e
def jB{C:Ctx}{f:FuncId}{h:Bv}(hp:C.prim f=some h)(args:LA)(O:St):aj C f args O=h args O:=by
 rw[ad2];unfold Yc;rw[hp]
def Uz{C D:Ctx}(hP:D.P=C.P)(hg:∀n l,C.gl n=some l->D.gl n=some l)(hn:C.np=true){f:FuncId}{p:Bv}(h:POK C f p):POK D f p:=by
 intro args O v O' h1 g w args' ha hw hgl;rw[hP];exact h args O v O' h1 g w args' ha hw ⟨fun n l hl=>hgl.1 n l (hg n l hl),.inl hn⟩
def CL0:Ctx:={CC with np:=true}
def apU:afx CL0:=fun f x h=>xE Tryz.prog glT (fun _=>false) VD f x h
def aka:TS CL0:=by
 intro f h hh;change VD f=some h at hh;unfold VD at hh;split at hh
 ·rename_i hf;have:=a98 hf;subst this;cases hh;exact NT (C:=CL0) rfl
 ·cases hh
def ah8:fC CL0 (aj CL0):=IC AY apU aka
def CR1:Ctx:={CR with np:=true}
def afu(n:Nat):fC CR1 (evF CR1 n):=KR (C:=CR1) AY (fun f x h=>xE Tryz.prog glT (fun _=>true) (fun _=>none) f x h) (fun f h hh=>by simp[CR1,CR,iG]at hh) n
def aso{f:FuncId}{K:KF}(h:Has CC f K):Has CL0 f K:=⟨h.fs,h.prim,h.raw,h.ok⟩
def isS:AV->Bool
 |.str _=>true
 |_=>false
def YL(args:LA)(O:St):Option (AV×St):=
 match args with
 |[.sl n l]=>match Ky (Ky (Nat.beq l.length n) (Nat.ble n 8192)) (l.all isS)with
  |true=>some (.sl n l,O)
  |false=>none
 |_=>none
def ahZ:∀{l:LA},l.all isS=true->∃ns:List LU,l=ns.map .str
 |[],_=>⟨[],rfl⟩
 |a::l,h=>by
  rw[a07,a02]at h;obtain⟨ns,rfl⟩:=ahZ h.2;cases a with
  |str s=>exact⟨s::ns,rfl⟩
  |_=>cases h.1
def amw:POK CL0 aG YL:=by
 intro args O v O' h g w args' ha hw hg;unfold YL at h;split at h
 ·rename_i n l;split at h
  ·rename_i hb;rw[qF,a02,qF,a02]at hb;have hl:=a98 hb.1.1;have hn:=aw4 hb.1.2;cases h;by_cases h0:n=0
   ·subst h0;have:l=[]:=aC5.mp hl;subst this;exact PY (C:=CR1) (afu 100) jL (by kernel_rfl) (by kernel_rfl) [.sl 0 []] O _ _ rfl g w args' ha hw hg
   ·obtain⟨ns,rfl⟩:=ahZ hb.2;have hl:ns.length=n:=by simpa using hl
    subst hl;refine qH ah8 jL ?_ (afQ (C:=CL0) (aso (acz (by kernel_rfl) (by kernel_rfl) (by kernel_rfl) rfl rfl)) ns (by omega) hn [] ok0) ha hw hg
    rw[ai,below,qY];rfl
  ·cases h
 ·cases h
def amR:nI (evF CR1 3000 zN [] []) (.agg A8)=true:=by kernel_rfl
def acP(args:LA)(O:St):Option (AV×St):=match args with|[]=>some (.agg A8,O)|_=>none
def amv:POK CL0 zN acP:=by
 intro args O v O' h g w args' ha hw hg;unfold acP at h;split at h
 ·cases h;exact qH (C:=CR1) (afu 3000) jL rfl (Jz amR) ha hw hg
 ·cases h
def glX(u1 u2:TypeId)(g:Nat):Option LA:=match Nat.beq g pU with
 |true=>some [.iface u1 (.eptr [])]
 |false=>match Nat.beq g oC with
  |true=>some [.iface u2 (.eptr [])]
  |false=>glT g
def aeQ(f:FuncId):Bool:=match Nat.beq f dK with
 |true=>true
 |false=>match Nat.beq f CE with
  |true=>true
  |false=>Nat.beq f fA
def ar6:Bv:=Tc (fun s=>.tup [.int .i64 ((BO s).getD 0:Nat),.bool (BO s).isSome])
def OQ:List (FuncId×Bv):=[(kw,VA),(jq,GV),(o7,A7),(gI,VB DN),(lF,VB Gy),(aG,YL),(zN,acP),(FI,ajH),(aaB,ar6)]
def C0(u1 u2:TypeId):Ctx:={iG Tryz.prog (glX u1 u2) aeQ (prL OQ)with np:=true}
variable{u1 u2:TypeId}
def aea:∀n l,glT n=some l->glX u1 u2 n=some l:=by
 intro n l h;unfold glX;split
 ·rename_i hb;have:=a98 hb;subst this;rw[show glT pU=none by kernel_rfl]at h
  cases h
 ·split
  ·rename_i hb;have:=a98 hb;subst this;rw[show glT oC=none by kernel_rfl]at h
   cases h
  ·exact h
def aiI:∀n l,(C0 u1 u2).gl n=some l->ai 0 l=true:=by
 intro n l h;change glX u1 u2 n=some l at h;unfold glX at h;split at h
 ·cases h;rfl
 ·split at h
  ·cases h;rfl
  ·exact jL n l h
def arX:afx (C0 u1 u2):=fun f x h=>xE Tryz.prog (glX u1 u2) aeQ (prL OQ) f x h
def anF:TS (C0 u1 u2):=by
 have tr:∀{f p},POK CL0 f p->POK (C0 u1 u2) f p:=fun h=>Uz (C:=CL0) (D:=C0 u1 u2) rfl (fun n l hl=>aea n l hl) rfl h;have hP:(C0 u1 u2).P=Tryz.prog:=rfl;have h:=agA (C:=C0 u1 u2) (l:=OQ) (by
  unfold OQ;simp only[az1];exact⟨aij hP,abl hP,NT hP,amz hP,amy hP,tr amw,tr amv,ara hP rfl rfl rfl rfl,amu hP,fun _ h=>by simp at h⟩)
 exact h
def IG:fC (C0 u1 u2) (aj (C0 u1 u2)):=IC AY arX anF
def has{f:FuncId}{K:KF}(h1:cF Tryz.prog f=some K.forget:=by kernel_rfl)(h2:PI Tryz.prog f=true:=by kernel_rfl)(h3:K.ok=true:=by kernel_rfl)(hp:prL OQ f=none:=by exact rfl)(hr:aeQ f=false:=by exact rfl):Has (C0 u1 u2) f K:=by
 refine⟨?_,hp,hr,h3⟩;show(iG Tryz.prog (glX u1 u2) aeQ (prL OQ)).fs f=_;simp only[iG,h2,h1]
def aqD{f:FuncId}{K:KF}(h1:cF Tryz.prog f=some K.forget:=by kernel_rfl)(h2:PI Tryz.prog f=true:=by kernel_rfl)(h3:K.ok=true:=by kernel_rfl)(hp:prL OQ f=none:=by exact rfl)(hr:aeQ f=true:=by exact rfl):Kt (C0 u1 u2) f K:=by
 refine⟨?_,hp,hr,h3⟩;show(iG Tryz.prog (glX u1 u2) aeQ (prL OQ)).fs f=_;simp only[iG,h2,h1]
def atI{f:FuncId}(h:Xo Tryz.prog f=true)(hp:prL OQ f=none)(hr:aeQ f=false):Has (C0 u1 u2) f (kA Tryz.prog f):=by
 have k:=aog (gl:=glX u1 u2) h hp hr;exact⟨k.fs,k.prim,k.raw,k.ok⟩
end
section
variable{u1 u2:TypeId}
def ar5(s:LU)(Y:St)(h:s.length<=1099511627776):∃(n:Int) (v:AV),ajH [.str s,.int .i64 10,.int .i64 64] Y=some (.tup [.int .i64 n,v],Y)/\(v=.nilIface\/∃t x,v=.iface t x):=by
 unfold ajH;dsimp only;rw[if_pos ⟨rfl,rfl,h⟩];split
 ·exact⟨_,_,rfl,.inl rfl⟩
 ·exact⟨_,_,rfl,.inr ⟨_,_,rfl⟩⟩
 ·exact⟨_,_,rfl,.inr ⟨_,_,rfl⟩⟩
end
def aak:∀s:LU,KH (ofBytes s)=some s
 |[]=>rfl
 |a::s=>by
  have h:=aak s;have hb:Nat.ble a.toNat 255=true:=az8 (Nat.le_of_lt_succ (UInt8.toNat_lt a));show KH (.int .u8 (.ofNat a.toNat)::ofBytes s)=_;unfold KH;simp only[hb,h];simp
section
variable(u1 u2:TypeId)
theorem aoE:ahc (C0 u1 u2):=fun s Y hs hτ=>by
 obtain⟨n,v,h1,h2⟩:=ar5 s Y (by omega)
 exact⟨n,v,(jB (h:=ajH) rfl _ _).trans h1,h2⟩
theorem aqZ:afB (C0 u1 u2):=fun s i Y hs hi hτ=>amd (has) (has) (aoE u1 u2) s (by omega) i hi Y hτ
theorem akw:BldHas (C0 u1 u2)where
 copy0:=fun O o b h=>by
  rw[jB (h:=VA) rfl];simp only[VA,h,bT]
 copy1:=fun O o b h=>by
  rw[jB (h:=VA) rfl];have e:=aE1 o;simp only[VA,h,bT,e]
 str0:=fun O o p h=>by
  rw[jB (h:=GV) rfl];simp only[GV,h,bT]
 str1:=fun O o q p w h k hw hl=>by
  rw[jB (h:=GV) rfl];cases w with
  |nil=>exact absurd rfl hw
  |cons b s=>
   have e:=aak (b::s);have e1:Nat.beq (b::s).length (b::s).length=true:=aE1 _;have e2:Nat.ble (b::s).length 1099511627776=true:=az8 hl;simp only[bT,uT]at k h;simp only[GV,h,k,e,qF,e1,e2,av6]
 wstr:=has
 wbyte:=has
theorem agC:DL (C0 u1 u2)where
 toBldHas:=akw u1 u2
 lead:=has
 next:=has
 put:=has
 digit:=has
 number:=has
 four:=has
 coded:=has
 dec:=has
 dec1:=has
 dec11:=has
 item:=has
 blen:=has
 read:=has
 quote:=has
 valid:=has
 dig:=fun s i O=>by
  rw[NH (has) s i O];cases RU s i<;>exact⟨_,_,rfl⟩
 len:=fun s O h=>by
  rw[jB (h:=ar6) rfl];unfold ar6 Tc;dsimp only;rw[if_pos (az8 (by omega))]
  exact⟨_,_,rfl⟩
theorem arl:abT (C0 u1 u2):=aoN (agC u1 u2)
theorem amS:adu (C0 u1 u2):=fun Y hτ=>by rw[jB (h:=acP) rfl];rfl
theorem ap4:Gj (C0 u1 u2):=by constructor<;>exact has
theorem aqR:Xg (C0 u1 u2)where
 sign:=ap4 u1 u2
 skip:=has
 word:=has
 number:=has
 text:=has
 num:=aqZ u1 u2
 quo:=arl u1 u2
 rules:=amS u1 u2
 token:=has
 next:=has
theorem ak6:ML (C0 u1 u2)where
 lex:=aqR u1 u2
 space:=has
 next:=has
 wrong:=has
 expect:=has
 more:=has
 srt:=aiD fun args O=>jB rfl args O
 sorted:=aqD
 member:=has
 object:=has
 list:=has
 value:=has
theorem akK:W9 (C0 u1 u2):=fun ns O hn hσ=>by
 rw[jB (h:=YL) rfl];have h1:Nat.beq (ns.map AV.str).length ns.length=true:=by rw[ax5];exact aE1 _
 have h2:=az8 hn;have h3:(ns.map AV.str).all isS=true:=by
  rw[List.all_map,a94];exact fun _ _=>rfl
 unfold YL;simp only[qF,h1,h2,h3,av6]
theorem acj:CopyHas (C0 u1 u2):=⟨akK u1 u2,has,has,has⟩
theorem aoa:Wu (C0 u1 u2):=by constructor<;>exact has
theorem ar1:abS (C0 u1 u2)where
 toCopyHas:=acj u1 u2
 clone:=fun xs h0 hn O hσ=>ZU (aqD) xs h0 hn O hσ
 srt:=aiD fun args O=>jB rfl args O
 of:=has
theorem aqB:TP (C0 u1 u2)where
 len:=has
 log:=has
 b2i:=has
 nd:=has
 gl:=rfl
 fb:=aqD
 small:=has
 int:=has
 fmt:=has
 show_:=has
theorem aqt:O7 (C0 u1 u2)where
 toBldHas:=akw u1 u2
 quote:=fun s hs O hσ=>by
  obtain⟨q,e,h1,h2⟩:=YO (agC u1 u2) s O hσ;exact⟨q,e,h1,by omega⟩
 num:=fun n O hσ=>aeC (aqB u1 u2) n O hσ
 enc:=has
 enc1:=has
 enc2:=has
theorem aiB:Pm (C0 u1 u2)where
 new:=has
 sum:=has
 write:=has
 mix:=has
 rot:=has
 sumF:=has
 digest:=has
 encode:=has
 gr:=rfl
 gi:=rfl
 gd:=rfl
 rep:=fun n hn O=>by
  rw[jB (h:=A7) rfl];have hb:Nat.blt n 64=true:=az8 hn;change A7 [.str [0],.int .i64 (.ofNat n)] O=_;unfold A7;simp only[hb];rfl
theorem aor:abO (C0 u1 u2)where
 sha:=aiB u1 u2
 block:=has
 combine:=has
 of:=has
 of1:=has
 of2:=has
theorem afg:iF (C0 u1 u2) iI Dq (.pure [.strb] .bool):=fun O bs bs' O1 hok hh hok1 hm=>by
 obtain⟨x,rfl,h1⟩:=ZW hm;obtain⟨a,rfl,ha⟩:=zu h1;obtain⟨rfl,rfl⟩:=aji (ss:=[a]) hh;obtain⟨b,hb⟩:=TG (agC u1 u2) a (by simp only[LB]at ha;omega) O1
 exact⟨.bool b,hb,.bool _⟩
end
open Go.Ev
def mtL:List (TypeId×String×FuncId):=[(190,"legate/judge.good",402),(197,"legate/judge.good",404)]
abbrev vC(n:Int):HO:=.cells [.ic .u8 0,.ic .i64 0,.sc [],.nils,.nils,.nilM,.ic .i64 n]
abbrev Jq:HO:=.cells [.jv,.map 1,.int .i64]
abbrev Jr:HO:=.map (.int .i64)
abbrev aS:Sh:=.int .i64
abbrev aZ:Sh:=.strb
abbrev kz:Sh:=.slx [.strb]
abbrev wS:Sh:=.slx [.strb,.strb]
abbrev L9:Sh:=.agg [.strb,.strb]
def ati:List (FuncId×Sm):=[(160,.pure [aS] .bool),
 (213,.pure [aS,aS] .bool),
 (212,.pure [aZ] aS),
 (297,.pure [kz] .bool),
 (183,.pure [aZ] .bool),
 (159,.pure [aS] aS),
 (94,.pure [aS] aS)]
def amI:List (FuncId×Sm):=[(200,.pure [wS,aZ] (.tup [aZ,.bool])),
 (148,.pof [.jv]),
 (209,.chg [Jq,Jr] [.ref 0 0] aS),
 (209,.chg [vC 10] [.ref 0 0] (.ic .i64 10)),
 (209,.chg [vC 3] [.ref 0 0] (.ic .i64 3)),
 (209,.pk [] aS),
 (216,.chg [.dead,.dead,.cells [aS]] [.jv,.ref 2 0] (.tup [.jv,aS])),
 (208,.pure [.jv] (.tup [aZ,aS])),
 (211,.chg [.dead,.dead,.cells [aS],.cells [aS]] [.jv,.ref 2 0,.ref 3 0] (.tup [aS,aS])),
 (173,.pure [aZ] .bool),
 (244,.pure [aZ,aZ] (.tup [aZ,.bool])),
 (274,.pure [.jv,aS] (.tup [.sljx,aS])),
 (183,.pure [aZ] .bool),
 (248,.pure [.slx [aZ,aS,kz,.bool,kz,kz],aZ] .bool),
 (145,.pure [.int .u8] .bool),
 (324,.pure [.jv] (.tup [.jv,aS]))]
def amJ:List (FuncId×Sm):=[(250,.pure [aZ] .bool),
 (315,.pure [aZ] .bool),
 (70,.pure [aZ] .jv),
 (342,.chg [.dead,.dead,.cells [aS]] [.jv,.ref 2 0] (.tup [kz,aS])),
 (293,.pure [aS] .bool),
 (294,.pure [aS] aS),
 (346,.pure [.jv] (.tup [.bool,aS])),
 (291,.pure [aZ] .bool),
 (292,.pure [aZ] .bool),
 (403,.pure [aZ,aZ] .bool),
 (406,.pure [.slx [aZ,aZ,aZ],.agg [aZ,aZ,aZ]] aS),
 (150,.chg [Jq,Jr] [.ref 0 0,aS] (.tup [])),
 (150,.chg [vC 10] [.ref 0 0,aS] (.tup [])),
 (150,.chg [vC 3] [.ref 0 0,aS] (.tup [])),
 (150,.pk [aS] (.tup [])),
 (156,.chg [Jq,Jr] [.ref 0 0] aS)]
def amK:List (FuncId×Sm):=[(156,.chg [vC 10] [.ref 0 0] aS),
 (156,.chg [vC 3] [.ref 0 0] aS),
 (156,.pk [] aS),
 (198,.chg [Jq,Jr] [.ref 0 0,aZ] .bool),
 (198,.chg [vC 10] [.ref 0 0,aZ] .bool),
 (198,.chg [vC 3] [.ref 0 0,aZ] .bool),
 (198,.pk [aZ] .bool),
 (273,.chg [.dead,.dead,.cells [aS]] [.jv,.ref 2 0] (.tup [.sljx,aS])),
 (272,.chg [Jq,Jr,.cells [aS]] [.ref 0 0,aZ,.func (.func 273) [] [.ref 2 0]] .sljx),
 (272,.chg [vC 10,.cells [aS]] [.ref 0 0,aZ,.func (.func 273) [] [.ref 1 0]] .sljx),
 (272,.chg [vC 3,.cells [aS]] [.ref 0 0,aZ,.func (.func 273) [] [.ref 1 0]] .sljx),
 (182,.pure [L9] .bool),
 (215,.chg [Jq,Jr,.cells [aS]] [.ref 0 0,aZ,.func (.func 216) [] [.ref 2 0]] .jv),
 (215,.chg [vC 10,.cells [aS]] [.ref 0 0,aZ,.func (.func 216) [] [.ref 1 0]] .jv),
 (215,.chg [vC 3,.cells [aS]] [.ref 0 0,aZ,.func (.func 216) [] [.ref 1 0]] .jv),
 (215,.chg [Jq,Jr] [.ref 0 0,aZ,.func (.func 324) [] []] .jv)]
def amL:List (FuncId×Sm):=[(215,.chg [vC 10] [.ref 0 0,aZ,.func (.func 324) [] []] .jv),
 (215,.chg [vC 3] [.ref 0 0,aZ,.func (.func 324) [] []] .jv),
 (207,.chg [Jq,Jr] [.ref 0 0,aZ,.func (.func 208) [] []] aZ),
 (207,.chg [vC 10] [.ref 0 0,aZ,.func (.func 208) [] []] aZ),
 (207,.chg [vC 3] [.ref 0 0,aZ,.func (.func 208) [] []] aZ),
 (210,.chg [Jq,Jr,.cells [aS],.cells [aS]] [.ref 0 0,aZ,.func (.func 211) [] [.ref 2 0,.ref 3 0]] aS),
 (210,.chg [vC 10,.cells [aS],.cells [aS]] [.ref 0 0,aZ,.func (.func 211) [] [.ref 1 0,.ref 2 0]] aS),
 (210,.chg [vC 3,.cells [aS],.cells [aS]] [.ref 0 0,aZ,.func (.func 211) [] [.ref 1 0,.ref 2 0]] aS),
 (158,.pure [kz] aS),
 (86,.pure [aZ] .bool),
 (245,.pure [aZ] .bool),
 (304,.chg [Jq,Jr] [.ref 0 0,aZ] .jv),
 (304,.chg [vC 10] [.ref 0 0,aZ] .jv),
 (304,.chg [vC 3] [.ref 0 0,aZ] .jv),
 (304,.pk [aZ] .jv),
 (119,.pure [L9] .bool)]
def amM:List (FuncId×Sm):=[(79,.pure [L9] (.tup [.jv,aS])),
 (249,.pure [.agg [aS,kz,aS,aZ]] aS),
 (118,.pure [.agg [.jv,wS]] .jv),
 (402,.pure [.agg [],L9,L9,aZ] .bool),
 (341,.chg [Jq,Jr,.cells [aS]] [.ref 0 0,aZ,.func (.func 342) [] [.ref 2 0]] (kz)),
 (341,.chg [vC 10,.cells [aS]] [.ref 0 0,aZ,.func (.func 342) [] [.ref 1 0]] (kz)),
 (341,.chg [vC 3,.cells [aS]] [.ref 0 0,aZ,.func (.func 342) [] [.ref 1 0]] (kz)),
 (345,.chg [Jq,Jr] [.ref 0 0,aZ,.func (.func 346) [] []] .bool),
 (345,.chg [vC 10] [.ref 0 0,aZ,.func (.func 346) [] []] .bool),
 (345,.chg [vC 3] [.ref 0 0,aZ,.func (.func 346) [] []] .bool),
 (290,.pure [kz,.func (.func 291) [] []] .bool),
 (290,.pure [kz,.func (.func 292) [] []] .bool),
 (405,.pure [.slx [aZ,aZ,aZ],.agg [aZ,aZ,aZ]] .bool),
 (205,.chg [Jq,Jr] [.ref 0 0,aZ,aS] .sljx),
 (205,.chg [vC 10] [.ref 0 0,aZ,aS] .sljx),
 (205,.chg [vC 3] [.ref 0 0,aZ,aS] .sljx)]
def amN:List (FuncId×Sm):=[(205,.pk [aZ,aS] .sljx),
 (154,.chg [Jq,Jr] [.ref 0 0,aZ,aS] .jv),
 (154,.chg [vC 10] [.ref 0 0,aZ,aS] .jv),
 (154,.chg [vC 3] [.ref 0 0,aZ,aS] .jv),
 (154,.pk [aZ,aS] .jv),
 (149,.chg [Jq,Jr] [.ref 0 0,aZ] aZ),
 (149,.chg [vC 10] [.ref 0 0,aZ] aZ),
 (149,.chg [vC 3] [.ref 0 0,aZ] aZ),
 (149,.pk [aZ] aZ),
 (151,.chg [Jq,Jr] [.ref 0 0,aZ,aS,aS] aS),
 (151,.chg [vC 10] [.ref 0 0,aZ,aS,aS] aS),
 (151,.chg [vC 3] [.ref 0 0,aZ,aS,aS] aS),
 (151,.pk [aZ,aS,aS] aS),
 (93,.pure [.agg [aS,kz]] .bool),
 (170,.pure [aZ] (.tup [aZ,aS])),
 (303,.pure [.jv] (.tup [wS,aS]))]
def amO:List (FuncId×Sm):=[(259,.pure [.jv] (.tup [.agg [aS,wS,.jv],aS])),
 (214,.pure [.jv] (.tup [L9,aS])),
 (44,.pure [L9] (.tup [aZ,aS])),
 (178,.pure [.agg [aS,kz,aS,aZ]] .bool),
 (114,.pure [.agg [.jv,wS]] .bool),
 (314,.chg [Jq,Jr] [.ref 0 0,aZ,aS] (kz)),
 (314,.chg [vC 10] [.ref 0 0,aZ,aS] (kz)),
 (314,.chg [vC 3] [.ref 0 0,aZ,aS] (kz)),
 (314,.pk [aZ,aS] (kz)),
 (328,.chg [Jq,Jr] [.ref 0 0,aZ] .bool),
 (328,.chg [vC 10] [.ref 0 0,aZ] .bool),
 (328,.chg [vC 3] [.ref 0 0,aZ] .bool),
 (328,.pk [aZ] .bool),
 (247,.pure [.agg [aZ,aS,kz,.bool,kz,kz]] .bool),
 (404,.pure [.agg [.slx [aZ,aZ,aZ]],L9,L9,aZ] .bool),
 (307,.pure [aZ,.jv] (.tup [.agg [aZ,aS,aS,wS],aS]))]
def amP:List (FuncId×Sm):=[(206,.pure [.jv] (.tup [L9,aS])),
 (197,.pure [.jv] (.tup [.slx [aZ,aS,wS,.jv],aS])),
 (153,.pure [.jv] (.tup [wS,aS])),
 (76,.pure [.agg [.jv,wS]] (.tup [aZ,aS])),
 (218,.pure [wS,aZ] (.tup [L9,.bool])),
 (275,.chg [Jq,Jr] [.ref 0 0] (.agg [aS,kz])),
 (275,.chg [vC 10] [.ref 0 0] (.agg [aS,kz])),
 (275,.chg [vC 3] [.ref 0 0] (.agg [aS,kz])),
 (275,.pk [] (.agg [aS,kz])),
 (306,.pure [.jv] (.tup [.agg [aZ,aS,kz,.bool,kz,kz],aS])),
 (276,.ro [.iface 190 (.agg [])] [L9,L9,aZ] .bool),
 (276,.ro [.iface 197 (.agg [.slx [aZ,aZ,aZ]])] [L9,L9,aZ] .bool),
 (147,.pure [.jv] (.tup [.agg [.jv,wS],aS])),
 (261,.pure [.jv] (.tup [.agg [aS,kz,aS,aZ],aS])),
 (262,.pure [.sljx] (.tup [.slx [aZ,aS,kz,.bool,kz,kz],aS])),
 (219,.ro [.iface 190 (.agg [])] [L9,aZ,wS,aZ] .bool)]
def amQ:List (FuncId×Sm):=[(219,.ro [.iface 197 (.agg [.slx [aZ,aZ,aZ]])] [L9,aZ,wS,aZ] .bool),
 (217,.pure [.jv] (.tup [.agg [aS,kz],aS])),
 (199,.pure [.jv] (.tup [.agg [wS,.slx [aZ,aS,kz,.bool,kz,kz],aS,kz,aS,aZ],aS])),
 (157,.ro [.iface 190 (.agg [])] [.agg [.jv,wS],.agg [aS,kz],wS] aS),
 (157,.ro [.iface 197 (.agg [.slx [aZ,aZ,aZ]])] [.agg [.jv,wS],.agg [aS,kz],wS] aS),
 (155,.pure [.jv] (.tup [.agg [aS,kz,aS,kz,aS,kz],aS])),
 (132,.pure [.jv] (.tup [.agg [aS,aS,.slx [aZ,aS,wS,.jv],wS,.slx [aZ,aS,kz,.bool,kz,kz],aS,kz,aS,aZ],aS])),
 (89,.ro [.iface 190 (.agg [])] [.agg [.jv,wS],.agg [aS,kz],wS] .bool),
 (89,.ro [.iface 197 (.agg [.slx [aZ,aZ,aZ]])] [.agg [.jv,wS],.agg [aS,kz],wS] .bool),
 (88,.pure [.jv] (.tup [.agg [aS,aS,wS,aS,kz,aS,kz,aS,kz],aS]))]
def asK:∀p∈mtL,methodOf Tryz.prog p.1 .nilp p.2.1=some (p.2.2,.nilp):=by
 unfold mtL;simp only[az1];exact⟨by kernel_rfl,by kernel_rfl,fun _ h=>by simp at h⟩
noncomputable def rowOk(p:FuncId×Sm):Bool:=Xo Tryz.prog p.1&&((prL OQ p.1).isNone&& !aeQ p.1)
section
variable{u1 u2:TypeId}
def ale{rows:List (FuncId×Sm)}(h:rows.all rowOk=true):∀p∈rows,Has (C0 u1 u2) p.1 (kA Tryz.prog p.1):=fun p hp=>by
 have k:=a94.mp h p hp;unfold rowOk at k;simp only[a02,Option.isNone_iff_eq_none,aB3]at k;exact atI k.1 k.2.1 k.2.2
def hand1:List (FuncId×Sm):=[(ny,.pure [.strb,.int .i64] (.tup [.int .i64,.bool]))]
def Yh:∀p∈hand1,iF (C0 u1 u2) iI p.1 p.2:=by
 unfold hand1;simp only[az1];exact⟨ad7 (has),fun _ h=>by simp at h⟩
def F7(u1 u2:TypeId)(l:List (FuncId×Sm)):Prop:=∀p∈l,iF (C0 u1 u2) iI p.1 p.2
def ag7(n:Nat):Option Sh:=match Nat.beq n Dy with
 |true=>some (.eptr 0 [.sc [114,111,111,116],.sc [115,110,97,112,115,104,111,116],.sc [116,97,114,103,101,116,115]])
 |false=>none
def aje:∀n s,ag7 n=some s->∀V:Val,M V s (.eptr (((C0 u1 u2).gl n).getD [])):=by
 intro n s h V;unfold ag7 at h;split at h
 ·rename_i hb;have:=a98 hb;subst this;cases h;have e:((C0 u1 u2).gl Dy).getD []=[.str [114,111,111,116],.str [115,110,97,112,115,104,111,116],.str [116,97,114,103,101,116,115]]:=by
   show(glX u1 u2 Dy).getD []=_;rw[aea Dy [.str [114,111,111,116],.str [115,110,97,112,115,104,111,116],.str [116,97,114,103,101,116,115]] (by kernel_rfl)]
   rfl
  rw[e];exact M.eptr 0 _ [.str [114,111,111,116],.str [115,110,97,112,115,104,111,116],.str [116,97,114,103,101,116,115]] [] (.one _ _ _ _ rfl (.sc _) (.one _ _ _ _ rfl (.sc _) (.one _ _ _ _ rfl (.sc _) .nil))) (au3 _) rfl
 ·cases h
def stage{h rows:List (FuncId×Sm)}(H:F7 u1 u2 h)(c:rows.all rowOk=true)(r:(afF (aqp ag7 mtL h) (apO Tryz.prog rows)).isSome=true):F7 u1 u2 (rows++h):=fun p hp=>(aA4.mp hp).elim (afH aje asK H (ale c) r p) (H p)
def sm1:F7 u1 u2 (ati++hand1):=stage Yh (by kernel_rfl) (by kernel_rfl)
def arC:iF (C0 u1 u2) iI Ve (.pure [aS] .bool):=sm1 _ (a88 (i:=0) rfl)
def arG:iF (C0 u1 u2) iI KZ (.pure [aS,aS] .bool):=sm1 _ (a88 (i:=1) rfl)
def an8:iF (C0 u1 u2) iI Hu (.pure [aZ] aS):=sm1 _ (a88 (i:=2) rfl)
def atm:iF (C0 u1 u2) iI qP (.pure [kz] .bool):=sm1 _ (a88 (i:=3) rfl)
def atQ:iF (C0 u1 u2) iI KT (.pure [aZ] .bool):=sm1 _ (a88 (i:=4) rfl)
def ap6:iF (C0 u1 u2) iI Rj (.pure [aS] aS):=sm1 _ (a88 (i:=6) rfl)
def aph:Wx (C0 u1 u2) iI where
 days:=has
 read:=has
 bef:=rfl
 leap:=arC
 upTo:=arG
 start:=ap6
 digits:=an8
def anA:IR (C0 u1 u2) iI where
 proper:=has
 written:=has
 may:=has
 May:=has
 valid:=afg u1 u2
 ascending:=atm
def aqE:Xa (C0 u1 u2) iI:=⟨has,atQ,Yh _ (a88 (i:=0) rfl)⟩
def hand2:List (FuncId×Sm):=[(ny,.pure [.strb,.int .i64] (.tup [.int .i64,.bool])),(Du,.pure [.jv] .bool),(Dv,.pure [.strb] (.tup [.int .i64,.int .i64])),(Es,.pure [.jv] .jv),(Dt,.pure [.jv,.strb] (.tup [.jv,.bool])),(Dq,.pure [.strb] .bool),(jk,.pure [.jv] (.tup [.strb,.int .i64])),(qO,.pure [.strb] .strb),(vw,.pure [.slc 2 [.strb,.jv,.strb,.jv]] (.tup [.jv,.int .i64])),(Eo,.pure [.strb] (.tup [.strb,.int .i64])),(Dk,.pure [.strb,.strb] .strb),(eX,.pure [.strb,.strb] (.tup [.strb,.bool]))]
def RJ:∀p∈hand2,iF (C0 u1 u2) iI p.1 p.2:=by
 unfold hand2;simp only[az1];exact⟨Yh _ (a88 (i:=0) rfl),ada anA,adb aph,Z8 (acj u1 u2),ad9 (acj u1 u2) (aoa u1 u2) (has),afg u1 u2,Wh (aqt u1 u2) anA (has),Z7 (aiB u1 u2),aff (ar1 u1 u2) (has),Z5 aqE,ajX (aor u1 u2),ad6 _ (has) (has),fun _ h=>by simp at h⟩
def sB0:F7 u1 u2 (amI++hand2):=stage RJ (by kernel_rfl) (by kernel_rfl)
def hB0:List (FuncId×Sm):=amI++hand2
def sB1:F7 u1 u2 (amJ++hB0):=stage sB0 (by kernel_rfl) (by kernel_rfl)
def hB1:List (FuncId×Sm):=amJ++hB0
def sB2:F7 u1 u2 (amK++hB1):=stage sB1 (by kernel_rfl) (by kernel_rfl)
def hB2:List (FuncId×Sm):=amK++hB1
def sB3:F7 u1 u2 (amL++hB2):=stage sB2 (by kernel_rfl) (by kernel_rfl)
def hB3:List (FuncId×Sm):=amL++hB2
def sB4:F7 u1 u2 (amM++hB3):=stage sB3 (by kernel_rfl) (by kernel_rfl)
def hB4:List (FuncId×Sm):=amM++hB3
def sB5:F7 u1 u2 (amN++hB4):=stage sB4 (by kernel_rfl) (by kernel_rfl)
def hB5:List (FuncId×Sm):=amN++hB4
def sB6:F7 u1 u2 (amO++hB5):=stage sB5 (by kernel_rfl) (by kernel_rfl)
def hB6:List (FuncId×Sm):=amO++hB5
def sB7:F7 u1 u2 (amP++hB6):=stage sB6 (by kernel_rfl) (by kernel_rfl)
def hB7:List (FuncId×Sm):=amP++hB6
def sB8:F7 u1 u2 (amQ++hB7):=stage sB7 (by kernel_rfl) (by kernel_rfl)
def an9:iF (C0 u1 u2) iI jc (.pure [.strb] (.tup [.jv,.int .i64,.int .i64])):=ad8 (ak6 u1 u2) (has)
def apr:List (FuncId×Sm):=(jc,.pure [.strb] (.tup [.jv,.int .i64,.int .i64]))::(amQ++hB7)
def alc:F7 u1 u2 apr:=by
 unfold apr F7;rw[az1];exact⟨an9,sB8⟩
def ap5:iF (C0 u1 u2) iI Dp (.pure [.strb] (.tup [.agg [.jv,.slx [.strb,.strb]],.int .i64])):=stage (rows:=[(Dp,.pure [.strb] (.tup [.agg [.jv,.slx [.strb,.strb]],.int .i64]))]) alc (by kernel_rfl) (by kernel_rfl) _ (a88 (i:=0) rfl)
def arB:iF (C0 u1 u2) iI yA (.pure [wS,aZ] (.tup [aZ,.bool])):=sB0 _ (a88 (i:=0) rfl)
def atq:iF (C0 u1 u2) iI Ic (.pure [.jv] (.tup [.agg [aS,aS,wS,aS,kz,aS,kz,aS,kz],aS])):=sB8 _ (a88 (i:=9) rfl)
def arD:iF (C0 u1 u2) iI xu (.pure [.jv] (.tup [.agg [.jv,wS],aS])):=sB7 _ (a88 (i:=12) rfl)
def arE:iF (C0 u1 u2) iI EH (.pure [.jv] (.tup [.agg [aS,aS,.slx [aZ,aS,wS,.jv],wS,.slx [aZ,aS,kz,.bool,kz,kz],aS,kz,aS,aZ],aS])):=sB8 _ (a88 (i:=6) rfl)
def ajV:iF (C0 u1 u2) iI jm (.ro [.iface 190 (.agg [])] [.agg [.jv,wS],.agg [aS,kz],wS] .bool):=sB8 _ (a88 (i:=7) rfl)
def ajW:iF (C0 u1 u2) iI jm (.ro [.iface 197 (.agg [.slx [aZ,aZ,aZ]])] [.agg [.jv,wS],.agg [aS,kz],wS] .bool):=sB8 _ (a88 (i:=8) rfl)
def arF:iF (C0 u1 u2) iI JP (.pk [aZ] aZ):=sB5 _ (a88 (i:=8) rfl)
def atn:iF (C0 u1 u2) iI KX (.pk [aZ,aS,aS] aS):=sB5 _ (a88 (i:=12) rfl)
def ato:iF (C0 u1 u2) iI Gx (.pk [aZ,aS] .jv):=sB5 _ (a88 (i:=4) rfl)
def arA:iF (C0 u1 u2) iI JO (.pk [aS] (.tup [])):=sB1 _ (a88 (i:=14) rfl)
def arz:iF (C0 u1 u2) iI JM (.pk [] aS):=sB2 _ (a88 (i:=2) rfl)
def atS:iF (C0 u1 u2) iI aaA (.pof [.jv]):=sB0 _ (a88 (i:=1) rfl)
def atp:iF (C0 u1 u2) iI Rf (.pure [aZ,.jv] (.tup [.agg [aZ,aS,aS,wS],aS])):=sB6 _ (a88 (i:=15) rfl)
def ap7:Ce (C0 u1 u2) iI where
 text:=arF
 num:=atn
 obj:=ato
 fail:=arA
 done:=arz
 of:=atS
 pin:=atp
 when:=RJ _ (a88 (i:=2) rfl)
 May:=RJ _ (a88 (i:=1) rfl)
 parts:=has
 pType:=has
 pVersion:=has
 pExpires:=has
 pMeta:=has
 snapOf:=has
end
end Go.Proofs.YtddcpkepggkllaaGreatDoor
