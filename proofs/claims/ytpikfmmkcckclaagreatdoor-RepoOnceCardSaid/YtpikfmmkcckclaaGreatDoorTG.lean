/- Contracts. No conditions. -/
import Derived.Test.YtpikfmmkcckclaaGreatDoorTC
import Derived.KernelRfl
import Derived.Test.YtpikfmmkcckclaaGreatDoorTD
import Derived.Test.YtpikfmmkcckclaaGreatDoorTE
import Derived.Test.YtpikfmmkcckclaaGreatDoorTF
import Derived.Test.YtpikfmmkcckclaaGreatDoorCD
import Derived.Test.YtpikfmmkcckclaaGreatDoorTB
import Derived.Shelf.SlSortCmp.WholeK
import Derived.Shelf.Small.Strs
import Derived.Test.YtpikfmmkcckclaaGreatDoorProg
import Derived.Test.YtpikfmmkcckclaaGreatDoorCF
import Derived.Test.YtpikfmmkcckclaaGreatDoorEC
import Derived.Test.YtpikfmmkcckclaaGreatDoorCE
import Derived.Test.YtpikfmmkcckclaaGreatDoorCC
import Derived.Test.YtpikfmmkcckclaaGreatDoorCB
set_option linter.unusedVariables false
set_option linter.unusedSimpArgs false
set_option linter.defProp false
namespace Go.Proofs.YtpikfmmkcckclaaGreatDoor
open Go.Ev
set_option maxRecDepth 1000000
def l38:lI (iC CC (T0 Q38) 5000 mD a38 []) v38=true:=by kernel_rfl
def nxq{M:MM}{f:FuncId}{a:LA}{v:AV}(q:MOK CC M)(l:lI (iC CC (T0 M) 5000 f a []) v=true)(c:ae 0 a=true:=by kernel_rfl):MOK CC (asl M f a v):=anK q (ad4 (EJ zQ (aiK q) 5000) iY c l)
def q0:MOK CC Q0:=aqr CC
def q1:MOK CC Q1:=nxq q0 l0
def q2:MOK CC Q2:=nxq q1 l1
def q3:MOK CC Q3:=nxq q2 l2
def q4:MOK CC Q4:=nxq q3 l3
def q5:MOK CC Q5:=nxq q4 l4
def q6:MOK CC Q6:=nxq q5 l5
def q7:MOK CC Q7:=nxq q6 l6
def q8:MOK CC Q8:=nxq q7 l7
def q9:MOK CC Q9:=nxq q8 l8
def q10:MOK CC Q10:=nxq q9 l9
def q11:MOK CC Q11:=nxq q10 l10
def q12:MOK CC Q12:=nxq q11 l11
def q13:MOK CC Q13:=nxq q12 l12
def q14:MOK CC Q14:=nxq q13 l13
def q15:MOK CC Q15:=nxq q14 l14
def q16:MOK CC Q16:=nxq q15 l15
def q17:MOK CC Q17:=nxq q16 l16
def q18:MOK CC Q18:=nxq q17 l17
def q19:MOK CC Q19:=nxq q18 l18
def q20:MOK CC Q20:=nxq q19 l19
def q21:MOK CC Q21:=nxq q20 l20
def q22:MOK CC Q22:=nxq q21 l21
def q23:MOK CC Q23:=nxq q22 l22
def q24:MOK CC Q24:=nxq q23 l23
def q25:MOK CC Q25:=nxq q24 l24
def q26:MOK CC Q26:=nxq q25 l25
def q27:MOK CC Q27:=nxq q26 l26
def q28:MOK CC Q28:=nxq q27 l27
def q29:MOK CC Q29:=nxq q28 l28
def q30:MOK CC Q30:=nxq q29 l29
def q31:MOK CC Q31:=nxq q30 l30
def q32:MOK CC Q32:=nxq q31 l31
def q33:MOK CC Q33:=nxq q32 l32
def q34:MOK CC Q34:=nxq q33 l33
def q35:MOK CC Q35:=nxq q34 l34
def q36:MOK CC Q36:=nxq q35 l35
def q37:MOK CC Q37:=nxq q36 l36
def q38:MOK CC Q38:=nxq q37 l37
def q39:MOK CC Q39:=nxq q38 l38
def amk:dW CC (iC CC (T0 Q39) 5000):=EJ zQ (aiK q39) 5000
def aqZ:lI (iC CC (T0 Q39) 5000 mD [] []) (.bool true)=true:=by kernel_rfl
def fin:afF CC mD [] (.bool true):=ad4 (EJ zQ (aiK q39) 5000) iY (by kernel_rfl) aqZ
end Go.Proofs.YtpikfmmkcckclaaGreatDoor
namespace Go.Ev
set_option maxRecDepth 100000
variable{C:Ctx}{PK:PkI}
def ahO(s:LU):(vU s).length<=2*s.length:=by
 unfold vU
 induction s with
 |nil=>simp
 |cons a l ih=>
  have h:(ajp a).length=2:=rfl;rw[ay1,a04,h,a07];omega
def abP(hC:Has C ash kV):gu C PK ash (.pure [.strb,.int .i64] (.tup [.int .i64,.bool])):=
 vI hC rfl fun azs hm=>by
  obtain⟨x,y,rfl,h1,h2⟩:=ahP hm;obtain⟨a,rfl,ha⟩:=xC h1;cases h2 with
  |int _ n=>
   intro O hσ;refine⟨_,Lm hC a n O,?_⟩;unfold JF;exact .tup _ _ (.cons _ _ _ _ (.int _ _) (.cons _ _ _ _ (.bool _) .nil))
def YH(H:N8 C):gu C PK oU (.pure [.strb] .strb):=
 vI H.digest rfl fun azs hm=>by
  obtain⟨x,rfl,h1⟩:=YC hm;obtain⟨a,rfl,ha⟩:=xC h1;intro O hσ;refine⟨_,afp H a (by simp only[LB]at ha;omega) O hσ,.strb _ ?_⟩
  have:=ahO (qV a);rw[pY]at this;unfold afo;simp only[LB];omega
def aiq(H:aas C):gu C PK A8 (.pure [.strb,.strb] .strb):=
 vI H.of rfl fun azs hm=>by
  obtain⟨x,y,rfl,h1,h2⟩:=ahP hm;obtain⟨a,rfl,ha⟩:=xC h1;obtain⟨b,rfl,hb⟩:=xC h2;intro O hσ;refine⟨_,aks H a b (by simp only[LB]at ha;omega) (by simp only[LB]at hb;omega) O hσ,.strb _ ?_⟩
  unfold hmac;simp only[pY,LB];omega
end Go.Ev
namespace Go.Proofs.YtpikfmmkcckclaaGreatDoor
open Go.Shelf Go.Proofs
def fxS{P:Program}{f:Nat}{a b:Func}(h:P.funcs[f]?=some a)(e:a=b:=by kernel_rfl):P.funcs[f]?=some b:=h.trans (congrArg some e)
def Tryz.laysSR_ren:Go.Shelf.Ren:=⟨fun|6=>338|15=>171|14=>349|28=>239|29=>240|20=>354|21=>355|22=>356|23=>357|24=>358|25=>359|26=>360|27=>361|46=>366|47=>284|48=>285|49=>367|50=>368|57=>378|n=>n,fun|22=>439|24=>441|25=>458|3=>3|39=>295|0=>0|53=>77|55=>365|4=>4|46=>358|45=>357|50=>309|5=>5|9=>9|66=>409|70=>306|76=>447|77=>448|n=>n,fun|n=>n⟩
def Tryz.laysSR:Go.Proofs.SlLaysF0.n6 Tryz.prog Tryz.laysSR_ren:={
 mixed:=by kernel_rfl
 f6:=⟨Tryz.f338.name,by decide,fxS Tryz.func338⟩
 f14:=⟨Tryz.f349.name,by decide,fxS Tryz.func349⟩
 f15:=fxS Tryz.func171
 f20:=⟨Tryz.f354.name,by decide,fxS Tryz.func354⟩
 f21:=⟨Tryz.f355.name,by decide,fxS Tryz.func355⟩
 f22:=⟨Tryz.f356.name,by decide,fxS Tryz.func356⟩
 f23:=⟨Tryz.f357.name,by decide,fxS Tryz.func357⟩
 f24:=⟨Tryz.f358.name,by decide,fxS Tryz.func358⟩
 f25:=⟨Tryz.f359.name,by decide,fxS Tryz.func359⟩
 f26:=⟨Tryz.f360.name,by decide,fxS Tryz.func360⟩
 f27:=⟨Tryz.f361.name,by decide,fxS Tryz.func361⟩
 f28:=fxS Tryz.func239
 f29:=fxS Tryz.func240
 f46:=⟨Tryz.f366.name,by decide,fxS Tryz.func366⟩
 f47:=fxS Tryz.func284
 f48:=fxS Tryz.func285
 f49:=⟨Tryz.f367.name,by decide,fxS Tryz.func367⟩
 f50:=⟨Tryz.f368.name,by decide,fxS Tryz.func368⟩
 f57:=⟨Tryz.f378.name,by decide,fxS Tryz.func378⟩
 t0:=Tryz.underlying0
 a0:=Tryz.isAgg0
 z0:=Tryz.sizeOf0
 v0:=Tryz.zeroValue0
 t3:=Tryz.underlying3
 a3:=Tryz.isAgg3
 z3:=Tryz.sizeOf3
 v3:=Tryz.zeroValue3
 t4:=Tryz.underlying4
 a4:=Tryz.isAgg4
 z4:=Tryz.sizeOf4
 v4:=Tryz.zeroValue4
 t5:=Tryz.underlying5
 a5:=Tryz.isAgg5
 z5:=Tryz.sizeOf5
 v5:=Tryz.zeroValue5
 t9:=Tryz.underlying9
 a9:=Tryz.isAgg9
 z9:=Tryz.sizeOf9
 v9:=Tryz.zeroValue9
 t22:=Tryz.underlying439
 a22:=Tryz.isAgg439
 z22:=Tryz.sizeOf439
 v22:=Tryz.zeroValue439
 t25:=Tryz.underlying458
 a25:=Tryz.isAgg458
 z25:=Tryz.sizeOf458
 v25:=Tryz.zeroValue458
 t39:=Tryz.underlying295
 a39:=Tryz.isAgg295
 z39:=Tryz.sizeOf295
 v39:=Tryz.zeroValue295
 t45:=Tryz.underlying357
 a45:=Tryz.isAgg357
 z45:=Tryz.sizeOf357
 v45:=Tryz.zeroValue357
 t46:=Tryz.underlying358
 a46:=Tryz.isAgg358
 z46:=Tryz.sizeOf358
 v46:=Tryz.zeroValue358
 t50:=Tryz.underlying309
 a50:=Tryz.isAgg309
 z50:=Tryz.sizeOf309
 v50:=Tryz.zeroValue309
 t53:=Tryz.underlying77
 a53:=Tryz.isAgg77
 z53:=Tryz.sizeOf77
 v53:=Tryz.zeroValue77
 t55:=Tryz.underlying365
 a55:=Tryz.isAgg365
 z55:=Tryz.sizeOf365
 v55:=Tryz.zeroValue365
 t66:=Tryz.underlying409
 a66:=Tryz.isAgg409
 z66:=Tryz.sizeOf409
 v66:=Tryz.zeroValue409
 t70:=Tryz.underlying306
 a70:=Tryz.isAgg306
 z70:=Tryz.sizeOf306
 v70:=Tryz.zeroValue306
 t76:=Tryz.underlying447
 a76:=Tryz.isAgg447
 z76:=Tryz.sizeOf447
 v76:=Tryz.zeroValue447
 t77:=Tryz.underlying448
 a77:=Tryz.isAgg448
 z77:=Tryz.sizeOf448
 v77:=Tryz.zeroValue448}
def Tryz.laysSM_ren:Go.Shelf.Ren:=⟨fun|6=>119|15=>171|14=>173|28=>239|29=>240|20=>241|21=>242|22=>243|23=>244|24=>245|25=>246|26=>247|27=>248|46=>288|47=>284|48=>285|49=>289|50=>290|57=>318|n=>n,fun|22=>166|24=>172|25=>238|3=>3|39=>295|0=>0|53=>77|55=>365|4=>4|46=>358|45=>357|50=>309|5=>5|9=>9|66=>409|70=>306|76=>447|77=>448|n=>n,fun|n=>n⟩
def Tryz.laysSM:Go.Proofs.SlLaysF0.n6 Tryz.prog Tryz.laysSM_ren:={
 mixed:=by kernel_rfl
 f6:=⟨Tryz.f119.name,by decide,fxS Tryz.func119⟩
 f14:=⟨Tryz.f173.name,by decide,fxS Tryz.func173⟩
 f15:=fxS Tryz.func171
 f20:=⟨Tryz.f241.name,by decide,fxS Tryz.func241⟩
 f21:=⟨Tryz.f242.name,by decide,fxS Tryz.func242⟩
 f22:=⟨Tryz.f243.name,by decide,fxS Tryz.func243⟩
 f23:=⟨Tryz.f244.name,by decide,fxS Tryz.func244⟩
 f24:=⟨Tryz.f245.name,by decide,fxS Tryz.func245⟩
 f25:=⟨Tryz.f246.name,by decide,fxS Tryz.func246⟩
 f26:=⟨Tryz.f247.name,by decide,fxS Tryz.func247⟩
 f27:=⟨Tryz.f248.name,by decide,fxS Tryz.func248⟩
 f28:=fxS Tryz.func239
 f29:=fxS Tryz.func240
 f46:=⟨Tryz.f288.name,by decide,fxS Tryz.func288⟩
 f47:=fxS Tryz.func284
 f48:=fxS Tryz.func285
 f49:=⟨Tryz.f289.name,by decide,fxS Tryz.func289⟩
 f50:=⟨Tryz.f290.name,by decide,fxS Tryz.func290⟩
 f57:=⟨Tryz.f318.name,by decide,fxS Tryz.func318⟩
 t0:=Tryz.underlying0
 a0:=Tryz.isAgg0
 z0:=Tryz.sizeOf0
 v0:=Tryz.zeroValue0
 t3:=Tryz.underlying3
 a3:=Tryz.isAgg3
 z3:=Tryz.sizeOf3
 v3:=Tryz.zeroValue3
 t4:=Tryz.underlying4
 a4:=Tryz.isAgg4
 z4:=Tryz.sizeOf4
 v4:=Tryz.zeroValue4
 t5:=Tryz.underlying5
 a5:=Tryz.isAgg5
 z5:=Tryz.sizeOf5
 v5:=Tryz.zeroValue5
 t9:=Tryz.underlying9
 a9:=Tryz.isAgg9
 z9:=Tryz.sizeOf9
 v9:=Tryz.zeroValue9
 t22:=Tryz.underlying166
 a22:=Tryz.isAgg166
 z22:=Tryz.sizeOf166
 v22:=Tryz.zeroValue166
 t25:=Tryz.underlying238
 a25:=Tryz.isAgg238
 z25:=Tryz.sizeOf238
 v25:=Tryz.zeroValue238
 t39:=Tryz.underlying295
 a39:=Tryz.isAgg295
 z39:=Tryz.sizeOf295
 v39:=Tryz.zeroValue295
 t45:=Tryz.underlying357
 a45:=Tryz.isAgg357
 z45:=Tryz.sizeOf357
 v45:=Tryz.zeroValue357
 t46:=Tryz.underlying358
 a46:=Tryz.isAgg358
 z46:=Tryz.sizeOf358
 v46:=Tryz.zeroValue358
 t50:=Tryz.underlying309
 a50:=Tryz.isAgg309
 z50:=Tryz.sizeOf309
 v50:=Tryz.zeroValue309
 t53:=Tryz.underlying77
 a53:=Tryz.isAgg77
 z53:=Tryz.sizeOf77
 v53:=Tryz.zeroValue77
 t55:=Tryz.underlying365
 a55:=Tryz.isAgg365
 z55:=Tryz.sizeOf365
 v55:=Tryz.zeroValue365
 t66:=Tryz.underlying409
 a66:=Tryz.isAgg409
 z66:=Tryz.sizeOf409
 v66:=Tryz.zeroValue409
 t70:=Tryz.underlying306
 a70:=Tryz.isAgg306
 z70:=Tryz.sizeOf306
 v70:=Tryz.zeroValue306
 t76:=Tryz.underlying447
 a76:=Tryz.isAgg447
 z76:=Tryz.sizeOf447
 v76:=Tryz.zeroValue447
 t77:=Tryz.underlying448
 a77:=Tryz.isAgg448
 z77:=Tryz.sizeOf448
 v77:=Tryz.zeroValue448}
def Tryz.laysCmp_ren:Go.Shelf.Ren:=⟨fun|106=>121|213=>174|265=>249|n=>n,fun|9=>9|3=>3|n=>n,fun|n=>n⟩
def Tryz.laysCmp:Go.Proofs.Lays.n106 Tryz.prog Tryz.laysCmp_ren:={
 mixed:=by kernel_rfl
 f106:=fxS Tryz.func121
 f213:=fxS Tryz.func174
 f265:=fxS Tryz.func249
 t3:=Tryz.underlying3
 a3:=Tryz.isAgg3
 z3:=Tryz.sizeOf3
 v3:=Tryz.zeroValue3
 t9:=Tryz.underlying9
 a9:=Tryz.isAgg9
 z9:=Tryz.sizeOf9
 v9:=Tryz.zeroValue9}
open Go.Ev Go.RowKit Go.Shelf Go.Proofs Go.Lib Go.Sort
set_option maxRecDepth 100000
def amE:IV Tryz.prog 338:=⟨_,Tryz.func338,by decide,rfl⟩
def amD:IV Tryz.prog 119:=⟨_,Tryz.func119,by decide,rfl⟩
def five{u:List Value}(h:u.length=5):∃a b c d e,u=[a,b,c,d,e]:=by
 match u,h with
 |[a,b,c,d,e],_=>exact⟨a,b,c,d,e,rfl⟩
set_option maxHeartbeats 1000000 in
def arR(x y:LU)(u v:List Value)(W:World)(hu:u.length=5)(hv:v.length=5):Calls Tryz.prog 339 #[.agg (.string ⟨⟨x⟩⟩::u).toArray,.agg (.string ⟨⟨y⟩⟩::v).toArray] W fun e w'=>e=.returned (.int .i64 (compareBytes x y))/\∃q os',w'=grow (W.drewN q) os':=by
 obtain⟨a1,a2,a3,a4,a5,rfl⟩:=five hu;obtain⟨b1,b2,b3,b4,b5,rfl⟩:=five hv;have hcon:=fun W'=>Any.strings_Compare Tryz.laysCmp ⟨⟨x⟩⟩ ⟨⟨y⟩⟩ W';change∀W',Calls Tryz.prog 121 _ _ (fun e w'=>e=.returned (.int .i64 (compareBytes x y))/\w'=W')at hcon;generalize compareBytes x y=r at hcon⊢
 go_enter Tryz.func339,Tryz.ntmps339
 go_wp2_with (go_at_call 121;refine(hcon _).mono ?_;rintro e w' ⟨rfl,rfl⟩)
 go_ret
 exact⟨rfl,0,_,by rw[alloc_eq_grow,alloc_eq_grow,grow_grow];rfl⟩
set_option maxHeartbeats 1000000 in
def arQ(x y:LU)(u v:List Value)(W:World)(hu:u.length=5)(hv:v.length=5):Calls Tryz.prog 120 #[.agg (.string ⟨⟨x⟩⟩::u).toArray,.agg (.string ⟨⟨y⟩⟩::v).toArray] W fun e w'=>e=.returned (.int .i64 (compareBytes x y))/\∃q os',w'=grow (W.drewN q) os':=by
 obtain⟨a1,a2,a3,a4,a5,rfl⟩:=five hu;obtain⟨b1,b2,b3,b4,b5,rfl⟩:=five hv;have hcon:=fun W'=>Any.strings_Compare Tryz.laysCmp ⟨⟨x⟩⟩ ⟨⟨y⟩⟩ W';change∀W',Calls Tryz.prog 121 _ _ (fun e w'=>e=.returned (.int .i64 (compareBytes x y))/\w'=W')at hcon;generalize compareBytes x y=r at hcon⊢
 go_enter Tryz.func120,Tryz.ntmps120
 go_wp2_with (go_at_call 121;refine(hcon _).mono ?_;rintro e w' ⟨rfl,rfl⟩)
 go_ret
 exact⟨rfl,0,_,by rw[alloc_eq_grow,alloc_eq_grow,grow_grow];rfl⟩
variable{C:Ctx}(hP:C.P=Tryz.prog)
 include hP
theorem akY:POK C 338 (UG 339):=by
 refine agR (C:=C) (ρ:=Tryz.laysSR_ren) (hP▸Tryz.laysSR) rfl (hP▸amE) ?_ ?_ ?_ ?_
 ·rw[hP];exact Tryz.isAgg441
 ·rw[hP];exact Tryz.sizeOf441
 ·rw[hP];exact enters_of Tryz.func339 (by kernel_rfl) rfl
 ·rw[hP];exact arR
theorem akX:POK C 119 (UG 120):=by
 refine agR (C:=C) (ρ:=Tryz.laysSM_ren) (hP▸Tryz.laysSM) rfl (hP▸amD) ?_ ?_ ?_ ?_
 ·rw[hP];exact Tryz.isAgg172
 ·rw[hP];exact Tryz.sizeOf172
 ·rw[hP];exact enters_of Tryz.func120 (by kernel_rfl) rfl
 ·rw[hP];exact arQ
end Go.Proofs.YtpikfmmkcckclaaGreatDoor
namespace Go.Proofs.YtpikfmmkcckclaaGreatDoor
open Go.Ev Go.RowKit
set_option maxRecDepth 1000000
noncomputable section
abbrev AB:=LA->St->Option (AV×St)
def prL:List (FuncId×AB)->FuncId->Option AB
 |[],_=>none
 |(g,h)::l,f=>match Nat.beq f g with
  |true=>some h
  |false=>prL l f
def afd{C:Ctx}:∀{l:List (FuncId×AB)},(∀p∈l,POK C p.1 p.2)->∀f h,prL l f=some h->POK C f h
 |[],_,f,h,e=>by cases e
 |(g,k)::l,hl,f,h,e=>by
  unfold prL at e;split at e
  ·rename_i hb;have:=at7 hb;subst this;cases e;exact hl (f,k) (by simp)
  ·exact afd (fun p hp=>hl p (by simp[hp])) f h e
def jZ{C:Ctx}{f:FuncId}{h:AB}(hp:C.prim f=some h)(args:LA)(O:St):ai C f args O=h args O:=by
 rw[abJ];unfold WZ;rw[hp]
def aby{C D:Ctx}(hP:D.P=C.P)(hg:∀n l,C.gl n=some l->D.gl n=some l)(hn:C.np=true){f:FuncId}{p:AB}(h:POK C f p):POK D f p:=by
 intro args O v O' h1 g w args' ha hw hgl;rw[hP];exact h args O v O' h1 g w args' ha hw ⟨fun n l hl=>hgl.1 n l (hg n l hl),.inl hn⟩
def CL0:Ctx:={CC with np:=true}
def aoo:aec CL0:=fun f x h=>yg Tryz.prog glT (fun _=>false) UI f x h
def aiD:Sr CL0:=by
 intro f h hh;change UI f=some h at hh;unfold UI at hh;split at hh
 ·rename_i hf;have:=at7 hf;subst this;cases hh;exact LK (C:=CL0) rfl
 ·cases hh
def afE:dW CL0 (ai CL0):=LX zQ aoo aiD
def CR1:Ctx:={CR with np:=true}
def ae9(n:Nat):dW CR1 (evF CR1 n):=Jm (C:=CR1) zQ (fun f x h=>yg Tryz.prog glT (fun _=>true) (fun _=>none) f x h) (fun f h hh=>by simp[CR1,CR,iy]at hh) n
def aqM{f:FuncId}{K:KF}(h:Has CC f K):Has CL0 f K:=⟨h.fs,h.prim,h.raw,h.ok⟩
def isS:AV->Bool
 |.str _=>true
 |_=>false
def XD(args:LA)(O:St):Option (AV×St):=
 match args with
 |[.sl n l]=>match I9 (I9 (Nat.beq l.length n) (Nat.ble n 8192)) (l.all isS)with
  |true=>some (.sl n l,O)
  |false=>none
 |_=>none
def agv:∀{l:LA},l.all isS=true->∃ns:List LU,l=ns.map .str
 |[],_=>⟨[],rfl⟩
 |a::l,h=>by
  rw[a88,a01]at h;obtain⟨ns,rfl⟩:=agv h.2;cases a with
  |str s=>exact⟨s::ns,rfl⟩
  |_=>cases h.1
def akW:POK CL0 bQ XD:=by
 intro args O v O' h g w args' ha hw hg;unfold XD at h;split at h
 ·rename_i n l;split at h
  ·rename_i hb;rw[qi,a01,qi,a01]at hb;have hl:=at7 hb.1.1;have hn:=av8 hb.1.2;cases h;by_cases h0:n=0
   ·subst h0;have:l=[]:=List.length_eq_zero_iff.mp hl;subst this;exact OO (C:=CR1) (ae9 100) iY (by kernel_rfl) (by kernel_rfl) [.sl 0 []] O _ _ rfl g w args' ha hw hg
   ·obtain⟨ns,rfl⟩:=agv hb.2;have hl:ns.length=n:=by simpa using hl
    subst hl;refine oK afE iY ?_ (aet (C:=CL0) (aqM (abb (by kernel_rfl) (by kernel_rfl) (by kernel_rfl) rfl rfl)) ns (by omega) hn [] ok0) ha hw hg
    rw[ae,below,o9];rfl
  ·cases h
 ·cases h
def alh:lI (evF CR1 3000 xR [] []) (.agg y9)=true:=by kernel_rfl
def abu(args:LA)(O:St):Option (AV×St):=match args with|[]=>some (.agg y9,O)|_=>none
def akV:POK CL0 xR abu:=by
 intro args O v O' h g w args' ha hw hg;unfold abu at h;split at h
 ·cases h;exact oK (C:=CR1) (ae9 3000) iY rfl (Ie alh) ha hw hg
 ·cases h
def glX(u1 u2:TypeId)(g:Nat):Option LA:=match Nat.beq g sH with
 |true=>some [.iface u1 (.eptr [])]
 |false=>match Nat.beq g qx with
  |true=>some [.iface u2 (.eptr [])]
  |false=>glT g
def ady(f:FuncId):Bool:=match Nat.beq f dm with
 |true=>true
 |false=>match Nat.beq f Ah with
  |true=>true
  |false=>Nat.beq f dR
def apD:AB:=Rj (fun s=>.tup [.int .i64 ((zN s).getD 0:Nat),.bool (zN s).isSome])
def Nv:List (FuncId×AB):=[(jk,UF),(iG,Fb),(nH,yZ),(fD,UG BD),(jS,UG ES),(bQ,XD),(xR,abu),(D9,aia),(Zp,apD)]
def C0(u1 u2:TypeId):Ctx:={iy Tryz.prog (glX u1 u2) ady (prL Nv)with np:=true}
variable{u1 u2:TypeId}
def agp:∀n l,glT n=some l->glX u1 u2 n=some l:=by
 intro n l h;unfold glX;split
 ·rename_i hb;have:=at7 hb;subst this;rw[show glT sH=none by kernel_rfl]at h
  cases h
 ·split
  ·rename_i hb;have:=at7 hb;subst this;rw[show glT qx=none by kernel_rfl]at h
   cases h
  ·exact h
def ahd:∀n l,(C0 u1 u2).gl n=some l->ae 0 l=true:=by
 intro n l h;change glX u1 u2 n=some l at h;unfold glX at h;split at h
 ·cases h;rfl
 ·split at h
  ·cases h;rfl
  ·exact iY n l h
def aqn:aec (C0 u1 u2):=fun f x h=>yg Tryz.prog (glX u1 u2) ady (prL Nv) f x h
def am3:Sr (C0 u1 u2):=by
 have tr:∀{f p},POK CL0 f p->POK (C0 u1 u2) f p:=fun h=>aby (C:=CL0) (D:=C0 u1 u2) rfl (fun n l hl=>agp n l hl) rfl h;have hP:(C0 u1 u2).P=Tryz.prog:=rfl;have h:=afd (C:=C0 u1 u2) (l:=Nv) (by
  unfold Nv;simp only[ay3];exact⟨agO hP,aa2 hP,LK hP,akY hP,akX hP,tr akW,tr akV,apG hP rfl rfl rfl rfl,akU hP,fun _ h=>by simp at h⟩)
 exact h
def Gz:dW (C0 u1 u2) (ai (C0 u1 u2)):=LX zQ aqn am3
def has{f:FuncId}{K:KF}(h1:cF Tryz.prog f=some K.forget:=by kernel_rfl)(h2:QB Tryz.prog f=true:=by kernel_rfl)(h3:K.ok=true:=by kernel_rfl)(hp:prL Nv f=none:=by exact rfl)(hr:ady f=false:=by exact rfl):Has (C0 u1 u2) f K:=by
 refine⟨?_,hp,hr,h3⟩;show(iy Tryz.prog (glX u1 u2) ady (prL Nv)).fs f=_;simp only[iy,h2,h1]
def apa{f:FuncId}{K:KF}(h1:cF Tryz.prog f=some K.forget:=by kernel_rfl)(h2:QB Tryz.prog f=true:=by kernel_rfl)(h3:K.ok=true:=by kernel_rfl)(hp:prL Nv f=none:=by exact rfl)(hr:ady f=true:=by exact rfl):Pe (C0 u1 u2) f K:=by
 refine⟨?_,hp,hr,h3⟩;show(iy Tryz.prog (glX u1 u2) ady (prL Nv)).fs f=_;simp only[iy,h2,h1]
def arT{f:FuncId}(h:V6 Tryz.prog f=true)(hp:prL Nv f=none)(hr:ady f=false):Has (C0 u1 u2) f (kA Tryz.prog f):=by
 have k:=amI (gl:=glX u1 u2) h hp hr;exact⟨k.fs,k.prim,k.raw,k.ok⟩
end
section
variable{u1 u2:TypeId}
def apC(s:LU)(Y:St)(h:s.length<=1099511627776):∃(n:Int) (v:AV),aia [.str s,.int .i64 10,.int .i64 64] Y=some (.tup [.int .i64 n,v],Y)/\(v=.nilIface\/∃t x,v=.iface t x):=by
 unfold aia;dsimp only;rw[if_pos ⟨rfl,rfl,h⟩];split
 ·exact⟨_,_,rfl,.inl rfl⟩
 ·exact⟨_,_,rfl,.inr ⟨_,_,rfl⟩⟩
 ·exact⟨_,_,rfl,.inr ⟨_,_,rfl⟩⟩
end
def Za:∀s:LU,Jf (ofBytes s)=some s
 |[]=>rfl
 |a::s=>by
  have h:=Za s;have hb:Nat.ble a.toNat 255=true:=aA1 (Nat.le_of_lt_succ (UInt8.toNat_lt a));show Jf (.int .u8 (.ofNat a.toNat)::ofBytes s)=_;unfold Jf;simp only[hb,h];simp
section
variable(u1 u2:TypeId)
theorem an7:afH (C0 u1 u2):=fun s Y hs hτ=>by
 obtain⟨n,v,h1,h2⟩:=apC s Y (by omega)
 exact⟨n,v,(jZ (h:=aia) rfl _ _).trans h1,h2⟩
theorem apx:aeg (C0 u1 u2):=fun s i Y hs hi hτ=>akG (has) (has) (an7 u1 u2) s (by omega) i hi Y hτ
theorem aiY:BldHas (C0 u1 u2)where
 copy0:=fun O o b h=>by
  rw[jZ (h:=UF) rfl];simp only[UF,h,bT]
 copy1:=fun O o b h=>by
  rw[jZ (h:=UF) rfl];have e:=Nat.beq_refl o;simp only[UF,h,bT,e]
 str0:=fun O o p h=>by
  rw[jZ (h:=Fb) rfl];simp only[Fb,h,bT]
 str1:=fun O o q p w h k hw hl=>by
  rw[jZ (h:=Fb) rfl];cases w with
  |nil=>exact absurd rfl hw
  |cons b s=>
   have e:=Za (b::s);have e1:Nat.beq (b::s).length (b::s).length=true:=Nat.beq_refl _;have e2:Nat.ble (b::s).length 1099511627776=true:=aA1 hl;simp only[bT,uT]at k h;simp only[Fb,h,k,e,qi,e1,e2,av9]
 wstr:=has
 wbyte:=has
theorem aff:BC (C0 u1 u2)where
 toBldHas:=aiY u1 u2
 lead:=has
 next:=has
 put:=has
 digit:=has
 number:=has
 four:=has
 coded:=has
 dec:=has
 dec1:=has
 dec11:=has
 item:=has
 blen:=has
 read:=has
 quote:=has
 valid:=has
 dig:=fun s i O=>by
  rw[Lm (has) s i O];cases QH s i<;>exact⟨_,_,rfl⟩
 len:=fun s O h=>by
  rw[jZ (h:=apD) rfl];unfold apD Rj;dsimp only;rw[if_pos (aA1 (by omega))]
  exact⟨_,_,rfl⟩
theorem apP:aaw (C0 u1 u2):=ang (aff u1 u2)
theorem ali:acb (C0 u1 u2):=fun Y hτ=>by rw[jZ (h:=abu) rfl];rfl
theorem anA:EE (C0 u1 u2):=by constructor<;>exact has
theorem apo:VV (C0 u1 u2)where
 sign:=anA u1 u2
 skip:=has
 word:=has
 number:=has
 text:=has
 num:=apx u1 u2
 quo:=apP u1 u2
 rules:=ali u1 u2
 token:=has
 next:=has
theorem aiz:Kw (C0 u1 u2)where
 lex:=apo u1 u2
 space:=has
 next:=has
 wrong:=has
 expect:=has
 more:=has
 srt:=ah7 fun args O=>jZ rfl args O
 sorted:=apa
 member:=has
 object:=has
 list:=has
 value:=has
theorem aje:VM (C0 u1 u2):=fun ns O hn hσ=>by
 rw[jZ (h:=XD) rfl];have h1:Nat.beq (ns.map AV.str).length ns.length=true:=by rw[aw8];exact Nat.beq_refl _
 have h2:=aA1 hn;have h3:(ns.map AV.str).all isS=true:=by
  rw[List.all_map,a90];exact fun _ _=>rfl
 unfold XD;simp only[qi,h1,h2,h3,av9]
theorem aaU:CopyHas (C0 u1 u2):=⟨aje u1 u2,has,has,has⟩
theorem amC:Vl (C0 u1 u2):=by constructor<;>exact has
theorem apz:aav (C0 u1 u2)where
 toCopyHas:=aaU u1 u2
 clone:=fun xs h0 hn O hσ=>YA (apa) xs h0 hn O hσ
 srt:=ah7 fun args O=>jZ rfl args O
 of:=has
theorem ap9:Si (C0 u1 u2)where
 len:=has
 log:=has
 b2i:=has
 nd:=has
 gl:=rfl
 fb:=apa
 small:=has
 int:=has
 fmt:=has
 show_:=has
theorem aoZ:NJ (C0 u1 u2)where
 toBldHas:=aiY u1 u2
 quote:=fun s hs O hσ=>by
  obtain⟨q,e,h1,h2⟩:=XJ (aff u1 u2) s O hσ;exact⟨q,e,h1,by omega⟩
 num:=fun n O hσ=>adm (ap9 u1 u2) n O hσ
 enc:=has
 enc1:=has
 enc2:=has
theorem ah5:N8 (C0 u1 u2)where
 new:=has
 sum:=has
 write:=has
 mix:=has
 rot:=has
 sumF:=has
 digest:=has
 encode:=has
 gr:=rfl
 gi:=rfl
 gd:=rfl
 rep:=fun n hn O=>by
  rw[jZ (h:=yZ) rfl];have hb:Nat.blt n 64=true:=aA1 hn;change yZ [.str [0],.int .i64 (.ofNat n)] O=_;unfold yZ;simp only[hb];rfl
theorem amU:aas (C0 u1 u2)where
 sha:=ah5 u1 u2
 block:=has
 combine:=has
 of:=has
 of1:=has
 of2:=has
theorem adX:gu (C0 u1 u2) gz Bd (.pure [.strb] .bool):=fun O bs bs' O1 hok hh hok1 hm=>by
 obtain⟨x,rfl,h1⟩:=YC hm;obtain⟨a,rfl,ha⟩:=xC h1;obtain⟨rfl,rfl⟩:=ahL (ss:=[a]) hh;obtain⟨b,hb⟩:=RQ (aff u1 u2) a (by simp only[LB]at ha;omega) O1
 exact⟨.bool b,hb,.bool _⟩
end
open Go.Ev
def mtL:List (TypeId×String×FuncId):=[(199,"legate/judge.good",401),(206,"legate/judge.good",403)]
abbrev tJ(n:Int):HO:=.cells [.ic .u8 0,.ic .i64 0,.sc [],.nils,.nils,.nilM,.ic .i64 n]
abbrev H5:HO:=.cells [.jv,.map 1,.int .i64]
abbrev H6:HO:=.map (.int .i64)
abbrev aP:Sh:=.int .i64
abbrev aW:Sh:=.strb
abbrev jo:Sh:=.slx [.strb]
abbrev uQ:Sh:=.slx [.strb,.strb]
abbrev J4:Sh:=.agg [.strb,.strb]
def ary:List (FuncId×Sm):=[(167,.pure [aP] .bool),
 (215,.pure [aP,aP] .bool),
 (214,.pure [aW] aP),
 (298,.pure [jo] .bool),
 (189,.pure [aW] .bool),
 (166,.pure [aP] aP),
 (111,.pure [aP] aP)]
def al8:List (FuncId×Sm):=[(204,.pure [uQ,aW] (.tup [aW,.bool])),
 (152,.pof [.jv]),
 (211,.chg [H5,H6] [.ref 0 0] aP),
 (211,.chg [tJ 10] [.ref 0 0] (.ic .i64 10)),
 (211,.chg [tJ 3] [.ref 0 0] (.ic .i64 3)),
 (211,.pk [] aP),
 (218,.chg [.dead,.dead,.cells [aP]] [.jv,.ref 2 0] (.tup [.jv,aP])),
 (210,.pure [.jv] (.tup [aW,aP])),
 (213,.chg [.dead,.dead,.cells [aP],.cells [aP]] [.jv,.ref 2 0,.ref 3 0] (.tup [aP,aP])),
 (179,.pure [aW] .bool),
 (42,.pure [aW,aW] (.tup [aW,.bool])),
 (275,.pure [.jv,aP] (.tup [.sljx,aP])),
 (189,.pure [aW] .bool),
 (253,.pure [.slx [aW,aP,jo,.bool,jo,jo],aW] .bool),
 (71,.pure [.int .u8] .bool),
 (323,.pure [.jv] (.tup [.jv,aP]))]
def al9:List (FuncId×Sm):=[(255,.pure [aW] .bool),
 (315,.pure [aW] .bool),
 (79,.pure [aW] .jv),
 (341,.chg [.dead,.dead,.cells [aP]] [.jv,.ref 2 0] (.tup [jo,aP])),
 (294,.pure [aP] .bool),
 (295,.pure [aP] aP),
 (345,.pure [.jv] (.tup [.bool,aP])),
 (292,.pure [aW] .bool),
 (293,.pure [aW] .bool),
 (402,.pure [aW,aW] .bool),
 (405,.pure [.slx [aW,aW,aW],.agg [aW,aW,aW]] aP),
 (154,.chg [H5,H6] [.ref 0 0,aP] (.tup [])),
 (154,.chg [tJ 10] [.ref 0 0,aP] (.tup [])),
 (154,.chg [tJ 3] [.ref 0 0,aP] (.tup [])),
 (154,.pk [aP] (.tup [])),
 (160,.chg [H5,H6] [.ref 0 0] aP)]
def ala:List (FuncId×Sm):=[(160,.chg [tJ 10] [.ref 0 0] aP),
 (160,.chg [tJ 3] [.ref 0 0] aP),
 (160,.pk [] aP),
 (202,.chg [H5,H6] [.ref 0 0,aW] .bool),
 (202,.chg [tJ 10] [.ref 0 0,aW] .bool),
 (202,.chg [tJ 3] [.ref 0 0,aW] .bool),
 (202,.pk [aW] .bool),
 (274,.chg [.dead,.dead,.cells [aP]] [.jv,.ref 2 0] (.tup [.sljx,aP])),
 (273,.chg [H5,H6,.cells [aP]] [.ref 0 0,aW,.func (.func 274) [] [.ref 2 0]] .sljx),
 (273,.chg [tJ 10,.cells [aP]] [.ref 0 0,aW,.func (.func 274) [] [.ref 1 0]] .sljx),
 (273,.chg [tJ 3,.cells [aP]] [.ref 0 0,aW,.func (.func 274) [] [.ref 1 0]] .sljx),
 (188,.pure [J4] .bool),
 (217,.chg [H5,H6,.cells [aP]] [.ref 0 0,aW,.func (.func 218) [] [.ref 2 0]] .jv),
 (217,.chg [tJ 10,.cells [aP]] [.ref 0 0,aW,.func (.func 218) [] [.ref 1 0]] .jv),
 (217,.chg [tJ 3,.cells [aP]] [.ref 0 0,aW,.func (.func 218) [] [.ref 1 0]] .jv),
 (217,.chg [H5,H6] [.ref 0 0,aW,.func (.func 323) [] []] .jv)]
def alb:List (FuncId×Sm):=[(217,.chg [tJ 10] [.ref 0 0,aW,.func (.func 323) [] []] .jv),
 (217,.chg [tJ 3] [.ref 0 0,aW,.func (.func 323) [] []] .jv),
 (209,.chg [H5,H6] [.ref 0 0,aW,.func (.func 210) [] []] aW),
 (209,.chg [tJ 10] [.ref 0 0,aW,.func (.func 210) [] []] aW),
 (209,.chg [tJ 3] [.ref 0 0,aW,.func (.func 210) [] []] aW),
 (212,.chg [H5,H6,.cells [aP],.cells [aP]] [.ref 0 0,aW,.func (.func 213) [] [.ref 2 0,.ref 3 0]] aP),
 (212,.chg [tJ 10,.cells [aP],.cells [aP]] [.ref 0 0,aW,.func (.func 213) [] [.ref 1 0,.ref 2 0]] aP),
 (212,.chg [tJ 3,.cells [aP],.cells [aP]] [.ref 0 0,aW,.func (.func 213) [] [.ref 1 0,.ref 2 0]] aP),
 (165,.pure [jo] aP),
 (43,.pure [aW] .bool),
 (250,.pure [aW] .bool),
 (305,.chg [H5,H6] [.ref 0 0,aW] .jv),
 (305,.chg [tJ 10] [.ref 0 0,aW] .jv),
 (305,.chg [tJ 3] [.ref 0 0,aW] .jv),
 (305,.pk [aW] .jv),
 (136,.pure [J4] .bool)]
def alc:List (FuncId×Sm):=[(88,.pure [J4] (.tup [.jv,aP])),
 (254,.pure [.agg [aP,jo,aP,aW]] aP),
 (135,.pure [.agg [.jv,uQ]] .jv),
 (401,.pure [.agg [],J4,J4,aW] .bool),
 (340,.chg [H5,H6,.cells [aP]] [.ref 0 0,aW,.func (.func 341) [] [.ref 2 0]] (jo)),
 (340,.chg [tJ 10,.cells [aP]] [.ref 0 0,aW,.func (.func 341) [] [.ref 1 0]] (jo)),
 (340,.chg [tJ 3,.cells [aP]] [.ref 0 0,aW,.func (.func 341) [] [.ref 1 0]] (jo)),
 (344,.chg [H5,H6] [.ref 0 0,aW,.func (.func 345) [] []] .bool),
 (344,.chg [tJ 10] [.ref 0 0,aW,.func (.func 345) [] []] .bool),
 (344,.chg [tJ 3] [.ref 0 0,aW,.func (.func 345) [] []] .bool),
 (291,.pure [jo,.func (.func 292) [] []] .bool),
 (291,.pure [jo,.func (.func 293) [] []] .bool),
 (404,.pure [.slx [aW,aW,aW],.agg [aW,aW,aW]] .bool),
 (207,.chg [H5,H6] [.ref 0 0,aW,aP] .sljx),
 (207,.chg [tJ 10] [.ref 0 0,aW,aP] .sljx),
 (207,.chg [tJ 3] [.ref 0 0,aW,aP] .sljx)]
def ald:List (FuncId×Sm):=[(207,.pk [aW,aP] .sljx),
 (158,.chg [H5,H6] [.ref 0 0,aW,aP] .jv),
 (158,.chg [tJ 10] [.ref 0 0,aW,aP] .jv),
 (158,.chg [tJ 3] [.ref 0 0,aW,aP] .jv),
 (158,.pk [aW,aP] .jv),
 (153,.chg [H5,H6] [.ref 0 0,aW] aW),
 (153,.chg [tJ 10] [.ref 0 0,aW] aW),
 (153,.chg [tJ 3] [.ref 0 0,aW] aW),
 (153,.pk [aW] aW),
 (155,.chg [H5,H6] [.ref 0 0,aW,aP,aP] aP),
 (155,.chg [tJ 10] [.ref 0 0,aW,aP,aP] aP),
 (155,.chg [tJ 3] [.ref 0 0,aW,aP,aP] aP),
 (155,.pk [aW,aP,aP] aP),
 (110,.pure [.agg [aP,jo]] .bool),
 (16,.pure [aW] (.tup [aW,aP])),
 (304,.pure [.jv] (.tup [uQ,aP]))]
def ale:List (FuncId×Sm):=[(264,.pure [.jv] (.tup [.agg [aP,uQ,.jv],aP])),
 (216,.pure [.jv] (.tup [J4,aP])),
 (55,.pure [J4] (.tup [aW,aP])),
 (184,.pure [.agg [aP,jo,aP,aW]] .bool),
 (131,.pure [.agg [.jv,uQ]] .bool),
 (314,.chg [H5,H6] [.ref 0 0,aW,aP] (jo)),
 (314,.chg [tJ 10] [.ref 0 0,aW,aP] (jo)),
 (314,.chg [tJ 3] [.ref 0 0,aW,aP] (jo)),
 (314,.pk [aW,aP] (jo)),
 (327,.chg [H5,H6] [.ref 0 0,aW] .bool),
 (327,.chg [tJ 10] [.ref 0 0,aW] .bool),
 (327,.chg [tJ 3] [.ref 0 0,aW] .bool),
 (327,.pk [aW] .bool),
 (252,.pure [.agg [aW,aP,jo,.bool,jo,jo]] .bool),
 (403,.pure [.agg [.slx [aW,aW,aW]],J4,J4,aW] .bool),
 (278,.pure [aW,.jv] (.tup [.agg [aW,aP,aP,uQ],aP]))]
def alf:List (FuncId×Sm):=[(208,.pure [.jv] (.tup [J4,aP])),
 (201,.pure [.jv] (.tup [.slx [aW,aP,uQ,.jv],aP])),
 (157,.pure [.jv] (.tup [uQ,aP])),
 (85,.pure [.agg [.jv,uQ]] (.tup [aW,aP])),
 (220,.pure [uQ,aW] (.tup [J4,.bool])),
 (276,.chg [H5,H6] [.ref 0 0] (.agg [aP,jo])),
 (276,.chg [tJ 10] [.ref 0 0] (.agg [aP,jo])),
 (276,.chg [tJ 3] [.ref 0 0] (.agg [aP,jo])),
 (276,.pk [] (.agg [aP,jo])),
 (307,.pure [.jv] (.tup [.agg [aW,aP,jo,.bool,jo,jo],aP])),
 (277,.ro [.iface 199 (.agg [])] [J4,J4,aW] .bool),
 (277,.ro [.iface 206 (.agg [.slx [aW,aW,aW]])] [J4,J4,aW] .bool),
 (151,.pure [.jv] (.tup [.agg [.jv,uQ],aP])),
 (266,.pure [.jv] (.tup [.agg [aP,jo,aP,aW],aP])),
 (267,.pure [.sljx] (.tup [.slx [aW,aP,jo,.bool,jo,jo],aP])),
 (221,.ro [.iface 199 (.agg [])] [J4,aW,uQ,aW] .bool)]
def alg:List (FuncId×Sm):=[(221,.ro [.iface 206 (.agg [.slx [aW,aW,aW]])] [J4,aW,uQ,aW] .bool),
 (219,.pure [.jv] (.tup [.agg [aP,jo],aP])),
 (203,.pure [.jv] (.tup [.agg [uQ,.slx [aW,aP,jo,.bool,jo,jo],aP,jo,aP,aW],aP])),
 (161,.ro [.iface 199 (.agg [])] [.agg [.jv,uQ],.agg [aP,jo],uQ] aP),
 (161,.ro [.iface 206 (.agg [.slx [aW,aW,aW]])] [.agg [.jv,uQ],.agg [aP,jo],uQ] aP),
 (159,.pure [.jv] (.tup [.agg [aP,jo,aP,jo,aP,jo],aP])),
 (146,.pure [.jv] (.tup [.agg [aP,aP,.slx [aW,aP,uQ,.jv],uQ,.slx [aW,aP,jo,.bool,jo,jo],aP,jo,aP,aW],aP])),
 (96,.ro [.iface 199 (.agg [])] [.agg [.jv,uQ],.agg [aP,jo],uQ] .bool),
 (96,.ro [.iface 206 (.agg [.slx [aW,aW,aW]])] [.agg [.jv,uQ],.agg [aP,jo],uQ] .bool),
 (95,.pure [.jv] (.tup [.agg [aP,aP,uQ,aP,jo,aP,jo,aP,jo],aP]))]
def ar8:∀p∈mtL,methodOf Tryz.prog p.1 .nilp p.2.1=some (p.2.2,.nilp):=by
 unfold mtL;simp only[ay3];exact⟨by kernel_rfl,by kernel_rfl,fun _ h=>by simp at h⟩
noncomputable def rowOk(p:FuncId×Sm):Bool:=V6 Tryz.prog p.1&&((prL Nv p.1).isNone&& !ady p.1)
section
variable{u1 u2:TypeId}
def ajJ{rows:List (FuncId×Sm)}(h:rows.all rowOk=true):∀p∈rows,Has (C0 u1 u2) p.1 (kA Tryz.prog p.1):=fun p hp=>by
 have k:=a90.mp h p hp;unfold rowOk at k;simp only[a01,Option.isNone_iff_eq_none,aA8]at k;exact arT k.1 k.2.1 k.2.2
def hand1:List (FuncId×Sm):=[(ash,.pure [.strb,.int .i64] (.tup [.int .i64,.bool]))]
def Xb:∀p∈hand1,gu (C0 u1 u2) gz p.1 p.2:=by
 unfold hand1;simp only[ay3];exact⟨abP (has),fun _ h=>by simp at h⟩
def Eu(u1 u2:TypeId)(l:List (FuncId×Sm)):Prop:=∀p∈l,gu (C0 u1 u2) gz p.1 p.2
def aeI(n:Nat):Option Sh:=match Nat.beq n Bj with
 |true=>some (.eptr 0 [.sc [114,111,111,116],.sc [115,110,97,112,115,104,111,116],.sc [116,97,114,103,101,116,115]])
 |false=>none
def ahH:∀n s,aeI n=some s->∀V:Val,M V s (.eptr (((C0 u1 u2).gl n).getD [])):=by
 intro n s h V;unfold aeI at h;split at h
 ·rename_i hb;have:=at7 hb;subst this;cases h;have e:((C0 u1 u2).gl Bj).getD []=[.str [114,111,111,116],.str [115,110,97,112,115,104,111,116],.str [116,97,114,103,101,116,115]]:=by
   show(glX u1 u2 Bj).getD []=_;rw[agp Bj [.str [114,111,111,116],.str [115,110,97,112,115,104,111,116],.str [116,97,114,103,101,116,115]] (by kernel_rfl)]
   rfl
  rw[e];exact M.eptr 0 _ [.str [114,111,111,116],.str [115,110,97,112,115,104,111,116],.str [116,97,114,103,101,116,115]] [] (.one _ _ _ _ rfl (.sc _) (.one _ _ _ _ rfl (.sc _) (.one _ _ _ _ rfl (.sc _) .nil))) (a98 _) rfl
 ·cases h
def stage{h rows:List (FuncId×Sm)}(H:Eu u1 u2 h)(c:rows.all rowOk=true)(r:(aej (aoW aeI mtL h) (aoi Tryz.prog rows)).isSome=true):Eu u1 u2 (rows++h):=fun p hp=>(az8.mp hp).elim (ael ahH ar8 H (ajJ c) r p) (H p)
def sm1:Eu u1 u2 (ary++hand1):=stage Xb (by kernel_rfl) (by kernel_rfl)
def aq2:gu (C0 u1 u2) gz Uk (.pure [aP] .bool):=sm1 _ (a94 (i:=0) rfl)
def aq6:gu (C0 u1 u2) gz Js (.pure [aP,aP] .bool):=sm1 _ (a94 (i:=1) rfl)
def alB:gu (C0 u1 u2) gz FU (.pure [aW] aP):=sm1 _ (a94 (i:=2) rfl)
def arz:gu (C0 u1 u2) gz oV (.pure [jo] .bool):=sm1 _ (a94 (i:=3) rfl)
def arZ:gu (C0 u1 u2) gz Jn (.pure [aW] .bool):=sm1 _ (a94 (i:=4) rfl)
def anC:gu (C0 u1 u2) gz Qn (.pure [aP] aP):=sm1 _ (a94 (i:=6) rfl)
def anN:Vp (C0 u1 u2) gz where
 days:=has
 read:=has
 bef:=rfl
 leap:=aq2
 upTo:=aq6
 start:=anC
 digits:=alB
def am0:GU (C0 u1 u2) gz where
 proper:=has
 written:=has
 may:=has
 May:=has
 valid:=adX u1 u2
 ascending:=arz
def apb:VO (C0 u1 u2) gz:=⟨has,arZ,Xb _ (a94 (i:=0) rfl)⟩
def hand2:List (FuncId×Sm):=[(ash,.pure [.strb,.int .i64] (.tup [.int .i64,.bool])),(Bg,.pure [.jv] .bool),(Bh,.pure [.strb] (.tup [.int .i64,.int .i64])),(CV,.pure [.jv] .jv),(Be,.pure [.jv,.strb] (.tup [.jv,.bool])),(Bd,.pure [.strb] .bool),(iE,.pure [.jv] (.tup [.strb,.int .i64])),(oU,.pure [.strb] .strb),(tu,.pure [.slc 2 [.strb,.jv,.strb,.jv]] (.tup [.jv,.int .i64])),(CS,.pure [.strb] (.tup [.strb,.int .i64])),(A8,.pure [.strb,.strb] .strb),(bz,.pure [.strb,.strb] (.tup [.strb,.bool]))]
def QD:∀p∈hand2,gu (C0 u1 u2) gz p.1 p.2:=by
 unfold hand2;simp only[ay3];exact⟨Xb _ (a94 (i:=0) rfl),abS am0,abT anN,YI (aaU u1 u2),abR (aaU u1 u2) (amC u1 u2) (has),adX u1 u2,Vd (aoZ u1 u2) am0 (has),YH (ah5 u1 u2),adW (apz u1 u2) (has),YG apb,aiq (amU u1 u2),abO _ (has) (has),fun _ h=>by simp at h⟩
def sB0:Eu u1 u2 (al8++hand2):=stage QD (by kernel_rfl) (by kernel_rfl)
def hB0:List (FuncId×Sm):=al8++hand2
def sB1:Eu u1 u2 (al9++hB0):=stage sB0 (by kernel_rfl) (by kernel_rfl)
def hB1:List (FuncId×Sm):=al9++hB0
def sB2:Eu u1 u2 (ala++hB1):=stage sB1 (by kernel_rfl) (by kernel_rfl)
def hB2:List (FuncId×Sm):=ala++hB1
def sB3:Eu u1 u2 (alb++hB2):=stage sB2 (by kernel_rfl) (by kernel_rfl)
def hB3:List (FuncId×Sm):=alb++hB2
def sB4:Eu u1 u2 (alc++hB3):=stage sB3 (by kernel_rfl) (by kernel_rfl)
def hB4:List (FuncId×Sm):=alc++hB3
def sB5:Eu u1 u2 (ald++hB4):=stage sB4 (by kernel_rfl) (by kernel_rfl)
def hB5:List (FuncId×Sm):=ald++hB4
def sB6:Eu u1 u2 (ale++hB5):=stage sB5 (by kernel_rfl) (by kernel_rfl)
def hB6:List (FuncId×Sm):=ale++hB5
def sB7:Eu u1 u2 (alf++hB6):=stage sB6 (by kernel_rfl) (by kernel_rfl)
def hB7:List (FuncId×Sm):=alf++hB6
def sB8:Eu u1 u2 (alg++hB7):=stage sB7 (by kernel_rfl) (by kernel_rfl)
def alC:gu (C0 u1 u2) gz iD (.pure [.strb] (.tup [.jv,.int .i64,.int .i64])):=abQ (aiz u1 u2) (has)
def anV:List (FuncId×Sm):=(iD,.pure [.strb] (.tup [.jv,.int .i64,.int .i64]))::(alg++hB7)
def ajG:Eu u1 u2 anV:=by
 unfold anV Eu;rw[ay3];exact⟨alC,sB8⟩
def anB:gu (C0 u1 u2) gz Bc (.pure [.strb] (.tup [.agg [.jv,.slx [.strb,.strb]],.int .i64])):=stage (rows:=[(Bc,.pure [.strb] (.tup [.agg [.jv,.slx [.strb,.strb]],.int .i64]))]) ajG (by kernel_rfl) (by kernel_rfl) _ (a94 (i:=0) rfl)
def aq1:gu (C0 u1 u2) gz wF (.pure [uQ,aW] (.tup [aW,.bool])):=sB0 _ (a94 (i:=0) rfl)
def arD:gu (C0 u1 u2) gz F9 (.pure [.jv] (.tup [.agg [aP,aP,uQ,aP,jo,aP,jo,aP,jo],aP])):=sB8 _ (a94 (i:=9) rfl)
def aq3:gu (C0 u1 u2) gz vw (.pure [.jv] (.tup [.agg [.jv,uQ],aP])):=sB7 _ (a94 (i:=12) rfl)
def aq4:gu (C0 u1 u2) gz Dl (.pure [.jv] (.tup [.agg [aP,aP,.slx [aW,aP,uQ,.jv],uQ,.slx [aW,aP,jo,.bool,jo,jo],aP,jo,aP,aW],aP])):=sB8 _ (a94 (i:=6) rfl)
def aio:gu (C0 u1 u2) gz iF (.ro [.iface 199 (.agg [])] [.agg [.jv,uQ],.agg [aP,jo],uQ] .bool):=sB8 _ (a94 (i:=7) rfl)
def aip:gu (C0 u1 u2) gz iF (.ro [.iface 206 (.agg [.slx [aW,aW,aW]])] [.agg [.jv,uQ],.agg [aP,jo],uQ] .bool):=sB8 _ (a94 (i:=8) rfl)
def aq5:gu (C0 u1 u2) gz Iw (.pk [aW] aW):=sB5 _ (a94 (i:=8) rfl)
def arA:gu (C0 u1 u2) gz Jq (.pk [aW,aP,aP] aP):=sB5 _ (a94 (i:=12) rfl)
def arB:gu (C0 u1 u2) gz EQ (.pk [aW,aP] .jv):=sB5 _ (a94 (i:=4) rfl)
def aq0:gu (C0 u1 u2) gz Iu (.pk [aP] (.tup [])):=sB1 _ (a94 (i:=14) rfl)
def apZ:gu (C0 u1 u2) gz Ir (.pk [] aP):=sB2 _ (a94 (i:=2) rfl)
def as3:gu (C0 u1 u2) gz Zo (.pof [.jv]):=sB0 _ (a94 (i:=1) rfl)
def arC:gu (C0 u1 u2) gz Qk (.pure [aW,.jv] (.tup [.agg [aW,aP,aP,uQ],aP])):=sB6 _ (a94 (i:=15) rfl)
def anD:Aa (C0 u1 u2) gz where
 text:=aq5
 num:=arA
 obj:=arB
 fail:=aq0
 done:=apZ
 of:=as3
 pin:=arC
 when:=QD _ (a94 (i:=2) rfl)
 May:=QD _ (a94 (i:=1) rfl)
 parts:=has
 pType:=has
 pVersion:=has
 pExpires:=has
 pMeta:=has
 snapOf:=has
end
end Go.Proofs.YtpikfmmkcckclaaGreatDoor
