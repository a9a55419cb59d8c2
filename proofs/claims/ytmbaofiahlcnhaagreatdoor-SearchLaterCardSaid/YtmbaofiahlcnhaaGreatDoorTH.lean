/- Contracts. No conditions. -/
import Derived.Test.YtmbaofiahlcnhaaGreatDoorTC
import Derived.KernelRfl
import Derived.Test.YtmbaofiahlcnhaaGreatDoorTD
import Derived.Test.YtmbaofiahlcnhaaGreatDoorTE
import Derived.Test.YtmbaofiahlcnhaaGreatDoorTF
import Derived.Test.YtmbaofiahlcnhaaGreatDoorTG
import Derived.Test.YtmbaofiahlcnhaaGreatDoorCD
import Derived.Test.YtmbaofiahlcnhaaGreatDoorTB
import Derived.Shelf.SlSortCmp.WholeK
import Derived.Shelf.Small.Strs
import Derived.Test.YtmbaofiahlcnhaaGreatDoorProg
import Derived.Test.YtmbaofiahlcnhaaGreatDoorCF
import Derived.Test.YtmbaofiahlcnhaaGreatDoorEC
import Derived.Test.YtmbaofiahlcnhaaGreatDoorCC
import Derived.Test.YtmbaofiahlcnhaaGreatDoorCE
import Derived.Test.YtmbaofiahlcnhaaGreatDoorCB
set_option linter.unusedVariables false
set_option linter.unusedSimpArgs false
set_option linter.defProp false
namespace Go.Proofs.YtmbaofiahlcnhaaGreatDoor
open Bool renaming true→eT, false→eF
open List renaming length→z
open Go.IntKind renaming i64→r
open Option renaming some→J, none→U
open Go.Ev
set_option maxRecDepth 1000000
def l79:dW (bM CC (T0 Q79) 5000 yD a79 []) v79=eT:=by kernel_rfl
def l80:dW (bM CC (T0 Q80) 5000 zq a80 []) v80=eT:=by kernel_rfl
def l81:dW (bM CC (T0 Q81) 5000 qN a81 []) v81=eT:=by kernel_rfl
def l82:dW (bM CC (T0 Q82) 5000 jC a82 []) v82=eT:=by kernel_rfl
def l83:dW (bM CC (T0 Q83) 5000 jC a83 []) v83=eT:=by kernel_rfl
def nxq{M:MM}{f:FuncId}{a:LA}{v:AV}(q:MOK CC M)(l:dW (bM CC (T0 M) 5000 f a []) v=eT)(c:ae 0 a=eT:=by kernel_rfl):MOK CC (fM M f a v):=aso q (afW (Ib BR (amD q) 5000) kw c l)
def q0:MOK CC Q0:=avm CC
def q1:MOK CC Q1:=nxq q0 l0
def q2:MOK CC Q2:=nxq q1 l1
def q3:MOK CC Q3:=nxq q2 l2
def q4:MOK CC Q4:=nxq q3 l3
def q5:MOK CC Q5:=nxq q4 l4
def q6:MOK CC Q6:=nxq q5 l5
def q7:MOK CC Q7:=nxq q6 l6
def q8:MOK CC Q8:=nxq q7 l7
def q9:MOK CC Q9:=nxq q8 l8
def q10:MOK CC Q10:=nxq q9 l9
def q11:MOK CC Q11:=nxq q10 l10
def q12:MOK CC Q12:=nxq q11 l11
def q13:MOK CC Q13:=nxq q12 l12
def q14:MOK CC Q14:=nxq q13 l13
def q15:MOK CC Q15:=nxq q14 l14
def q16:MOK CC Q16:=nxq q15 l15
def q17:MOK CC Q17:=nxq q16 l16
def q18:MOK CC Q18:=nxq q17 l17
def q19:MOK CC Q19:=nxq q18 l18
def q20:MOK CC Q20:=nxq q19 l19
def q21:MOK CC Q21:=nxq q20 l20
def q22:MOK CC Q22:=nxq q21 l21
def q23:MOK CC Q23:=nxq q22 l22
def q24:MOK CC Q24:=nxq q23 l23
def q25:MOK CC Q25:=nxq q24 l24
def q26:MOK CC Q26:=nxq q25 l25
def q27:MOK CC Q27:=nxq q26 l26
def q28:MOK CC Q28:=nxq q27 l27
def q29:MOK CC Q29:=nxq q28 l28
def q30:MOK CC Q30:=nxq q29 l29
def q31:MOK CC Q31:=nxq q30 l30
def q32:MOK CC Q32:=nxq q31 l31
def q33:MOK CC Q33:=nxq q32 l32
def q34:MOK CC Q34:=nxq q33 l33
def q35:MOK CC Q35:=nxq q34 l34
def q36:MOK CC Q36:=nxq q35 l35
def q37:MOK CC Q37:=nxq q36 l36
def q38:MOK CC Q38:=nxq q37 l37
def q39:MOK CC Q39:=nxq q38 l38
def q40:MOK CC Q40:=nxq q39 l39
def q41:MOK CC Q41:=nxq q40 l40
def q42:MOK CC Q42:=nxq q41 l41
def q43:MOK CC Q43:=nxq q42 l42
def q44:MOK CC Q44:=nxq q43 l43
def q45:MOK CC Q45:=nxq q44 l44
def q46:MOK CC Q46:=nxq q45 l45
def q47:MOK CC Q47:=nxq q46 l46
def q48:MOK CC Q48:=nxq q47 l47
def q49:MOK CC Q49:=nxq q48 l48
def q50:MOK CC Q50:=nxq q49 l49
def q51:MOK CC Q51:=nxq q50 l50
def q52:MOK CC Q52:=nxq q51 l51
def q53:MOK CC Q53:=nxq q52 l52
def q54:MOK CC Q54:=nxq q53 l53
def q55:MOK CC Q55:=nxq q54 l54
def q56:MOK CC Q56:=nxq q55 l55
def q57:MOK CC Q57:=nxq q56 l56
def q58:MOK CC Q58:=nxq q57 l57
def q59:MOK CC Q59:=nxq q58 l58
def q60:MOK CC Q60:=nxq q59 l59
def q61:MOK CC Q61:=nxq q60 l60
def q62:MOK CC Q62:=nxq q61 l61
def q63:MOK CC Q63:=nxq q62 l62
def q64:MOK CC Q64:=nxq q63 l63
def q65:MOK CC Q65:=nxq q64 l64
def q66:MOK CC Q66:=nxq q65 l65
def q67:MOK CC Q67:=nxq q66 l66
def q68:MOK CC Q68:=nxq q67 l67
def q69:MOK CC Q69:=nxq q68 l68
def q70:MOK CC Q70:=nxq q69 l69
def q71:MOK CC Q71:=nxq q70 l70
def q72:MOK CC Q72:=nxq q71 l71
def q73:MOK CC Q73:=nxq q72 l72
def q74:MOK CC Q74:=nxq q73 l73
def q75:MOK CC Q75:=nxq q74 l74
def q76:MOK CC Q76:=nxq q75 l75
def q77:MOK CC Q77:=nxq q76 l76
def q78:MOK CC Q78:=nxq q77 l77
def q79:MOK CC Q79:=nxq q78 l78
def q80:MOK CC Q80:=nxq q79 l79
def q81:MOK CC Q81:=nxq q80 l80
def q82:MOK CC Q82:=nxq q81 l81
def q83:MOK CC Q83:=nxq q82 l82
def q84:MOK CC Q84:=nxq q83 l83
def ls0:arK (bM CC (T0 Q84) 5000 oO sa0 st0) sv0 st0=eT:=by kernel_rfl
def avr:POK CC oO (ami SR):=akC (Ib BR (amD q84) 5000) (by unfold SR;simp only[aB6];exact⟨ls0,λ_ h=>by cases h⟩)
def ajg:eY CC (bM CC (akJ (T0 Q84) oO (ami SR)) 5000):=Ib BR (aqr (amD q84) avr) 5000
def aw3:dW (bM CC (akJ (T0 Q84) oO (ami SR)) 5000 uj [] []) (.cX eT)=eT:=by kernel_rfl
def fin:aj2 CC uj [] (.cX eT):=afW ajg kw (by kernel_rfl) aw3
end Go.Proofs.YtmbaofiahlcnhaaGreatDoor
namespace Go.Ev
open Bool renaming true→eT, false→eF
open List renaming length→z
open Go.IntKind renaming i64→r
open Option renaming some→J, none→U
set_option maxRecDepth 100000
variable{C:Ctx}{PK:PkI}
def alm(s:LU):z (yU s)<=2*z s:=by
 unfold yU
 induction s with
 |nil=>simp|cons a l b=>have h:z (ank a)=2:=rfl;rw[aC7,a04,h,a90];omega
def aeE(b:Has C nY nO):dh C PK nY (.ez [.ds,.cU r] (.df [.cU r,.cX])):=
 nK b rfl λc e=>by
  obtain⟨x,y,rfl,d,h2⟩:=ae1 e;obtain⟨a,rfl,g⟩:=wY d;cases h2 with
  |cU _ n=>intro O f;refine⟨_,JA b a n O,?_⟩;unfold NQ;exact .df _ _ (.cW _ _ _ _ (.cU _ _) (.cW _ _ _ _ (.cX _) .de))
def abv(H:QR C):dh C PK sD (.ez [.ds] .ds):=
 nK H.h0 rfl λc f=>by obtain⟨x,rfl,d⟩:=Ro f;obtain⟨a,rfl,e⟩:=wY d;intro O b;refine⟨_,aiL H a (by simp only[LB]at e;omega) O b,.ds _ ?_⟩;have:=alm (tN a);rw[qm]at this;unfold aiK;simp only[LB];omega
def am7(H:adl C):dh C PK zi (.ez [.ds,.ds] .ds):=
 nK H.of rfl λd g=>by obtain⟨x,y,rfl,e,h2⟩:=ae1 g;obtain⟨a,rfl,f⟩:=wY e;obtain⟨b,rfl,hb⟩:=wY h2;intro O c;refine⟨_,aoy H a b (by simp only[LB]at f;omega) (by simp only[LB]at hb;omega) O c,.ds _ ?_⟩;unfold hmac;simp only[qm,LB];omega
end Go.Ev
namespace Go.Proofs.YtmbaofiahlcnhaaGreatDoor
open Bool renaming true→eT, false→eF
open List renaming length→z
open Go.IntKind renaming i64→r
open Option renaming some→J, none→U
open Go.Shelf Go.Proofs
def fxS{P:Program}{f:Nat}{a b:Func}(h:P.funcs[f]?=J a)(e:a=b:=by kernel_rfl):P.funcs[f]?=J b:=h.trans (congrArg J e)
def Tryz.laysSR_ren:Go.Shelf.Ren:=⟨λ|6=>330|15=>168|14=>347|28=>245|29=>246|20=>356|21=>357|22=>358|23=>359|24=>360|25=>361|26=>362|27=>363|46=>370|47=>288|48=>289|49=>371|50=>372|57=>382|n=>n,λ|22=>443|24=>445|25=>470|3=>3|39=>243|0=>0|53=>55|55=>327|4=>4|46=>384|45=>383|50=>194|5=>5|9=>9|66=>424|70=>322|76=>464|77=>465|n=>n,λ|n=>n⟩
def Tryz.laysSR:Go.Proofs.SlLaysF0.n6 Tryz.prog Tryz.laysSR_ren:={
 mixed:=by kernel_rfl
 f6:=⟨Tryz.f330.name,by decide,fxS Tryz.func330⟩
 f14:=⟨Tryz.f347.name,by decide,fxS Tryz.func347⟩
 f15:=fxS Tryz.func168
 f20:=⟨Tryz.f356.name,by decide,fxS Tryz.func356⟩
 f21:=⟨Tryz.f357.name,by decide,fxS Tryz.func357⟩
 f22:=⟨Tryz.f358.name,by decide,fxS Tryz.func358⟩
 f23:=⟨Tryz.f359.name,by decide,fxS Tryz.func359⟩
 f24:=⟨Tryz.f360.name,by decide,fxS Tryz.func360⟩
 f25:=⟨Tryz.f361.name,by decide,fxS Tryz.func361⟩
 f26:=⟨Tryz.f362.name,by decide,fxS Tryz.func362⟩
 f27:=⟨Tryz.f363.name,by decide,fxS Tryz.func363⟩
 f28:=fxS Tryz.func245
 f29:=fxS Tryz.func246
 f46:=⟨Tryz.f370.name,by decide,fxS Tryz.func370⟩
 f47:=fxS Tryz.func288
 f48:=fxS Tryz.func289
 f49:=⟨Tryz.f371.name,by decide,fxS Tryz.func371⟩
 f50:=⟨Tryz.f372.name,by decide,fxS Tryz.func372⟩
 f57:=⟨Tryz.f382.name,by decide,fxS Tryz.func382⟩
 t0:=Tryz.underlying0
 a0:=Tryz.isAgg0
 z0:=Tryz.sizeOf0
 v0:=Tryz.zeroValue0
 t3:=Tryz.underlying3
 a3:=Tryz.isAgg3
 z3:=Tryz.sizeOf3
 v3:=Tryz.zeroValue3
 t4:=Tryz.underlying4
 a4:=Tryz.isAgg4
 z4:=Tryz.sizeOf4
 v4:=Tryz.zeroValue4
 t5:=Tryz.underlying5
 a5:=Tryz.isAgg5
 z5:=Tryz.sizeOf5
 v5:=Tryz.zeroValue5
 t9:=Tryz.underlying9
 a9:=Tryz.isAgg9
 z9:=Tryz.sizeOf9
 v9:=Tryz.zeroValue9
 t22:=Tryz.underlying443
 a22:=Tryz.isAgg443
 z22:=Tryz.sizeOf443
 v22:=Tryz.zeroValue443
 t25:=Tryz.underlying470
 a25:=Tryz.isAgg470
 z25:=Tryz.sizeOf470
 v25:=Tryz.zeroValue470
 t39:=Tryz.underlying243
 a39:=Tryz.isAgg243
 z39:=Tryz.sizeOf243
 v39:=Tryz.zeroValue243
 t45:=Tryz.underlying383
 a45:=Tryz.isAgg383
 z45:=Tryz.sizeOf383
 v45:=Tryz.zeroValue383
 t46:=Tryz.underlying384
 a46:=Tryz.isAgg384
 z46:=Tryz.sizeOf384
 v46:=Tryz.zeroValue384
 t50:=Tryz.underlying194
 a50:=Tryz.isAgg194
 z50:=Tryz.sizeOf194
 v50:=Tryz.zeroValue194
 t53:=Tryz.underlying55
 a53:=Tryz.isAgg55
 z53:=Tryz.sizeOf55
 v53:=Tryz.zeroValue55
 t55:=Tryz.underlying327
 a55:=Tryz.isAgg327
 z55:=Tryz.sizeOf327
 v55:=Tryz.zeroValue327
 t66:=Tryz.underlying424
 a66:=Tryz.isAgg424
 z66:=Tryz.sizeOf424
 v66:=Tryz.zeroValue424
 t70:=Tryz.underlying322
 a70:=Tryz.isAgg322
 z70:=Tryz.sizeOf322
 v70:=Tryz.zeroValue322
 t76:=Tryz.underlying464
 a76:=Tryz.isAgg464
 z76:=Tryz.sizeOf464
 v76:=Tryz.zeroValue464
 t77:=Tryz.underlying465
 a77:=Tryz.isAgg465
 z77:=Tryz.sizeOf465
 v77:=Tryz.zeroValue465}
def Tryz.laysSM_ren:Go.Shelf.Ren:=⟨λ|6=>104|15=>168|14=>170|28=>245|29=>246|20=>247|21=>248|22=>249|23=>250|24=>251|25=>252|26=>253|27=>254|46=>292|47=>288|48=>289|49=>293|50=>294|57=>318|n=>n,λ|22=>167|24=>173|25=>230|3=>3|39=>243|0=>0|53=>55|55=>327|4=>4|46=>384|45=>383|50=>194|5=>5|9=>9|66=>424|70=>322|76=>464|77=>465|n=>n,λ|n=>n⟩
def Tryz.laysSM:Go.Proofs.SlLaysF0.n6 Tryz.prog Tryz.laysSM_ren:={
 mixed:=by kernel_rfl
 f6:=⟨Tryz.f104.name,by decide,fxS Tryz.func104⟩
 f14:=⟨Tryz.f170.name,by decide,fxS Tryz.func170⟩
 f15:=fxS Tryz.func168
 f20:=⟨Tryz.f247.name,by decide,fxS Tryz.func247⟩
 f21:=⟨Tryz.f248.name,by decide,fxS Tryz.func248⟩
 f22:=⟨Tryz.f249.name,by decide,fxS Tryz.func249⟩
 f23:=⟨Tryz.f250.name,by decide,fxS Tryz.func250⟩
 f24:=⟨Tryz.f251.name,by decide,fxS Tryz.func251⟩
 f25:=⟨Tryz.f252.name,by decide,fxS Tryz.func252⟩
 f26:=⟨Tryz.f253.name,by decide,fxS Tryz.func253⟩
 f27:=⟨Tryz.f254.name,by decide,fxS Tryz.func254⟩
 f28:=fxS Tryz.func245
 f29:=fxS Tryz.func246
 f46:=⟨Tryz.f292.name,by decide,fxS Tryz.func292⟩
 f47:=fxS Tryz.func288
 f48:=fxS Tryz.func289
 f49:=⟨Tryz.f293.name,by decide,fxS Tryz.func293⟩
 f50:=⟨Tryz.f294.name,by decide,fxS Tryz.func294⟩
 f57:=⟨Tryz.f318.name,by decide,fxS Tryz.func318⟩
 t0:=Tryz.underlying0
 a0:=Tryz.isAgg0
 z0:=Tryz.sizeOf0
 v0:=Tryz.zeroValue0
 t3:=Tryz.underlying3
 a3:=Tryz.isAgg3
 z3:=Tryz.sizeOf3
 v3:=Tryz.zeroValue3
 t4:=Tryz.underlying4
 a4:=Tryz.isAgg4
 z4:=Tryz.sizeOf4
 v4:=Tryz.zeroValue4
 t5:=Tryz.underlying5
 a5:=Tryz.isAgg5
 z5:=Tryz.sizeOf5
 v5:=Tryz.zeroValue5
 t9:=Tryz.underlying9
 a9:=Tryz.isAgg9
 z9:=Tryz.sizeOf9
 v9:=Tryz.zeroValue9
 t22:=Tryz.underlying167
 a22:=Tryz.isAgg167
 z22:=Tryz.sizeOf167
 v22:=Tryz.zeroValue167
 t25:=Tryz.underlying230
 a25:=Tryz.isAgg230
 z25:=Tryz.sizeOf230
 v25:=Tryz.zeroValue230
 t39:=Tryz.underlying243
 a39:=Tryz.isAgg243
 z39:=Tryz.sizeOf243
 v39:=Tryz.zeroValue243
 t45:=Tryz.underlying383
 a45:=Tryz.isAgg383
 z45:=Tryz.sizeOf383
 v45:=Tryz.zeroValue383
 t46:=Tryz.underlying384
 a46:=Tryz.isAgg384
 z46:=Tryz.sizeOf384
 v46:=Tryz.zeroValue384
 t50:=Tryz.underlying194
 a50:=Tryz.isAgg194
 z50:=Tryz.sizeOf194
 v50:=Tryz.zeroValue194
 t53:=Tryz.underlying55
 a53:=Tryz.isAgg55
 z53:=Tryz.sizeOf55
 v53:=Tryz.zeroValue55
 t55:=Tryz.underlying327
 a55:=Tryz.isAgg327
 z55:=Tryz.sizeOf327
 v55:=Tryz.zeroValue327
 t66:=Tryz.underlying424
 a66:=Tryz.isAgg424
 z66:=Tryz.sizeOf424
 v66:=Tryz.zeroValue424
 t70:=Tryz.underlying322
 a70:=Tryz.isAgg322
 z70:=Tryz.sizeOf322
 v70:=Tryz.zeroValue322
 t76:=Tryz.underlying464
 a76:=Tryz.isAgg464
 z76:=Tryz.sizeOf464
 v76:=Tryz.zeroValue464
 t77:=Tryz.underlying465
 a77:=Tryz.isAgg465
 z77:=Tryz.sizeOf465
 v77:=Tryz.zeroValue465}
def Tryz.laysSK_ren:Go.Shelf.Ren:=⟨λ|6=>100|15=>168|14=>167|28=>245|29=>246|20=>237|21=>238|22=>239|23=>240|24=>241|25=>242|26=>243|27=>244|46=>287|47=>288|48=>289|49=>290|50=>291|57=>317|n=>n,λ|22=>218|24=>220|25=>224|3=>3|39=>243|0=>0|53=>55|55=>327|4=>4|46=>384|45=>383|50=>194|5=>5|9=>9|66=>424|70=>322|76=>464|77=>465|n=>n,λ|n=>n⟩
def Tryz.laysSK:Go.Proofs.SlLaysF0.n6 Tryz.prog Tryz.laysSK_ren:={
 mixed:=by kernel_rfl
 f6:=⟨Tryz.f100.name,by decide,fxS Tryz.func100⟩
 f14:=⟨Tryz.f167.name,by decide,fxS Tryz.func167⟩
 f15:=fxS Tryz.func168
 f20:=⟨Tryz.f237.name,by decide,fxS Tryz.func237⟩
 f21:=⟨Tryz.f238.name,by decide,fxS Tryz.func238⟩
 f22:=⟨Tryz.f239.name,by decide,fxS Tryz.func239⟩
 f23:=⟨Tryz.f240.name,by decide,fxS Tryz.func240⟩
 f24:=⟨Tryz.f241.name,by decide,fxS Tryz.func241⟩
 f25:=⟨Tryz.f242.name,by decide,fxS Tryz.func242⟩
 f26:=⟨Tryz.f243.name,by decide,fxS Tryz.func243⟩
 f27:=⟨Tryz.f244.name,by decide,fxS Tryz.func244⟩
 f28:=fxS Tryz.func245
 f29:=fxS Tryz.func246
 f46:=⟨Tryz.f287.name,by decide,fxS Tryz.func287⟩
 f47:=fxS Tryz.func288
 f48:=fxS Tryz.func289
 f49:=⟨Tryz.f290.name,by decide,fxS Tryz.func290⟩
 f50:=⟨Tryz.f291.name,by decide,fxS Tryz.func291⟩
 f57:=⟨Tryz.f317.name,by decide,fxS Tryz.func317⟩
 t0:=Tryz.underlying0
 a0:=Tryz.isAgg0
 z0:=Tryz.sizeOf0
 v0:=Tryz.zeroValue0
 t3:=Tryz.underlying3
 a3:=Tryz.isAgg3
 z3:=Tryz.sizeOf3
 v3:=Tryz.zeroValue3
 t4:=Tryz.underlying4
 a4:=Tryz.isAgg4
 z4:=Tryz.sizeOf4
 v4:=Tryz.zeroValue4
 t5:=Tryz.underlying5
 a5:=Tryz.isAgg5
 z5:=Tryz.sizeOf5
 v5:=Tryz.zeroValue5
 t9:=Tryz.underlying9
 a9:=Tryz.isAgg9
 z9:=Tryz.sizeOf9
 v9:=Tryz.zeroValue9
 t22:=Tryz.underlying218
 a22:=Tryz.isAgg218
 z22:=Tryz.sizeOf218
 v22:=Tryz.zeroValue218
 t25:=Tryz.underlying224
 a25:=Tryz.isAgg224
 z25:=Tryz.sizeOf224
 v25:=Tryz.zeroValue224
 t39:=Tryz.underlying243
 a39:=Tryz.isAgg243
 z39:=Tryz.sizeOf243
 v39:=Tryz.zeroValue243
 t45:=Tryz.underlying383
 a45:=Tryz.isAgg383
 z45:=Tryz.sizeOf383
 v45:=Tryz.zeroValue383
 t46:=Tryz.underlying384
 a46:=Tryz.isAgg384
 z46:=Tryz.sizeOf384
 v46:=Tryz.zeroValue384
 t50:=Tryz.underlying194
 a50:=Tryz.isAgg194
 z50:=Tryz.sizeOf194
 v50:=Tryz.zeroValue194
 t53:=Tryz.underlying55
 a53:=Tryz.isAgg55
 z53:=Tryz.sizeOf55
 v53:=Tryz.zeroValue55
 t55:=Tryz.underlying327
 a55:=Tryz.isAgg327
 z55:=Tryz.sizeOf327
 v55:=Tryz.zeroValue327
 t66:=Tryz.underlying424
 a66:=Tryz.isAgg424
 z66:=Tryz.sizeOf424
 v66:=Tryz.zeroValue424
 t70:=Tryz.underlying322
 a70:=Tryz.isAgg322
 z70:=Tryz.sizeOf322
 v70:=Tryz.zeroValue322
 t76:=Tryz.underlying464
 a76:=Tryz.isAgg464
 z76:=Tryz.sizeOf464
 v76:=Tryz.zeroValue464
 t77:=Tryz.underlying465
 a77:=Tryz.isAgg465
 z77:=Tryz.sizeOf465
 v77:=Tryz.zeroValue465}
def Tryz.laysCmp_ren:Go.Shelf.Ren:=⟨λ|106=>106|213=>171|265=>255|n=>n,λ|9=>9|3=>3|n=>n,λ|n=>n⟩
def Tryz.laysCmp:Go.Proofs.Lays.n106 Tryz.prog Tryz.laysCmp_ren:={
 mixed:=by kernel_rfl
 f106:=fxS Tryz.func106
 f213:=fxS Tryz.func171
 f265:=fxS Tryz.func255
 t3:=Tryz.underlying3
 a3:=Tryz.isAgg3
 z3:=Tryz.sizeOf3
 v3:=Tryz.zeroValue3
 t9:=Tryz.underlying9
 a9:=Tryz.isAgg9
 z9:=Tryz.sizeOf9
 v9:=Tryz.zeroValue9}
open Go.Ev Go.RowKit Go.Shelf Go.Proofs Go.Lib Go.Sort
set_option maxRecDepth 100000
def ar1:JX Tryz.prog 330:=⟨_,Tryz.func330,by decide,rfl⟩
def ar0:JX Tryz.prog 104:=⟨_,Tryz.func104,by decide,rfl⟩
def aqZ:JX Tryz.prog 100:=⟨_,Tryz.func100,by decide,rfl⟩
def five{u:List Value}(h:z u=5):∃a b c d e,u=[a,b,c,d,e]:=by
 match u,h with
 |[a,b,c,d,e],_=>exact⟨a,b,c,d,e,rfl⟩
set_option maxHeartbeats 1000000 in
def awY(x y:LU)(u v:List Value)(W:World)(f:z u=5)(hv:z v=5):Calls Tryz.prog 331 #[.agg (.string ⟨⟨x⟩⟩::u).toArray,.agg (.string ⟨⟨y⟩⟩::v).toArray] W λe b=>e=.returned (.int r (compareBytes x y))/\∃q d,b=grow (W.drewN q) d:=by
 obtain⟨a1,a2,a3,a4,a5,rfl⟩:=five f;obtain⟨b1,g,h,i,j,rfl⟩:=five hv;have a:=λc=>Any.strings_Compare Tryz.laysCmp ⟨⟨x⟩⟩ ⟨⟨y⟩⟩ c;change∀c,Calls Tryz.prog 106 _ _ (λe b=>e=.returned (.int r (compareBytes x y))/\b=c)at a;generalize compareBytes x y=N at a⊢
 go_enter Tryz.func331,Tryz.ntmps331
 go_wp2_with (go_at_call 106;refine(a _).mono ?_;rintro e b ⟨rfl,rfl⟩)
 go_ret
 exact⟨rfl,0,_,by rw[alloc_eq_grow,alloc_eq_grow,grow_grow];rfl⟩
set_option maxHeartbeats 1000000 in
def awX(x y:LU)(u v:List Value)(W:World)(f:z u=5)(hv:z v=5):Calls Tryz.prog 105 #[.agg (.string ⟨⟨x⟩⟩::u).toArray,.agg (.string ⟨⟨y⟩⟩::v).toArray] W λe b=>e=.returned (.int r (compareBytes x y))/\∃q d,b=grow (W.drewN q) d:=by
 obtain⟨a1,a2,a3,a4,a5,rfl⟩:=five f;obtain⟨b1,g,h,i,j,rfl⟩:=five hv;have a:=λc=>Any.strings_Compare Tryz.laysCmp ⟨⟨x⟩⟩ ⟨⟨y⟩⟩ c;change∀c,Calls Tryz.prog 106 _ _ (λe b=>e=.returned (.int r (compareBytes x y))/\b=c)at a;generalize compareBytes x y=N at a⊢
 go_enter Tryz.func105,Tryz.ntmps105
 go_wp2_with (go_at_call 106;refine(a _).mono ?_;rintro e b ⟨rfl,rfl⟩)
 go_ret
 exact⟨rfl,0,_,by rw[alloc_eq_grow,alloc_eq_grow,grow_grow];rfl⟩
set_option maxHeartbeats 1000000 in
def cmpK(x y:LU)(u v:List Value)(W:World)(f:z u=5)(hv:z v=5):Calls Tryz.prog 101 #[.agg (.string ⟨⟨x⟩⟩::u).toArray,.agg (.string ⟨⟨y⟩⟩::v).toArray] W λe b=>e=.returned (.int r (compareBytes x y))/\∃q d,b=grow (W.drewN q) d:=by
 obtain⟨a1,a2,a3,a4,a5,rfl⟩:=five f;obtain⟨b1,g,h,i,j,rfl⟩:=five hv;have a:=λc=>Any.strings_Compare Tryz.laysCmp ⟨⟨x⟩⟩ ⟨⟨y⟩⟩ c;change∀c,Calls Tryz.prog 106 _ _ (λe b=>e=.returned (.int r (compareBytes x y))/\b=c)at a;generalize compareBytes x y=N at a⊢
 go_enter Tryz.func101,Tryz.ntmps101
 go_wp2_with (go_at_call 106;refine(a _).mono ?_;rintro e b ⟨rfl,rfl⟩)
 go_ret
 exact⟨rfl,0,_,by rw[alloc_eq_grow,alloc_eq_grow,grow_grow];rfl⟩
variable{C:Ctx}(hP:C.P=Tryz.prog)
 include hP
theorem apb:POK C 330 (Qw 331):=by
 refine aek (C:=C) (ρ:=Tryz.laysSR_ren) (hP▸Tryz.laysSR) rfl (hP▸ar1) ?_ ?_ ?_ ?_;·rw[hP];exact Tryz.isAgg445
 ·rw[hP];exact Tryz.sizeOf445
 ·rw[hP];exact enters_of Tryz.func331 (by kernel_rfl) rfl
 ·rw[hP];exact awY
theorem apa:POK C 104 (Qw 105):=by
 refine aek (C:=C) (ρ:=Tryz.laysSM_ren) (hP▸Tryz.laysSM) rfl (hP▸ar0) ?_ ?_ ?_ ?_;·rw[hP];exact Tryz.isAgg173
 ·rw[hP];exact Tryz.sizeOf173
 ·rw[hP];exact enters_of Tryz.func105 (by kernel_rfl) rfl
 ·rw[hP];exact awX
theorem ap9:POK C 100 (Qw 101):=by
 refine aek (C:=C) (ρ:=Tryz.laysSK_ren) (hP▸Tryz.laysSK) rfl (hP▸aqZ) ?_ ?_ ?_ ?_;·rw[hP];exact Tryz.isAgg220
 ·rw[hP];exact Tryz.sizeOf220
 ·rw[hP];exact enters_of Tryz.func101 (by kernel_rfl) rfl
 ·rw[hP];exact cmpK
end Go.Proofs.YtmbaofiahlcnhaaGreatDoor
namespace Go.Proofs.YtmbaofiahlcnhaaGreatDoor
open Bool renaming true→eT, false→eF
open List renaming length→z
open Go.IntKind renaming i64→r
open Option renaming some→J, none→U
open Go.Ev Go.RowKit
set_option maxRecDepth 1000000
noncomputable section
def Et(sz:Nat)(args:LA)(O:St):Option (AV×St):=
 match args with
 |[.sl n l]=>match Fe (Fe (Nat.beq (z l) (n*sz)) (Nat.ble n 1099511627776)) (l.all Wl)with|eT=>J (.sl n l,O)|eF=>U
 |_=>U
def U5{f:FuncId}{zs:LA}{sz bytes:Nat}(k:cF Tryz.prog f=J (Kcl zs sz bytes).V)(h2:Ri Tryz.prog f=eT)(h3:(Kcl zs sz bytes).ok=eT)(o:XD f=U)(hb:bytes<=48)(p:0<sz)(m:Bq zs=eF)(q:dW (evF CR1 100 f [.cY] []) .cY=eT)(s:dW (evF CR1 100 f [.fu] []) (.eC 0 [])=eT):POK CL0 f (Et sz):=by
 intro args O v t h g w b c i d;unfold Et at h;split at h
 ·rename_i n l;split at h
  ·rename_i a;rw[kX,a01,kX,a01]at a;have e:=ay0 a.1.1;cases h;by_cases j:n=0;·subst j;have:l=[]:=List.length_eq_zero_iff.mp (by simpa using e);subst this;exact aal (C:=CR1) (ahe 100) kw q s [.sl 0 []] O _ _ rfl g w b c i d
   ·exact qg aqv kw (by rw[ae,below,(agH a.2).cl];rfl) (clone_any (C:=CL0) (ax0 (ahZ k h2 h3 o rfl)) hb p m n l e (by omega) (az7 a.1.2) a.2 [] ok0) c i d
  ·cases h
 ·cases h
def asY:POK CL0 iC (Et 1):=U5 (zs:=[.cV []]) (bytes:=16) (by kernel_rfl) (by kernel_rfl) (by kernel_rfl) rfl (by decide) (by decide) rfl (by kernel_rfl) (by kernel_rfl)
def ap8:POK CL0 dM (Et 2):=U5 (zs:=[.cV [],.cV []]) (bytes:=32) (by kernel_rfl) (by kernel_rfl) (by kernel_rfl) rfl (by decide) (by decide) rfl (by kernel_rfl) (by kernel_rfl)
noncomputable def aaj(args:LA)(O:St):Option (AV×St):=match args with
 |[.cY,.ea (.func g) [] []]=>match Nat.beq g o7 with|eT=>J (.df [],O)|eF=>U
 |_=>Qw o7 args O
def alP:POK CL0 dN aaj:=by
 intro args O v e h g w a b d c;unfold aaj at h;split at h
 ·rename_i k;split at h;·rename_i hb;have:=ay0 hb;subst this;cases h;exact qg (C:=CR1) (ahe 1000) kw rfl (IM (v:=.df []) (by kernel_rfl)) b d c
  ·cases h
 ·exact ap9 (C:=CL0) rfl _ _ _ _ h g w a b d c
def apw:dW (evF CR1 3000 AC [] []) (.da Cb)=eT:=by kernel_rfl
def aef(args:LA)(O:St):Option (AV×St):=match args with|[]=>J (.da Cb,O)|_=>U
def ap7:POK CL0 AC aef:=by
 intro args O v e h g w a b d c;unfold aef at h;split at h;·cases h;exact qg (C:=CR1) (ahe 3000) kw rfl (IM apw) b d c
 ·cases h
def glX(u1 u2:TypeId)(g:Nat):Option LA:=match Nat.beq g qR with|eT=>J [.eb u1 (.em [])]|eF=>match Nat.beq g pF with|eT=>J [.eb u2 (.em [])]|eF=>glT g
def agn(f:FuncId):Bool:=match Nat.beq f dR with|eT=>eT|eF=>match Nat.beq f DU with|eT=>eT|eF=>match Nat.beq f Gp with|eT=>eT|eF=>Nat.beq f fE
def NU:List (FuncId×CS):=[(fP,Xz),(fJ,IK),(qE,BZ),(iD,Qw EG),(lW,Qw Ir),(iC,Et 1),(dM,Et 2),(dN,aaj),(AC,aef),(GU,alJ),(VO,alK)]
def C0(u1 u2:TypeId):Ctx:={iW Tryz.prog (glX u1 u2) agn (prL NU)with np:=eT}
variable{u1 u2:TypeId}
def ajM:∀n l,glT n=J l->glX u1 u2 n=J l:=by
 intro n l h;unfold glX;split;·rename_i hb;have:=ay0 hb;subst this;rw[show glT qR=U by kernel_rfl]at h;cases h
 ·split;·rename_i hb;have:=ay0 hb;subst this;rw[show glT pF=U by kernel_rfl]at h;cases h
  ·exact h
def akL:∀n l,(C0 u1 u2).gl n=J l->ae 0 l=eT:=by
 intro n l h;change glX u1 u2 n=J l at h;unfold glX at h;split at h;·cases h;rfl
 ·split at h;·cases h;rfl
  ·exact kw n l h
def avj:ahj (C0 u1 u2):=λf x h=>yF Tryz.prog (glX u1 u2) agn (prL NU) f x h
def aqt:VB (C0 u1 u2):=by
 have a:∀{f p},POK CL0 f p->POK (C0 u1 u2) f p:=λh=>aam (C:=CL0) (D:=C0 u1 u2) rfl (λn l b=>ajM n l b) rfl h;have hP:(C0 u1 u2).P=Tryz.prog:=rfl;have h:=ael (C:=C0 u1 u2) (l:=NU) (by
  unfold NU;simp only[aB6];exact⟨aei hP,V4 hP,Px hP,apb hP,apa hP,a asY,a ap8,a alP,a ap7,auA hP rfl rfl rfl rfl,air hP,λ_ h=>by simp at h⟩)
 exact h
def EC:eY (C0 u1 u2) (ai (C0 u1 u2)):=JO BR avj aqt
def has{f:FuncId}{K:KF}(a:cF Tryz.prog f=J K.V:=by kernel_rfl)(h2:Ri Tryz.prog f=eT:=by kernel_rfl)(h3:K.ok=eT:=by kernel_rfl)(b:prL NU f=U:=by exact rfl)(hr:agn f=eF:=by exact rfl):Has (C0 u1 u2) f K:=by refine⟨?_,b,hr,h3⟩;show(iW Tryz.prog (glX u1 u2) agn (prL NU)).fs f=_;simp only[iW,h2,a]
def ar7{f:FuncId}{K:KF}(a:cF Tryz.prog f=J K.V:=by kernel_rfl)(h2:Ri Tryz.prog f=eT:=by kernel_rfl)(h3:K.ok=eT:=by kernel_rfl)(b:prL NU f=U:=by exact rfl)(hr:agn f=eT:=by exact rfl):Su (C0 u1 u2) f K:=by refine⟨?_,b,hr,h3⟩;show(iW Tryz.prog (glX u1 u2) agn (prL NU)).fs f=_;simp only[iW,h2,a]
def ax1{f:FuncId}(h:Y8 Tryz.prog f=eT)(a:prL NU f=U)(hr:agn f=eF):Has (C0 u1 u2) f (kA Tryz.prog f):=by have k:=ar8 (gl:=glX u1 u2) h a hr;exact⟨k.fs,k.fg,k.dF,k.ok⟩
end
section
variable{u1 u2:TypeId}
def auw(s:LU)(Y:St)(h:z s<=1099511627776):∃(n:Int) (v:AV),alJ [.cV s,.cU r 10,.cU r 64] Y=J (.df [.cU r n,v],Y)/\(v=.ej\/∃t x,v=.eb t x):=by
 unfold alJ;dsimp only;rw[if_pos ⟨rfl,rfl,h⟩];split;·exact⟨_,_,rfl,.inl rfl⟩
 ·exact⟨_,_,rfl,.inr ⟨_,_,rfl⟩⟩
 ·exact⟨_,_,rfl,.inr ⟨_,_,rfl⟩⟩
end
section
variable(u1 u2:TypeId)
theorem arv:aj3 (C0 u1 u2):=λs Y hs b=>by obtain⟨n,v,a,h2⟩:=auw s Y (by omega);exact⟨n,v,(jo (h:=alJ) rfl _ _).trans a,h2⟩
theorem aus:ahn (C0 u1 u2):=λs i Y hs hi a=>aoO (has) (has) (arv u1 u2) s (by omega) i hi Y a
theorem amU:BldHas (C0 u1 u2):=avv rfl rfl has has
theorem aiu:yO (C0 u1 u2)where
 toBldHas:=amU u1 u2
 kb:=has
 f6:=has
 b9:=has
 f3:=has
 es:=has
 j6:=has
 jt:=has
 mK:=has
 lv:=has
 j0:=has
 j9:=has
 lu:=has
 g1:=has
 ha:=has
 hg:=has
 e7:=λs i O=>by rw[JA (has) s i O];cases Qo s i<;>exact⟨_,_,rfl⟩
 dt:=λs O h=>by rw[jo (h:=alK) rfl];unfold alK RH;dsimp only;rw[if_pos (aD9 (by omega))];exact⟨_,_,rfl⟩
theorem auI:adp (C0 u1 u2):=arD (aiu u1 u2)
theorem apx:af5 (C0 u1 u2):=λY a=>by rw[jo (h:=aef) rfl];rfl
theorem arZ:H7 (C0 u1 u2):=by constructor<;>exact has
theorem aui:YS (C0 u1 u2)where
 c6:=arZ u1 u2
 eI:=has
 ny:=has
 es:=has
 eW:=has
 ht:=aus u1 u2
 oc:=auI u1 u2
 mu:=apx u1 u2
 token:=has
 f6:=has
theorem amk:Oy (C0 u1 u2)where
 n0:=aui u1 u2
 mz:=has
 f6:=has
 eh:=has
 k3:=has
 ab:=has
 kq:=aeK λ_ _ _ O=>jo rfl _ O
 lp:=ar7
 lb:=has
 et:=has
 br:=has
 ky:=has
theorem aiH{f:FuncId}{sz:Nat}(e:prL NU f=J (Et sz))(n:Nat)(l:LA)(O:St)(c:z l=n*sz)(d:n<=1099511627776)(hs:l.all Wl=eT):ai (C0 u1 u2) f [.sl n l] O=J (.sl n l,O):=by
 rw[jo (h:=Et sz) e];have a:Nat.beq (z l) (n*sz)=eT:=by rw[c];exact Nat.beq_refl _
 have b:Nat.ble n 1099511627776=eT:=aD9 d;simp only[Et,kX,a,b,hs,az9]
theorem an8:YJ (C0 u1 u2):=λns O b a=>aiH u1 u2 rfl _ _ O (by simp) (by omega) (by rw[List.all_map,a97];exactλ_ _=>rfl)
theorem Yp:CopyHas (C0 u1 u2):=⟨an8 u1 u2,has,has,has⟩
theorem aqX:Yi (C0 u1 u2):=by constructor<;>exact has
theorem aoR:YT (C0 u1 u2)where
 toCopyHas:=Yp u1 u2
 fz:=λxs h0 hn O hσ=>abn (ar7) xs h0 hn O hσ
 kq:=aeK λ_ _ _ O=>jo rfl _ O
 of:=has
theorem au1:Vz (C0 u1 u2)where
 dt:=has
 n2:=has
 nD:=has
 nd:=has
 gl:=rfl
 fb:=ar7
 f8:=has
 cU:=has
 nQ:=has
 mw:=has
theorem atS:QJ (C0 u1 u2)where
 toBldHas:=amU u1 u2
 ha:=λs hs O hσ=>by obtain⟨q,e,h1,h2⟩:=aao (aiu u1 u2) s O hσ;exact⟨q,e,h1,by omega⟩
 ht:=λn O hσ=>aga (au1 u1 u2) n O hσ
 mR:=has
 mS:=has
 mT:=has
theorem aeC:QR (C0 u1 u2)where
 eN:=has
 lr:=has
 hR:=has
 mf:=has
 mr:=has
 lP:=has
 h0:=has
 g5:=has
 gr:=rfl
 gi:=rfl
 gd:=rfl
 nj:=λn hn O=>by rw[jo (h:=BZ) rfl];have hb:Nat.blt n 64=eT:=aD9 hn;change BZ [.cV [0],.cU r (.ofNat n)] O=_;unfold BZ;simp only[hb];rfl
theorem ark:adl (C0 u1 u2)where
 li:=aeC u1 u2
 eE:=has
 fU:=has
 of:=has
 ng:=has
 nh:=has
theorem agV:dh (C0 u1 u2) dL Ei (.ez [.ds] .cX):=λO bs e d hok h c i=>by obtain⟨x,rfl,f⟩:=Ro i;obtain⟨a,rfl,g⟩:=wY f;obtain⟨rfl,rfl⟩:=ali (ss:=[a]) h;obtain⟨b,hb⟩:=Vs (aiu u1 u2) a (by simp only[LB]at g;omega) d;exact⟨.cX b,hb,.cX _⟩
end
open Go.Ev
def mtL:List (TypeId×String×FuncId):=[(136,"legate/judge.good",406),(143,"legate/judge.good",408)]
abbrev wI(n:Int):HO:=.cH [.ic .u8 0,.ic r 0,.sc [],.cY,.cY,.ga,.ic r n]
abbrev KU:HO:=.cH [.jv,.ec 1,.cU r]
abbrev KW:HO:=.ec (.cU r)
abbrev aP:Sh:=.cU r
abbrev aT:Sh:=.ds
abbrev fU:Sh:=.eB [.ds]
abbrev uY:Sh:=.eB [.ds,.ds]
abbrev Ls:Sh:=.da [.ds,.ds]
def awx:List (FuncId×Sm):=[(164,.ez [aP] .cX),
 (204,.ez [aP,aP] .cX),
 (203,.ez [aT] aP),
 (297,.ez [fU] .cX),
 (181,.ez [aT] .cX),
 (163,.ez [aP] aP),
 (96,.ez [aP] aP)]
def apm:List (FuncId×Sm):=[(277,.ez [uY,aT] (.df [aT,.cX])),
 (126,.iP [.jv]),
 (200,.iy [KU,KW] [.c8 0 0] aP),
 (200,.iy [wI 10] [.c8 0 0] (.ic r 10)),
 (200,.iy [wI 3] [.c8 0 0] (.ic r 3)),
 (200,.pk [] aP),
 (207,.iy [.eq,.eq,.cH [aP]] [.jv,.c8 2 0] (.df [.jv,aP])),
 (199,.ez [.jv] (.df [aT,aP])),
 (202,.iy [.eq,.eq,.cH [aP],.cH [aP]] [.jv,.c8 2 0,.c8 3 0] (.df [aP,aP])),
 (20,.ez [aT] .cX),
 (261,.ez [aT,aT] (.df [aT,.cX])),
 (270,.ez [.jv,aP] (.df [.fR,aP])),
 (181,.ez [aT] .cX),
 (221,.ez [.eB [aT,aP,fU,.cX,fU,fU],aT] .cX),
 (123,.ez [.cU .u8] .cX),
 (348,.ez [.jv] (.df [.jv,aP]))]
def apn:List (FuncId×Sm):=[(222,.ez [aT] .cX),
 (307,.ez [aT] .cX),
 (65,.ez [aT] .jv),
 (336,.iy [.eq,.eq,.cH [aP]] [.jv,.c8 2 0] (.df [fU,aP])),
 (226,.ez [aP] .cX),
 (227,.ez [aP] aP),
 (365,.ez [.jv] (.df [.cX,aP])),
 (231,.ez [aT] .cX),
 (232,.ez [aT] .cX),
 (407,.ez [aT,aT] .cX),
 (410,.ez [.eB [aT,aT,aT],.da [aT,aT,aT]] aP),
 (128,.iy [KU,KW] [.c8 0 0,aP] (.df [])),
 (128,.iy [wI 10] [.c8 0 0,aP] (.df [])),
 (128,.iy [wI 3] [.c8 0 0,aP] (.df [])),
 (128,.pk [aP] (.df [])),
 (134,.iy [KU,KW] [.c8 0 0] aP)]
def apo:List (FuncId×Sm):=[(134,.iy [wI 10] [.c8 0 0] aP),
 (134,.iy [wI 3] [.c8 0 0] aP),
 (134,.pk [] aP),
 (275,.iy [KU,KW] [.c8 0 0,aT] .cX),
 (275,.iy [wI 10] [.c8 0 0,aT] .cX),
 (275,.iy [wI 3] [.c8 0 0,aT] .cX),
 (275,.pk [aT] .cX),
 (269,.iy [.eq,.eq,.cH [aP]] [.jv,.c8 2 0] (.df [.fR,aP])),
 (268,.iy [KU,KW,.cH [aP]] [.c8 0 0,aT,.ea (.func 269) [] [.c8 2 0]] .fR),
 (268,.iy [wI 10,.cH [aP]] [.c8 0 0,aT,.ea (.func 269) [] [.c8 1 0]] .fR),
 (268,.iy [wI 3,.cH [aP]] [.c8 0 0,aT,.ea (.func 269) [] [.c8 1 0]] .fR),
 (180,.ez [Ls] .cX),
 (206,.iy [KU,KW,.cH [aP]] [.c8 0 0,aT,.ea (.func 207) [] [.c8 2 0]] .jv),
 (206,.iy [wI 10,.cH [aP]] [.c8 0 0,aT,.ea (.func 207) [] [.c8 1 0]] .jv),
 (206,.iy [wI 3,.cH [aP]] [.c8 0 0,aT,.ea (.func 207) [] [.c8 1 0]] .jv),
 (206,.iy [KU,KW] [.c8 0 0,aT,.ea (.func 348) [] []] .jv)]
def apq:List (FuncId×Sm):=[(206,.iy [wI 10] [.c8 0 0,aT,.ea (.func 348) [] []] .jv),
 (206,.iy [wI 3] [.c8 0 0,aT,.ea (.func 348) [] []] .jv),
 (198,.iy [KU,KW] [.c8 0 0,aT,.ea (.func 199) [] []] aT),
 (198,.iy [wI 10] [.c8 0 0,aT,.ea (.func 199) [] []] aT),
 (198,.iy [wI 3] [.c8 0 0,aT,.ea (.func 199) [] []] aT),
 (201,.iy [KU,KW,.cH [aP],.cH [aP]] [.c8 0 0,aT,.ea (.func 202) [] [.c8 2 0,.c8 3 0]] aP),
 (201,.iy [wI 10,.cH [aP],.cH [aP]] [.c8 0 0,aT,.ea (.func 202) [] [.c8 1 0,.c8 2 0]] aP),
 (201,.iy [wI 3,.cH [aP],.cH [aP]] [.c8 0 0,aT,.ea (.func 202) [] [.c8 1 0,.c8 2 0]] aP),
 (162,.ez [fU] aP),
 (77,.ez [aT] .cX),
 (262,.ez [aT] .cX),
 (338,.iy [KU,KW] [.c8 0 0,aT] .jv),
 (338,.iy [wI 10] [.c8 0 0,aT] .jv),
 (338,.iy [wI 3] [.c8 0 0,aT] .jv),
 (338,.pk [aT] .jv),
 (172,.ez [Ls] .cX)]
def apr:List (FuncId×Sm):=[(107,.ez [Ls] (.df [.jv,aP])),
 (157,.ez [.da [aP,fU,aP,aT]] aP),
 (112,.ez [.da [.jv,uY]] .jv),
 (406,.ez [.da [],Ls,Ls,aT] .cX),
 (335,.iy [KU,KW,.cH [aP]] [.c8 0 0,aT,.ea (.func 336) [] [.c8 2 0]] (fU)),
 (335,.iy [wI 10,.cH [aP]] [.c8 0 0,aT,.ea (.func 336) [] [.c8 1 0]] (fU)),
 (335,.iy [wI 3,.cH [aP]] [.c8 0 0,aT,.ea (.func 336) [] [.c8 1 0]] (fU)),
 (364,.iy [KU,KW] [.c8 0 0,aT,.ea (.func 365) [] []] .cX),
 (364,.iy [wI 10] [.c8 0 0,aT,.ea (.func 365) [] []] .cX),
 (364,.iy [wI 3] [.c8 0 0,aT,.ea (.func 365) [] []] .cX),
 (230,.ez [fU,.ea (.func 231) [] []] .cX),
 (230,.ez [fU,.ea (.func 232) [] []] .cX),
 (409,.ez [.eB [aT,aT,aT],.da [aT,aT,aT]] .cX),
 (196,.iy [KU,KW] [.c8 0 0,aT,aP] .fR),
 (196,.iy [wI 10] [.c8 0 0,aT,aP] .fR),
 (196,.iy [wI 3] [.c8 0 0,aT,aP] .fR)]
def aps:List (FuncId×Sm):=[(196,.pk [aT,aP] .fR),
 (132,.iy [KU,KW] [.c8 0 0,aT,aP] .jv),
 (132,.iy [wI 10] [.c8 0 0,aT,aP] .jv),
 (132,.iy [wI 3] [.c8 0 0,aT,aP] .jv),
 (132,.pk [aT,aP] .jv),
 (127,.iy [KU,KW] [.c8 0 0,aT] aT),
 (127,.iy [wI 10] [.c8 0 0,aT] aT),
 (127,.iy [wI 3] [.c8 0 0,aT] aT),
 (127,.pk [aT] aT),
 (129,.iy [KU,KW] [.c8 0 0,aT,aP,aP] aP),
 (129,.iy [wI 10] [.c8 0 0,aT,aP,aP] aP),
 (129,.iy [wI 3] [.c8 0 0,aT,aP,aP] aP),
 (129,.pk [aT,aP,aP] aP),
 (95,.ez [.da [aP,fU]] .cX),
 (191,.ez [aT] (.df [aT,aP])),
 (337,.ez [.jv] (.df [uY,aP]))]
def apt:List (FuncId×Sm):=[(308,.ez [.jv] (.df [.da [aP,uY,.jv],aP])),
 (205,.ez [.jv] (.df [Ls,aP])),
 (67,.ez [Ls] (.df [aT,aP])),
 (155,.ez [.da [aP,fU,aP,aT]] .cX),
 (109,.ez [.da [.jv,uY]] .cX),
 (306,.iy [KU,KW] [.c8 0 0,aT,aP] (fU)),
 (306,.iy [wI 10] [.c8 0 0,aT,aP] (fU)),
 (306,.iy [wI 3] [.c8 0 0,aT,aP] (fU)),
 (306,.pk [aT,aP] (fU)),
 (349,.iy [KU,KW] [.c8 0 0,aT] .cX),
 (349,.iy [wI 10] [.c8 0 0,aT] .cX),
 (349,.iy [wI 3] [.c8 0 0,aT] .cX),
 (349,.pk [aT] .cX),
 (160,.ez [.da [aT,aP,fU,.cX,fU,fU]] .cX),
 (408,.ez [.da [.eB [aT,aT,aT]],Ls,Ls,aT] .cX),
 (311,.ez [aT,.jv] (.df [.da [aT,aP,aP,uY],aP]))]
def apu:List (FuncId×Sm):=[(197,.ez [.jv] (.df [Ls,aP])),
 (274,.ez [.jv] (.df [.eB [aT,aP,uY,.jv],aP])),
 (131,.ez [.jv] (.df [uY,aP])),
 (68,.ez [.da [.jv,uY]] (.df [aT,aP])),
 (209,.ez [uY,aT] (.df [Ls,.cX])),
 (272,.iy [KU,KW] [.c8 0 0] (.da [aP,fU])),
 (272,.iy [wI 10] [.c8 0 0] (.da [aP,fU])),
 (272,.iy [wI 3] [.c8 0 0] (.da [aP,fU])),
 (272,.pk [] (.da [aP,fU])),
 (339,.ez [.jv] (.df [.da [aT,aP,fU,.cX,fU,fU],aP])),
 (273,.ro [.eb 136 (.da [])] [Ls,Ls,aT] .cX),
 (273,.ro [.eb 143 (.da [.eB [aT,aT,aT]])] [Ls,Ls,aT] .cX),
 (125,.ez [.jv] (.df [.da [.jv,uY],aP])),
 (309,.ez [.jv] (.df [.da [aP,fU,aP,aT],aP])),
 (310,.ez [.fR] (.df [.eB [aT,aP,fU,.cX,fU,fU],aP])),
 (210,.ro [.eb 136 (.da [])] [Ls,aT,uY,aT] .cX)]
def aiE:List (FuncId×Sm):=[(210,.ro [.eb 143 (.da [.eB [aT,aT,aT]])] [Ls,aT,uY,aT] .cX),
 (208,.ez [.jv] (.df [.da [aP,fU],aP])),
 (276,.ez [.jv] (.df [.da [uY,.eB [aT,aP,fU,.cX,fU,fU],aP,fU,aP,aT],aP])),
 (135,.ro [.eb 136 (.da [])] [.da [.jv,uY],.da [aP,fU],uY] aP),
 (135,.ro [.eb 143 (.da [.eB [aT,aT,aT]])] [.da [.jv,uY],.da [aP,fU],uY] aP),
 (133,.ez [.jv] (.df [.da [aP,fU,aP,fU,aP,fU],aP])),
 (214,.ez [.jv] (.df [.da [aP,aP,.eB [aT,aP,uY,.jv],uY,.eB [aT,aP,fU,.cX,fU,fU],aP,fU,aP,aT],aP])),
 (81,.ro [.eb 136 (.da [])] [.da [.jv,uY],.da [aP,fU],uY] .cX),
 (81,.ro [.eb 143 (.da [.eB [aT,aT,aT]])] [.da [.jv,uY],.da [aP,fU],uY] .cX),
 (80,.ez [.jv] (.df [.da [aP,aP,uY,aP,fU,aP,fU,aP,fU],aP]))]
def apv:List (FuncId×Sm):=[(90,.ez [.da [aP,fU,aP,aT]] .cX),
 (51,.ez [.da [aT],.da [aT,aP,uY,.jv]] .cX),
 (66,.ez [aP] .jv),
 (282,.ez [.cX] .jv),
 (169,.ez [fU] .jv),
 (224,.ez [.fR] .jv),
 (99,.ez [Ls] (.df [.da [aT,.jv],aP])),
 (153,.ez [uY] .cX)]
def awy:List (FuncId×Sm):=[(414,.ez [fU,aT] (.df [aP,.cX])),
 (413,.ez [fU,aT] .cX),
 (412,.ez [fU,aT] .cX),
 (419,.ez [fU,aT] .cX),
 (418,.ez [fU,aT] .cX),
 (89,.ez [.da [uY,.eB [aT,aP,fU,.cX,fU,fU],aP,fU,aP,aT]] .cX)]
def awc:∀p∈mtL,methodOf Tryz.prog p.1 .ev p.2.1=J (p.2.2,.ev):=by unfold mtL;simp only[aB6];exact⟨by kernel_rfl,by kernel_rfl,λ_ h=>by simp at h⟩
noncomputable def rowOk(p:FuncId×Sm):Bool:=Y8 Tryz.prog p.1&&((prL NU p.1).isNone&& !agn p.1)
section
variable{u1 u2:TypeId}
def anP{rows:List (FuncId×Sm)}(h:rows.all rowOk=eT):∀p∈rows,Has (C0 u1 u2) p.1 (kA Tryz.prog p.1):=λp a=>by have k:=a97.mp h p a;unfold rowOk at k;simp only[a01,Option.isNone_iff_eq_none,aF6]at k;exact ax1 k.1 k.2.1 k.2.2
def hand1:List (FuncId×Sm):=[(nY,.ez [.ds,.cU r] (.df [.cU r,.cX]))]
def ZU:∀p∈hand1,dh (C0 u1 u2) dL p.1 p.2:=by unfold hand1;simp only[aB6];exact⟨aeE (has),λ_ h=>by simp at h⟩
def Ba(u1 u2:TypeId)(l:List (FuncId×Sm)):Prop:=∀p∈l,dh (C0 u1 u2) dL p.1 p.2
def ahU(n:Nat):Option Sh:=match Nat.beq n Eo with|eT=>J (.em 0 [.sc [114,111,111,116],.sc [115,110,97,112,115,104,111,116],.sc [116,97,114,103,101,116,115]])|eF=>U
def ale:∀n s,ahU n=J s->∀V:Val,M V s (.em (((C0 u1 u2).gl n).getD [])):=by
 intro n s h V;unfold ahU at h;split at h
 ·rename_i hb;have:=ay0 hb;subst this;cases h;have e:((C0 u1 u2).gl Eo).getD []=[.cV [114,111,111,116],.cV [115,110,97,112,115,104,111,116],.cV [116,97,114,103,101,116,115]]:=by show(glX u1 u2 Eo).getD []=_;rw[ajM Eo [.cV [114,111,111,116],.cV [115,110,97,112,115,104,111,116],.cV [116,97,114,103,101,116,115]] (by kernel_rfl)];rfl
  rw[e];exact M.em 0 _ [.cV [114,111,111,116],.cV [115,110,97,112,115,104,111,116],.cV [116,97,114,103,101,116,115]] [] (.eo _ _ _ _ rfl (.sc _) (.eo _ _ _ _ rfl (.sc _) (.eo _ _ _ _ rfl (.sc _) .de))) (a99 _) rfl
 ·cases h
def stage{h rows:List (FuncId×Sm)}(H:Ba u1 u2 h)(c:rows.all rowOk=eT)(d:(aht (atO ahU mtL h) (at7 Tryz.prog rows)).isSome=eT):Ba u1 u2 (rows++h):=λp a=>(aD3.mp a).elim (ahv ale awc H (anP c) d p) (H p)
def sm1:Ba u1 u2 (awx++hand1):=stage ZU (by kernel_rfl) (by kernel_rfl)
def auU:dh (C0 u1 u2) dL Xd (.ez [aP] .cX):=sm1 _ (a08 (i:=0) rfl)
def auZ:dh (C0 u1 u2) dL Nz (.ez [aP,aP] .cX):=sm1 _ (a08 (i:=1) rfl)
def apP:dh (C0 u1 u2) dL Jh (.ez [aT] aP):=sm1 _ (a08 (i:=2) rfl)
def awz:dh (C0 u1 u2) dL sF (.ez [fU] .cX):=sm1 _ (a08 (i:=3) rfl)
def axa:dh (C0 u1 u2) dL Np (.ez [aT] .cX):=sm1 _ (a08 (i:=4) rfl)
def as9:dh (C0 u1 u2) dL Uj (.ez [aP] aP):=sm1 _ (a08 (i:=6) rfl)
def ast:Yj (C0 u1 u2) dL where
 mI:=has
 g1:=has
 mH:=rfl
 lz:=auU
 nt:=auZ
 gf:=as9
 k2:=apP
def aqk:J6 (C0 u1 u2) dL where
 lg:=has
 kI:=has
 kc:=has
 kN:=has
 hg:=agV u1 u2
 hC:=awz
def au2:YL (C0 u1 u2) dL:=⟨has,axa,ZU _ (a08 (i:=0) rfl)⟩
def hand2:List (FuncId×Sm):=[(nY,.ez [.ds,.cU r] (.df [.cU r,.cX])),(kE,.ez [.jv] .cX),(Em,.ez [.ds] (.df [.cU r,.cU r])),(BM,.ez [.jv] .jv),(Ej,.ez [.jv,.ds] (.df [.jv,.cX])),(Ei,.ez [.ds] .cX),(dZ,.ez [.jv] (.df [.ds,.cU r])),(sD,.ez [.ds] .ds),(jW,.ez [.fS 2 [.ds,.jv,.ds,.jv]] (.df [.jv,.cU r])),(BI,.ez [.ds] (.df [.ds,.cU r])),(zi,.ez [.ds,.ds] .ds),(fD,.ez [.ds,.ds] (.df [.ds,.cX]))]
def UC:∀p∈hand2,dh (C0 u1 u2) dL p.1 p.2:=by unfold hand2;simp only[aB6];exact⟨ZU _ (a08 (i:=0) rfl),aeH aqk,aeI ast,abw (Yp u1 u2),aeG (Yp u1 u2) (aqX u1 u2) (has),agV u1 u2,Yb (atS u1 u2) aqk (has),abv (aeC u1 u2),agU (aoR u1 u2) (has),abu au2,am7 (ark u1 u2),aeD _ (has) (has),λ_ h=>by simp at h⟩
def sB0:Ba u1 u2 (apm++hand2):=stage UC (by kernel_rfl) (by kernel_rfl)
def hB0:List (FuncId×Sm):=apm++hand2
def sB1:Ba u1 u2 (apn++hB0):=stage sB0 (by kernel_rfl) (by kernel_rfl)
def hB1:List (FuncId×Sm):=apn++hB0
def sB2:Ba u1 u2 (apo++hB1):=stage sB1 (by kernel_rfl) (by kernel_rfl)
def hB2:List (FuncId×Sm):=apo++hB1
def sB3:Ba u1 u2 (apq++hB2):=stage sB2 (by kernel_rfl) (by kernel_rfl)
def hB3:List (FuncId×Sm):=apq++hB2
def sB4:Ba u1 u2 (apr++hB3):=stage sB3 (by kernel_rfl) (by kernel_rfl)
def hB4:List (FuncId×Sm):=apr++hB3
def sB5:Ba u1 u2 (aps++hB4):=stage sB4 (by kernel_rfl) (by kernel_rfl)
def hB5:List (FuncId×Sm):=aps++hB4
def sB6:Ba u1 u2 (apt++hB5):=stage sB5 (by kernel_rfl) (by kernel_rfl)
def hB6:List (FuncId×Sm):=apt++hB5
def sB7:Ba u1 u2 (apu++hB6):=stage sB6 (by kernel_rfl) (by kernel_rfl)
def hB7:List (FuncId×Sm):=apu++hB6
def sB8:Ba u1 u2 (aiE++hB7):=stage sB7 (by kernel_rfl) (by kernel_rfl)
def apQ:dh (C0 u1 u2) dL iL (.ez [.ds] (.df [.jv,.cU r,.cU r])):=aeF (amk u1 u2) (has)
def asB:List (FuncId×Sm):=(iL,.ez [.ds] (.df [.jv,.cU r,.cU r]))::(aiE++hB7)
def anJ:Ba u1 u2 asB:=by unfold asB Ba;rw[aB6];exact⟨apQ,sB8⟩
def as8:dh (C0 u1 u2) dL Eh (.ez [.ds] (.df [.da [.jv,.eB [.ds,.ds]],.cU r])):=stage (rows:=[(Eh,.ez [.ds] (.df [.da [.jv,.eB [.ds,.ds]],.cU r]))]) anJ (by kernel_rfl) (by kernel_rfl) _ (a08 (i:=0) rfl)
def auT:dh (C0 u1 u2) dL zl (.ez [uY,aT] (.df [aT,.cX])):=sB0 _ (a08 (i:=0) rfl)
def awH:dh (C0 u1 u2) dL Jt (.ez [.jv] (.df [.da [aP,aP,uY,aP,fU,aP,fU,aP,fU],aP])):=sB8 _ (a08 (i:=9) rfl)
def auW:dh (C0 u1 u2) dL uJ (.ez [.jv] (.df [.da [.jv,uY],aP])):=sB7 _ (a08 (i:=12) rfl)
def auX:dh (C0 u1 u2) dL yD (.ez [.jv] (.df [.da [aP,aP,.eB [aT,aP,uY,.jv],uY,.eB [aT,aP,fU,.cX,fU,fU],aP,fU,aP,aT],aP])):=sB8 _ (a08 (i:=6) rfl)
def am3:dh (C0 u1 u2) dL jK (.ro [.eb 136 (.da [])] [.da [.jv,uY],.da [aP,fU],uY] .cX):=sB8 _ (a08 (i:=7) rfl)
def am4:dh (C0 u1 u2) dL jK (.ro [.eb 143 (.da [.eB [aT,aT,aT]])] [.da [.jv,uY],.da [aP,fU],uY] .cX):=sB8 _ (a08 (i:=8) rfl)
def auY:dh (C0 u1 u2) dL LW (.pk [aT] aT):=sB5 _ (a08 (i:=8) rfl)
def awC:dh (C0 u1 u2) dL Nw (.pk [aT,aP,aP] aP):=sB5 _ (a08 (i:=12) rfl)
def awD:dh (C0 u1 u2) dL Iq (.pk [aT,aP] .jv):=sB5 _ (a08 (i:=4) rfl)
def auS:dh (C0 u1 u2) dL LV (.pk [aP] (.df [])):=sB1 _ (a08 (i:=14) rfl)
def auR:dh (C0 u1 u2) dL LQ (.pk [] aP):=sB2 _ (a08 (i:=2) rfl)
def axb:dh (C0 u1 u2) dL ac7 (.iP [.jv]):=sB0 _ (a08 (i:=1) rfl)
def awF:dh (C0 u1 u2) dL Ug (.ez [aT,.jv] (.df [.da [aT,aP,aP,uY],aP])):=sB6 _ (a08 (i:=15) rfl)
def asb:DK (C0 u1 u2) dL where
 eW:=auY
 ht:=awC
 bx:=awD
 eD:=auS
 mN:=auR
 of:=axb
 ck:=awF
 nw:=UC _ (a08 (i:=2) rfl)
 kN:=UC _ (a08 (i:=1) rfl)
 mn:=has
 mm:=has
 i8:=has
 i7:=has
 mj:=has
 hc:=has
def hB:List (FuncId×Sm):=aiE++hB7
def avL:Ba u1 u2 hB:=sB8
def sC0:Ba u1 u2 (apv++hB):=stage avL (by kernel_rfl) (by kernel_rfl)
def asa:dh (C0 u1 u2) dL Qj (.ez [aT] .jv):=sB1 _ (a08 (i:=2) rfl)
def auV:dh (C0 u1 u2) dL Uf (.ez [aP] .jv):=sC0 _ (a08 (i:=2) rfl)
def as4:dh (C0 u1 u2) dL Qh (.ez [.cX] .jv):=sC0 _ (a08 (i:=3) rfl)
def apR:dh (C0 u1 u2) dL GG (.ez [fU] .jv):=sC0 _ (a08 (i:=4) rfl)
def as6:dh (C0 u1 u2) dL Qi (.ez [.fR] .jv):=sC0 _ (a08 (i:=5) rfl)
def as5:dh (C0 u1 u2) dL Jb (.ez [Ls] (.df [.da [aT,.jv],aP])):=sC0 _ (a08 (i:=6) rfl)
def agT:dh (C0 u1 u2) dL Gs (.ez [.da [aP,fU,aP,aT]] .cX):=sC0 _ (a08 (i:=0) rfl)
def acY:dh (C0 u1 u2) dL zJ (.ez [.da [aT,aP,fU,.cX,fU,fU]] .cX):=sB6 _ (a08 (i:=13) rfl)
def am5:dh (C0 u1 u2) dL EF (.ez [.eB [aT,aP,fU,.cX,fU,fU],aT] .cX):=sB0 _ (a08 (i:=13) rfl)
def am6:dh (C0 u1 u2) dL Nv (.ez [aT] .cX):=sB1 _ (a08 (i:=7) rfl)
def aiM:dh (C0 u1 u2) dL xE (.ez [aT] .cX):=sB0 _ (a08 (i:=9) rfl)
def as7:dh (C0 u1 u2) dL xG (.ez [aT] .cX):=sB3 _ (a08 (i:=9) rfl)
def apS:dh (C0 u1 u2) dL uK (.ez [.da [aT],.da [aT,aP,uY,.jv]] .cX):=sC0 _ (a08 (i:=1) rfl)
def axc{Y:St}:ai (C0 u1 u2) dN [.cY,afk o7] Y=J (.df [],Y):=(jo (h:=aaj) rfl _ _).trans rfl
def av7:YV (C0 u1 u2) dL:=⟨as5,aeK λ_ _ _ _=>(jo (h:=aaj) rfl _ _).trans rfl,λ_=>axc,has⟩
def avz:P5 (C0 u1 u2) dL:=⟨asa,auV,as4,apR,as6,apU av7,agT,aoR u1 u2,ar7,has,has,has⟩
def anK:List (FuncId×Sm):=[(KD,.ez [.ds,.ds] .cX),(yT,.ez [.ds,.ds] .cX),(Dn,.ez [.eB Ll] .cX),(xC,.ez [.da afn] .jv)]++(apv++hB)
def anL:Ba u1 u2 anK:=by unfold anK Ba;simp only[a09,a98,aB6];exact⟨apT am6 aiM has has has,am9 has has,agX acY am5 has,am8 avz,sC0⟩
def sX:Ba u1 u2 (awy++anK):=stage anL (by kernel_rfl) (by kernel_rfl)
def awE:dh (C0 u1 u2) dL rV (.ez [fU,aT] .cX):=sX _ (a08 (i:=2) rfl)
def awG:dh (C0 u1 u2) dL rW (.ez [fU,aT] .cX):=sX _ (a08 (i:=4) rfl)
def auQ:dh (C0 u1 u2) dL Il (.ez [.da [uY,.eB [aT,aP,fU,.cX,fU,fU],aP,fU,aP,aT]] .cX):=sX _ (a08 (i:=5) rfl)
def avV:IsHas (C0 u1 u2) dL:=⟨acY,aiM,awE,awG,λv=>by cases v<;>kernel_rfl,λv=>by cases v<;>kernel_rfl,has,has⟩
def avw:PZ (C0 u1 u2) dL:=⟨as7,λs O a hs=>⟨tN s,qm s,PN (aeC u1 u2) s (by simp only[LB]at hs;omega) O a⟩,has,has,has,has,has,has,has,has⟩
def avK:aj1 (C0 u1 u2) dL:={toIsHas:=avV,kc:=auQ,g7:=agT,lU:=apV avw,f0:=agW has (aiH u1 u2 rfl),ff:=has}
def avD:af0 (C0 u1 u2) dL:=⟨apS,aiN has (aiH u1 u2 rfl) (Yp u1 u2),has,has⟩
end
end Go.Proofs.YtmbaofiahlcnhaaGreatDoor
