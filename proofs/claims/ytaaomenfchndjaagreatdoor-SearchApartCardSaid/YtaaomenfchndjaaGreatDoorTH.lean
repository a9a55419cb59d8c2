/- Contracts. No conditions. -/
import Derived.Test.YtaaomenfchndjaaGreatDoorTD
import Derived.Test.YtaaomenfchndjaaGreatDoorTE
import Derived.Test.YtaaomenfchndjaaGreatDoorTF
import Derived.Test.YtaaomenfchndjaaGreatDoorTG
import Derived.Shelf.Small.Strs
set_option linter.unusedVariables false
set_option linter.unusedSimpArgs false
set_option linter.defProp false
set_option maxRecDepth 1000000
open Go.Proofs.Tryz renaming prog→B,underlying9→a,underlying3→c,zeroValue9→e,zeroValue3→f,underlying473→g,underlying472→h,underlying432→j,underlying390→p,underlying389→q,underlying343→s,underlying338→t,underlying294→v,underlying266→w,underlying166→y,zeroValue473→D,zeroValue472→F,zeroValue432→H,zeroValue390→I,zeroValue389→K,zeroValue343→L,zeroValue338→N,zeroValue294→O,zeroValue266→Q,zeroValue166→R,underlying5→T,underlying4→V,underlying0→W,sizeOf9→Y,sizeOf3→w8,zeroValue5→w9,zeroValue4→k9,zeroValue0→j0,isAgg9→j6,isAgg3→j7,sizeOf473→j8,sizeOf472→j9,sizeOf432→X1,sizeOf390→X2,sizeOf389→Z0,sizeOf343→Z1,sizeOf338→Z2,sizeOf294→Z3,sizeOf266→Z6,sizeOf166→K0,isAgg473→K1,isAgg472→K2,isAgg432→K3,isAgg390→K4,isAgg389→K5,isAgg343→K6,isAgg338→K7,isAgg294→K8,isAgg266→K9,isAgg166→J0,sizeOf5→J1,sizeOf4→J2
open Go.Ev renaming MOK→b
open _root_ renaming rfl→E,List→n
open Go renaming FuncId→x
open Go.Lib renaming compareBytes→k
open Go.Sort renaming alloc_eq_grow→l
open Go.Proofs.SlLaysF0 renaming n6→d
open Nat renaming beq→i
open Go.Shelf renaming Ren→X
namespace Go.Proofs.YtaaomenfchndjaaGreatDoor
open Bool renaming true→eT, false→eF
open List renaming length→z
open Go.IntKind renaming i64→r
open Option renaming some→J, none→U
open Go.Ev
def l79:fG (dA CC (T0 Q79) 5000 qc a79 []) v79=eT:=by kernel_rfl
def l80:fG (dA CC (T0 Q80) 5000 BG a80 []) v80=eT:=by kernel_rfl
def l81:fG (dA CC (T0 Q81) 5000 uw a81 []) v81=eT:=by kernel_rfl
def l82:fG (dA CC (T0 Q82) 5000 jM a82 []) v82=eT:=by kernel_rfl
def l83:fG (dA CC (T0 Q83) 5000 jM a83 []) v83=eT:=by kernel_rfl
def nxq{M:MM}{f:x}{a:LA}{v:AV}(q:b CC M)(l:fG (dA CC (T0 M) 5000 f a []) v=eT)(c:ae 0 a=eT:=by kernel_rfl):b CC (ig M f a v):=avL q (ail (Kt CV (apn q) 5000) mO c l)
def q0:b CC Q0:=ayF CC
def q1:b CC Q1:=nxq q0 l0
def q2:b CC Q2:=nxq q1 l1
def q3:b CC Q3:=nxq q2 l2
def q4:b CC Q4:=nxq q3 l3
def q5:b CC Q5:=nxq q4 l4
def q6:b CC Q6:=nxq q5 l5
def q7:b CC Q7:=nxq q6 l6
def q8:b CC Q8:=nxq q7 l7
def q9:b CC Q9:=nxq q8 l8
def q10:b CC Q10:=nxq q9 l9
def q11:b CC Q11:=nxq q10 l10
def q12:b CC Q12:=nxq q11 l11
def q13:b CC Q13:=nxq q12 l12
def q14:b CC Q14:=nxq q13 l13
def q15:b CC Q15:=nxq q14 l14
def q16:b CC Q16:=nxq q15 l15
def q17:b CC Q17:=nxq q16 l16
def q18:b CC Q18:=nxq q17 l17
def q19:b CC Q19:=nxq q18 l18
def q20:b CC Q20:=nxq q19 l19
def q21:b CC Q21:=nxq q20 l20
def q22:b CC Q22:=nxq q21 l21
def q23:b CC Q23:=nxq q22 l22
def q24:b CC Q24:=nxq q23 l23
def q25:b CC Q25:=nxq q24 l24
def q26:b CC Q26:=nxq q25 l25
def q27:b CC Q27:=nxq q26 l26
def q28:b CC Q28:=nxq q27 l27
def q29:b CC Q29:=nxq q28 l28
def q30:b CC Q30:=nxq q29 l29
def q31:b CC Q31:=nxq q30 l30
def q32:b CC Q32:=nxq q31 l31
def q33:b CC Q33:=nxq q32 l32
def q34:b CC Q34:=nxq q33 l33
def q35:b CC Q35:=nxq q34 l34
def q36:b CC Q36:=nxq q35 l35
def q37:b CC Q37:=nxq q36 l36
def q38:b CC Q38:=nxq q37 l37
def q39:b CC Q39:=nxq q38 l38
def q40:b CC Q40:=nxq q39 l39
def q41:b CC Q41:=nxq q40 l40
def q42:b CC Q42:=nxq q41 l41
def q43:b CC Q43:=nxq q42 l42
def q44:b CC Q44:=nxq q43 l43
def q45:b CC Q45:=nxq q44 l44
def q46:b CC Q46:=nxq q45 l45
def q47:b CC Q47:=nxq q46 l46
def q48:b CC Q48:=nxq q47 l47
def q49:b CC Q49:=nxq q48 l48
def q50:b CC Q50:=nxq q49 l49
def q51:b CC Q51:=nxq q50 l50
def q52:b CC Q52:=nxq q51 l51
def q53:b CC Q53:=nxq q52 l52
def q54:b CC Q54:=nxq q53 l53
def q55:b CC Q55:=nxq q54 l54
def q56:b CC Q56:=nxq q55 l55
def q57:b CC Q57:=nxq q56 l56
def q58:b CC Q58:=nxq q57 l57
def q59:b CC Q59:=nxq q58 l58
def q60:b CC Q60:=nxq q59 l59
def q61:b CC Q61:=nxq q60 l60
def q62:b CC Q62:=nxq q61 l61
def q63:b CC Q63:=nxq q62 l62
def q64:b CC Q64:=nxq q63 l63
def q65:b CC Q65:=nxq q64 l64
def q66:b CC Q66:=nxq q65 l65
def q67:b CC Q67:=nxq q66 l66
def q68:b CC Q68:=nxq q67 l67
def q69:b CC Q69:=nxq q68 l68
def q70:b CC Q70:=nxq q69 l69
def q71:b CC Q71:=nxq q70 l70
def q72:b CC Q72:=nxq q71 l71
def q73:b CC Q73:=nxq q72 l72
def q74:b CC Q74:=nxq q73 l73
def q75:b CC Q75:=nxq q74 l74
def q76:b CC Q76:=nxq q75 l75
def q77:b CC Q77:=nxq q76 l76
def q78:b CC Q78:=nxq q77 l77
def q79:b CC Q79:=nxq q78 l78
def q80:b CC Q80:=nxq q79 l79
def q81:b CC Q81:=nxq q80 l80
def q82:b CC Q82:=nxq q81 l81
def q83:b CC Q83:=nxq q82 l82
def q84:b CC Q84:=nxq q83 l83
def ls0:av9 (dA CC (T0 Q84) 5000 lZ sa0 st0) sv0 st0=eT:=by kernel_rfl
def ayK:POK CC lZ (ap0 SR):=ank (Kt CV (apn q84) 5000) (by unfold SR;simp only[aE9];exact⟨ls0,λ_ h=>by cases h⟩)
def alR:fZ CC (dA CC (anr (T0 Q84) lZ (ap0 SR)) 5000):=Kt CV (atJ (apn q84) ayK) 5000
def azh:fG (dA CC (anr (T0 Q84) lZ (ap0 SR)) 5000 wM [] []) (.cW eT)=eT:=by kernel_rfl
def fin:alE CC wM [] (.cW eT):=ail alR mO (by kernel_rfl) azh
end Go.Proofs.YtaaomenfchndjaaGreatDoor
namespace Go.Ev
open Bool renaming true→eT, false→eF
open List renaming length→z
open Go.IntKind renaming i64→r
open Option renaming some→J, none→U
variable{C:Ctx}{PK:PkI}
def ao5(s:LU):z (Bj s)<=2*z s:=by
 unfold Bj
 induction s with
 |nil=>simp|cons a l b=>have h:z (aq7 a)=2:=E;rw[aF0,a03,h,a94];omega
def agY(b:Has C qI qA):bZ C PK qI (.dp [.df,.cQ r] (.de [.cQ r,.cW])):=
 qw b E λc e=>by
  obtain⟨x,y,rfl,d,h2⟩:=agd e;obtain⟨a,rfl,g⟩:=zA d;cases h2 with
  |cQ _ n=>intro O f;refine⟨_,MN b a n O,?_⟩;unfold Qp;exact .de _ _ (.cV _ _ _ _ (.cQ _ _) (.cV _ _ _ _ (.cW _) .db))
def adB(H:UK C):bZ C PK vJ (.dp [.df] .df):=
 qw H.g3 E λc f=>by obtain⟨x,rfl,d⟩:=U2 f;obtain⟨a,rfl,e⟩:=zA d;intro O b;refine⟨_,ale H a (by simp only[LB]at e;omega) O b,.df _ ?_⟩;have:=ao5 (wE a);rw[sZ]at this;unfold ald;simp only[LB];omega
def aoM(H:afu C):bZ C PK BC (.dp [.df,.df] .df):=
 qw H.of E λd g=>by obtain⟨x,y,rfl,e,h2⟩:=agd g;obtain⟨a,rfl,f⟩:=zA e;obtain⟨b,rfl,hb⟩:=zA h2;intro O c;refine⟨_,ark H a b (by simp only[LB]at f;omega) (by simp only[LB]at hb;omega) O c,.df _ ?_⟩;unfold hmac;simp only[sZ,LB];omega
end Go.Ev
namespace Go.Proofs.YtaaomenfchndjaaGreatDoor
open Bool renaming true→eT, false→eF
open List renaming length→z
open Go.IntKind renaming i64→r
open Option renaming some→J, none→U
open Go.Shelf Go.Proofs
def fxS{P:Program}{f:Nat}{a b:Func}(h:P.funcs[f]?=J a)(e:a=b:=by kernel_rfl):P.funcs[f]?=J b:=h.trans (congrArg J e)
def Tryz.laysSR_ren:X:=⟨λ|6=>338|15=>180|14=>354|28=>256|29=>257|20=>363|21=>364|22=>365|23=>366|24=>367|25=>368|26=>369|27=>370|46=>377|47=>296|48=>297|49=>378|50=>379|57=>389|n=>n,λ|22=>451|24=>453|25=>478|3=>3|39=>266|0=>0|53=>294|55=>343|4=>4|46=>390|45=>389|50=>166|5=>5|9=>9|66=>432|70=>338|76=>472|77=>473|n=>n,λ|n=>n⟩
def Tryz.laysSR:d B Tryz.laysSR_ren:={
 mixed:=by kernel_rfl
 f6:=⟨Tryz.f338.name,by decide,fxS Tryz.func338⟩
 f14:=⟨Tryz.f354.name,by decide,fxS Tryz.func354⟩
 f15:=fxS Tryz.func180
 f20:=⟨Tryz.f363.name,by decide,fxS Tryz.func363⟩
 f21:=⟨Tryz.f364.name,by decide,fxS Tryz.func364⟩
 f22:=⟨Tryz.f365.name,by decide,fxS Tryz.func365⟩
 f23:=⟨Tryz.f366.name,by decide,fxS Tryz.func366⟩
 f24:=⟨Tryz.f367.name,by decide,fxS Tryz.func367⟩
 f25:=⟨Tryz.f368.name,by decide,fxS Tryz.func368⟩
 f26:=⟨Tryz.f369.name,by decide,fxS Tryz.func369⟩
 f27:=⟨Tryz.f370.name,by decide,fxS Tryz.func370⟩
 f28:=fxS Tryz.func256
 f29:=fxS Tryz.func257
 f46:=⟨Tryz.f377.name,by decide,fxS Tryz.func377⟩
 f47:=fxS Tryz.func296
 f48:=fxS Tryz.func297
 f49:=⟨Tryz.f378.name,by decide,fxS Tryz.func378⟩
 f50:=⟨Tryz.f379.name,by decide,fxS Tryz.func379⟩
 f57:=⟨Tryz.f389.name,by decide,fxS Tryz.func389⟩
 t0:=W
 a0:=Tryz.isAgg0
 z0:=Tryz.sizeOf0
 v0:=j0
 t3:=c
 a3:=j7
 z3:=w8
 v3:=f
 t4:=V
 a4:=Tryz.isAgg4
 z4:=J2
 v4:=k9
 t5:=T
 a5:=Tryz.isAgg5
 z5:=J1
 v5:=w9
 t9:=a
 a9:=j6
 z9:=Y
 v9:=e
 t22:=Tryz.underlying451
 a22:=Tryz.isAgg451
 z22:=Tryz.sizeOf451
 v22:=Tryz.zeroValue451
 t25:=Tryz.underlying478
 a25:=Tryz.isAgg478
 z25:=Tryz.sizeOf478
 v25:=Tryz.zeroValue478
 t39:=w
 a39:=K9
 z39:=Z6
 v39:=Q
 t45:=q
 a45:=K5
 z45:=Z0
 v45:=K
 t46:=p
 a46:=K4
 z46:=X2
 v46:=I
 t50:=y
 a50:=J0
 z50:=K0
 v50:=R
 t53:=v
 a53:=K8
 z53:=Z3
 v53:=O
 t55:=s
 a55:=K6
 z55:=Z1
 v55:=L
 t66:=j
 a66:=K3
 z66:=X1
 v66:=H
 t70:=t
 a70:=K7
 z70:=Z2
 v70:=N
 t76:=h
 a76:=K2
 z76:=j9
 v76:=F
 t77:=g
 a77:=K1
 z77:=j8
 v77:=D}
def Tryz.laysSM_ren:X:=⟨λ|6=>127|15=>180|14=>182|28=>256|29=>257|20=>258|21=>259|22=>260|23=>261|24=>262|25=>263|26=>264|27=>265|46=>300|47=>296|48=>297|49=>301|50=>302|57=>326|n=>n,λ|22=>190|24=>196|25=>254|3=>3|39=>266|0=>0|53=>294|55=>343|4=>4|46=>390|45=>389|50=>166|5=>5|9=>9|66=>432|70=>338|76=>472|77=>473|n=>n,λ|n=>n⟩
def Tryz.laysSM:d B Tryz.laysSM_ren:={
 mixed:=by kernel_rfl
 f6:=⟨Tryz.f127.name,by decide,fxS Tryz.func127⟩
 f14:=⟨Tryz.f182.name,by decide,fxS Tryz.func182⟩
 f15:=fxS Tryz.func180
 f20:=⟨Tryz.f258.name,by decide,fxS Tryz.func258⟩
 f21:=⟨Tryz.f259.name,by decide,fxS Tryz.func259⟩
 f22:=⟨Tryz.f260.name,by decide,fxS Tryz.func260⟩
 f23:=⟨Tryz.f261.name,by decide,fxS Tryz.func261⟩
 f24:=⟨Tryz.f262.name,by decide,fxS Tryz.func262⟩
 f25:=⟨Tryz.f263.name,by decide,fxS Tryz.func263⟩
 f26:=⟨Tryz.f264.name,by decide,fxS Tryz.func264⟩
 f27:=⟨Tryz.f265.name,by decide,fxS Tryz.func265⟩
 f28:=fxS Tryz.func256
 f29:=fxS Tryz.func257
 f46:=⟨Tryz.f300.name,by decide,fxS Tryz.func300⟩
 f47:=fxS Tryz.func296
 f48:=fxS Tryz.func297
 f49:=⟨Tryz.f301.name,by decide,fxS Tryz.func301⟩
 f50:=⟨Tryz.f302.name,by decide,fxS Tryz.func302⟩
 f57:=⟨Tryz.f326.name,by decide,fxS Tryz.func326⟩
 t0:=W
 a0:=Tryz.isAgg0
 z0:=Tryz.sizeOf0
 v0:=j0
 t3:=c
 a3:=j7
 z3:=w8
 v3:=f
 t4:=V
 a4:=Tryz.isAgg4
 z4:=J2
 v4:=k9
 t5:=T
 a5:=Tryz.isAgg5
 z5:=J1
 v5:=w9
 t9:=a
 a9:=j6
 z9:=Y
 v9:=e
 t22:=Tryz.underlying190
 a22:=Tryz.isAgg190
 z22:=Tryz.sizeOf190
 v22:=Tryz.zeroValue190
 t25:=Tryz.underlying254
 a25:=Tryz.isAgg254
 z25:=Tryz.sizeOf254
 v25:=Tryz.zeroValue254
 t39:=w
 a39:=K9
 z39:=Z6
 v39:=Q
 t45:=q
 a45:=K5
 z45:=Z0
 v45:=K
 t46:=p
 a46:=K4
 z46:=X2
 v46:=I
 t50:=y
 a50:=J0
 z50:=K0
 v50:=R
 t53:=v
 a53:=K8
 z53:=Z3
 v53:=O
 t55:=s
 a55:=K6
 z55:=Z1
 v55:=L
 t66:=j
 a66:=K3
 z66:=X1
 v66:=H
 t70:=t
 a70:=K7
 z70:=Z2
 v70:=N
 t76:=h
 a76:=K2
 z76:=j9
 v76:=F
 t77:=g
 a77:=K1
 z77:=j8
 v77:=D}
def Tryz.laysSK_ren:X:=⟨λ|6=>123|15=>180|14=>179|28=>256|29=>257|20=>248|21=>249|22=>250|23=>251|24=>252|25=>253|26=>254|27=>255|46=>295|47=>296|48=>297|49=>298|50=>299|57=>325|n=>n,λ|22=>242|24=>244|25=>248|3=>3|39=>266|0=>0|53=>294|55=>343|4=>4|46=>390|45=>389|50=>166|5=>5|9=>9|66=>432|70=>338|76=>472|77=>473|n=>n,λ|n=>n⟩
def Tryz.laysSK:d B Tryz.laysSK_ren:={
 mixed:=by kernel_rfl
 f6:=⟨Tryz.f123.name,by decide,fxS Tryz.func123⟩
 f14:=⟨Tryz.f179.name,by decide,fxS Tryz.func179⟩
 f15:=fxS Tryz.func180
 f20:=⟨Tryz.f248.name,by decide,fxS Tryz.func248⟩
 f21:=⟨Tryz.f249.name,by decide,fxS Tryz.func249⟩
 f22:=⟨Tryz.f250.name,by decide,fxS Tryz.func250⟩
 f23:=⟨Tryz.f251.name,by decide,fxS Tryz.func251⟩
 f24:=⟨Tryz.f252.name,by decide,fxS Tryz.func252⟩
 f25:=⟨Tryz.f253.name,by decide,fxS Tryz.func253⟩
 f26:=⟨Tryz.f254.name,by decide,fxS Tryz.func254⟩
 f27:=⟨Tryz.f255.name,by decide,fxS Tryz.func255⟩
 f28:=fxS Tryz.func256
 f29:=fxS Tryz.func257
 f46:=⟨Tryz.f295.name,by decide,fxS Tryz.func295⟩
 f47:=fxS Tryz.func296
 f48:=fxS Tryz.func297
 f49:=⟨Tryz.f298.name,by decide,fxS Tryz.func298⟩
 f50:=⟨Tryz.f299.name,by decide,fxS Tryz.func299⟩
 f57:=⟨Tryz.f325.name,by decide,fxS Tryz.func325⟩
 t0:=W
 a0:=Tryz.isAgg0
 z0:=Tryz.sizeOf0
 v0:=j0
 t3:=c
 a3:=j7
 z3:=w8
 v3:=f
 t4:=V
 a4:=Tryz.isAgg4
 z4:=J2
 v4:=k9
 t5:=T
 a5:=Tryz.isAgg5
 z5:=J1
 v5:=w9
 t9:=a
 a9:=j6
 z9:=Y
 v9:=e
 t22:=Tryz.underlying242
 a22:=Tryz.isAgg242
 z22:=Tryz.sizeOf242
 v22:=Tryz.zeroValue242
 t25:=Tryz.underlying248
 a25:=Tryz.isAgg248
 z25:=Tryz.sizeOf248
 v25:=Tryz.zeroValue248
 t39:=w
 a39:=K9
 z39:=Z6
 v39:=Q
 t45:=q
 a45:=K5
 z45:=Z0
 v45:=K
 t46:=p
 a46:=K4
 z46:=X2
 v46:=I
 t50:=y
 a50:=J0
 z50:=K0
 v50:=R
 t53:=v
 a53:=K8
 z53:=Z3
 v53:=O
 t55:=s
 a55:=K6
 z55:=Z1
 v55:=L
 t66:=j
 a66:=K3
 z66:=X1
 v66:=H
 t70:=t
 a70:=K7
 z70:=Z2
 v70:=N
 t76:=h
 a76:=K2
 z76:=j9
 v76:=F
 t77:=g
 a77:=K1
 z77:=j8
 v77:=D}
def Tryz.laysCmp_ren:X:=⟨λ|106=>129|213=>183|265=>266|n=>n,λ|9=>9|3=>3|n=>n,λ|n=>n⟩
def Tryz.laysCmp:Go.Proofs.Lays.n106 B Tryz.laysCmp_ren:={
 mixed:=by kernel_rfl
 f106:=fxS Tryz.func129
 f213:=fxS Tryz.func183
 f265:=fxS Tryz.func266
 t3:=c
 a3:=j7
 z3:=w8
 v3:=f
 t9:=a
 a9:=j6
 z9:=Y
 v9:=e}
open Go.Ev Go.RowKit Go.Shelf Go.Proofs Go.Lib Go.Sort
def auq:JR B 338:=⟨_,Tryz.func338,by decide,E⟩
def aup:JR B 127:=⟨_,Tryz.func127,by decide,E⟩
def auo:JR B 123:=⟨_,Tryz.func123,by decide,E⟩
def five{u:n Value}(h:z u=5):∃a b c d e,u=[a,b,c,d,e]:=by
 match u,h with
 |[a,b,c,d,e],_=>exact⟨a,b,c,d,e,E⟩
set_option maxHeartbeats 1000000 in
def aAd(x y:LU)(u v:n Value)(W:World)(f:z u=5)(hv:z v=5):Calls B 339 #[.agg (.string ⟨⟨x⟩⟩::u).toArray,.agg (.string ⟨⟨y⟩⟩::v).toArray] W λe b=>e=.returned (.int r (k x y))/\∃q d,b=grow (W.drewN q) d:=by
 obtain⟨a1,a2,a3,a4,a5,rfl⟩:=five f;obtain⟨b1,g,h,i,j,rfl⟩:=five hv;have a:=λc=>Any.strings_Compare Tryz.laysCmp ⟨⟨x⟩⟩ ⟨⟨y⟩⟩ c;change∀c,Calls B 129 _ _ (λe b=>e=.returned (.int r (k x y))/\b=c)at a;generalize k x y=N at a⊢
 go_enter Tryz.func339,Tryz.ntmps339
 go_wp2_with (go_at_call 129;refine(a _).mono ?_;rintro e b ⟨rfl,rfl⟩)
 go_ret
 exact⟨E,0,_,by rw[l,l,grow_grow];rfl⟩
set_option maxHeartbeats 1000000 in
def aAc(x y:LU)(u v:n Value)(W:World)(f:z u=5)(hv:z v=5):Calls B 128 #[.agg (.string ⟨⟨x⟩⟩::u).toArray,.agg (.string ⟨⟨y⟩⟩::v).toArray] W λe b=>e=.returned (.int r (k x y))/\∃q d,b=grow (W.drewN q) d:=by
 obtain⟨a1,a2,a3,a4,a5,rfl⟩:=five f;obtain⟨b1,g,h,i,j,rfl⟩:=five hv;have a:=λc=>Any.strings_Compare Tryz.laysCmp ⟨⟨x⟩⟩ ⟨⟨y⟩⟩ c;change∀c,Calls B 129 _ _ (λe b=>e=.returned (.int r (k x y))/\b=c)at a;generalize k x y=N at a⊢
 go_enter Tryz.func128,Tryz.ntmps128
 go_wp2_with (go_at_call 129;refine(a _).mono ?_;rintro e b ⟨rfl,rfl⟩)
 go_ret
 exact⟨E,0,_,by rw[l,l,grow_grow];rfl⟩
set_option maxHeartbeats 1000000 in
def cmpK(x y:LU)(u v:n Value)(W:World)(f:z u=5)(hv:z v=5):Calls B 124 #[.agg (.string ⟨⟨x⟩⟩::u).toArray,.agg (.string ⟨⟨y⟩⟩::v).toArray] W λe b=>e=.returned (.int r (k x y))/\∃q d,b=grow (W.drewN q) d:=by
 obtain⟨a1,a2,a3,a4,a5,rfl⟩:=five f;obtain⟨b1,g,h,i,j,rfl⟩:=five hv;have a:=λc=>Any.strings_Compare Tryz.laysCmp ⟨⟨x⟩⟩ ⟨⟨y⟩⟩ c;change∀c,Calls B 129 _ _ (λe b=>e=.returned (.int r (k x y))/\b=c)at a;generalize k x y=N at a⊢
 go_enter Tryz.func124,Tryz.ntmps124
 go_wp2_with (go_at_call 129;refine(a _).mono ?_;rintro e b ⟨rfl,rfl⟩)
 go_ret
 exact⟨E,0,_,by rw[l,l,grow_grow];rfl⟩
variable{C:Ctx}(hP:C.P=Tryz.prog)
 include hP
theorem arY:POK C 338 (Ul 339):=by
 refine agC (C:=C) (ρ:=Tryz.laysSR_ren) (hP▸Tryz.laysSR) E (hP▸auq) ?_ ?_ ?_ ?_;·rw[hP];exact Tryz.isAgg453
 ·rw[hP];exact Tryz.sizeOf453
 ·rw[hP];exact enters_of Tryz.func339 (by kernel_rfl) E
 ·rw[hP];exact aAd
theorem arX:POK C 127 (Ul 128):=by
 refine agC (C:=C) (ρ:=Tryz.laysSM_ren) (hP▸Tryz.laysSM) E (hP▸aup) ?_ ?_ ?_ ?_;·rw[hP];exact Tryz.isAgg196
 ·rw[hP];exact Tryz.sizeOf196
 ·rw[hP];exact enters_of Tryz.func128 (by kernel_rfl) E
 ·rw[hP];exact aAc
theorem arW:POK C 123 (Ul 124):=by
 refine agC (C:=C) (ρ:=Tryz.laysSK_ren) (hP▸Tryz.laysSK) E (hP▸auo) ?_ ?_ ?_ ?_;·rw[hP];exact Tryz.isAgg244
 ·rw[hP];exact Tryz.sizeOf244
 ·rw[hP];exact enters_of Tryz.func124 (by kernel_rfl) E
 ·rw[hP];exact cmpK
end Go.Proofs.YtaaomenfchndjaaGreatDoor
namespace Go.Proofs.YtaaomenfchndjaaGreatDoor
open Bool renaming true→eT, false→eF
open List renaming length→z
open Go.IntKind renaming i64→r
open Option renaming some→J, none→U
open Go.Ev Go.RowKit
noncomputable section
def EO(sz:Nat)(args:LA)(O:St):Option (AV×St):=
 match args with
 |[.sl n l]=>match H7 (H7 (i (z l) (n*sz)) (Nat.ble n 1099511627776)) (l.all YM)with|eT=>J (.sl n l,O)|eF=>U
 |_=>U
def XH{f:x}{zs:LA}{sz bytes:Nat}(k:cF B f=J (Kcl zs sz bytes).ad)(h2:Tu B f=eT)(h3:(Kcl zs sz bytes).ok=eT)(o:ZO f=U)(hb:bytes<=48)(p:0<sz)(m:DU zs=eF)(q:fG (evF CR1 100 f [.cY] []) .cY=eT)(s:fG (evF CR1 100 f [.fS] []) (.eB 0 [])=eT):POK CL0 f (EO sz):=by
 intro args O v t h g w b c i d;unfold EO at h;split at h
 ·rename_i n l;split at h
  ·rename_i a;rw[ni,a02,ni,a02]at a;have e:=a95 a.1.1;cases h;by_cases j:n=0;·subst j;have:l=[]:=aK4.mp (by simpa using e);subst this;exact acv (C:=CR1) (ajF 100) mO q s [.sl 0 []] O _ _ E g w b c i d
   ·exact sU atN mO (by rw[ae,below,(aj9 a.2).cl];rfl) (clone_any (C:=CL0) (aAf (akr k h2 h3 o E)) hb p m n l e (by omega) (aD3 a.1.2) a.2 [] ok0) c i d
  ·cases h
 ·cases h
def awp:POK CL0 bM (EO 1):=XH (zs:=[.cU []]) (bytes:=16) (by kernel_rfl) (by kernel_rfl) (by kernel_rfl) E (by decide) (by decide) E (by kernel_rfl) (by kernel_rfl)
def arV:POK CL0 dO (EO 2):=XH (zs:=[.cU [],.cU []]) (bytes:=32) (by kernel_rfl) (by kernel_rfl) (by kernel_rfl) E (by decide) (by decide) E (by kernel_rfl) (by kernel_rfl)
noncomputable def acs(args:LA)(O:St):Option (AV×St):=match args with
 |[.cY,.dv (.func g) [] []]=>match i g rQ with|eT=>J (.de [],O)|eF=>U
 |_=>Ul rQ args O
def aow:POK CL0 eU acs:=by
 intro args O v e h g w a b d c;unfold acs at h;split at h
 ·rename_i k;split at h;·rename_i hb;have:=a95 hb;subst this;cases h;exact sU (C:=CR1) (ajF 1000) mO E (KX (v:=.de []) (by kernel_rfl)) b d c
  ·cases h
 ·exact arW (C:=CL0) E _ _ _ _ h g w a b d c
def asr:fG (evF CR1 3000 Dj [] []) (.cX Eu)=eT:=by kernel_rfl
def agx(args:LA)(O:St):Option (AV×St):=match args with|[]=>J (.cX Eu,O)|_=>U
def arU:POK CL0 Dj agx:=by
 intro args O v e h g w a b d c;unfold agx at h;split at h;·cases h;exact sU (C:=CR1) (ajF 3000) mO E (KX asr) b d c
 ·cases h
def glX(u1 u2:TypeId)(g:Nat):Option LA:=match i g mM with|eT=>J [.dx u1 (.ec [])]|eF=>match i g kQ with|eT=>J [.dx u2 (.ec [])]|eF=>glT g
def aiN(f:x):Bool:=match i f fB with|eT=>eT|eF=>match i f FX with|eT=>eT|eF=>match i f Jc with|eT=>eT|eF=>i f gU
def Qu:n (x×DT):=[(iq,ZM),(gY,KU),(tZ,Et),(jw,Ul GY),(oL,Ul KG),(bM,EO 1),(dO,EO 2),(eU,acs),(Dj,agx),(Jv,aoq),(Yo,aor)]
def C0(u1 u2:TypeId):Ctx:={ja B (glX u1 u2) aiN (prL Qu)with np:=eT}
variable{u1 u2:TypeId}
def ai8:∀n l,glT n=J l->glX u1 u2 n=J l:=by
 intro n l h;unfold glX;split;·rename_i hb;have:=a95 hb;subst this;rw[show glT mM=U by kernel_rfl]at h;cases h
 ·split;·rename_i hb;have:=a95 hb;subst this;rw[show glT kQ=U by kernel_rfl]at h;cases h
  ·exact h
def anu:∀n l,(C0 u1 u2).gl n=J l->ae 0 l=eT:=by
 intro n l h;change glX u1 u2 n=J l at h;unfold glX at h;split at h;·cases h;rfl
 ·split at h;·cases h;rfl
  ·exact mO n l h
def ayC:ajH (C0 u1 u2):=λf x h=>zx B (glX u1 u2) aiN (prL Qu) f x h
def atL:Yd (C0 u1 u2):=by
 have a:∀{f p},POK CL0 f p->POK (C0 u1 u2) f p:=λh=>Vd (C:=CL0) (D:=C0 u1 u2) E (λn l b=>ai8 n l b) E h;have hP:(C0 u1 u2).P=B:=E;have h:=agD (C:=C0 u1 u2) (l:=Qu) (by
  unfold Qu;simp only[aE9];exact⟨agA hP,YB hP,SH hP,arY hP,arX hP,a awp,a arV,a aow,a arU,axP hP E E E E,akU hP,λ_ h=>by simp at h⟩)
 exact h
def GN:fZ (C0 u1 u2) (ai (C0 u1 u2)):=Iz CV ayC atL
def has{f:x}{K:KF}(a:cF B f=J K.ad:=by kernel_rfl)(h2:Tu B f=eT:=by kernel_rfl)(h3:K.ok=eT:=by kernel_rfl)(b:prL Qu f=U:=by exact rfl)(hr:aiN f=eF:=by exact rfl):Has (C0 u1 u2) f K:=by refine⟨?_,b,hr,h3⟩;show(ja B (glX u1 u2) aiN (prL Qu)).fs f=_;simp only[ja,h2,a]
def auw{f:x}{K:KF}(a:cF B f=J K.ad:=by kernel_rfl)(h2:Tu B f=eT:=by kernel_rfl)(h3:K.ok=eT:=by kernel_rfl)(b:prL Qu f=U:=by exact rfl)(hr:aiN f=eT:=by exact rfl):Pn (C0 u1 u2) f K:=by refine⟨?_,b,hr,h3⟩;show(ja B (glX u1 u2) aiN (prL Qu)).fs f=_;simp only[ja,h2,a]
def aAg{f:x}(h:ab5 B f=eT)(a:prL Qu f=U)(hr:aiN f=eF):Has (C0 u1 u2) f (kA B f):=by have k:=aux (gl:=glX u1 u2) h a hr;exact⟨k.fs,k.eV,k.eL,k.ok⟩
end
section
variable{u1 u2:TypeId}
def axM(s:LU)(Y:St)(h:z s<=1099511627776):∃(n:Int) (v:AV),aoq [.cU s,.cQ r 10,.cQ r 64] Y=J (.de [.cQ r n,v],Y)/\(v=.eb\/∃t x,v=.dx t x):=by
 unfold aoq;dsimp only;rw[if_pos ⟨E,E,h⟩];split;·exact⟨_,_,E,.inl E⟩
 ·exact⟨_,_,E,.inr ⟨_,_,E⟩⟩
 ·exact⟨_,_,E,.inr ⟨_,_,E⟩⟩
end
section
variable(u1 u2:TypeId)
theorem auT:alF (C0 u1 u2):=λs Y hs b=>by obtain⟨n,v,a,h2⟩:=axM s Y (by omega);exact⟨n,v,(iE (h:=aoq) E _ _).trans a,h2⟩
theorem axI:ajL (C0 u1 u2):=λs i Y hs hi a=>arB (has) (has) (auT u1 u2) s (by omega) i hi Y a
theorem apH:BldHas (C0 u1 u2):=ayO E E has has
theorem akX:Bc (C0 u1 u2)where
 toBldHas:=apH u1 u2
 kd:=has
 eW:=has
 cn:=has
 gc:=has
 ed:=has
 ka:=has
 jb:=has
 nw:=has
 lb:=has
 je:=has
 kc:=has
 k4:=has
 gW:=has
 gg:=has
 gs:=has
 ei:=λs i O=>by rw[MN (has) s i O];cases Uf s i<;>exact⟨_,_,E⟩
 dt:=λs O h=>by rw[iE (h:=aor) E];unfold aor Vb;dsimp only;rw[if_pos (aG5 (by omega))];exact⟨_,_,E⟩
theorem axX:afx (C0 u1 u2):=av3 (akX u1 u2)
theorem ass:ahp (C0 u1 u2):=λY a=>by rw[iE (h:=agx) E];rfl
theorem avp:J8 (C0 u1 u2):=by constructor<;>exact has
theorem axz:aaT (C0 u1 u2)where
 dl:=avp u1 u2
 eI:=has
 nn:=has
 ed:=has
 dc:=has
 fa:=axI u1 u2
 oY:=axX u1 u2
 lT:=ass u1 u2
 token:=has
 eW:=has
theorem ap4:QW (C0 u1 u2)where
 oB:=axz u1 u2
 mb:=has
 eW:=has
 es:=has
 j8:=has
 ac:=has
 j1:=ah3 λ_ _ _ O=>iE E _ O
 ko:=auw
 kf:=has
 et:=has
 bi:=has
 j2:=has
theorem agP{f:x}{sz:Nat}(e:prL Qu f=J (EO sz))(n:Nat)(l:LA)(O:St)(c:z l=n*sz)(d:n<=1099511627776)(hs:l.all YM=eT):ai (C0 u1 u2) f [.sl n l] O=J (.sl n l,O):=by
 rw[iE (h:=EO sz) e];have a:i (z l) (n*sz)=eT:=by rw[c];exact aL6 _
 have b:Nat.ble n 1099511627776=eT:=aG5 d;simp only[EO,ni,a,b,hs,aD0]
theorem apV:aaL (C0 u1 u2):=λns O b a=>agP u1 u2 E _ _ O (by simp) (by omega) (by rw[List.all_map,aB0];exactλ_ _=>E)
theorem Wl:CopyHas (C0 u1 u2):=⟨apV u1 u2,has,has,has⟩
theorem aum:aai (C0 u1 u2):=by constructor<;>exact has
theorem arE:aaV (C0 u1 u2)where
 toCopyHas:=Wl u1 u2
 f7:=λxs h0 hn O hσ=>adu (auw) xs h0 hn O hσ
 j1:=ah3 λ_ _ _ O=>iE E _ O
 of:=has
theorem axi:Yb (C0 u1 u2)where
 dt:=has
 oE:=has
 ol:=has
 nd:=has
 gl:=E
 fb:=auw
 ff:=has
 cQ:=has
 ox:=has
 lX:=has
theorem ax9:UB (C0 u1 u2)where
 toBldHas:=apH u1 u2
 gg:=λs hs O hσ=>by obtain⟨q,e,h1,h2⟩:=acx (akX u1 u2) s O hσ;exact⟨q,e,h1,by omega⟩
 fa:=λn O hσ=>aiA (axi u1 u2) n O hσ
 nz:=has
 m0:=has
 m1:=has
theorem agV:UK (C0 u1 u2)where
 eM:=has
 mf:=has
 hL:=has
 mB:=has
 mK:=has
 mh:=has
 g3:=has
 g4:=has
 gr:=E
 gi:=E
 gd:=E
 n5:=λn hn O=>by rw[iE (h:=Et) E];have hb:Nat.blt n 64=eT:=aG5 hn;change Et [.cU [0],.cQ r (.ofNat n)] O=_;unfold Et;simp only[hb];rfl
theorem auI:afu (C0 u1 u2)where
 lV:=agV u1 u2
 eG:=has
 fv:=has
 of:=has
 n0:=has
 n2:=has
theorem ajm:bZ (C0 u1 u2) cO Gw (.dp [.df] .cW):=λO bs e d hok h c i=>by obtain⟨x,rfl,f⟩:=U2 i;obtain⟨a,rfl,g⟩:=zA f;obtain⟨rfl,rfl⟩:=ao0 (ss:=[a]) h;obtain⟨b,hb⟩:=X4 (akX u1 u2) a (by simp only[LB]at g;omega) d;exact⟨.cW b,hb,.cW _⟩
end
open Go.Ev
def mtL:n (TypeId×String×x):=[(148,"legate/judge.good",413),(155,"legate/judge.good",415)]
abbrev yT(n:Int):HO:=.cP [.ic .u8 0,.ic r 0,.sc [],.cY,.cY,.gh,.ic r n]
abbrev Ob:HO:=.cP [.jv,.dz 1,.cQ r]
abbrev Oc:HO:=.dz (.cQ r)
abbrev aT:Sh:=.cQ r
abbrev bg:Sh:=.df
abbrev gz:Sh:=.ew [.df]
abbrev wH:Sh:=.ew [.df,.df]
abbrev Oz:Sh:=.cX [.df,.df]
def azM:n (x×Sm):=[(176,.dp [aT] .cW),
 (216,.dp [aT,aT] .cW),
 (215,.dp [bg] aT),
 (305,.dp [gz] .cW),
 (193,.dp [bg] .cW),
 (175,.dp [aT] aT),
 (119,.dp [aT] aT)]
def asf:n (x×Sm):=[(288,.dp [wH,bg] (.de [bg,.cW])),
 (148,.iB [.jv]),
 (212,.eK [Ob,Oc] [.da 0 0] aT),
 (212,.eK [yT 10] [.da 0 0] (.ic r 10)),
 (212,.eK [yT 3] [.da 0 0] (.ic r 3)),
 (212,.pk [] aT),
 (219,.eK [.em,.em,.cP [aT]] [.jv,.da 2 0] (.de [.jv,aT])),
 (211,.dp [.jv] (.de [bg,aT])),
 (214,.eK [.em,.em,.cP [aT],.cP [aT]] [.jv,.da 2 0,.da 3 0] (.de [aT,aT])),
 (13,.dp [bg] .cW),
 (272,.dp [bg,bg] (.de [bg,.cW])),
 (281,.dp [.jv,aT] (.de [.fh,aT])),
 (193,.dp [bg] .cW),
 (228,.dp [.ew [bg,aT,gz,.cW,gz,gz],bg] .cW),
 (35,.dp [.cQ .u8] .cW),
 (355,.dp [.jv] (.de [.jv,aT]))]
def asg:n (x×Sm):=[(229,.dp [bg] .cW),
 (315,.dp [bg] .cW),
 (82,.dp [bg] .jv),
 (344,.eK [.em,.em,.cP [aT]] [.jv,.da 2 0] (.de [gz,aT])),
 (233,.dp [aT] .cW),
 (234,.dp [aT] aT),
 (372,.dp [.jv] (.de [.cW,aT])),
 (238,.dp [bg] .cW),
 (239,.dp [bg] .cW),
 (414,.dp [bg,bg] .cW),
 (417,.dp [.ew [bg,bg,bg],.cX [bg,bg,bg]] aT),
 (150,.eK [Ob,Oc] [.da 0 0,aT] (.de [])),
 (150,.eK [yT 10] [.da 0 0,aT] (.de [])),
 (150,.eK [yT 3] [.da 0 0,aT] (.de [])),
 (150,.pk [aT] (.de [])),
 (156,.eK [Ob,Oc] [.da 0 0] aT)]
def ash:n (x×Sm):=[(156,.eK [yT 10] [.da 0 0] aT),
 (156,.eK [yT 3] [.da 0 0] aT),
 (156,.pk [] aT),
 (286,.eK [Ob,Oc] [.da 0 0,bg] .cW),
 (286,.eK [yT 10] [.da 0 0,bg] .cW),
 (286,.eK [yT 3] [.da 0 0,bg] .cW),
 (286,.pk [bg] .cW),
 (280,.eK [.em,.em,.cP [aT]] [.jv,.da 2 0] (.de [.fh,aT])),
 (279,.eK [Ob,Oc,.cP [aT]] [.da 0 0,bg,.dv (.func 280) [] [.da 2 0]] .fh),
 (279,.eK [yT 10,.cP [aT]] [.da 0 0,bg,.dv (.func 280) [] [.da 1 0]] .fh),
 (279,.eK [yT 3,.cP [aT]] [.da 0 0,bg,.dv (.func 280) [] [.da 1 0]] .fh),
 (192,.dp [Oz] .cW),
 (218,.eK [Ob,Oc,.cP [aT]] [.da 0 0,bg,.dv (.func 219) [] [.da 2 0]] .jv),
 (218,.eK [yT 10,.cP [aT]] [.da 0 0,bg,.dv (.func 219) [] [.da 1 0]] .jv),
 (218,.eK [yT 3,.cP [aT]] [.da 0 0,bg,.dv (.func 219) [] [.da 1 0]] .jv),
 (218,.eK [Ob,Oc] [.da 0 0,bg,.dv (.func 355) [] []] .jv)]
def asi:n (x×Sm):=[(218,.eK [yT 10] [.da 0 0,bg,.dv (.func 355) [] []] .jv),
 (218,.eK [yT 3] [.da 0 0,bg,.dv (.func 355) [] []] .jv),
 (210,.eK [Ob,Oc] [.da 0 0,bg,.dv (.func 211) [] []] bg),
 (210,.eK [yT 10] [.da 0 0,bg,.dv (.func 211) [] []] bg),
 (210,.eK [yT 3] [.da 0 0,bg,.dv (.func 211) [] []] bg),
 (213,.eK [Ob,Oc,.cP [aT],.cP [aT]] [.da 0 0,bg,.dv (.func 214) [] [.da 2 0,.da 3 0]] aT),
 (213,.eK [yT 10,.cP [aT],.cP [aT]] [.da 0 0,bg,.dv (.func 214) [] [.da 1 0,.da 2 0]] aT),
 (213,.eK [yT 3,.cP [aT],.cP [aT]] [.da 0 0,bg,.dv (.func 214) [] [.da 1 0,.da 2 0]] aT),
 (174,.dp [gz] aT),
 (11,.dp [bg] .cW),
 (273,.dp [bg] .cW),
 (345,.eK [Ob,Oc] [.da 0 0,bg] .jv),
 (345,.eK [yT 10] [.da 0 0,bg] .jv),
 (345,.eK [yT 3] [.da 0 0,bg] .jv),
 (345,.pk [bg] .jv),
 (184,.dp [Oz] .cW)]
def asj:n (x×Sm):=[(130,.dp [Oz] (.de [.jv,aT])),
 (165,.dp [.cX [aT,gz,aT,bg]] aT),
 (135,.dp [.cX [.jv,wH]] .jv),
 (413,.dp [.cX [],Oz,Oz,bg] .cW),
 (343,.eK [Ob,Oc,.cP [aT]] [.da 0 0,bg,.dv (.func 344) [] [.da 2 0]] (gz)),
 (343,.eK [yT 10,.cP [aT]] [.da 0 0,bg,.dv (.func 344) [] [.da 1 0]] (gz)),
 (343,.eK [yT 3,.cP [aT]] [.da 0 0,bg,.dv (.func 344) [] [.da 1 0]] (gz)),
 (371,.eK [Ob,Oc] [.da 0 0,bg,.dv (.func 372) [] []] .cW),
 (371,.eK [yT 10] [.da 0 0,bg,.dv (.func 372) [] []] .cW),
 (371,.eK [yT 3] [.da 0 0,bg,.dv (.func 372) [] []] .cW),
 (237,.dp [gz,.dv (.func 238) [] []] .cW),
 (237,.dp [gz,.dv (.func 239) [] []] .cW),
 (416,.dp [.ew [bg,bg,bg],.cX [bg,bg,bg]] .cW),
 (208,.eK [Ob,Oc] [.da 0 0,bg,aT] .fh),
 (208,.eK [yT 10] [.da 0 0,bg,aT] .fh),
 (208,.eK [yT 3] [.da 0 0,bg,aT] .fh)]
def asl:n (x×Sm):=[(208,.pk [bg,aT] .fh),
 (154,.eK [Ob,Oc] [.da 0 0,bg,aT] .jv),
 (154,.eK [yT 10] [.da 0 0,bg,aT] .jv),
 (154,.eK [yT 3] [.da 0 0,bg,aT] .jv),
 (154,.pk [bg,aT] .jv),
 (149,.eK [Ob,Oc] [.da 0 0,bg] bg),
 (149,.eK [yT 10] [.da 0 0,bg] bg),
 (149,.eK [yT 3] [.da 0 0,bg] bg),
 (149,.pk [bg] bg),
 (151,.eK [Ob,Oc] [.da 0 0,bg,aT,aT] aT),
 (151,.eK [yT 10] [.da 0 0,bg,aT,aT] aT),
 (151,.eK [yT 3] [.da 0 0,bg,aT,aT] aT),
 (151,.pk [bg,aT,aT] aT),
 (118,.dp [.cX [aT,gz]] .cW),
 (203,.dp [bg] (.de [bg,aT])),
 (319,.dp [.jv] (.de [wH,aT]))]
def asn:n (x×Sm):=[(316,.dp [.jv] (.de [.cX [aT,wH,.jv],aT])),
 (217,.dp [.jv] (.de [Oz,aT])),
 (84,.dp [Oz] (.de [bg,aT])),
 (163,.dp [.cX [aT,gz,aT,bg]] .cW),
 (132,.dp [.cX [.jv,wH]] .cW),
 (314,.eK [Ob,Oc] [.da 0 0,bg,aT] (gz)),
 (314,.eK [yT 10] [.da 0 0,bg,aT] (gz)),
 (314,.eK [yT 3] [.da 0 0,bg,aT] (gz)),
 (314,.pk [bg,aT] (gz)),
 (356,.eK [Ob,Oc] [.da 0 0,bg] .cW),
 (356,.eK [yT 10] [.da 0 0,bg] .cW),
 (356,.eK [yT 3] [.da 0 0,bg] .cW),
 (356,.pk [bg] .cW),
 (168,.dp [.cX [bg,aT,gz,.cW,gz,gz]] .cW),
 (415,.dp [.cX [.ew [bg,bg,bg]],Oz,Oz,bg] .cW),
 (290,.dp [bg,.jv] (.de [.cX [bg,aT,aT,wH],aT]))]
def aso:n (x×Sm):=[(209,.dp [.jv] (.de [Oz,aT])),
 (285,.dp [.jv] (.de [.ew [bg,aT,wH,.jv],aT])),
 (153,.dp [.jv] (.de [wH,aT])),
 (85,.dp [.cX [.jv,wH]] (.de [bg,aT])),
 (221,.dp [wH,bg] (.de [Oz,.cW])),
 (283,.eK [Ob,Oc] [.da 0 0] (.cX [aT,gz])),
 (283,.eK [yT 10] [.da 0 0] (.cX [aT,gz])),
 (283,.eK [yT 3] [.da 0 0] (.cX [aT,gz])),
 (283,.pk [] (.cX [aT,gz])),
 (346,.dp [.jv] (.de [.cX [bg,aT,gz,.cW,gz,gz],aT])),
 (284,.ro [.dx 148 (.cX [])] [Oz,Oz,bg] .cW),
 (284,.ro [.dx 155 (.cX [.ew [bg,bg,bg]])] [Oz,Oz,bg] .cW),
 (147,.dp [.jv] (.de [.cX [.jv,wH],aT])),
 (317,.dp [.jv] (.de [.cX [aT,gz,aT,bg],aT])),
 (318,.dp [.fh] (.de [.ew [bg,aT,gz,.cW,gz,gz],aT])),
 (222,.ro [.dx 148 (.cX [])] [Oz,bg,wH,bg] .cW)]
def al8:n (x×Sm):=[(222,.ro [.dx 155 (.cX [.ew [bg,bg,bg]])] [Oz,bg,wH,bg] .cW),
 (220,.dp [.jv] (.de [.cX [aT,gz],aT])),
 (287,.dp [.jv] (.de [.cX [wH,.ew [bg,aT,gz,.cW,gz,gz],aT,gz,aT,bg],aT])),
 (157,.ro [.dx 148 (.cX [])] [.cX [.jv,wH],.cX [aT,gz],wH] aT),
 (157,.ro [.dx 155 (.cX [.ew [bg,bg,bg]])] [.cX [.jv,wH],.cX [aT,gz],wH] aT),
 (155,.dp [.jv] (.de [.cX [aT,gz,aT,gz,aT,gz],aT])),
 (224,.dp [.jv] (.de [.cX [aT,aT,.ew [bg,aT,wH,.jv],wH,.ew [bg,aT,gz,.cW,gz,gz],aT,gz,aT,bg],aT])),
 (96,.ro [.dx 148 (.cX [])] [.cX [.jv,wH],.cX [aT,gz],wH] .cW),
 (96,.ro [.dx 155 (.cX [.ew [bg,bg,bg]])] [.cX [.jv,wH],.cX [aT,gz],wH] .cW),
 (95,.dp [.jv] (.de [.cX [aT,aT,wH,aT,gz,aT,gz,aT,gz],aT]))]
def asq:n (x×Sm):=[(101,.dp [.cX [aT,gz,aT,bg]] .cW),
 (62,.dp [.cX [bg],.cX [bg,aT,wH,.jv]] .cW),
 (83,.dp [aT] .jv),
 (289,.dp [.cW] .jv),
 (181,.dp [gz] .jv),
 (231,.dp [.fh] .jv),
 (122,.dp [Oz] (.de [.cX [bg,.jv],aT])),
 (161,.dp [wH] .cW)]
def azN:n (x×Sm):=[(421,.dp [gz,bg] (.de [aT,.cW])),
 (420,.dp [gz,bg] .cW),
 (419,.dp [gz,bg] .cW),
 (426,.dp [gz,bg] .cW),
 (425,.dp [gz,bg] .cW),
 (100,.dp [.cX [wH,.ew [bg,aT,gz,.cW,gz,gz],aT,gz,aT,bg]] .cW)]
end Go.Proofs.YtaaomenfchndjaaGreatDoor
