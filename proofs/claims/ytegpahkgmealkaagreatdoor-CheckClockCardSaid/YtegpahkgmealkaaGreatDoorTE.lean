/- Contracts of functions over this translation. No conditions. -/
import Derived.Test.YtegpahkgmealkaaGreatDoorTC
import Derived.KernelRfl
import Derived.Test.YtegpahkgmealkaaGreatDoorTD
import Derived.Test.YtegpahkgmealkaaGreatDoorCD
import Derived.Test.YtegpahkgmealkaaGreatDoorTB
import Derived.Shelf.Strconv.ParseIntPublic10
import Derived.Test.YtegpahkgmealkaaGreatDoorProg
import Derived.Test.YtegpahkgmealkaaGreatDoorEC
import Derived.Test.YtegpahkgmealkaaGreatDoorCE
set_option linter.unusedVariables false
set_option linter.unusedSimpArgs false
namespace Go.Proofs.YtegpahkgmealkaaGreatDoor
open Go.Ev
set_option maxRecDepth 1000000
theorem l44:fF (bY CC (T0 Q44) 5000 bg a44 []) v44=true:=by kernel_rfl
theorem l45:fF (bY CC (T0 Q45) 5000 fK a45 []) v45=true:=by kernel_rfl
theorem l46:fF (bY CC (T0 Q46) 5000 ql a46 []) v46=true:=by kernel_rfl
theorem l47:fF (bY CC (T0 Q47) 5000 dR a47 []) v47=true:=by kernel_rfl
theorem l48:fF (bY CC (T0 Q48) 5000 vF a48 []) v48=true:=by kernel_rfl
theorem l49:fF (bY CC (T0 Q49) 5000 dR a49 []) v49=true:=by kernel_rfl
theorem l50:fF (bY CC (T0 Q50) 5000 zU a50 []) v50=true:=by kernel_rfl
theorem l51:fF (bY CC (T0 Q51) 5000 bg a51 []) v51=true:=by kernel_rfl
theorem l52:fF (bY CC (T0 Q52) 5000 bg a52 []) v52=true:=by kernel_rfl
theorem l53:fF (bY CC (T0 Q53) 5000 bg a53 []) v53=true:=by kernel_rfl
theorem l54:fF (bY CC (T0 Q54) 5000 fK a54 []) v54=true:=by kernel_rfl
theorem l55:fF (bY CC (T0 Q55) 5000 ql a55 []) v55=true:=by kernel_rfl
theorem l56:fF (bY CC (T0 Q56) 5000 ru a56 []) v56=true:=by kernel_rfl
theorem l57:fF (bY CC (T0 Q57) 5000 kF a57 []) v57=true:=by kernel_rfl
theorem nxq{M:MM}{f:FuncId}{a:LA}{v:AV}(q:MOK CC M)(c:ae 0 a=true)(l:fF (bY CC (T0 M) 5000 f a []) v=true):MOK CC (iK M f a v):=akv q (ZK (A8 Ap (afA q) 5000) gV c l)
theorem q0:MOK CC Q0:=anu CC
theorem q1:MOK CC Q1:=nxq q0 (by kernel_rfl) l0
theorem q2:MOK CC Q2:=nxq q1 (by kernel_rfl) l1
theorem q3:MOK CC Q3:=nxq q2 (by kernel_rfl) l2
theorem q4:MOK CC Q4:=nxq q3 (by kernel_rfl) l3
theorem q5:MOK CC Q5:=nxq q4 (by kernel_rfl) l4
theorem q6:MOK CC Q6:=nxq q5 (by kernel_rfl) l5
theorem q7:MOK CC Q7:=nxq q6 (by kernel_rfl) l6
theorem q8:MOK CC Q8:=nxq q7 (by kernel_rfl) l7
theorem q9:MOK CC Q9:=nxq q8 (by kernel_rfl) l8
theorem q10:MOK CC Q10:=nxq q9 (by kernel_rfl) l9
theorem q11:MOK CC Q11:=nxq q10 (by kernel_rfl) l10
theorem q12:MOK CC Q12:=nxq q11 (by kernel_rfl) l11
theorem q13:MOK CC Q13:=nxq q12 (by kernel_rfl) l12
theorem q14:MOK CC Q14:=nxq q13 (by kernel_rfl) l13
theorem q15:MOK CC Q15:=nxq q14 (by kernel_rfl) l14
theorem q16:MOK CC Q16:=nxq q15 (by kernel_rfl) l15
theorem q17:MOK CC Q17:=nxq q16 (by kernel_rfl) l16
theorem q18:MOK CC Q18:=nxq q17 (by kernel_rfl) l17
theorem q19:MOK CC Q19:=nxq q18 (by kernel_rfl) l18
theorem q20:MOK CC Q20:=nxq q19 (by kernel_rfl) l19
theorem q21:MOK CC Q21:=nxq q20 (by kernel_rfl) l20
theorem q22:MOK CC Q22:=nxq q21 (by kernel_rfl) l21
theorem q23:MOK CC Q23:=nxq q22 (by kernel_rfl) l22
theorem q24:MOK CC Q24:=nxq q23 (by kernel_rfl) l23
theorem q25:MOK CC Q25:=nxq q24 (by kernel_rfl) l24
theorem q26:MOK CC Q26:=nxq q25 (by kernel_rfl) l25
theorem q27:MOK CC Q27:=nxq q26 (by kernel_rfl) l26
theorem q28:MOK CC Q28:=nxq q27 (by kernel_rfl) l27
theorem q29:MOK CC Q29:=nxq q28 (by kernel_rfl) l28
theorem q30:MOK CC Q30:=nxq q29 (by kernel_rfl) l29
theorem q31:MOK CC Q31:=nxq q30 (by kernel_rfl) l30
theorem q32:MOK CC Q32:=nxq q31 (by kernel_rfl) l31
theorem q33:MOK CC Q33:=nxq q32 (by kernel_rfl) l32
theorem q34:MOK CC Q34:=nxq q33 (by kernel_rfl) l33
theorem q35:MOK CC Q35:=nxq q34 (by kernel_rfl) l34
theorem q36:MOK CC Q36:=nxq q35 (by kernel_rfl) l35
theorem q37:MOK CC Q37:=nxq q36 (by kernel_rfl) l36
theorem q38:MOK CC Q38:=nxq q37 (by kernel_rfl) l37
theorem q39:MOK CC Q39:=nxq q38 (by kernel_rfl) l38
theorem q40:MOK CC Q40:=nxq q39 (by kernel_rfl) l39
theorem q41:MOK CC Q41:=nxq q40 (by kernel_rfl) l40
theorem q42:MOK CC Q42:=nxq q41 (by kernel_rfl) l41
theorem q43:MOK CC Q43:=nxq q42 (by kernel_rfl) l42
theorem q44:MOK CC Q44:=nxq q43 (by kernel_rfl) l43
theorem q45:MOK CC Q45:=nxq q44 (by kernel_rfl) l44
theorem q46:MOK CC Q46:=nxq q45 (by kernel_rfl) l45
theorem q47:MOK CC Q47:=nxq q46 (by kernel_rfl) l46
theorem q48:MOK CC Q48:=nxq q47 (by kernel_rfl) l47
theorem q49:MOK CC Q49:=nxq q48 (by kernel_rfl) l48
theorem q50:MOK CC Q50:=nxq q49 (by kernel_rfl) l49
theorem q51:MOK CC Q51:=nxq q50 (by kernel_rfl) l50
theorem q52:MOK CC Q52:=nxq q51 (by kernel_rfl) l51
theorem q53:MOK CC Q53:=nxq q52 (by kernel_rfl) l52
theorem q54:MOK CC Q54:=nxq q53 (by kernel_rfl) l53
theorem q55:MOK CC Q55:=nxq q54 (by kernel_rfl) l54
theorem q56:MOK CC Q56:=nxq q55 (by kernel_rfl) l55
theorem q57:MOK CC Q57:=nxq q56 (by kernel_rfl) l56
theorem q58:MOK CC Q58:=nxq q57 (by kernel_rfl) l57
theorem ajb:fO CC (bY CC (T0 Q58) 5000):=A8 Ap (afA q58) 5000
theorem aob:fF (bY CC (T0 Q58) 5000 kF [] []) (.bool true)=true:=by kernel_rfl
theorem fin:acl CC kF [] (.bool true):=ZK (A8 Ap (afA q58) 5000) gV (by kernel_rfl) aob
end Go.Proofs.YtegpahkgmealkaaGreatDoor
namespace Go.Ev
set_option maxRecDepth 100000
variable{C:Ctx}{PK:PkI}
theorem aeD(s:LU):(rQ s).length<=2*s.length:=by
 unfold rQ
 induction s with
 |nil=>simp
 |cons a l ih=>
  have h:(agk a).length=2:=rfl;rw[List.flatMap_cons,List.length_append,h,List.length_cons];omega
theorem Yq(hC:Has C jS jI):fC C PK jS (.pure [.strb,.int .i64] (.tup [.int .i64,.bool])):=
 sQ hC rfl fun azs hm=>by
  obtain⟨x,y,rfl,h1,h2⟩:=agL hm;obtain⟨a,rfl,ha⟩:=wO h1;cases h2 with
  |int _ n=>
   intro O hσ;refine⟨_,Hg hC a n O,?_⟩;unfold FN;exact .tup _ _ (.cons _ _ _ _ (.int _ _) (.cons _ _ _ _ (.bool _) .nil))
theorem UZ(H:Je C):fC C PK mP (.pure [.strb] .strb):=
 sQ H.digest rfl fun azs hm=>by
  obtain⟨x,rfl,h1⟩:=SQ hm;obtain⟨a,rfl,ha⟩:=wO h1;intro O hσ;refine⟨_,ac4 H a (by simp only[LB]at ha;omega) O hσ,.strb _ ?_⟩
  have:=aeD (oL a);rw[nP]at this;unfold ac3;simp only[LB];omega
theorem afg(H:Xb C):fC C PK vF (.pure [.strb,.strb] .strb):=
 sQ H.of rfl fun azs hm=>by
  obtain⟨x,y,rfl,h1,h2⟩:=agL hm;obtain⟨a,rfl,ha⟩:=wO h1;obtain⟨b,rfl,hb⟩:=wO h2;intro O hσ;refine⟨_,ahu H a b (by simp only[LB]at ha;omega) (by simp only[LB]at hb;omega) O hσ,.strb _ ?_⟩
  unfold hmac;simp only[nP,LB];omega
end Go.Ev
namespace Go.Proofs.YtegpahkgmealkaaGreatDoor
open Go.Shelf Go.Proofs
def Tryz.laysPI_ren:Go.Shelf.Ren:=⟨fun|174=>317|247=>330|245=>331|287=>337|279=>338|280=>339|281=>340|282=>341|321=>347|322=>348|316=>349|171=>162|205=>350|243=>207|246=>257|283=>298|284=>299|285=>300|286=>301|129=>221|317=>311|318=>312|319=>313|320=>314|337=>328|338=>329|n=>n,fun|9=>9|3=>3|2=>2|75=>250|85=>412|4=>4|167=>427|5=>5|53=>330|175=>428|46=>261|168=>430|37=>246|0=>0|210=>438|21=>21|127=>310|145=>444|143=>442|171=>392|173=>394|212=>410|51=>328|20=>20|213=>411|232=>426|233=>263|80=>257|n=>n,fun|15=>9|16=>10|17=>6|18=>7|19=>8|n=>n⟩
theorem Tryz.laysPI:Go.Proofs.LaysC.n174 Tryz.prog Tryz.laysPI_ren:={
 mixed:=by kernel_rfl
 f129:=Tryz.func221.trans (congrArg some (by kernel_rfl))
 f171:=Tryz.func162.trans (congrArg some (by kernel_rfl))
 f174:=Tryz.func317.trans (congrArg some (by kernel_rfl))
 f205:=Tryz.func350.trans (congrArg some (by kernel_rfl))
 f243:=Tryz.func207.trans (congrArg some (by kernel_rfl))
 f245:=Tryz.func331.trans (congrArg some (by kernel_rfl))
 f246:=Tryz.func257.trans (congrArg some (by kernel_rfl))
 f247:=Tryz.func330.trans (congrArg some (by kernel_rfl))
 f279:=Tryz.func338.trans (congrArg some (by kernel_rfl))
 f280:=Tryz.func339.trans (congrArg some (by kernel_rfl))
 f281:=Tryz.func340.trans (congrArg some (by kernel_rfl))
 f282:=Tryz.func341.trans (congrArg some (by kernel_rfl))
 f283:=Tryz.func298.trans (congrArg some (by kernel_rfl))
 f284:=Tryz.func299.trans (congrArg some (by kernel_rfl))
 f285:=Tryz.func300.trans (congrArg some (by kernel_rfl))
 f286:=Tryz.func301.trans (congrArg some (by kernel_rfl))
 f287:=Tryz.func337.trans (congrArg some (by kernel_rfl))
 f316:=Tryz.func349.trans (congrArg some (by kernel_rfl))
 f317:=Tryz.func311.trans (congrArg some (by kernel_rfl))
 f318:=Tryz.func312.trans (congrArg some (by kernel_rfl))
 f319:=Tryz.func313.trans (congrArg some (by kernel_rfl))
 f320:=Tryz.func314.trans (congrArg some (by kernel_rfl))
 f321:=Tryz.func347.trans (congrArg some (by kernel_rfl))
 f322:=Tryz.func348.trans (congrArg some (by kernel_rfl))
 f337:=Tryz.func328.trans (congrArg some (by kernel_rfl))
 f338:=Tryz.func329.trans (congrArg some (by kernel_rfl))
 t0:=Tryz.underlying0
 a0:=Tryz.isAgg0
 z0:=Tryz.sizeOf0
 v0:=Tryz.zeroValue0
 t2:=Tryz.underlying2
 a2:=Tryz.isAgg2
 z2:=Tryz.sizeOf2
 v2:=Tryz.zeroValue2
 t3:=Tryz.underlying3
 a3:=Tryz.isAgg3
 z3:=Tryz.sizeOf3
 v3:=Tryz.zeroValue3
 t4:=Tryz.underlying4
 a4:=Tryz.isAgg4
 z4:=Tryz.sizeOf4
 v4:=Tryz.zeroValue4
 t5:=Tryz.underlying5
 a5:=Tryz.isAgg5
 z5:=Tryz.sizeOf5
 v5:=Tryz.zeroValue5
 t9:=Tryz.underlying9
 a9:=Tryz.isAgg9
 z9:=Tryz.sizeOf9
 v9:=Tryz.zeroValue9
 t20:=Tryz.underlying20
 a20:=Tryz.isAgg20
 z20:=Tryz.sizeOf20
 v20:=Tryz.zeroValue20
 t21:=Tryz.underlying21
 a21:=Tryz.isAgg21
 z21:=Tryz.sizeOf21
 v21:=Tryz.zeroValue21
 t37:=Tryz.underlying246
 a37:=Tryz.isAgg246
 z37:=Tryz.sizeOf246
 v37:=Tryz.zeroValue246
 t46:=Tryz.underlying261
 a46:=Tryz.isAgg261
 z46:=Tryz.sizeOf261
 v46:=Tryz.zeroValue261
 t51:=Tryz.underlying328
 a51:=Tryz.isAgg328
 z51:=Tryz.sizeOf328
 v51:=Tryz.zeroValue328
 t53:=Tryz.underlying330
 a53:=Tryz.isAgg330
 z53:=Tryz.sizeOf330
 v53:=Tryz.zeroValue330
 t75:=Tryz.underlying250
 a75:=Tryz.isAgg250
 z75:=Tryz.sizeOf250
 v75:=Tryz.zeroValue250
 t85:=Tryz.underlying412
 a85:=Tryz.isAgg412
 z85:=Tryz.sizeOf412
 v85:=Tryz.zeroValue412
 t127:=Tryz.underlying310
 a127:=Tryz.isAgg310
 z127:=Tryz.sizeOf310
 v127:=Tryz.zeroValue310
 t143:=Tryz.underlying442
 a143:=Tryz.isAgg442
 z143:=Tryz.sizeOf442
 v143:=Tryz.zeroValue442
 t145:=Tryz.underlying444
 a145:=Tryz.isAgg444
 z145:=Tryz.sizeOf444
 v145:=Tryz.zeroValue444
 t167:=Tryz.underlying427
 a167:=Tryz.isAgg427
 z167:=Tryz.sizeOf427
 v167:=Tryz.zeroValue427
 t168:=Tryz.underlying430
 a168:=Tryz.isAgg430
 z168:=Tryz.sizeOf430
 v168:=Tryz.zeroValue430
 t171:=Tryz.underlying392
 a171:=Tryz.isAgg392
 z171:=Tryz.sizeOf392
 v171:=Tryz.zeroValue392
 t173:=Tryz.underlying394
 a173:=Tryz.isAgg394
 z173:=Tryz.sizeOf394
 v173:=Tryz.zeroValue394
 t175:=Tryz.underlying428
 a175:=Tryz.isAgg428
 z175:=Tryz.sizeOf428
 v175:=Tryz.zeroValue428
 t210:=Tryz.underlying438
 a210:=Tryz.isAgg438
 z210:=Tryz.sizeOf438
 v210:=Tryz.zeroValue438
 t212:=Tryz.underlying410
 a212:=Tryz.isAgg410
 z212:=Tryz.sizeOf410
 v212:=Tryz.zeroValue410
 t213:=Tryz.underlying411
 a213:=Tryz.isAgg411
 z213:=Tryz.sizeOf411
 t232:=Tryz.underlying426
 a232:=Tryz.isAgg426
 z232:=Tryz.sizeOf426
 v232:=Tryz.zeroValue426
 t233:=Tryz.underlying263
 a233:=Tryz.isAgg263
 z233:=Tryz.sizeOf263
 v233:=Tryz.zeroValue263
 g15:=by kernel_rfl
 g16:=by kernel_rfl
 g17:=by kernel_rfl
 g18:=by kernel_rfl
 g19:=by kernel_rfl
 t80:=Tryz.underlying257
 a80:=Tryz.isAgg257
 z80:=Tryz.sizeOf257
 v80:=Tryz.zeroValue257
 i0:=by kernel_rfl
 i2:=by kernel_rfl
 i3:=by kernel_rfl
 i4:=by kernel_rfl
 i5:=by kernel_rfl
 i9:=by kernel_rfl
 i20:=by kernel_rfl
 i21:=by kernel_rfl
 i37:=by kernel_rfl
 i46:=by kernel_rfl
 i51:=by kernel_rfl
 i53:=by kernel_rfl
 i75:=by kernel_rfl
 i80:=by kernel_rfl
 i85:=by kernel_rfl
 i127:=by kernel_rfl
 i143:=by kernel_rfl
 i145:=by kernel_rfl
 i167:=by kernel_rfl
 i168:=by kernel_rfl
 i171:=by kernel_rfl
 i173:=by kernel_rfl
 i175:=by kernel_rfl
 i210:=by kernel_rfl
 i212:=by kernel_rfl
 i232:=by kernel_rfl
 i233:=by kernel_rfl
 m15:=by kernel_rfl
 m16:=by kernel_rfl
 m17:=by kernel_rfl
 m18:=by kernel_rfl
 m19:=by kernel_rfl
 c0:=by kernel_rfl
 c2:=by kernel_rfl
 c3:=by kernel_rfl
 c4:=by kernel_rfl
 c5:=by kernel_rfl
 c9:=by kernel_rfl
 c20:=by kernel_rfl
 c21:=by kernel_rfl
 c37:=by kernel_rfl
 c46:=by kernel_rfl
 c51:=by kernel_rfl
 c53:=by kernel_rfl
 c75:=by kernel_rfl
 c80:=by kernel_rfl
 c85:=by kernel_rfl
 c127:=by kernel_rfl
 c143:=by kernel_rfl
 c145:=by kernel_rfl
 c167:=by kernel_rfl
 c168:=by kernel_rfl
 c171:=by kernel_rfl
 c173:=by kernel_rfl
 c175:=by kernel_rfl
 c210:=by kernel_rfl
 c212:=by kernel_rfl
 c213:=by kernel_rfl
 c232:=by kernel_rfl
 c233:=by kernel_rfl}
open Go.Ev Go.RowKit Go.Shelf
set_option maxRecDepth 100000
theorem ajs:EG Tryz.prog 317:=⟨_,Tryz.func317,by decide,rfl⟩
noncomputable def aeZ(args:LA)(O:St):Option (AV×St):=
 match args with
 |[.str s,.int .i64 a,.int .i64 b]=>if a=10/\b=64/\s.length<=1099511627776 then match Lib.parseIntB 64 s with
  |.ok v=>some (.tup [.int .i64 v,.nilIface],O)
  |.range=>some (.tup [.int .i64 (Lib.intSat 64 s),.iface 430 (.eptr [])],O)
  |_=>some (.tup [.int .i64 0,.iface 430 (.eptr [])],O)
  else none
 |_=>none
def am8:AV->Bool
 |.iface _ _=>true
 |_=>false
theorem adf{C:Ctx}{g:Gh}{w:World}{O:St}(hw:WR g w O)(hg:GL C g){n:Nat}{e:AV}(h:C.gl n=some [e])(hi:am8 e=true):∃ev,w.cell? ⟨n,0,none⟩=some ev/\(ev=.nilIface\/∃te pe,ev=.iface te pe):=by
 obtain⟨v,h1,h2⟩:=(hg.1 n _ h).1.get (i:=0) (a:=e) rfl;refine⟨v,hw.im _ _ _ h1,?_⟩;cases h2<;>first|(cases hi;done)|exact .inr ⟨_,_,rfl⟩
theorem amF{C:Ctx}(hP:C.P=Tryz.prog){e1 e2:AV}(h1:C.gl pO=some [e1])(h2:C.gl nX=some [e2])(i1:am8 e1=true)(i2:am8 e2=true):POK C 317 aeZ:=by
 intro args O v O' h g w args' ha hw hg;unfold aeZ at h;split at h
 ·rename_i s a b;split at h
  ·rename_i hc;obtain⟨rfl,rfl,hl⟩:=hc;cases ha with
   |cons _ v1 _ l1 x1 y1=>
   cases y1 with
   |cons _ v2 _ l2 x2 y2=>
   cases y2 with
   |cons _ v3 _ l3 x3 y3=>
   cases y3;cases x1;cases x2;cases x3;have hsz:(⟨⟨s⟩⟩:ByteArray).size=s.length:=rfl;obtain⟨ev1,c1,d1⟩:=adf hw hg h1 i1;obtain⟨ev2,c2,d2⟩:=adf hw hg h2 i2;refine Bd (by rw[hP];exact ajs) ?_
   rw[hP];cases hz:Lib.parseIntB 64 s
   ·rename_i z;rw[hz]at h;cases h;refine(Any.strconv_ParseInt_10_at64_ok Tryz.laysPI ⟨⟨s⟩⟩ (by rw[hsz];omega) z hz w).mono fun e w' ⟨he,hw'⟩=>⟨_,he,g,?_,.tup _ _ (.cons _ _ _ _ (.int _ _) (.cons _ _ _ _ .nilIface .nil))⟩
    refine ul hw ?_;rcases hw' with rfl|⟨t,rfl⟩
    ·exact Below.refl _ _
    ·exact Lib.bytesWorld_below _ _ _
   ·rw[hz]at h;cases h;exact(Any.strconv_ParseInt_10_at64_syntax Tryz.laysPI ⟨⟨s⟩⟩ (by rw[hsz];omega) hz ev2 w c2 d2).mono fun e w' ⟨n,he,_,_,hb⟩=>⟨_,he,g,ul hw hb,.tup _ _ (.cons _ _ _ _ (.int _ _) (.cons _ _ _ _ (.iface _ _ _ (.eptr _ _ _ (.nil _ _))) .nil))⟩
   ·rw[hz]at h;cases h;exact(Any.strconv_ParseInt_10_at64_range Tryz.laysPI ⟨⟨s⟩⟩ (by rw[hsz];omega) hz ev1 w c1 d1).mono fun e w' ⟨n,he,_,_,hb⟩=>⟨_,he,g,ul hw hb,.tup _ _ (.cons _ _ _ _ (.int _ _) (.cons _ _ _ _ (.iface _ _ _ (.eptr _ _ _ (.nil _ _))) .nil))⟩
  ·cases h
 ·cases h
end Go.Proofs.YtegpahkgmealkaaGreatDoor
