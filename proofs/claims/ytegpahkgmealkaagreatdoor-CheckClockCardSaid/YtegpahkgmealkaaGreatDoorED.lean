/- An evaluator of the model, proved sound. No conditions. -/
import Derived.Test.YtegpahkgmealkaaGreatDoorEC
set_option linter.unusedVariables false
set_option linter.unusedSimpArgs false
namespace Go.Ev
variable{C:Ctx}{call:bD}{n:Nat}
abbrev RX:=Option (XE×As×St)
def aio(r:RX)(k:As->St->RX):RX:=match r with
 |some (.normal,e,O)=>k e O
 |r=>r
def QY(id:Nat)(r:RX):RX:=match r with
 |some (.exit i,e,O)=>some (if i=id then .normal else .exit i,e,O)
 |r=>r
def ahP(r:Option (As×St)):RX:=match r with
 |some (e,O)=>some (.normal,e,O)
 |none=>none
noncomputable def agb(C:Ctx)(call:bD)(n:Nat)(v:AV)(a b:KC)(e:As)(O:St):RX:=match v with
 |.bool true=>dI C call n a e O
 |.bool false=>dI C call n b e O
 |_=>none
noncomputable def ogK(C:Ctx)(call:bD)(n:Nat)(b:Bool)(d:Option Nat)(i:XI)(l:List XOp)(e:As)(O:St):Option (As×St):=match b with
 |true=>out call d e (aj C (avA C e) n O i) (dD C call n l)
 |false=>dD C call n l (yg e d .undef) O
def ZW(r:RX)(k:As->St->RX):RX:=match r with
 |some (.normal,e,O)=>k e O
 |r=>r
def ag3(d:Option Nat)(e:As)(r:Option (AV×St))(k:As->St->Option (As×St)):Option (As×St):=match r with
 |some (v,O)=>k (yg e d v) O
 |none=>none
def BN(n:Nat)(rs:List XR)(r:RX):Option (AV×St):=match r with
 |some (.exit _,_,_)=>none
 |none=>none
 |some (_,e,O2)=>match bI e O2 rs with
  |none=>none
  |some vs=>match hand false vs O2 with
   |none=>none
   |some (vs,O3)=>some (bi vs,tidy n vs O3)
theorem PN(e O k):aio (some (.normal,e,O)) k=k e O:=rfl
theorem WF(i e O k):aio (some (.exit i,e,O)) k=some (.exit i,e,O):=rfl
theorem aao(e O k):aio (some (.ret,e,O)) k=some (.ret,e,O):=rfl
theorem WG(k):aio none k=none:=rfl
theorem Iu(id e O):QY id (some (.normal,e,O))=some (.normal,e,O):=rfl
theorem OE(id i e O):QY id (some (.exit i,e,O))=some (if i=id then .normal else .exit i,e,O):=rfl
theorem QZ(id e O):QY id (some (.ret,e,O))=some (.ret,e,O):=rfl
theorem OG(id):QY id none=none:=rfl
theorem MC(e O k):ZW (some (.normal,e,O)) k=k e O:=rfl
theorem Tv(i e O k):ZW (some (.exit i,e,O)) k=some (.exit i,e,O):=rfl
theorem VW(e O k):ZW (some (.ret,e,O)) k=some (.ret,e,O):=rfl
theorem Tz(k):ZW none k=none:=rfl
theorem Wl(e O):ahP (some (e,O))=some (.normal,e,O):=rfl
theorem Wj:ahP none=none:=rfl
theorem Rt(a b e O):agb C call n (.bool true) a b e O=dI C call n a e O:=rfl
theorem OO(a b e O):agb C call n (.bool false) a b e O=dI C call n b e O:=rfl
theorem aa1(d i l e O):ogK C call n true (some d) i l e O=out call (some d) e (aj C (avA C e) n O i) (dD C call n l):=rfl
theorem Wh(d i l e O):ogK C call n false (some d) i l e O=dD C call n l ((d,.undef)::e) O:=rfl
theorem aaz(i l e O):ogK C call n true none i l e O=out call none e (aj C (avA C e) n O i) (dD C call n l):=rfl
theorem WO(i l e O):ogK C call n false none i l e O=dD C call n l e O:=rfl
theorem KO(b:Bool):nI b .undef=false:=by cases b<;>rfl
theorem ale(d t:Nat)(b:Bool)(i:XI)(l:List XOp)(e:As)(O:St):dD C call n (og d t b i::l) e O=ogK C call n (nI b (look e t)) (some d) i l e O:=by
 rw[RI];unfold ogK;cases nI b (look e t)<;>rfl
theorem alf(t:Nat)(b:Bool)(i:XI)(l:List XOp)(e:As)(O:St):dD C call n (ug t b i::l) e O=ogK C call n (nI b (look e t)) none i l e O:=by
 rw[RJ];unfold ogK;cases nI b (look e t)<;>rfl
theorem Ro(d e v O k):ag3 (some d) e (some (v,O)) k=k ((d,v)::e) O:=rfl
theorem OM(e v O k):ag3 none e (some (v,O)) k=k e O:=rfl
theorem Wq(d:Option Nat)(e:As)(f:FuncId)(args:LA)(O:St)(k):out call d e (some (.call f args O)) k=ag3 d e (call f args O) k:=rfl
theorem qJ(n rs e O):BN n rs (some (.ret,e,O))=match bI e O rs with
 |none=>none
 |some vs=>match hand false vs O with
  |none=>none
  |some (vs,O3)=>some (bi vs,tidy n vs O3):=rfl
theorem OT(n rs e O):BN n rs (some (.normal,e,O))=match bI e O rs with
 |none=>none
 |some vs=>match hand false vs O with
  |none=>none
  |some (vs,O3)=>some (bi vs,tidy n vs O3):=rfl
theorem Vr(n rs):BN n rs none=none:=rfl
theorem aiv(l:List XOp)(e:As)(O:St):dI C call n (.ops l) e O=ahP (dD C call n l e O):=rfl
theorem aau(l:List XOp)(e:As)(O:St):dI C call n (.plain l) e O=ahP (dD C call n l e O):=rfl
theorem aat(l:List XOp)(e:As)(O:St):dI C call n (.drawn l) e O=ahP (vw C call n l e O):=rfl
theorem aiw(a b:KC)(e:As)(O:St):dI C call n (.seq a b) e O=aio (dI C call n a e O) (dI C call n b):=rfl
theorem adT(c:XA)(a b:KC)(e:As)(O:St):dI C call n (.cond c a b) e O=agb C call n (avA C e c) a b e O:=rfl
theorem aas(id:Nat)(b:KC)(e:As)(O:St):dI C call n (.block id b) e O=QY id (dI C call n b e O):=rfl
theorem aA{k:List Nat}{b:KC}{e:As}(he:keepA k e=e)(O:St):aB C call n k b e O=ZW (dI C call n b e O) fun e' O'=>aB C call n k b (keepA k e') O':=iE C call n he O
theorem Has.go{f:FuncId}{K:KF}(h:Has C f K){args args':LA}{O:St}(hn:hand false args O=some (args',O))(hl:Nat.ble args'.length K.ntmps=true:=by rfl):ai C f args O=BN O.length K.results (dI C (ai C) K.ntmps K.body (mg 0 args') O):=by
 have hl:=Nat.not_lt.mpr (Nat.le_of_ble_eq_true hl);rw[h.run];unfold yH;rw[hn];dsimp only;rw[if_neg hl];rfl
theorem lm:∀x y:LU,iH x y=decide (x=y)
 |[],[]=>by simp[iH]
 |[],_::_=>by simp[iH]
 |_::_,[]=>by simp[iH]
 |a::x,b::y=>by
  rw[iH,lm x y];by_cases h:a=b<;>simp[h]
theorem afU(x y:LU):pF .eql x y=some (.bool (decide (x=y))):=by rw[<-lm];rfl
theorem jA(x y:LU):pF .neq x y=some (.bool !(decide (x=y))):=by rw[<-lm];rfl
theorem afY(x y:LU):pF .lss x y=some (.bool (Op.bytesLess x y)):=rfl
theorem afX(x y:LU):pF .leq x y=some (.bool (Op.bytesLess x y||decide (x=y))):=by rw[<-lm];rfl
theorem afW(x y:LU):pF .gtr x y=some (.bool !(Op.bytesLess x y||decide (x=y))):=by rw[<-lm];rfl
theorem afV(x y:LU):pF .geq x y=some (.bool !(Op.bytesLess x y)):=rfl
def ake(A:As)(O:St)(v:AV)(r:Option (As×St×List (As×AV)×List St)):Option (As×St×List (As×AV)×List St):=match r with
 |some (A',O'',rs,ss)=>some (A',O'',(A,v)::rs,O::ss)
 |none=>none
def WI(d:Option Nat)(A:As)(O:St)(x:Option (AV×St))(k:As->St->Option (As×St×List (As×AV)×List St)):=match x with
 |some (v,O')=>ake A O v (k (yg A d v) O')
 |none=>none
def opR(call:bD)(x:Option Out):Option (AV×St):=match x with
 |some (.val v O')=>some (v,O')
 |some (.call f args O')=>call f args O'
 |none=>none
theorem ai6(A:As)(O:St):lD C call n [] A O=some (A,O,[],[O]):=rfl
theorem aoK(d:Nat)(i:XI)(l:List XOp)(A:As)(O:St):lD C call n (o d i::l) A O=WI (some d) A O (opR call (aj C (avA C A) n O i)) (lD C call n l):=rfl
theorem aoL(i:XI)(l:List XOp)(A:As)(O:St):lD C call n (u i::l) A O=WI none A O (opR call (aj C (avA C A) n O i)) (lD C call n l):=rfl
theorem aoJ(d s:Nat)(l:List XOp)(A:As)(O:St):lD C call n (m d s::l) A O=WI (some d) A O (some (look A s,O)) (lD C call n l):=rfl
theorem aoM(d:Option Nat)(i:XI)(c:List Nat)(l:List XOp)(A:As)(O:St):lD C call n (⟨d,i,none,c⟩::l) A O=WI d A O (opR call (aj C (avA C A) n O i)) (lD C call n l):=rfl
theorem Um(d A O v O' k):WI (some d) A O (some (v,O')) k=ake A O v (k ((d,v)::A) O'):=rfl
theorem PQ(A O v O' k):WI none A O (some (v,O')) k=ake A O v (k A O'):=rfl
theorem adB(v O):opR call (some (.val v O))=some (v,O):=rfl
theorem aa2(f args O):opR call (some (.call f args O))=call f args O:=rfl
theorem WC(A O v A' O' rs ss):ake A O v (some (A',O',rs,ss))=some (A',O',(A,v)::rs,O::ss):=rfl
def akF(C:Ctx)(n:Nat)(l:List XOp)(r:Option (As×St×List (As×AV)×List St)):Option (As×St):=match r with
 |some (A',O',rs,ss)=>if dN C n ss l rs then some (A',O')else none
 |none=>none
theorem agh(l:List XOp)(A:As)(O:St):vw C call n l A O=akF C n l (lD C call n l A O):=rfl
theorem acT(l:List XOp)(A' O' rs ss):akF C n l (some (A',O',rs,ss))=if dN C n ss l rs then some (A',O')else none:=rfl
theorem ai4(ss:List St)(l):dN C n ss [] l=true:=rfl
theorem aoD(d:Nat)(i:XI)(l:List XOp)(ss:List St)(A:As)(v:AV)(rs):dN C n ss (o d i::l) ((A,v)::rs)=dN C n ss l rs:=by
 show((!jo (o d i) A||iF C n (o d i) A v ss [])&&_)=_;rw[iF,Bool.or_true,Bool.true_and]
theorem aoE(i:XI)(l:List XOp)(ss:List St)(A:As)(v:AV)(rs):dN C n ss (u i::l) ((A,v)::rs)=dN C n ss l rs:=by
 show((!jo (u i) A||iF C n (u i) A v ss [])&&_)=_;rw[iF,Bool.or_true,Bool.true_and]
theorem aoC(d s:Nat)(l:List XOp)(ss:List St)(A:As)(v:AV)(rs):dN C n ss (m d s::l) ((A,v)::rs)=dN C n ss l rs:=by
 show((!jo (m d s) A||iF C n (m d s) A v ss [])&&_)=_;rw[iF,Bool.or_true,Bool.true_and]
def reR(C:Ctx)(n:Nat)(A:As)(i:XI)(v:AV)(s s':Option St):Bool:=match s,s' with
 |some s,some s'=>(match aj C (avA C A) n s i,aj C (avA C A) n s' i with
  |some (.val v1 _),some (.val v2 _)=>same v1 v&&same v2 v
  |_,_=>false)
 |_,_=>false
def reO(v:AV)(x y:Option Out):Bool:=match x,y with
 |some (.val v1 _),some (.val v2 _)=>same v1 v&&same v2 v
 |_,_=>false
theorem aad(A:As)(i:XI)(v:AV)(s s':St):reR C n A i v (some s) (some s')=reO v (aj C (avA C A) n s i) (aj C (avA C A) n s' i):=rfl
theorem adG(v v1 v2:AV)(s1 s2:St):reO v (some (.val v1 s1)) (some (.val v2 s2))=(same v1 v&&same v2 v):=rfl
theorem aoF(d:Option Nat)(i:XI)(c:List Nat)(l:List XOp)(ss:List St)(A:As)(v:AV)(rs):dN C n ss (⟨d,i,none,c⟩::l) ((A,v)::rs)=((c.all fun c=>reR C n A i v ss[c]? ss[c+1]?)&&dN C n ss l rs):=by
 show((!jo ⟨d,i,none,c⟩ A||iF C n ⟨d,i,none,c⟩ A v ss c)&&_)=_;have:∀c':List Nat,iF C n ⟨d,i,none,c⟩ A v ss c'=c'.all fun c=>reR C n A i v ss[c]? ss[c+1]?:=by
  intro c'
  induction c' with
  |nil=>rfl
  |cons x c' ih=>rw[iF,ih,List.all_cons];rfl
 rw[this];rfl
theorem F6(k:IntKind)(a:Int):same (.int k a) (.int k a)=true:=by cases k<;>simp[same]<;>rfl
theorem CW(s:LU):same (.str s) (.str s)=true:=by simp[same,lm]
theorem Hz(b:Bool):same (.bool b) (.bool b)=true:=by simp[same]
theorem cu(O L:St):(O++L)[O.length]?=L[0]?:=by rw[List.getElem?_append_right (Nat.le_refl _),Nat.sub_self]
theorem dW(O L:St)(k:Nat):(O++L)[O.length+k]?=L[k]?:=by rw[List.getElem?_append_right (Nat.le_add_right _ _),Nat.add_sub_cancel_left]
theorem Ee(O L:St)(x:AO):(O++L).set O.length x=O++L.set 0 x:=by rw[List.set_append_right _ _ (Nat.le_refl _),Nat.sub_self]
theorem F9(O L:St)(k:Nat)(x:AO):(O++L).set (O.length+k) x=O++L.set k x:=by rw[List.set_append_right _ _ (Nat.le_add_right _ _),Nat.add_sub_cancel_left]
theorem st_len(O L:St):(O++L).length=O.length+L.length:=List.length_append
theorem aiC(O L M:St):O++L++M=O++(L++M):=List.append_assoc _ _ _
theorem aX(O:St)(vs:LA):tidy O.length vs O=O:=CY O vs
theorem df{O:St}(hσ:Ok O){vs:LA}(hv:ae 0 vs=true)(l:St):tidy O.length vs (O++l)=O:=yz hσ (aK (Nat.zero_le _) _ hv) l
theorem adW{O:St}(hσ:Ok O){L:St}(hl:L.all (AO.below (O.length+L.length))=true):Ok (O++L):=hσ.app hl
theorem adw(O r)(b:Bool):aU O r (.bool b)=some (.bool b,[]):=rfl
theorem abN(O r)(k:IntKind)(i:Int):aU O r (.int k i)=some (.int k i,[]):=rfl
theorem ahI(O r)(s:LU):aU O r (.str s)=some (.str s,[]):=rfl
theorem al4(O r)(i:Nat)(l:LA):aU O r (.sl i l)=some (.sl i l,[]):=rfl
structure NV(v:AV):Prop where
 nf:∀O r,aU O r v=some (v,[])
 cl:below 0 v=true
def NVs(l:LA):Prop:=∀v∈l,NV v
theorem NVs.nil:NVs []:=fun v h=>nomatch h
theorem NVs.cons{v l}(h:NV v)(k:NVs l):NVs (v::l):=fun x hx=>by
 rcases List.mem_cons.mp hx with rfl|hx
 ·exact h
 ·exact k x hx
theorem NVs.app{a b}(h:NVs a)(k:NVs b):NVs (a++b):=fun x hx=>by
 rcases List.mem_append.mp hx with hx|hx
 ·exact h x hx
 ·exact k x hx
theorem NVs.nf:∀{l:LA},NVs l->∀O r,aJ O r l=some (l,[])
 |[],_,_,_=>rfl
 |v::l,h,O,r=>by
  show(match aU O r v,aJ O r l with|some (v,fs),some (l,gs)=>some (v::l,fs++gs)|_,_=>none)=_
  rw[(h v (by simp)).nf,NVs.nf (fun x hx=>h x (by simp[hx]))]
  rfl
theorem NVs.cl:∀{l:LA},NVs l->ae 0 l=true
 |[],_=>rfl
 |v::l,h=>by
  rw[ae,(h v (by simp)).cl,NVs.cl (fun x hx=>h x (by simp[hx]))];rfl
theorem NV.bool(b:Bool):NV (.bool b):=⟨fun _ _=>rfl,rfl⟩
theorem NV.int(k:IntKind)(i:Int):NV (.int k i):=⟨fun _ _=>rfl,rfl⟩
theorem NV.str(s:LU):NV (.str s):=⟨fun _ _=>rfl,rfl⟩
theorem NV.sl(i:Nat){l:LA}(h:ae 0 l=true):NV (.sl i l):=⟨fun _ _=>rfl,by rw[below];exact h⟩
theorem NV.agg{l:LA}(h:NVs l):NV (.agg l):=⟨fun O r=>by
 show(match aJ O r l with|some (l,fs)=>some (AV.agg l,fs)|none=>none)=_
 rw[h.nf],by rw[below];exact h.cl⟩
theorem NV.tup{l:LA}(h:NVs l):NV (.tup l):=⟨fun O r=>by
 show(match aJ O r l with|some (l,fs)=>some (AV.tup l,fs)|none=>none)=_
 rw[h.nf],by rw[below];exact h.cl⟩
theorem NVs.hand{l:LA}(h:NVs l)(O:St):hand false l O=some (l,O):=by
 show(match bZ O 12 l with|some (l,fs)=>some (l,freeze O fs)|none=>none)=_
 rw[show bZ O 12 l=aJ O (bZ O 11) l from rfl,h.nf];rfl
theorem adV(a x:AV)(l v:LA):splice (a::l) 0 (x::v)=x::splice l 0 v:=by simp[splice]
theorem aiB(l:LA):splice l 0 []=l:=by simp[splice]
theorem acx(O:St)(sz bytes:Nat)(ty)(i:Nat)(l cs:LA):qV O sz bytes ty (.sl i l) 0 cs=some (.sl i l,O):=rfl
theorem YR(O:St)(sz bytes:Nat)(ty)(cs:LA):qV O sz bytes ty .nils 0 cs=some (.nils,O):=rfl
theorem Dj(O:St){sz bytes:Nat}(ty){m:Nat}(cs:LA)(hm:¬m=0)(h1:m*bytes<=70368744177664)(h2:m<=70368744177664):qV O sz bytes ty .nils m cs=some (.msl O.length 0 m sz,O++[.cells cs ⟨false,ty⟩]):=by
 unfold qV;rw[if_neg hm];dsimp only;rw[if_pos ⟨h1,h2⟩]
theorem aaT(O:St){sz bytes:Nat}(ty){n m:Nat}{l:LA}(cs:LA)(hm:¬m=0)(hl:l.length=n*sz)(h1:(n+m)*bytes<=70368744177664)(h2:n+m<=70368744177664):qV O sz bytes ty (.xsl n l) m cs=some (.msl O.length 0 (n+m) sz,O++[.cells (l++cs) ⟨false,ty⟩]):=by
 unfold qV;rw[if_neg hm];dsimp only;rw[if_pos ⟨hl,h1,h2⟩]
def afy(C:Ctx)(f:FuncId)(sz:Nat):Prop:=∀(n:Nat) (l:LA) (O:St),l.length=n*sz->n<=1099511627776->l.all UW=true->ai C f [.sl n l] O=some (.sl n l,O)
end Go.Ev
namespace Go.Ev
theorem EVB:type_of%@look_nil/\type_of%@Ho/\type_of%@Me/\type_of%@Hm/\type_of%@J8/\type_of%@Gs/\type_of%@MW/\type_of%@MV/\type_of%@H6/\type_of%@HY/\type_of%@Nb/\type_of%@Ec/\type_of%@H5/\type_of%@GZ/\type_of%@Qn/\type_of%@Qo/\type_of%@Qm/\type_of%@Qw/\type_of%@MJ/\type_of%@MI/\type_of%@aja/\type_of%@aj8/\type_of%@aj9/\type_of%@A7/\type_of%@yY/\type_of%@Kt/\type_of%@Gx/\type_of%@KD/\type_of%@Ku/\type_of%@QW/\type_of%@KN/\type_of%@zN/\type_of%@Kv/\type_of%@KE/\type_of%@KA/\type_of%@Kz/\type_of%@Ky/\type_of%@Kw/\type_of%@KG/\type_of%@KH/\type_of%@KI/\type_of%@KJ/\type_of%@KL/\type_of%@AY/\type_of%@xI/\type_of%@wJ/\type_of%@xH/\type_of%@xJ/\type_of%@Dl/\type_of%@Gw/\type_of%@Dq/\type_of%@Dp/\type_of%@Dn/\type_of%@xm/\type_of%@AZ/\type_of%@uX/\type_of%@uV/\type_of%@qc/\type_of%@zO/\type_of%@YE/\type_of%@YD/\type_of%@Du/\type_of%@G6/\type_of%@GI/\type_of%@LC/\type_of%@GR/\type_of%@LJ/\type_of%@Dw/\type_of%@G9/\type_of%@GN/\type_of%@LH/\type_of%@Dv/\type_of%@G7/\type_of%@Dx/\type_of%@Ha/\type_of%@GH/\type_of%@Lu/\type_of%@KR/\type_of%@He/\type_of%@GU/\type_of%@LK/\type_of%@GM/\type_of%@LG/\type_of%@GK/\type_of%@LD/\type_of%@yZ/\type_of%@Bj/\type_of%@cells_func/\type_of%@G8/\type_of%@xn/\type_of%@zk/\type_of%@Ba/\type_of%@DT/\type_of%@vg/\type_of%@xx/\type_of%@GG/\type_of%@BG/\type_of%@BF/\type_of%@aj.eq_1/\type_of%@aj.eq_2/\type_of%@aj.eq_3/\type_of%@aj.eq_4/\type_of%@aj.eq_5/\type_of%@aj.eq_6/\type_of%@aj.eq_7/\type_of%@aj.eq_8/\type_of%@aj.eq_9/\type_of%@Qh/\type_of%@QU/\type_of%@QV/\type_of%@Ko/\type_of%@NG/\type_of%@J9/\type_of%@Kq/\type_of%@Xm/\type_of%@acE/\type_of%@Xp/\type_of%@Xo/\type_of%@Xn/\type_of%@Gu/\type_of%@Qi/\type_of%@Dk/\type_of%@EM/\type_of%@xE/\type_of%@QT/\type_of%@aj.eq_10/\type_of%@aj.eq_11/\type_of%@XP/\type_of%@aj.eq_13/\type_of%@aj.eq_14/\type_of%@aj.eq_15/\type_of%@aj.eq_16/\type_of%@aj.eq_18/\type_of%@aj.eq_19/\type_of%@aj.eq_20/\type_of%@aj.eq_21/\type_of%@aj.eq_22/\type_of%@aj.eq_23/\type_of%@aj.eq_24/\type_of%@aj.eq_25/\type_of%@aj.eq_26/\type_of%@aj.eq_27/\type_of%@aj.eq_28/\type_of%@aj.eq_29/\type_of%@aj.eq_30/\type_of%@aj.eq_31/\type_of%@aj.eq_32/\type_of%@aj.eq_33/\type_of%@aj.eq_34/\type_of%@aj.eq_35/\type_of%@aj.eq_36/\type_of%@aj.eq_37/\type_of%@qM/\type_of%@aj.eq_39/\type_of%@aj.eq_40/\type_of%@aj.eq_41/\type_of%@aj.eq_42/\type_of%@aj.eq_43/\type_of%@aj.eq_44/\type_of%@aj.eq_45/\type_of%@aj.eq_46/\type_of%@aj.eq_47/\type_of%@LZ/\type_of%@PN/\type_of%@WF/\type_of%@aao/\type_of%@WG/\type_of%@Iu/\type_of%@OE/\type_of%@QZ/\type_of%@OG/\type_of%@MC/\type_of%@Tv/\type_of%@VW/\type_of%@Tz/\type_of%@Wl/\type_of%@Wj/\type_of%@Rt/\type_of%@OO/\type_of%@aa1/\type_of%@Wh/\type_of%@aaz/\type_of%@WO/\type_of%@ale/\type_of%@alf/\type_of%@Ro/\type_of%@OM/\type_of%@Wq/\type_of%@qJ/\type_of%@OT/\type_of%@Vr/\type_of%@aiv/\type_of%@aau/\type_of%@aat/\type_of%@aiw/\type_of%@adT/\type_of%@aas/\type_of%@afU/\type_of%@jA/\type_of%@afY/\type_of%@afX/\type_of%@afW/\type_of%@afV/\type_of%@adw/\type_of%@abN/\type_of%@ahI/\type_of%@al4/\type_of%@KO/\type_of%@adV/\type_of%@aiB/\type_of%@acx/\type_of%@YR/\type_of%@ai6/\type_of%@aoK/\type_of%@aoL/\type_of%@aoJ/\type_of%@aoM/\type_of%@Um/\type_of%@PQ/\type_of%@adB/\type_of%@aa2/\type_of%@WC/\type_of%@agh/\type_of%@acT/\type_of%@ai4/\type_of%@aoD/\type_of%@aoE/\type_of%@aoC/\type_of%@aoF/\type_of%@aad/\type_of%@adG/\type_of%@F6/\type_of%@CW/\type_of%@Hz/\type_of%@cu/\type_of%@dW/\type_of%@Ee/\type_of%@F9/\type_of%@st_len/\type_of%@aiC/\type_of%@aX:=
 ⟨@look_nil,@Ho,@Me,@Hm,@J8,@Gs,@MW,@MV,@H6,@HY,@Nb,@Ec,@H5,@GZ,@Qn,@Qo,@Qm,@Qw,@MJ,@MI,@aja,@aj8,@aj9,@A7,@yY,@Kt,@Gx,@KD,@Ku,@QW,@KN,@zN,@Kv,@KE,@KA,@Kz,@Ky,@Kw,@KG,@KH,@KI,@KJ,@KL,@AY,@xI,@wJ,@xH,@xJ,@Dl,@Gw,@Dq,@Dp,@Dn,@xm,@AZ,@uX,@uV,@qc,@zO,@YE,@YD,@Du,@G6,@GI,@LC,@GR,@LJ,@Dw,@G9,@GN,@LH,@Dv,@G7,@Dx,@Ha,@GH,@Lu,@KR,@He,@GU,@LK,@GM,@LG,@GK,@LD,@yZ,@Bj,@cells_func,@G8,@xn,@zk,@Ba,@DT,@vg,@xx,@GG,@BG,@BF,@aj.eq_1,@aj.eq_2,@aj.eq_3,@aj.eq_4,@aj.eq_5,@aj.eq_6,@aj.eq_7,@aj.eq_8,@aj.eq_9,@Qh,@QU,@QV,@Ko,@NG,@J9,@Kq,@Xm,@acE,@Xp,@Xo,@Xn,@Gu,@Qi,@Dk,@EM,@xE,@QT,@aj.eq_10,@aj.eq_11,@XP,@aj.eq_13,@aj.eq_14,@aj.eq_15,@aj.eq_16,@aj.eq_18,@aj.eq_19,@aj.eq_20,@aj.eq_21,@aj.eq_22,@aj.eq_23,@aj.eq_24,@aj.eq_25,@aj.eq_26,@aj.eq_27,@aj.eq_28,@aj.eq_29,@aj.eq_30,@aj.eq_31,@aj.eq_32,@aj.eq_33,@aj.eq_34,@aj.eq_35,@aj.eq_36,@aj.eq_37,@qM,@aj.eq_39,@aj.eq_40,@aj.eq_41,@aj.eq_42,@aj.eq_43,@aj.eq_44,@aj.eq_45,@aj.eq_46,@aj.eq_47,@LZ,@PN,@WF,@aao,@WG,@Iu,@OE,@QZ,@OG,@MC,@Tv,@VW,@Tz,@Wl,@Wj,@Rt,@OO,@aa1,@Wh,@aaz,@WO,@ale,@alf,@Ro,@OM,@Wq,@qJ,@OT,@Vr,@aiv,@aau,@aat,@aiw,@adT,@aas,@afU,@jA,@afY,@afX,@afW,@afV,@adw,@abN,@ahI,@al4,@KO,@adV,@aiB,@acx,@YR,@ai6,@aoK,@aoL,@aoJ,@aoM,@Um,@PQ,@adB,@aa2,@WC,@agh,@acT,@ai4,@aoD,@aoE,@aoC,@aoF,@aad,@adG,@F6,@CW,@Hz,@cu,@dW,@Ee,@F9,@st_len,@aiC,@aX⟩
set_option maxRecDepth 100000
variable{C:Ctx}
theorem jk(f:FuncId)(x y args:LA)(O:St):Dt C (.func (.func f) x y) args O=some (.call f (x++args++y) O):=rfl
theorem ajQ(O r)(f:Fn)(x y:LA):aU O r (.func f x y)=match aJ O r x,aJ O r y with
 |some (x,fs),some (y,gs)=>some (.func f x y,fs++gs)
 |_,_=>none:=rfl
theorem amr(O r)(n:Nat)(l:LA):aU O r (.xsl n l)=match aJ O r l with|some (l,fs)=>some (.sl n l,fs)|none=>none:=rfl
theorem zt(O r):aJ O r []=some ([],[]):=rfl
theorem aP(O r)(v:AV)(l:LA):aJ O r (v::l)=match aU O r v,aJ O r l with
 |some (v,fs),some (l,gs)=>some (v::l,fs++gs)
 |_,_=>none:=rfl
theorem sN(l:LA)(O:St):hand false l O=match aJ O (bZ O 11) l with|some (l,fs)=>some (l,freeze O fs)|none=>none:=rfl
theorem bu(O r)(l:LA):aU O r (.agg l)=match aJ O r l with|some (l,fs)=>some (.agg l,fs)|none=>none:=rfl
theorem dE(O r):aU O r .nils=some (.sl 0 [],[]):=rfl
theorem drop_at{l:LA}{i:Nat}{v:AV}(h:l[i]?=some v):∃r,l.drop i=v::r:=by
 have hi:=(List.getElem?_eq_some_iff.mp h).1;refine⟨l.drop (i+1),?_⟩;rw[List.drop_eq_getElem_cons hi];rw[List.getElem?_eq_getElem hi]at h;rw[Option.some.inj h]
theorem dA{α:Type}{f:α->LA}{k:Nat}(h:∀x,(f x).length=k):∀l:List α,(l.flatMap f).length=l.length*k
 |[]=>by simp
 |x::l=>by simp[h,dA h l,Nat.add_mul,Nat.add_comm]
theorem Vz{α:Type}{f:α->LA}{k:Nat}(h:∀x,(f x).length=k):∀(l:List α) (i:Nat),(l.flatMap f).drop (i*k)=(l.drop i).flatMap f
 |l,0=>by simp
 |[],i+1=>by simp
 |x::l,i+1=>by
  rw[List.flatMap_cons,List.drop_succ_cons,<-Vz h l i,Nat.add_mul,Nat.one_mul,Nat.add_comm];rw[<-h x,List.drop_append];simp
theorem nN{α:Type}{f:α->LA}(h:∀x,ae 0 (f x)=true):∀l:List α,ae 0 (l.flatMap f)=true
 |[]=>rfl
 |x::l=>by
  rw[List.flatMap_cons];have:=nN h l;revert this;have hx:=h x;revert hx;generalize f x=a;generalize l.flatMap f=b;intro ha hb
  induction a with
  |nil=>exact hb
  |cons v a ih=>
   rw[ae,Bool.and_eq_true]at ha;rw[List.cons_append,ae,ha.1,ih ha.2];rfl
theorem lL{α:Type}{f:α->LA}{k:Nat}(h:∀x,(f x).length=k){l:List α}{i:Nat}{x:α}(hx:l[i]?=some x):(l.flatMap f).drop (i*k)=f x++(l.drop (i+1)).flatMap f:=by
 have hi:i<l.length:=(List.getElem?_eq_some_iff.mp hx).1;have:l.drop i=x::l.drop (i+1):=by
  rw[List.drop_eq_getElem_cons hi];rw[List.getElem?_eq_getElem hi]at hx;rw[Option.some.inj hx]
 rw[Vz h,this,List.flatMap_cons]
theorem ZZ(a:Nat):adt false (.int .i64 5000) (.int .i64 (a:Int))=some (.int .i64 ((min 5000 a:Nat):Int)):=by
 show some (AV.int .i64 (if(a:Int)<5000 then(a:Int)else 5000))=_;have:(if(a:Int)<5000 then(a:Int)else 5000)=((min 5000 a:Nat):Int):=by split<;>omega
 rw[this]
theorem EVC:
 (∀{α:Type} (a:α),(a=a)=True)
 /\(∀{α:Type} {a:α} {azs bs:List α},a::azs++bs=a::(azs++bs))
 /\(∀{α:Type} (azs:List α),[]++azs=azs)
 /\(∀{α:Type} (azs:List α),azs++[]=azs)
 /\(∀{α:Type} {a:α} {azs:List α},(a::azs).length=azs.length+1)
 /\(∀{α:Type},([]:List α).length=0)
 /\(∀{α β:Type} {f:α->β} {a:α} {l:List α},List.map f (a::l)=f a::List.map f l)
 /\(∀{α β:Type} {f:α->β},List.map f []=[])
 /\(∀{α:Type} {_:Decidable True} (t e:α),(if True then t else e)=t)
 /\(∀{α:Type} {_:Decidable False} (t e:α),(if False then t else e)=e)
 /\(∀{α β:Type} (a:α) (f:α->β),Option.map f (some a)=some (f a))
 /\(∀{α β:Type} (f:α->β),Option.map f none=none)
 /\(!true)=false
 /\(!false)=true
 /\(false=true)=False
 /\(∀(h:Decidable True),decide True=true)
 /\(∀(h:Decidable False),decide False=false)
 /\(∀{p:Prop} [Decidable p],(decide p=true)=p)
 /\(∀(b:Bool),((!b)=true)=(b=false))
 /\(∀{p:Prop} {x:Decidable p},decide p=false↔¬p)
 /\(∀{α:Type} {a:α} {l:List α},(a::l)[0]?=some a)
 /\(∀{α:Type} {a:α} {i:Nat} {l:List α},(a::l)[i+1]?=l[i]?)
 /\(∀{α β:Type},(bind:Option α->(α->Option β)->Option β)=Option.bind)
 /\(∀{α β:Type} (a:α) (f:α->Option β),(some a).bind f=f a)
 /\(∀{α:Type},(pure:α->Option α)=some)
 /\(∀(p:Prop),(p/\p)=p)
 /\(∀(p:Prop),(True/\p)=p)
 /\(∀(p:Prop),(p/\True)=p)
 /\(∀{α:Type} {a:α} {l:List α} {f:α->Bool},(a::l).all f=(f a&&l.all f))
 /\(∀{α:Type} {f:α->Bool},[].all f=true)
 /\(∀(b:Bool),(b&&b)=b)
 /\(∀(b:Bool),(b&&true)=b)
 /\(∀(b:Bool),(true&&b)=b)
 /\(∀{α:Type} {a:α} {azs:List α} {i:Nat},List.take (i+1) (a::azs)=a::List.take i azs)
 /\(∀{α:Type} {l:List α},List.take 0 l=[])
 /\(∀{α:Type} {i:Nat},List.take i ([]:List α)=[])
 /\(∀{α:Type} {a:α} {l:List α} {i:Nat},List.drop (i+1) (a::l)=List.drop i l)
 /\(∀{α:Type} {l:List α},List.drop 0 l=l)
 /\(∀{α:Type} {i:Nat},List.drop i ([]:List α)=[])
 /\(∀(n:Nat),0+n=n)
 /\(∀(n:Nat),n+0=n)
 /\(∀{α:Type} [BEq α] [LawfulBEq α] (a:α),(a !=a)=false)
 /\(∀(b:Bool),(b||false)=b)
 /\(∀(b:Bool),(false||b)=b)
 /\(∀(n:Nat),n*1=n)
 /\(∀(n:Nat),1*n=n)
 /\(∀(n:Nat),n<=n)
 /\(∀{α:Type} [LT α] {x y:α},x>y↔y<x)
 /\(∀{α:Type} {a:α} {l:List α},(a::l).head? =some a)
 /\∀{n:Nat},@Nat.cast Int instNatCastInt (no_index (OfNat.ofNat n))=OfNat.ofNat n:=And.intro @eq_self.{1} (And.intro @List.cons_append.{0} (And.intro @List.nil_append.{0} (And.intro @List.append_nil.{0} (And.intro @List.length_cons.{0} (And.intro @List.length_nil.{0} (And.intro @List.map_cons.{0,0} (And.intro @List.map_nil.{0,0} (And.intro @if_true.{1} (And.intro @if_false.{1} (And.intro @Option.map_some.{0,0} (And.intro @Option.map_none.{0,0} (And.intro @Bool.not_true (And.intro @Bool.not_false (And.intro @Bool.false_eq_true (And.intro @decide_true (And.intro @decide_false (And.intro @decide_eq_true_eq (And.intro @Bool.not_eq_true' (And.intro @decide_eq_false_iff_not (And.intro @List.getElem?_cons_zero.{0} (And.intro @List.getElem?_cons_succ.{0} (And.intro @Option.bind_eq_bind.{0} (And.intro @Option.bind_some.{0,0} (And.intro @Option.pure_def.{0} (And.intro @and_self (And.intro @true_and (And.intro @and_true (And.intro @List.all_cons.{0} (And.intro @List.all_nil.{0} (And.intro @Bool.and_self (And.intro @Bool.and_true (And.intro @Bool.true_and (And.intro @List.take_succ_cons.{0} (And.intro @List.take_zero.{0} (And.intro @List.take_nil.{0} (And.intro @List.drop_succ_cons.{0} (And.intro @List.drop_zero.{0} (And.intro @List.drop_nil.{0} (And.intro @Nat.zero_add (And.intro @Nat.add_zero (And.intro @bne_self_eq_false.{0} (And.intro @Bool.or_false (And.intro @Bool.false_or (And.intro @Nat.mul_one (And.intro @Nat.one_mul (And.intro @Nat.le_refl (And.intro @gt_iff_lt.{0} (And.intro @List.head?_cons.{0} (@Int.cast_ofNat_Int)))))))))))))))))))))))))))))))))))))))))))))))))
theorem EVD:
 (∀(n:Nat),((n:Int)).toNat=n)
 /\Int.toNat 0=0
 /\(∀{α:Type} (a:α) (l:List α),a::l≠[])
 /\(∀{α:Type} [LE α] {x y:α},x>=y↔y<=x)
 /\(∀(a:Int),a<=a)
 /\(∀{α:Type} [BEq α] [ReflBEq α] (a:α),(a==a)=true)
 /\(∀{α:Type} {x:α} {xs:List α} {i:Nat} {a:α},(x::xs).set (i+1) a=x::xs.set i a)
 /\(∀{α:Type} {x:α} {xs:List α} {a:α},(x::xs).set 0 a=a::xs)
 /\∀(n m:Nat),n<=m+n:=And.intro @Int.toNat_natCast (And.intro @Int.toNat_zero (And.intro @List.cons_ne_nil.{0} (And.intro @ge_iff_le.{0} (And.intro @Int.le_refl (And.intro @beq_self_eq_true.{0} (And.intro @List.set_cons_succ.{0} (And.intro @List.set_cons_zero.{0} (@Nat.le_add_left))))))))
def ckQ(l:List XOp)(c:KC):KC:=.seq (.ops l) c
def cqL(d n x:Nat):XOp:=o d (.load true n (.t x))
def cqF(d x:Nat):XOp:=o d (.load false 1 (.t x))
def cqA(d n x:Nat):XOp:=o d (.fieldAddr n (.t x))
def cqE(d x n:Nat):XOp:=o d (.extract (.t x) n)
def cqS(n x y:Nat):XOp:=u (.store n (.t x) (.t y))
def cqB(d:Nat)(b:BinOp)(k:Nat)(c:Bool)(x y:Nat):XOp:=o d (.bin b k c (.t x) (.t y))
def cqC(d:Nat)(b:BinOp)(k:Nat)(c:Bool)(x:Nat)(n:Int):XOp:=o d (.bin b k c (.t x) (.c (.int .i64 n)))
def cqK(d f:Nat)(l:List Nat):XOp:=o d (.callF f (l.map .t))
def cqN(d k x:Nat):XOp:=o d (.len k (.t x))
def cqI(d:Nat)(n:Int):XOp:=o d (.mv (.c (.int .i64 n)))
def cqT(d:Nat)(b:Bool):XOp:=o d (.mv (.c (.bool b)))
def cvI(n:Int):AV:=.int .i64 n
def cvU(n:Int):AV:=.int .u8 n
def cvE:AV:=.str []
def ccI(n:Int):XA:=.c (.int .i64 n)
def ccU(n:Int):XA:=.c (.int .u8 n)
def ccS(l:LU):XA:=.c (.str l)
def cqR:Nat->AV->LA->LA
 |0,_,l=>l
 |n+1,x,l=>x::cqR n x l
theorem EVQ:type_of%@cqR.eq_1/\type_of%@cqR.eq_2/\type_of%@ckQ.eq_1/\type_of%@cqL.eq_1/\type_of%@cqF.eq_1/\type_of%@cqA.eq_1/\type_of%@cqE.eq_1/\type_of%@cqS.eq_1/\type_of%@cqB.eq_1/\type_of%@cqC.eq_1/\type_of%@cqK.eq_1/\type_of%@cqN.eq_1/\type_of%@cqI.eq_1/\type_of%@cqT.eq_1/\type_of%@cvI.eq_1/\type_of%@cvU.eq_1/\type_of%@cvE.eq_1/\type_of%@ccI.eq_1/\type_of%@ccU.eq_1/\type_of%@ccS.eq_1:=⟨@cqR.eq_1,@cqR.eq_2,@ckQ.eq_1,@cqL.eq_1,@cqF.eq_1,@cqA.eq_1,@cqE.eq_1,@cqS.eq_1,@cqB.eq_1,@cqC.eq_1,@cqK.eq_1,@cqN.eq_1,@cqI.eq_1,@cqT.eq_1,@cvI.eq_1,@cvU.eq_1,@cvE.eq_1,@ccI.eq_1,@ccU.eq_1,@ccS.eq_1⟩
theorem EVU:type_of%@qK.eq_1/\type_of%@qK.eq_2/\type_of%@qK.eq_3/\type_of%@eqA.eq_1/\type_of%@eqA.eq_2/\type_of%@eqA.eq_3/\type_of%@eqA.eq_4/\type_of%@eqA.eq_5/\type_of%@bF.eq_1/\type_of%@bF.eq_2/\type_of%@bF.eq_3/\type_of%@bF.eq_4/\type_of%@bF.eq_5/\type_of%@bF.eq_6/\type_of%@bF.eq_7/\type_of%@bF.eq_8/\type_of%@bF.eq_9/\type_of%@bF.eq_10/\type_of%@bF.eq_11/\type_of%@bF.eq_12/\type_of%@bF.eq_13/\type_of%@bF.eq_14/\type_of%@bF.eq_15/\type_of%@bF.eq_16/\type_of%@bF.eq_17/\type_of%@bF.eq_18/\type_of%@bF.eq_19/\type_of%@bF.eq_20/\type_of%@bF.eq_21/\type_of%@bF.eq_22/\type_of%@bF.eq_23/\type_of%@bF.eq_24/\type_of%@bF.eq_25/\type_of%@bF.eq_26/\type_of%@bH.eq_1/\type_of%@bH.eq_2/\type_of%@bH.eq_3/\type_of%@bH.eq_4/\type_of%@bH.eq_5/\type_of%@bH.eq_6/\type_of%@bH.eq_7/\type_of%@bH.eq_8/\type_of%@bH.eq_9/\type_of%@bH.eq_10/\type_of%@bH.eq_11/\type_of%@jV.eq_1/\type_of%@jV.eq_2/\type_of%@dV.eq_1/\type_of%@dV.eq_2/\type_of%@pt.eq_1/\type_of%@bi.eq_1/\type_of%@bi.eq_2/\type_of%@hand.eq_1/\type_of%@bZ.eq_1/\type_of%@bZ.eq_2/\type_of%@aJ.eq_1/\type_of%@aJ.eq_2/\type_of%@aU.eq_1/\type_of%@aU.eq_2/\type_of%@aU.eq_3/\type_of%@aU.eq_4/\type_of%@aU.eq_5/\type_of%@aU.eq_6/\type_of%@aU.eq_7/\type_of%@aU.eq_8/\type_of%@aU.eq_9/\type_of%@freeze.eq_1/\type_of%@freeze.eq_2/\type_of%@iG.eq_1/\type_of%@iG.eq_2/\type_of%@fG.eq_1/\type_of%@fG.eq_2/\type_of%@fG.eq_3/\type_of%@fG.eq_4/\type_of%@fG.eq_5/\type_of%@fG.eq_6/\type_of%@isStr.eq_1/\type_of%@isStr.eq_2/\type_of%@vZ.eq_1/\type_of%@vZ.eq_2/\type_of%@rep.eq_1/\type_of%@rep.eq_2/\type_of%@AX.eq_1/\type_of%@AX.eq_2/\type_of%@Az.eq_1/\type_of%@Az.eq_2/\type_of%@Az.eq_3:=⟨@qK.eq_1,@qK.eq_2,@qK.eq_3,@eqA.eq_1,@eqA.eq_2,@eqA.eq_3,@eqA.eq_4,@eqA.eq_5,@bF.eq_1,@bF.eq_2,@bF.eq_3,@bF.eq_4,@bF.eq_5,@bF.eq_6,@bF.eq_7,@bF.eq_8,@bF.eq_9,@bF.eq_10,@bF.eq_11,@bF.eq_12,@bF.eq_13,@bF.eq_14,@bF.eq_15,@bF.eq_16,@bF.eq_17,@bF.eq_18,@bF.eq_19,@bF.eq_20,@bF.eq_21,@bF.eq_22,@bF.eq_23,@bF.eq_24,@bF.eq_25,@bF.eq_26,@bH.eq_1,@bH.eq_2,@bH.eq_3,@bH.eq_4,@bH.eq_5,@bH.eq_6,@bH.eq_7,@bH.eq_8,@bH.eq_9,@bH.eq_10,@bH.eq_11,@jV.eq_1,@jV.eq_2,@dV.eq_1,@dV.eq_2,@pt.eq_1,@bi.eq_1,@bi.eq_2,@hand.eq_1,@bZ.eq_1,@bZ.eq_2,@aJ.eq_1,@aJ.eq_2,@aU.eq_1,@aU.eq_2,@aU.eq_3,@aU.eq_4,@aU.eq_5,@aU.eq_6,@aU.eq_7,@aU.eq_8,@aU.eq_9,@freeze.eq_1,@freeze.eq_2,@iG.eq_1,@iG.eq_2,@fG.eq_1,@fG.eq_2,@fG.eq_3,@fG.eq_4,@fG.eq_5,@fG.eq_6,@isStr.eq_1,@isStr.eq_2,@vZ.eq_1,@vZ.eq_2,@rep.eq_1,@rep.eq_2,@AX.eq_1,@AX.eq_2,@Az.eq_1,@Az.eq_2,@Az.eq_3⟩
theorem EVY:type_of%@EVQ/\type_of%@EVC/\type_of%@EVA/\type_of%@EVU:=⟨@EVQ,@EVC,@EVA,@EVU⟩
theorem EVX:type_of%@EVQ/\type_of%@EVC/\type_of%@EVD/\type_of%@EVB/\type_of%@EVU:=⟨@EVQ,@EVC,@EVD,@EVB,@EVU⟩
open Go.RowKit
theorem agB {g:Gh} {w w':World} {O:St} (h:WR g w O) {o:Nat} {l l':LA} {tg:Option (TypeId×Bool)} (hx0:O[o]?=some (.cells l ⟨false,tg⟩)) (hos:w'.os=w.os) (htape:w'.tape=w.tape) (hout:w'.output=w.output) (hsz:w.heap.size<=w'.heap.size)
  (hne:∀k,k<w.heap.size->k≠g.ob o->w'.heap[k]?=w.heap[k]?) (hx:OR g w' o (.cells l' ⟨false,tg⟩)):Goes g O w g (O.set o (.cells l' ⟨false,tg⟩)) w':=by
 obtain⟨c,e,fr,h1,h2,h3,h4,h5,h6⟩:=h.obj o _ hx0;have him:∀i v,g.im (g.ob o) i≠some v:=fun i v hv=>absurd (h6 i v hv).1 (by simp)
 refine⟨.refl g,⟨by simp[h.n],fun b i v hv=>?_,fun b i v hv=>?_,fun k y hy=>?_,fun k k' y y' hy hy' hl hl' he=>?_⟩,hos,htape,hout,hsz,fun b hb hu=>⟨fun k y hy hl=>?_,hne b hb (fun e=>hu o _ hx0 rfl e.symm),fun _=>rfl⟩⟩
 ·have hb:b≠g.ob o:=fun hb=>him i v (hb▸hv);rw[qW (hne b (h.im_lt hv) hb)];exact h.im b i v hv
 ·have hb:b≠g.ob o:=fun hb=>him i v (hb▸hv);rw[hne b (h.im_lt hv) hb];exact h.uf b i v hv
 ·rcases jF hy with⟨hk,hz⟩|⟨rfl,_,rfl⟩
  ·exact OR.mono (h.obj k y hz) (.refl g) (h.lt hz) (fun hl=>hne _ (h.ob_lt hz hl) fun e=>hk (h.inj k o y _ hz hx0 hl rfl e)) (fun _ _ _ hv=>hv)
  ·exact hx
 ·rcases jF hy with⟨hk,hz⟩|⟨hk,_,rfl⟩
  ·rcases jF hy' with⟨hk',hz'⟩|⟨hk',_,rfl⟩
   ·exact h.inj k k' y y' hz hz' hl hl' he
   ·subst hk';exact absurd (h.inj k k' y _ hz hx0 hl rfl he) hk
  ·rcases jF hy' with⟨hk',hz'⟩|⟨hk',_,rfl⟩
   ·subst hk;exact absurd (h.inj k' k y' _ hz' hx0 hl' rfl he.symm) hk'
   ·rw[hk,hk']
 ·rcases jF hy with⟨hk,hz⟩|⟨hk,_,rfl⟩
  ·exact hu k y hz hl
  ·subst hk;exact hu k _ hx0 rfl
end Go.Ev
