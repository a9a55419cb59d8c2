/- An evaluator of the model, proved sound. No conditions. -/
import Derived.Test.YtpphohnabmlhpaaGreatDoorEC
set_option linter.unusedVariables false
set_option linter.unusedSimpArgs false
namespace Go.Ev
variable{C:Ctx}{call:bC}{n:Nat}
abbrev RX:=Option (XE×As×St)
def aib(r:RX)(k:As->St->RX):RX:=match r with
 |some (.normal,e,O)=>k e O
 |r=>r
def PE(id:Nat)(r:RX):RX:=match r with
 |some (.exit i,e,O)=>some (if i=id then .normal else .exit i,e,O)
 |r=>r
def ahF(r:Option (As×St)):RX:=match r with
 |some (e,O)=>some (.normal,e,O)
 |none=>none
noncomputable def afO(C:Ctx)(call:bC)(n:Nat)(v:AV)(a b:KC)(e:As)(O:St):RX:=match v with
 |.bool true=>dI C call n a e O
 |.bool false=>dI C call n b e O
 |_=>none
noncomputable def ogK(C:Ctx)(call:bC)(n:Nat)(b:Bool)(d:Option Nat)(i:XI)(l:List XOp)(e:As)(O:St):Option (As×St):=match b with
 |true=>out call d e (aj C (avA C e) n O i) (dm C call n l)
 |false=>dm C call n l (xy e d .undef) O
def YT(r:RX)(k:As->St->RX):RX:=match r with
 |some (.normal,e,O)=>k e O
 |r=>r
def afI(d:Option Nat)(e:As)(r:Option (AV×St))(k:As->St->Option (As×St)):Option (As×St):=match r with
 |some (v,O)=>k (xy e d v) O
 |none=>none
def AP(n:Nat)(rs:List XR)(r:RX):Option (AV×St):=match r with
 |some (.exit _,_,_)=>none
 |none=>none
 |some (_,e,O2)=>match bQ e O2 rs with
  |none=>none
  |some vs=>match hand false vs O2 with
   |none=>none
   |some (vs,O3)=>some (bD vs,tidy n vs O3)
theorem NU(e O k):aib (some (.normal,e,O)) k=k e O:=rfl
theorem U0(i e O k):aib (some (.exit i,e,O)) k=some (.exit i,e,O):=rfl
theorem Zz(e O k):aib (some (.ret,e,O)) k=some (.ret,e,O):=rfl
theorem U1(k):aib none k=none:=rfl
theorem Gy(id e O):PE id (some (.normal,e,O))=some (.normal,e,O):=rfl
theorem ML(id i e O):PE id (some (.exit i,e,O))=some (if i=id then .normal else .exit i,e,O):=rfl
theorem PG(id e O):PE id (some (.ret,e,O))=some (.ret,e,O):=rfl
theorem MN(id):PE id none=none:=rfl
theorem J9(e O k):YT (some (.normal,e,O)) k=k e O:=rfl
theorem QM(i e O k):YT (some (.exit i,e,O)) k=some (.exit i,e,O):=rfl
theorem UA(e O k):YT (some (.ret,e,O)) k=some (.ret,e,O):=rfl
theorem QN(k):YT none k=none:=rfl
theorem UM(e O):ahF (some (e,O))=some (.normal,e,O):=rfl
theorem UL:ahF none=none:=rfl
theorem PR(a b e O):afO C call n (.bool true) a b e O=dI C call n a e O:=rfl
theorem MS(a b e O):afO C call n (.bool false) a b e O=dI C call n b e O:=rfl
theorem Y9(d i l e O):ogK C call n true (some d) i l e O=out call (some d) e (aj C (avA C e) n O i) (dm C call n l):=rfl
theorem UJ(d i l e O):ogK C call n false (some d) i l e O=dm C call n l ((d,.undef)::e) O:=rfl
theorem ZM(i l e O):ogK C call n true none i l e O=out call none e (aj C (avA C e) n O i) (dm C call n l):=rfl
theorem U8(i l e O):ogK C call n false none i l e O=dm C call n l e O:=rfl
theorem Jm(b:Bool):mQ b .undef=false:=by cases b<;>rfl
theorem alj(d t:Nat)(b:Bool)(i:XI)(l:List XOp)(e:As)(O:St):dm C call n (og d t b i::l) e O=ogK C call n (mQ b (look e t)) (some d) i l e O:=by
 rw[P6];unfold ogK;cases mQ b (look e t)<;>rfl
theorem alk(t:Nat)(b:Bool)(i:XI)(l:List XOp)(e:As)(O:St):dm C call n (ug t b i::l) e O=ogK C call n (mQ b (look e t)) none i l e O:=by
 rw[P7];unfold ogK;cases mQ b (look e t)<;>rfl
theorem PP(d e v O k):afI (some d) e (some (v,O)) k=k ((d,v)::e) O:=rfl
theorem MR(e v O k):afI none e (some (v,O)) k=k e O:=rfl
theorem UO(d:Option Nat)(e:As)(f:FuncId)(args:LA)(O:St)(k):out call d e (some (.call f args O)) k=afI d e (call f args O) k:=rfl
theorem rP(n rs e O):AP n rs (some (.ret,e,O))=match bQ e O rs with
 |none=>none
 |some vs=>match hand false vs O with
  |none=>none
  |some (vs,O3)=>some (bD vs,tidy n vs O3):=rfl
theorem MW(n rs e O):AP n rs (some (.normal,e,O))=match bQ e O rs with
 |none=>none
 |some vs=>match hand false vs O with
  |none=>none
  |some (vs,O3)=>some (bD vs,tidy n vs O3):=rfl
theorem TY(n rs):AP n rs none=none:=rfl
theorem aii(l:List XOp)(e:As)(O:St):dI C call n (.ops l) e O=ahF (dm C call n l e O):=rfl
theorem ZG(l:List XOp)(e:As)(O:St):dI C call n (.plain l) e O=ahF (dm C call n l e O):=rfl
theorem ZF(l:List XOp)(e:As)(O:St):dI C call n (.drawn l) e O=ahF (uM C call n l e O):=rfl
theorem aij(a b:KC)(e:As)(O:St):dI C call n (.seq a b) e O=aib (dI C call n a e O) (dI C call n b):=rfl
theorem adl(c:XA)(a b:KC)(e:As)(O:St):dI C call n (.cond c a b) e O=afO C call n (avA C e c) a b e O:=rfl
theorem ZE(id:Nat)(b:KC)(e:As)(O:St):dI C call n (.block id b) e O=PE id (dI C call n b e O):=rfl
theorem aG{k:List Nat}{b:KC}{e:As}(he:keepA k e=e)(O:St):aA C call n k b e O=YT (dI C call n b e O) fun e' O'=>aA C call n k b (keepA k e') O':=iq C call n he O
theorem Has.go{f:FuncId}{K:KF}(h:Has C f K){args args':LA}{O:St}(hn:hand false args O=some (args',O))(hl:¬args'.length>K.ntmps):ai C f args O=AP O.length K.results (dI C (ai C) K.ntmps K.body (nS 0 args') O):=by
 rw[h.run];unfold xB;rw[hn];dsimp only;rw[if_neg hl];rfl
theorem kT:∀x y:LU,iD x y=decide (x=y)
 |[],[]=>by simp[iD]
 |[],_::_=>by simp[iD]
 |_::_,[]=>by simp[iD]
 |a::x,b::y=>by
  rw[iD,kT x y];by_cases h:a=b<;>simp[h]
theorem afz(x y:LU):pz .eql x y=some (.bool (decide (x=y))):=by rw[<-kT];rfl
theorem jW(x y:LU):pz .neq x y=some (.bool !(decide (x=y))):=by rw[<-kT];rfl
theorem afD(x y:LU):pz .lss x y=some (.bool (Op.bytesLess x y)):=rfl
theorem afC(x y:LU):pz .leq x y=some (.bool (Op.bytesLess x y||decide (x=y))):=by rw[<-kT];rfl
theorem afB(x y:LU):pz .gtr x y=some (.bool !(Op.bytesLess x y||decide (x=y))):=by rw[<-kT];rfl
theorem afA(x y:LU):pz .geq x y=some (.bool !(Op.bytesLess x y)):=rfl
def akl(A:As)(O:St)(v:AV)(r:Option (As×St×List (As×AV)×List St)):Option (As×St×List (As×AV)×List St):=match r with
 |some (A',O'',rs,ss)=>some (A',O'',(A,v)::rs,O::ss)
 |none=>none
def U3(d:Option Nat)(A:As)(O:St)(x:Option (AV×St))(k:As->St->Option (As×St×List (As×AV)×List St)):=match x with
 |some (v,O')=>akl A O v (k (xy A d v) O')
 |none=>none
def opR(call:bC)(x:Option Out):Option (AV×St):=match x with
 |some (.val v O')=>some (v,O')
 |some (.call f args O')=>call f args O'
 |none=>none
theorem ai1(A:As)(O:St):kV C call n [] A O=some (A,O,[],[O]):=rfl
theorem aoK(d:Nat)(i:XI)(l:List XOp)(A:As)(O:St):kV C call n (o d i::l) A O=U3 (some d) A O (opR call (aj C (avA C A) n O i)) (kV C call n l):=rfl
theorem aoL(i:XI)(l:List XOp)(A:As)(O:St):kV C call n (u i::l) A O=U3 none A O (opR call (aj C (avA C A) n O i)) (kV C call n l):=rfl
theorem aoJ(d s:Nat)(l:List XOp)(A:As)(O:St):kV C call n (m d s::l) A O=U3 (some d) A O (some (look A s,O)) (kV C call n l):=rfl
theorem aoM(d:Option Nat)(i:XI)(c:List Nat)(l:List XOp)(A:As)(O:St):kV C call n (⟨d,i,none,c⟩::l) A O=U3 d A O (opR call (aj C (avA C A) n O i)) (kV C call n l):=rfl
theorem RN(d A O v O' k):U3 (some d) A O (some (v,O')) k=akl A O v (k ((d,v)::A) O'):=rfl
theorem NZ(A O v O' k):U3 none A O (some (v,O')) k=akl A O v (k A O'):=rfl
theorem acW(v O):opR call (some (.val v O))=some (v,O):=rfl
theorem Za(f args O):opR call (some (.call f args O))=call f args O:=rfl
theorem UZ(A O v A' O' rs ss):akl A O v (some (A',O',rs,ss))=some (A',O',(A,v)::rs,O::ss):=rfl
def akK(C:Ctx)(n:Nat)(l:List XOp)(r:Option (As×St×List (As×AV)×List St)):Option (As×St):=match r with
 |some (A',O',rs,ss)=>if dK C n ss l rs then some (A',O')else none
 |none=>none
theorem afV(l:List XOp)(A:As)(O:St):uM C call n l A O=akK C n l (kV C call n l A O):=rfl
theorem acb(l:List XOp)(A' O' rs ss):akK C n l (some (A',O',rs,ss))=if dK C n ss l rs then some (A',O')else none:=rfl
theorem ahW(ss:List St)(l):dK C n ss [] l=true:=rfl
theorem aoD(d:Nat)(i:XI)(l:List XOp)(ss:List St)(A:As)(v:AV)(rs):dK C n ss (o d i::l) ((A,v)::rs)=dK C n ss l rs:=by
 show((!jc (o d i) A||iy C n (o d i) A v ss [])&&_)=_;rw[iy,Bool.or_true,Bool.true_and]
theorem aoE(i:XI)(l:List XOp)(ss:List St)(A:As)(v:AV)(rs):dK C n ss (u i::l) ((A,v)::rs)=dK C n ss l rs:=by
 show((!jc (u i) A||iy C n (u i) A v ss [])&&_)=_;rw[iy,Bool.or_true,Bool.true_and]
theorem aoC(d s:Nat)(l:List XOp)(ss:List St)(A:As)(v:AV)(rs):dK C n ss (m d s::l) ((A,v)::rs)=dK C n ss l rs:=by
 show((!jc (m d s) A||iy C n (m d s) A v ss [])&&_)=_;rw[iy,Bool.or_true,Bool.true_and]
def reR(C:Ctx)(n:Nat)(A:As)(i:XI)(v:AV)(s s':Option St):Bool:=match s,s' with
 |some s,some s'=>(match aj C (avA C A) n s i,aj C (avA C A) n s' i with
  |some (.val v1 _),some (.val v2 _)=>same v1 v&&same v2 v
  |_,_=>false)
 |_,_=>false
def reO(v:AV)(x y:Option Out):Bool:=match x,y with
 |some (.val v1 _),some (.val v2 _)=>same v1 v&&same v2 v
 |_,_=>false
theorem Zl(A:As)(i:XI)(v:AV)(s s':St):reR C n A i v (some s) (some s')=reO v (aj C (avA C A) n s i) (aj C (avA C A) n s' i):=rfl
theorem ad5(v v1 v2:AV)(s1 s2:St):reO v (some (.val v1 s1)) (some (.val v2 s2))=(same v1 v&&same v2 v):=rfl
theorem aoF(d:Option Nat)(i:XI)(c:List Nat)(l:List XOp)(ss:List St)(A:As)(v:AV)(rs):dK C n ss (⟨d,i,none,c⟩::l) ((A,v)::rs)=((c.all fun c=>reR C n A i v ss[c]? ss[c+1]?)&&dK C n ss l rs):=by
 show((!jc ⟨d,i,none,c⟩ A||iy C n ⟨d,i,none,c⟩ A v ss c)&&_)=_;have:∀c':List Nat,iy C n ⟨d,i,none,c⟩ A v ss c'=c'.all fun c=>reR C n A i v ss[c]? ss[c+1]?:=by
  intro c'
  induction c' with
  |nil=>rfl
  |cons x c' ih=>rw[iy,ih,List.all_cons];rfl
 rw[this];rfl
theorem Ez(k:IntKind)(a:Int):same (.int k a) (.int k a)=true:=by cases k<;>simp[same]<;>rfl
theorem zn(s:LU):same (.str s) (.str s)=true:=by simp[same,kT]
theorem FZ(b:Bool):same (.bool b) (.bool b)=true:=by simp[same]
theorem dU(O L:St):(O++L)[O.length]?=L[0]?:=by rw[List.getElem?_append_right (Nat.le_refl _),Nat.sub_self]
theorem fF(O L:St)(k:Nat):(O++L)[O.length+k]?=L[k]?:=by rw[List.getElem?_append_right (Nat.le_add_right _ _),Nat.add_sub_cancel_left]
theorem CV(O L:St)(x:AO):(O++L).set O.length x=O++L.set 0 x:=by rw[List.set_append_right _ _ (Nat.le_refl _),Nat.sub_self]
theorem EE(O L:St)(k:Nat)(x:AO):(O++L).set (O.length+k) x=O++L.set k x:=by rw[List.set_append_right _ _ (Nat.le_add_right _ _),Nat.add_sub_cancel_left]
theorem st_len(O L:St):(O++L).length=O.length+L.length:=List.length_append
theorem ain(O L M:St):O++L++M=O++(L++M):=List.append_assoc _ _ _
theorem aY(O:St)(vs:LA):tidy O.length vs O=O:=Bg O vs
theorem dX{O:St}(hσ:Ok O){vs:LA}(hv:ae 0 vs=true)(l:St):tidy O.length vs (O++l)=O:=xI hσ (aP (Nat.zero_le _) _ hv) l
theorem ado{O:St}(hσ:Ok O){L:St}(hl:L.all (AO.below (O.length+L.length))=true):Ok (O++L):=hσ.app hl
theorem acR(O r)(b:Bool):aQ O r (.bool b)=some (.bool b,[]):=rfl
theorem aaX(O r)(k:IntKind)(i:Int):aQ O r (.int k i)=some (.int k i,[]):=rfl
theorem ahy(O r)(s:LU):aQ O r (.str s)=some (.str s,[]):=rfl
theorem ala(O r)(i:Nat)(l:LA):aQ O r (.sl i l)=some (.sl i l,[]):=rfl
structure NV(v:AV):Prop where
 nf:∀O r,aQ O r v=some (v,[])
 cl:below 0 v=true
def NVs(l:LA):Prop:=∀v∈l,NV v
theorem NVs.nil:NVs []:=fun v h=>nomatch h
theorem NVs.cons{v l}(h:NV v)(k:NVs l):NVs (v::l):=fun x hx=>by
 rcases List.mem_cons.mp hx with rfl|hx
 ·exact h
 ·exact k x hx
theorem NVs.app{a b}(h:NVs a)(k:NVs b):NVs (a++b):=fun x hx=>by
 rcases List.mem_append.mp hx with hx|hx
 ·exact h x hx
 ·exact k x hx
theorem NVs.nf:∀{l:LA},NVs l->∀O r,aI O r l=some (l,[])
 |[],_,_,_=>rfl
 |v::l,h,O,r=>by
  show(match aQ O r v,aI O r l with|some (v,fs),some (l,gs)=>some (v::l,fs++gs)|_,_=>none)=_
  rw[(h v (by simp)).nf,NVs.nf (fun x hx=>h x (by simp[hx]))]
  rfl
theorem NVs.cl:∀{l:LA},NVs l->ae 0 l=true
 |[],_=>rfl
 |v::l,h=>by
  rw[ae,(h v (by simp)).cl,NVs.cl (fun x hx=>h x (by simp[hx]))];rfl
theorem NV.bool(b:Bool):NV (.bool b):=⟨fun _ _=>rfl,rfl⟩
theorem NV.int(k:IntKind)(i:Int):NV (.int k i):=⟨fun _ _=>rfl,rfl⟩
theorem NV.str(s:LU):NV (.str s):=⟨fun _ _=>rfl,rfl⟩
theorem NV.sl(i:Nat){l:LA}(h:ae 0 l=true):NV (.sl i l):=⟨fun _ _=>rfl,by rw[below];exact h⟩
theorem NV.agg{l:LA}(h:NVs l):NV (.agg l):=⟨fun O r=>by
 show(match aI O r l with|some (l,fs)=>some (AV.agg l,fs)|none=>none)=_
 rw[h.nf],by rw[below];exact h.cl⟩
theorem NV.tup{l:LA}(h:NVs l):NV (.tup l):=⟨fun O r=>by
 show(match aI O r l with|some (l,fs)=>some (AV.tup l,fs)|none=>none)=_
 rw[h.nf],by rw[below];exact h.cl⟩
theorem NVs.hand{l:LA}(h:NVs l)(O:St):hand false l O=some (l,O):=by
 show(match bM O 12 l with|some (l,fs)=>some (l,freeze O fs)|none=>none)=_
 rw[show bM O 12 l=aI O (bM O 11) l from rfl,h.nf];rfl
theorem adn(a x:AV)(l v:LA):splice (a::l) 0 (x::v)=x::splice l 0 v:=by simp[splice]
theorem aim(l:LA):splice l 0 []=l:=by simp[splice]
theorem abR(O:St)(sz bytes:Nat)(ty)(i:Nat)(l cs:LA):ry O sz bytes ty (.sl i l) 0 cs=some (.sl i l,O):=rfl
theorem XN(O:St)(sz bytes:Nat)(ty)(cs:LA):ry O sz bytes ty .nils 0 cs=some (.nils,O):=rfl
theorem EM(O:St){sz bytes:Nat}(ty){m:Nat}(cs:LA)(hm:¬m=0)(h1:m*bytes<=70368744177664)(h2:m<=70368744177664):ry O sz bytes ty .nils m cs=some (.msl O.length 0 m sz,O++[.cells cs ⟨false,ty⟩]):=by
 unfold ry;rw[if_neg hm];dsimp only;rw[if_pos ⟨h1,h2⟩]
theorem aa1(O:St){sz bytes:Nat}(ty){n m:Nat}{l:LA}(cs:LA)(hm:¬m=0)(hl:l.length=n*sz)(h1:(n+m)*bytes<=70368744177664)(h2:n+m<=70368744177664):ry O sz bytes ty (.xsl n l) m cs=some (.msl O.length 0 (n+m) sz,O++[.cells (l++cs) ⟨false,ty⟩]):=by
 unfold ry;rw[if_neg hm];dsimp only;rw[if_pos ⟨hl,h1,h2⟩]
def aff(C:Ctx)(f:FuncId)(sz:Nat):Prop:=∀(n:Nat) (l:LA) (O:St),l.length=n*sz->n<=1099511627776->l.all Ti=true->ai C f [.sl n l] O=some (.sl n l,O)
end Go.Ev
namespace Go.Ev
theorem EVB:type_of%@look_nil/\type_of%@FN/\type_of%@J7/\type_of%@FM/\type_of%@IX/\type_of%@EO/\type_of%@KH/\type_of%@KG/\type_of%@F7/\type_of%@F5/\type_of%@KN/\type_of%@CQ/\type_of%@F6/\type_of%@Fp/\type_of%@OB/\type_of%@OC/\type_of%@OA/\type_of%@OO/\type_of%@Kv/\type_of%@Ku/\type_of%@aiV/\type_of%@aiT/\type_of%@aiU/\type_of%@zF/\type_of%@xW/\type_of%@I7/\type_of%@EU/\type_of%@Je/\type_of%@I8/\type_of%@Pz/\type_of%@Jl/\type_of%@yN/\type_of%@I9/\type_of%@Jf/\type_of%@Jd/\type_of%@Jc/\type_of%@Jb/\type_of%@Ja/\type_of%@Jg/\type_of%@Jh/\type_of%@Ji/\type_of%@Jj/\type_of%@Jk/\type_of%@zC/\type_of%@wU/\type_of%@vP/\type_of%@wS/\type_of%@wV/\type_of%@BA/\type_of%@ET/\type_of%@BD/\type_of%@BC/\type_of%@BB/\type_of%@wE/\type_of%@zD/\type_of%@uF/\type_of%@uD/\type_of%@pW/\type_of%@yO/\type_of%@Xt/\type_of%@Xr/\type_of%@BG/\type_of%@Fv/\type_of%@E5/\type_of%@JI/\type_of%@Fe/\type_of%@JO/\type_of%@BI/\type_of%@FD/\type_of%@Fb/\type_of%@JM/\type_of%@BH/\type_of%@FB/\type_of%@BJ/\type_of%@FH/\type_of%@EZ/\type_of%@JH/\type_of%@Jp/\type_of%@OD/\type_of%@Ff/\type_of%@JP/\type_of%@Fa/\type_of%@JK/\type_of%@E8/\type_of%@JJ/\type_of%@xX/\type_of%@zQ/\type_of%@cells_func/\type_of%@FC/\type_of%@wF/\type_of%@yj/\type_of%@zH/\type_of%@BV/\type_of%@uI/\type_of%@wJ/\type_of%@EY/\type_of%@Ac/\type_of%@Aa/\type_of%@aj.eq_1/\type_of%@aj.eq_2/\type_of%@aj.eq_3/\type_of%@aj.eq_4/\type_of%@aj.eq_5/\type_of%@aj.eq_6/\type_of%@aj.eq_7/\type_of%@aj.eq_8/\type_of%@aj.eq_9/\type_of%@Ou/\type_of%@Pv/\type_of%@Px/\type_of%@IZ/\type_of%@Lm/\type_of%@IY/\type_of%@I4/\type_of%@VB/\type_of%@abY/\type_of%@VE/\type_of%@VD/\type_of%@VC/\type_of%@EQ/\type_of%@Ov/\type_of%@Bz/\type_of%@DC/\type_of%@wQ/\type_of%@Pq/\type_of%@aj.eq_10/\type_of%@aj.eq_11/\type_of%@V7/\type_of%@aj.eq_13/\type_of%@aj.eq_14/\type_of%@aj.eq_15/\type_of%@aj.eq_16/\type_of%@aj.eq_18/\type_of%@aj.eq_19/\type_of%@aj.eq_20/\type_of%@aj.eq_21/\type_of%@aj.eq_22/\type_of%@aj.eq_23/\type_of%@aj.eq_24/\type_of%@aj.eq_25/\type_of%@aj.eq_26/\type_of%@aj.eq_27/\type_of%@aj.eq_28/\type_of%@aj.eq_29/\type_of%@aj.eq_30/\type_of%@aj.eq_31/\type_of%@aj.eq_32/\type_of%@aj.eq_33/\type_of%@aj.eq_34/\type_of%@aj.eq_35/\type_of%@aj.eq_36/\type_of%@aj.eq_37/\type_of%@qO/\type_of%@aj.eq_39/\type_of%@aj.eq_40/\type_of%@aj.eq_41/\type_of%@aj.eq_42/\type_of%@aj.eq_43/\type_of%@aj.eq_44/\type_of%@aj.eq_45/\type_of%@aj.eq_46/\type_of%@aj.eq_47/\type_of%@JY/\type_of%@NU/\type_of%@U0/\type_of%@Zz/\type_of%@U1/\type_of%@Gy/\type_of%@ML/\type_of%@PG/\type_of%@MN/\type_of%@J9/\type_of%@QM/\type_of%@UA/\type_of%@QN/\type_of%@UM/\type_of%@UL/\type_of%@PR/\type_of%@MS/\type_of%@Y9/\type_of%@UJ/\type_of%@ZM/\type_of%@U8/\type_of%@alj/\type_of%@alk/\type_of%@PP/\type_of%@MR/\type_of%@UO/\type_of%@rP/\type_of%@MW/\type_of%@TY/\type_of%@aii/\type_of%@ZG/\type_of%@ZF/\type_of%@aij/\type_of%@adl/\type_of%@ZE/\type_of%@afz/\type_of%@jW/\type_of%@afD/\type_of%@afC/\type_of%@afB/\type_of%@afA/\type_of%@acR/\type_of%@aaX/\type_of%@ahy/\type_of%@ala/\type_of%@Jm/\type_of%@adn/\type_of%@aim/\type_of%@abR/\type_of%@XN/\type_of%@ai1/\type_of%@aoK/\type_of%@aoL/\type_of%@aoJ/\type_of%@aoM/\type_of%@RN/\type_of%@NZ/\type_of%@acW/\type_of%@Za/\type_of%@UZ/\type_of%@afV/\type_of%@acb/\type_of%@ahW/\type_of%@aoD/\type_of%@aoE/\type_of%@aoC/\type_of%@aoF/\type_of%@Zl/\type_of%@ad5/\type_of%@Ez/\type_of%@zn/\type_of%@FZ/\type_of%@dU/\type_of%@fF/\type_of%@CV/\type_of%@EE/\type_of%@st_len/\type_of%@ain/\type_of%@aY:=
 ⟨@look_nil,@FN,@J7,@FM,@IX,@EO,@KH,@KG,@F7,@F5,@KN,@CQ,@F6,@Fp,@OB,@OC,@OA,@OO,@Kv,@Ku,@aiV,@aiT,@aiU,@zF,@xW,@I7,@EU,@Je,@I8,@Pz,@Jl,@yN,@I9,@Jf,@Jd,@Jc,@Jb,@Ja,@Jg,@Jh,@Ji,@Jj,@Jk,@zC,@wU,@vP,@wS,@wV,@BA,@ET,@BD,@BC,@BB,@wE,@zD,@uF,@uD,@pW,@yO,@Xt,@Xr,@BG,@Fv,@E5,@JI,@Fe,@JO,@BI,@FD,@Fb,@JM,@BH,@FB,@BJ,@FH,@EZ,@JH,@Jp,@OD,@Ff,@JP,@Fa,@JK,@E8,@JJ,@xX,@zQ,@cells_func,@FC,@wF,@yj,@zH,@BV,@uI,@wJ,@EY,@Ac,@Aa,@aj.eq_1,@aj.eq_2,@aj.eq_3,@aj.eq_4,@aj.eq_5,@aj.eq_6,@aj.eq_7,@aj.eq_8,@aj.eq_9,@Ou,@Pv,@Px,@IZ,@Lm,@IY,@I4,@VB,@abY,@VE,@VD,@VC,@EQ,@Ov,@Bz,@DC,@wQ,@Pq,@aj.eq_10,@aj.eq_11,@V7,@aj.eq_13,@aj.eq_14,@aj.eq_15,@aj.eq_16,@aj.eq_18,@aj.eq_19,@aj.eq_20,@aj.eq_21,@aj.eq_22,@aj.eq_23,@aj.eq_24,@aj.eq_25,@aj.eq_26,@aj.eq_27,@aj.eq_28,@aj.eq_29,@aj.eq_30,@aj.eq_31,@aj.eq_32,@aj.eq_33,@aj.eq_34,@aj.eq_35,@aj.eq_36,@aj.eq_37,@qO,@aj.eq_39,@aj.eq_40,@aj.eq_41,@aj.eq_42,@aj.eq_43,@aj.eq_44,@aj.eq_45,@aj.eq_46,@aj.eq_47,@JY,@NU,@U0,@Zz,@U1,@Gy,@ML,@PG,@MN,@J9,@QM,@UA,@QN,@UM,@UL,@PR,@MS,@Y9,@UJ,@ZM,@U8,@alj,@alk,@PP,@MR,@UO,@rP,@MW,@TY,@aii,@ZG,@ZF,@aij,@adl,@ZE,@afz,@jW,@afD,@afC,@afB,@afA,@acR,@aaX,@ahy,@ala,@Jm,@adn,@aim,@abR,@XN,@ai1,@aoK,@aoL,@aoJ,@aoM,@RN,@NZ,@acW,@Za,@UZ,@afV,@acb,@ahW,@aoD,@aoE,@aoC,@aoF,@Zl,@ad5,@Ez,@zn,@FZ,@dU,@fF,@CV,@EE,@st_len,@ain,@aY⟩
set_option maxRecDepth 100000
variable{C:Ctx}
theorem uJ(f:FuncId)(x y args:LA)(O:St):BF C (.func (.func f) x y) args O=some (.call f (x++args++y) O):=rfl
theorem ajW(O r)(f:Fn)(x y:LA):aQ O r (.func f x y)=match aI O r x,aI O r y with
 |some (x,fs),some (y,gs)=>some (.func f x y,fs++gs)
 |_,_=>none:=rfl
theorem amz(O r)(n:Nat)(l:LA):aQ O r (.xsl n l)=match aI O r l with|some (l,fs)=>some (.sl n l,fs)|none=>none:=rfl
theorem Ci(O r):aI O r []=some ([],[]):=rfl
theorem bg(O r)(v:AV)(l:LA):aI O r (v::l)=match aQ O r v,aI O r l with
 |some (v,fs),some (l,gs)=>some (v::l,fs++gs)
 |_,_=>none:=rfl
theorem yx(l:LA)(O:St):hand false l O=match aI O (bM O 11) l with|some (l,fs)=>some (l,freeze O fs)|none=>none:=rfl
theorem bz(O r)(l:LA):aQ O r (.agg l)=match aI O r l with|some (l,fs)=>some (.agg l,fs)|none=>none:=rfl
theorem dL(O r):aQ O r .nils=some (.sl 0 [],[]):=rfl
theorem drop_at{l:LA}{i:Nat}{v:AV}(h:l[i]?=some v):∃r,l.drop i=v::r:=by
 have hi:=(List.getElem?_eq_some_iff.mp h).1;refine⟨l.drop (i+1),?_⟩;rw[List.drop_eq_getElem_cons hi];rw[List.getElem?_eq_getElem hi]at h;rw[Option.some.inj h]
theorem dh{α:Type}{f:α->LA}{k:Nat}(h:∀x,(f x).length=k):∀l:List α,(l.flatMap f).length=l.length*k
 |[]=>by simp
 |x::l=>by simp[h,dh h l,Nat.add_mul,Nat.add_comm]
theorem Uf{α:Type}{f:α->LA}{k:Nat}(h:∀x,(f x).length=k):∀(l:List α) (i:Nat),(l.flatMap f).drop (i*k)=(l.drop i).flatMap f
 |l,0=>by simp
 |[],i+1=>by simp
 |x::l,i+1=>by
  rw[List.flatMap_cons,List.drop_succ_cons,<-Uf h l i,Nat.add_mul,Nat.one_mul,Nat.add_comm];rw[<-h x,List.drop_append];simp
theorem qM{α:Type}{f:α->LA}(h:∀x,ae 0 (f x)=true):∀l:List α,ae 0 (l.flatMap f)=true
 |[]=>rfl
 |x::l=>by
  rw[List.flatMap_cons];have:=qM h l;revert this;have hx:=h x;revert hx;generalize f x=a;generalize l.flatMap f=b;intro ha hb
  induction a with
  |nil=>exact hb
  |cons v a ih=>
   rw[ae,Bool.and_eq_true]at ha;rw[List.cons_append,ae,ha.1,ih ha.2];rfl
theorem mD{α:Type}{f:α->LA}{k:Nat}(h:∀x,(f x).length=k){l:List α}{i:Nat}{x:α}(hx:l[i]?=some x):(l.flatMap f).drop (i*k)=f x++(l.drop (i+1)).flatMap f:=by
 have hi:i<l.length:=(List.getElem?_eq_some_iff.mp hx).1;have:l.drop i=x::l.drop (i+1):=by
  rw[List.drop_eq_getElem_cons hi];rw[List.getElem?_eq_getElem hi]at hx;rw[Option.some.inj hx]
 rw[Uf h,this,List.flatMap_cons]
theorem YW(a:Nat):acM false (.int .i64 5000) (.int .i64 (a:Int))=some (.int .i64 ((min 5000 a:Nat):Int)):=by
 show some (AV.int .i64 (if(a:Int)<5000 then(a:Int)else 5000))=_;have:(if(a:Int)<5000 then(a:Int)else 5000)=((min 5000 a:Nat):Int):=by split<;>omega
 rw[this]
theorem EVC:
 (∀{α:Type} (a:α),(a=a)=True)
 /\(∀{α:Type} {a:α} {azs bs:List α},a::azs++bs=a::(azs++bs))
 /\(∀{α:Type} (azs:List α),[]++azs=azs)
 /\(∀{α:Type} (azs:List α),azs++[]=azs)
 /\(∀{α:Type} {a:α} {azs:List α},(a::azs).length=azs.length+1)
 /\(∀{α:Type},([]:List α).length=0)
 /\(∀{α β:Type} {f:α->β} {a:α} {l:List α},List.map f (a::l)=f a::List.map f l)
 /\(∀{α β:Type} {f:α->β},List.map f []=[])
 /\(∀{α:Type} {_:Decidable True} (t e:α),(if True then t else e)=t)
 /\(∀{α:Type} {_:Decidable False} (t e:α),(if False then t else e)=e)
 /\(∀{α β:Type} (a:α) (f:α->β),Option.map f (some a)=some (f a))
 /\(∀{α β:Type} (f:α->β),Option.map f none=none)
 /\(!true)=false
 /\(!false)=true
 /\(false=true)=False
 /\(∀(h:Decidable True),decide True=true)
 /\(∀(h:Decidable False),decide False=false)
 /\(∀{p:Prop} [Decidable p],(decide p=true)=p)
 /\(∀(b:Bool),((!b)=true)=(b=false))
 /\(∀{p:Prop} {x:Decidable p},decide p=false↔¬p)
 /\(∀{α:Type} {a:α} {l:List α},(a::l)[0]?=some a)
 /\(∀{α:Type} {a:α} {i:Nat} {l:List α},(a::l)[i+1]?=l[i]?)
 /\(∀{α β:Type},(bind:Option α->(α->Option β)->Option β)=Option.bind)
 /\(∀{α β:Type} (a:α) (f:α->Option β),(some a).bind f=f a)
 /\(∀{α:Type},(pure:α->Option α)=some)
 /\(∀(p:Prop),(p/\p)=p)
 /\(∀(p:Prop),(True/\p)=p)
 /\(∀(p:Prop),(p/\True)=p)
 /\(∀{α:Type} {a:α} {l:List α} {f:α->Bool},(a::l).all f=(f a&&l.all f))
 /\(∀{α:Type} {f:α->Bool},[].all f=true)
 /\(∀(b:Bool),(b&&b)=b)
 /\(∀(b:Bool),(b&&true)=b)
 /\(∀(b:Bool),(true&&b)=b)
 /\(∀{α:Type} {a:α} {azs:List α} {i:Nat},List.take (i+1) (a::azs)=a::List.take i azs)
 /\(∀{α:Type} {l:List α},List.take 0 l=[])
 /\(∀{α:Type} {i:Nat},List.take i ([]:List α)=[])
 /\(∀{α:Type} {a:α} {l:List α} {i:Nat},List.drop (i+1) (a::l)=List.drop i l)
 /\(∀{α:Type} {l:List α},List.drop 0 l=l)
 /\(∀{α:Type} {i:Nat},List.drop i ([]:List α)=[])
 /\(∀(n:Nat),0+n=n)
 /\(∀(n:Nat),n+0=n)
 /\(∀{α:Type} [BEq α] [LawfulBEq α] (a:α),(a !=a)=false)
 /\(∀(b:Bool),(b||false)=b)
 /\(∀(b:Bool),(false||b)=b)
 /\(∀(n:Nat),n*1=n)
 /\(∀(n:Nat),1*n=n)
 /\(∀(n:Nat),n<=n)
 /\(∀{α:Type} [LT α] {x y:α},x>y↔y<x)
 /\(∀{α:Type} {a:α} {l:List α},(a::l).head? =some a)
 /\∀{n:Nat},@Nat.cast Int instNatCastInt (no_index (OfNat.ofNat n))=OfNat.ofNat n:=And.intro @eq_self.{1} (And.intro @List.cons_append.{0} (And.intro @List.nil_append.{0} (And.intro @List.append_nil.{0} (And.intro @List.length_cons.{0} (And.intro @List.length_nil.{0} (And.intro @List.map_cons.{0,0} (And.intro @List.map_nil.{0,0} (And.intro @if_true.{1} (And.intro @if_false.{1} (And.intro @Option.map_some.{0,0} (And.intro @Option.map_none.{0,0} (And.intro @Bool.not_true (And.intro @Bool.not_false (And.intro @Bool.false_eq_true (And.intro @decide_true (And.intro @decide_false (And.intro @decide_eq_true_eq (And.intro @Bool.not_eq_true' (And.intro @decide_eq_false_iff_not (And.intro @List.getElem?_cons_zero.{0} (And.intro @List.getElem?_cons_succ.{0} (And.intro @Option.bind_eq_bind.{0} (And.intro @Option.bind_some.{0,0} (And.intro @Option.pure_def.{0} (And.intro @and_self (And.intro @true_and (And.intro @and_true (And.intro @List.all_cons.{0} (And.intro @List.all_nil.{0} (And.intro @Bool.and_self (And.intro @Bool.and_true (And.intro @Bool.true_and (And.intro @List.take_succ_cons.{0} (And.intro @List.take_zero.{0} (And.intro @List.take_nil.{0} (And.intro @List.drop_succ_cons.{0} (And.intro @List.drop_zero.{0} (And.intro @List.drop_nil.{0} (And.intro @Nat.zero_add (And.intro @Nat.add_zero (And.intro @bne_self_eq_false.{0} (And.intro @Bool.or_false (And.intro @Bool.false_or (And.intro @Nat.mul_one (And.intro @Nat.one_mul (And.intro @Nat.le_refl (And.intro @gt_iff_lt.{0} (And.intro @List.head?_cons.{0} (@Int.cast_ofNat_Int)))))))))))))))))))))))))))))))))))))))))))))))))
theorem EVD:
 (∀(n:Nat),((n:Int)).toNat=n)
 /\Int.toNat 0=0
 /\(∀{α:Type} (a:α) (l:List α),a::l≠[])
 /\(∀{α:Type} [LE α] {x y:α},x>=y↔y<=x)
 /\(∀(a:Int),a<=a)
 /\(∀{α:Type} [BEq α] [ReflBEq α] (a:α),(a==a)=true)
 /\(∀{α:Type} {x:α} {xs:List α} {i:Nat} {a:α},(x::xs).set (i+1) a=x::xs.set i a)
 /\(∀{α:Type} {x:α} {xs:List α} {a:α},(x::xs).set 0 a=a::xs)
 /\∀(n m:Nat),n<=m+n:=And.intro @Int.toNat_natCast (And.intro @Int.toNat_zero (And.intro @List.cons_ne_nil.{0} (And.intro @ge_iff_le.{0} (And.intro @Int.le_refl (And.intro @beq_self_eq_true.{0} (And.intro @List.set_cons_succ.{0} (And.intro @List.set_cons_zero.{0} (@Nat.le_add_left))))))))
def ckQ(l:List XOp)(c:KC):KC:=.seq (.ops l) c
def cqL(d n x:Nat):XOp:=o d (.load true n (.t x))
def cqF(d x:Nat):XOp:=o d (.load false 1 (.t x))
def cqA(d n x:Nat):XOp:=o d (.fieldAddr n (.t x))
def cqE(d x n:Nat):XOp:=o d (.extract (.t x) n)
def cqS(n x y:Nat):XOp:=u (.store n (.t x) (.t y))
def cqB(d:Nat)(b:BinOp)(k:Nat)(c:Bool)(x y:Nat):XOp:=o d (.bin b k c (.t x) (.t y))
def cqC(d:Nat)(b:BinOp)(k:Nat)(c:Bool)(x:Nat)(n:Int):XOp:=o d (.bin b k c (.t x) (.c (.int .i64 n)))
def cqK(d f:Nat)(l:List Nat):XOp:=o d (.callF f (l.map .t))
def cqN(d k x:Nat):XOp:=o d (.len k (.t x))
def cqI(d:Nat)(n:Int):XOp:=o d (.mv (.c (.int .i64 n)))
def cqT(d:Nat)(b:Bool):XOp:=o d (.mv (.c (.bool b)))
def cvI(n:Int):AV:=.int .i64 n
def cvU(n:Int):AV:=.int .u8 n
def cvE:AV:=.str []
def ccI(n:Int):XA:=.c (.int .i64 n)
def ccU(n:Int):XA:=.c (.int .u8 n)
def ccS(l:LU):XA:=.c (.str l)
def cqR:Nat->AV->LA->LA
 |0,_,l=>l
 |n+1,x,l=>x::cqR n x l
theorem EVQ:type_of%@cqR.eq_1/\type_of%@cqR.eq_2/\type_of%@ckQ.eq_1/\type_of%@cqL.eq_1/\type_of%@cqF.eq_1/\type_of%@cqA.eq_1/\type_of%@cqE.eq_1/\type_of%@cqS.eq_1/\type_of%@cqB.eq_1/\type_of%@cqC.eq_1/\type_of%@cqK.eq_1/\type_of%@cqN.eq_1/\type_of%@cqI.eq_1/\type_of%@cqT.eq_1/\type_of%@cvI.eq_1/\type_of%@cvU.eq_1/\type_of%@cvE.eq_1/\type_of%@ccI.eq_1/\type_of%@ccU.eq_1/\type_of%@ccS.eq_1:=⟨@cqR.eq_1,@cqR.eq_2,@ckQ.eq_1,@cqL.eq_1,@cqF.eq_1,@cqA.eq_1,@cqE.eq_1,@cqS.eq_1,@cqB.eq_1,@cqC.eq_1,@cqK.eq_1,@cqN.eq_1,@cqI.eq_1,@cqT.eq_1,@cvI.eq_1,@cvU.eq_1,@cvE.eq_1,@ccI.eq_1,@ccU.eq_1,@ccS.eq_1⟩
theorem EVU:type_of%@qJ.eq_1/\type_of%@qJ.eq_2/\type_of%@qJ.eq_3/\type_of%@eqA.eq_1/\type_of%@eqA.eq_2/\type_of%@eqA.eq_3/\type_of%@eqA.eq_4/\type_of%@eqA.eq_5/\type_of%@bF.eq_1/\type_of%@bF.eq_2/\type_of%@bF.eq_3/\type_of%@bF.eq_4/\type_of%@bF.eq_5/\type_of%@bF.eq_6/\type_of%@bF.eq_7/\type_of%@bF.eq_8/\type_of%@bF.eq_9/\type_of%@bF.eq_10/\type_of%@bF.eq_11/\type_of%@bF.eq_12/\type_of%@bF.eq_13/\type_of%@bF.eq_14/\type_of%@bF.eq_15/\type_of%@bF.eq_16/\type_of%@bF.eq_17/\type_of%@bF.eq_18/\type_of%@bF.eq_19/\type_of%@bF.eq_20/\type_of%@bF.eq_21/\type_of%@bF.eq_22/\type_of%@bF.eq_23/\type_of%@bF.eq_24/\type_of%@bF.eq_25/\type_of%@bF.eq_26/\type_of%@bH.eq_1/\type_of%@bH.eq_2/\type_of%@bH.eq_3/\type_of%@bH.eq_4/\type_of%@bH.eq_5/\type_of%@bH.eq_6/\type_of%@bH.eq_7/\type_of%@bH.eq_8/\type_of%@bH.eq_9/\type_of%@bH.eq_10/\type_of%@bH.eq_11/\type_of%@jS.eq_1/\type_of%@jS.eq_2/\type_of%@dS.eq_1/\type_of%@dS.eq_2/\type_of%@pt.eq_1/\type_of%@bD.eq_1/\type_of%@bD.eq_2/\type_of%@hand.eq_1/\type_of%@bM.eq_1/\type_of%@bM.eq_2/\type_of%@aI.eq_1/\type_of%@aI.eq_2/\type_of%@aQ.eq_1/\type_of%@aQ.eq_2/\type_of%@aQ.eq_3/\type_of%@aQ.eq_4/\type_of%@aQ.eq_5/\type_of%@aQ.eq_6/\type_of%@aQ.eq_7/\type_of%@aQ.eq_8/\type_of%@aQ.eq_9/\type_of%@freeze.eq_1/\type_of%@freeze.eq_2/\type_of%@iC.eq_1/\type_of%@iC.eq_2/\type_of%@fD.eq_1/\type_of%@fD.eq_2/\type_of%@fD.eq_3/\type_of%@fD.eq_4/\type_of%@fD.eq_5/\type_of%@fD.eq_6/\type_of%@isStr.eq_1/\type_of%@isStr.eq_2/\type_of%@vG.eq_1/\type_of%@vG.eq_2/\type_of%@rep.eq_1/\type_of%@rep.eq_2/\type_of%@zB.eq_1/\type_of%@zB.eq_2/\type_of%@zl.eq_1/\type_of%@zl.eq_2/\type_of%@zl.eq_3:=⟨@qJ.eq_1,@qJ.eq_2,@qJ.eq_3,@eqA.eq_1,@eqA.eq_2,@eqA.eq_3,@eqA.eq_4,@eqA.eq_5,@bF.eq_1,@bF.eq_2,@bF.eq_3,@bF.eq_4,@bF.eq_5,@bF.eq_6,@bF.eq_7,@bF.eq_8,@bF.eq_9,@bF.eq_10,@bF.eq_11,@bF.eq_12,@bF.eq_13,@bF.eq_14,@bF.eq_15,@bF.eq_16,@bF.eq_17,@bF.eq_18,@bF.eq_19,@bF.eq_20,@bF.eq_21,@bF.eq_22,@bF.eq_23,@bF.eq_24,@bF.eq_25,@bF.eq_26,@bH.eq_1,@bH.eq_2,@bH.eq_3,@bH.eq_4,@bH.eq_5,@bH.eq_6,@bH.eq_7,@bH.eq_8,@bH.eq_9,@bH.eq_10,@bH.eq_11,@jS.eq_1,@jS.eq_2,@dS.eq_1,@dS.eq_2,@pt.eq_1,@bD.eq_1,@bD.eq_2,@hand.eq_1,@bM.eq_1,@bM.eq_2,@aI.eq_1,@aI.eq_2,@aQ.eq_1,@aQ.eq_2,@aQ.eq_3,@aQ.eq_4,@aQ.eq_5,@aQ.eq_6,@aQ.eq_7,@aQ.eq_8,@aQ.eq_9,@freeze.eq_1,@freeze.eq_2,@iC.eq_1,@iC.eq_2,@fD.eq_1,@fD.eq_2,@fD.eq_3,@fD.eq_4,@fD.eq_5,@fD.eq_6,@isStr.eq_1,@isStr.eq_2,@vG.eq_1,@vG.eq_2,@rep.eq_1,@rep.eq_2,@zB.eq_1,@zB.eq_2,@zl.eq_1,@zl.eq_2,@zl.eq_3⟩
theorem EVY:type_of%@EVQ/\type_of%@EVC/\type_of%@EVA/\type_of%@EVU:=⟨@EVQ,@EVC,@EVA,@EVU⟩
theorem EVX:type_of%@EVQ/\type_of%@EVC/\type_of%@EVD/\type_of%@EVB/\type_of%@EVU:=⟨@EVQ,@EVC,@EVD,@EVB,@EVU⟩
open Go.RowKit
theorem agh {g:Gh} {w w':World} {O:St} (h:WR g w O) {o:Nat} {l l':LA} {tg:Option (TypeId×Bool)} (hx0:O[o]?=some (.cells l ⟨false,tg⟩)) (hos:w'.os=w.os) (htape:w'.tape=w.tape) (hout:w'.output=w.output) (hsz:w.heap.size<=w'.heap.size)
  (hne:∀k,k<w.heap.size->k≠g.ob o->w'.heap[k]?=w.heap[k]?) (hx:OR g w' o (.cells l' ⟨false,tg⟩)):Goes g O w g (O.set o (.cells l' ⟨false,tg⟩)) w':=by
 obtain⟨c,e,fr,h1,h2,h3,h4,h5,h6⟩:=h.obj o _ hx0;have him:∀i v,g.im (g.ob o) i≠some v:=fun i v hv=>absurd (h6 i v hv).1 (by simp)
 refine⟨.refl g,⟨by simp[h.n],fun b i v hv=>?_,fun b i v hv=>?_,fun k y hy=>?_,fun k k' y y' hy hy' hl hl' he=>?_⟩,hos,htape,hout,hsz,fun b hb hu=>⟨fun k y hy hl=>?_,hne b hb (fun e=>hu o _ hx0 rfl e.symm),fun _=>rfl⟩⟩
 ·have hb:b≠g.ob o:=fun hb=>him i v (hb▸hv);rw[qV (hne b (h.im_lt hv) hb)];exact h.im b i v hv
 ·have hb:b≠g.ob o:=fun hb=>him i v (hb▸hv);rw[hne b (h.im_lt hv) hb];exact h.uf b i v hv
 ·rcases jE hy with⟨hk,hz⟩|⟨rfl,_,rfl⟩
  ·exact OR.mono (h.obj k y hz) (.refl g) (h.lt hz) (fun hl=>hne _ (h.ob_lt hz hl) fun e=>hk (h.inj k o y _ hz hx0 hl rfl e)) (fun _ _ _ hv=>hv)
  ·exact hx
 ·rcases jE hy with⟨hk,hz⟩|⟨hk,_,rfl⟩
  ·rcases jE hy' with⟨hk',hz'⟩|⟨hk',_,rfl⟩
   ·exact h.inj k k' y y' hz hz' hl hl' he
   ·subst hk';exact absurd (h.inj k k' y _ hz hx0 hl rfl he) hk
  ·rcases jE hy' with⟨hk',hz'⟩|⟨hk',_,rfl⟩
   ·subst hk;exact absurd (h.inj k' k y' _ hz' hx0 hl' rfl he.symm) hk'
   ·rw[hk,hk']
 ·rcases jE hy with⟨hk,hz⟩|⟨hk,_,rfl⟩
  ·exact hu k y hz hl
  ·subst hk;exact hu k _ hx0 rfl
end Go.Ev
