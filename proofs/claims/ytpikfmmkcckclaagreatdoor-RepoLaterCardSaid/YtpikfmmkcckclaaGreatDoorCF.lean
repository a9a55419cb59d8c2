/- Code. No conditions. -/
import Derived.Test.YtpikfmmkcckclaaGreatDoorCE
import Derived.Test.YtpikfmmkcckclaaGreatDoorCB
import Derived.Test.YtpikfmmkcckclaaGreatDoorCD
import Derived.Test.YtpikfmmkcckclaaGreatDoorCC
import Derived.Test.YtpikfmmkcckclaaGreatDoorEC
import Derived.Lib.Bytealg
import Derived.Shelf.SlSortCmp.WholeK
set_option linter.unusedVariables false
set_option linter.unusedSimpArgs false
set_option linter.defProp false
namespace Go.Ev
set_option maxRecDepth 100000
set_option maxHeartbeats 4000000
variable{C C1:Ctx}
def Xk (H:aax C C1) (HR:Kv C) (HP:VW C) (hO:Has C rZ jA) (c:ul) (l:List fQ) (hk0:∀a∈l,0<=a.kind) (O:St) (hσ:Ok O):
  ai C rZ [.agg c.cs,MF l] O=some (.bool true,O):=by
 have cb:AO.below 0 (.cells c.cs FZ)=true:=c.nvs.cl;have ok1:Ok (O++[.cells c.cs FZ]):=hσ.plus (by rw[a88,cb];rfl)
 have ty:=fun b=>dE hσ (vs:=[.bool b]) rfl;have lg:=aeW H.lng c [l] (by simp) _ ok1
 simp only[a07,a09,ay1,aC2,au6,av2]at lg;unfold U0 at lg;have aw:=H.awake _ ok1;have c10:c.cs.length=10:=rfl;have ct:c.cs.take 10=c.cs:=rfl;have hn:hand false [.agg c.cs,MF l] O=some ([.agg c.cs,MF l],O):=NVs.hand (.cons (.agg c.nvs) (.cons (afS l) .nil)) O;rw[hO.go hn];unfold MF;cases cl:Uw c [l]
 case true=>
  rw[cl]at lg;simp only[jA,lg,aw,ty,c10,ct,aQ,AV.cells,EVX,seval]
 rw[cl]at lg;obtain⟨R,e,bv,rok,hK,mk⟩:=apv H cl;obtain⟨l12,lok⟩:=(Xq cl).2.2.2.2.2 l (by simp)
 rcases mk c.now _ ok1 with⟨m1,m2⟩|⟨m1,p,T,m2,nr⟩
 ·have m1':(wL c.nm c.fs c.rc c.sc e !=0)=true:=by simpa using m1
  change ai C dG [.agg c.cs] _=_ at m2;simp only[jA,lg,aw,m1',m2,ty,c10,ct,aQ,AV.cells,EVX,seval]
 change ai C dG [.agg c.cs] _=_ at m2;have m1':((0:Int) !=0)=false:=rfl;have pto:p.to (ry (bv.K c.now) p.R p.fs p.rc p.sc (l.take 0) []) p.oo=p:=by
  show p.to [] p.oo=p;unfold Rp.to;rw[<-nr.F]
 have own:=nr.own;have lT:=nr.len;simp only[a04,a07,a09]at own lT;have e0:T.take (O.length+1)=O++[AO.cells c.cs FZ]:=by
  have:=nr.pre;rw[a04]at this;exact this
 have tk0:T.take O.length=O:=by
  have:=congrArg (List.take O.length) e0;rw[aD1,az7 (by omega),List.take_left']at this
  ·exact this
  ·rfl
 obtain⟨oo',S,r1,r2,r3,r4⟩:=ahR H.cat H.asked (K:=bv.K c.now) p l l12 lok (.ref O.length 0) l.length 0 p.oo T (by omega) nr.ok (by rw[pto];exact nr.at') (by rw[pto];exact nr.good) (by simp[ry])
 rw[pto]at r2;simp only[at6]at r1;unfold MF at r1;have fe:=VN H.fet r2.ok r2.at' r3.uniq;obtain⟨_,_,p3,p4,p5,p6,p7,p8⟩:=nr.of;change p.rc=c.rc at p5;change p.sc=c.sc at p6;change p.nm=c.nm at p7;change p.fs=c.fs at p8;have preS:S.take O.length=O:=(r2.pre (by omega) (fun i h=>by have:=own i h;omega)).trans tk0
 have tyS:=pG (vs:=[.bool true]) hσ rfl preS;by_cases l0:l.length=0
 ·have l0':((l.length:Int)==0)=true:=by simp[l0]
  have ln:l=[]:=au5 l0;subst ln;change ai C jM [.ref p.r 0] S=some (.sl 0 [],S)at fe;simp only[a09,aC2]at lg r1;simp only[jA,lg,aw,m1',m2,r1,fe,tyS,c10,ct,bU,aQ,AV.cells,a09,aC2,EVX,seval]
 have l0':((l.length:Int)==0)=false:=by simpa using l0
 have ln:l≠[]:=fun h=>l0 (by rw[h];rfl)
 have rcn:0<=c.rc:=by
  have:=(bP.caps nr.at').1;rw[p5]at this;unfold U6 at this;simp only[a01,decide_eq_true_eq]at this;exact this.1
 have aj:=YW (bv.K c.now) p.R c.fs c.rc c.sc rcn l [] [] (.inl rfl) ln;rw[au3]at aj;rw[p8,p5,p6]at r2 r3 r4;change ai C jM [.ref p.r 0] S=some (.sl (ry (bv.K c.now) p.R p.fs p.rc p.sc l []).length ((ry (bv.K c.now) p.R p.fs p.rc p.sc l []).flatMap (vT p.nm)),S)at fe;rw[p8,p5,p6,p7]at fe;obtain⟨rest,hF,hj⟩:=aj;generalize hFF:ry (bv.K c.now) p.R c.fs c.rc c.sc l []=F at*;obtain⟨f0,hf0⟩:∃f0,xB c.fs (Bz++iJ) c.sc=f0:=⟨_,rfl⟩;have n0:f0.name=Bz++iJ:=by rw[<-hf0,Dn]
 have c0:f0.cap=c.sc:=by rw[<-hf0,Ea]
 rw[hf0]at hF hj;obtain⟨S2,o2,s1,s2,s3⟩:=aaB H.cat r3 r2.ok r2.at' (by show F.length<_;omega)
 have sp:gU (bv.K c.now) p.fs p.sc F=((bv.K c.now).sn f0.data f0.size,F):=by
  unfold gU wH;rw[hF,aC5 (by rw[n0];simp)]
 change ai C gJ [.ref p.r 0] S=some (.tup [.agg (gU (bv.K c.now) p.fs p.sc F).1.1.cs,.int .u8 (gU (bv.K c.now) p.fs p.sc F).1.2],S2)at s1;change Stp S S2 _ (p.to (gU (bv.K c.now) p.fs p.sc F).2 o2)at s2;change(p.to (gU (bv.K c.now) p.fs p.sc F).2 o2).good C1 _ at s3;rw[sp]at s1 s2 s3;dsimp only at s1 s2 s3;have sok:=(J5 r3.case.chk r3.case.data r3.fet p.sc).1;change(gU (bv.K c.now) p.fs p.sc F).1.1.ok at sok;rw[sp]at sok;generalize(bv.K c.now).sn f0.data f0.size=s at*;obtain⟨s,scs⟩:=s;dsimp only at*;have sb:AO.below 0 (.cells s.cs FZ)=true:=s.nvs.cl;have okS2:Ok (S2++[.cells s.cs FZ]):=s2.ok.plus (by rw[a88,sb];rfl)
 have ownS:∀j,(p.to F oo').has j->O.length+1<=j:=r2.frm (by omega) own
 have ownS2:∀j,(p.to F o2).has j->O.length+1<=j:=s2.frm (by have:=r2.len;omega) ownS
 have xb0:T[O.length]?=some (.cells c.cs FZ):=by rw[alP e0 (by simp),aQ];rfl
 have xb1:S[O.length]?=some (.cells c.cs FZ):=r2.old _ _ (fun h=>by have:=own _ h;omega) xb0
 have xb2:S2[O.length]?=some (.cells c.cs FZ):=s2.old _ _ (fun h=>by have:=ownS _ h;omega) xb1
 have hF1:F.drop 1=rest:=by rw[hF];rfl
 have ll:∃G,G.all (AO.below 0)=true/\aH C (ai C) 223 [1,2,5,8,9,10,11] bW [(1,MF l),(2,.ref O.length 0),(5,.ref p.r 0),(8,.sl F.length (F.flatMap (vT c.nm))),(9,.ref S2.length 0),(10,.int .u8 scs),(11,.int .i64 1)] (S2++[.cells s.cs FZ])=some (.exit 2,[(5,.ref p.r 0),(8,.sl F.length (F.flatMap (vT c.nm)))],(S2++[.cells s.cs FZ])++G):=by
  cases hr:rest with
  |nil=>
   refine⟨[],rfl,?_⟩;rw[aG (he:=rfl)];have hl1:F.length=1:=by rw[hF,hr];rfl
   have h:¬((1:Int)<(F.length:Int)):=by omega
   simp only[bW,h,bU,au6,EVX,seval]
  |cons f r'=>
   have z:=(hj f (by rw[hr];simp)).zero
   dsimp only at z;subst z;exact ZH HR HP c s sok l l12 hk0 F (by omega) (by rw[hF1];exact hj) O.length S2.length (.ref p.r 0) (F.length-1) 1 (S2++[.cells s.cs FZ]) (by omega) (by rw[hF,hr];simp;omega) okS2 (aA xb2 _) (by rw[aQ];rfl)
 obtain⟨G,g1,g2⟩:=ll;have okG:Ok ((S2++[.cells s.cs FZ])++G):=okS2.plus g1;have fe2:=VN H.fet okG (((s2.at').app _).app _) s3.uniq;change ai C jM [.ref p.r 0] _=some (.sl F.length (F.flatMap (vT p.nm)),_)at fe2;rw[p7]at fe2;have preE:((S2++[AO.cells s.cs FZ])++G).take O.length=O:=by
  have l1:=r2.len;have l2:=s2.len;rw[av7 (by simp;omega),av7 (by omega)]
  exact(s2.pre (by omega) (fun i h=>by have:=ownS i h;omega)).trans preS
 have tyE:=pG (vs:=[.bool true]) hσ rfl preE;have fF:∃r,F.flatMap (vT c.nm)=.str c.nm::.str (Bz++iJ)::.int .i64 c.sc::.int .i64 f0.size::r:=by
  refine⟨rest.flatMap (vT c.nm),?_⟩;rw[hF,ay1,<-n0,<-c0];rfl
 obtain⟨fr,fF⟩:=fF;have lF:F.length=rest.length+1:=by rw[hF];rfl
 have lF0:((F.length:Int)==0)=false:=by simp only[beq_eq_false_iff_ne,ne_eq];omega
 have lF1:0<F.length:=by omega
 have fl:=dV (ab2 c.nm) F;have snj:Bz++iJ=[115,110,97,112,115,104,111,116,46,106,115,111,110]:=rfl;have cc:c.cs=[.str c.nm,.str c.data,.sl c.fs.length (c.fs.flatMap pC),.bool c.h,.sl c.l.length (c.l.flatMap fV.cs),.int .i64 c.now,.int .i64 c.b0,.int .i64 c.b1,.int .i64 c.rc,.int .i64 c.sc]:=rfl;have e3:(S2++[AO.cells s.cs FZ])++G=S2++AO.cells s.cs FZ::G:=by simp
 rw[e3]at fe2 tyE;have spS:∀tv:SnV,splice [.int .i64 0,.int .i64 0,.nils] 0 tv.cs=tv.cs:=fun _=>rfl;have k1:1<=F.length*4:=by omega
 have k2:2<=F.length*4:=by omega
 have k3:3<=F.length*4:=by omega
 unfold MF at g2;rw[fF]at fe fl fe2 g2;rw[snj]at fe fl fe2 g2;rw[cc]at lg aw m2 xb0 xb1 xb2⊢;simp only[jA,lg,aw,m1',m2,r1,fe,l0',lF0,lF1,k1,k2,a98,fl,s1,g2,fe2,tyE,xb1,spS,SnV.len,SnV.fl,bU,aQ,jm,AV.cells,beq_self_eq_true,bne_self_eq_false,EVX,seval]
end Go.Ev
namespace Go.Ev
set_option maxRecDepth 100000
variable{C:Ctx}{PK:PkI}
def TI(v:AV):Prop:=∃n e:Int,v=.tup [.int .i64 n,.int .i64 e]
set_option maxHeartbeats 4000000 in
def aiB(H:Vp C PK)(s:LU)(O:St)(hσ:Ok O):∃v,ai C Bh [.str s] O=some (v,O)/\TI v:=by
 rw[H.read.go (NVs.hand (.cons (.str _) .nil) _)];cases hl:((s.length:Int) !=20)with
 |true=>
  refine⟨.tup [.int .i64 0,.int .i64 3],?_,⟨_,_,rfl⟩⟩;simp only[fM,hl,aS,EVX,seval]
 |false=>
 have hn:s.length=20:=by simp at hl;omega
 have at':∀i,i<20->s[i]?=some (s[i]?.getD 0):=fun i hi=>by rw[a02 (by omega)];rfl
 have a4:=at' 4 (by omega)
 have a7:=at' 7 (by omega)
 have a10:=at' 10 (by omega)
 have a13:=at' 13 (by omega)
 have a16:=at' 16 (by omega)
 have a19:=at' 19 (by omega)
 generalize s[4]?.getD 0=c4 at a4;generalize s[7]?.getD 0=c7 at a7;generalize s[10]?.getD 0=c10 at a10;generalize s[13]?.getD 0=c13 at a13;generalize s[16]?.getD 0=c16 at a16;generalize s[19]?.getD 0=c19 at a19;have bad:∀{r:Option (AV×St)},r=some (.tup [.int .i64 0,.int .i64 3],O)->∃v,r=some (v,O)/\TI v:=fun h=>⟨_,h,⟨_,_,rfl⟩⟩;cases h4:((c4.toNat:Int) !=45)with
 |true=>exact bad (by simp only[fM,hl,a4,h4,aS,EVX,seval])
 |false=>
 cases h7:((c7.toNat:Int) !=45)with
 |true=>exact bad (by simp only[fM,hl,a4,h4,a7,h7,aS,EVX,seval])
 |false=>
 cases h10:((c10.toNat:Int) !=84)with
 |true=>exact bad (by simp only[fM,hl,a4,h4,a7,h7,a10,h10,aS,EVX,seval])
 |false=>
 cases h13:((c13.toNat:Int) !=58)with
 |true=>exact bad (by simp only[fM,hl,a4,h4,a7,h7,a10,h10,a13,h13,aS,EVX,seval])
 |false=>
 cases h16:((c16.toNat:Int) !=58)with
 |true=>exact bad (by simp only[fM,hl,a4,h4,a7,h7,a10,h10,a13,h13,a16,h16,aS,EVX,seval])
 |false=>
 cases h19:((c19.toNat:Int) !=90)with
 |true=>exact bad (by simp only[fM,hl,a4,h4,a7,h7,a10,h10,a13,h13,a16,h16,a19,h19,aS,EVX,seval])
 |false=>
 have dig:∀(a b:Nat),b<=20->∃d,ai C FU [.str ((s.take b).drop a)] O=some (.int .i64 d,O):=fun a b hb=>by
  obtain⟨v,h1,h2⟩:=BI H.digits (.cons (.str ((s.take b).drop a)) .nil) (.cons _ _ _ _ (.strb _ (by simp[LB];omega)) .nil) hσ
  obtain⟨d,rfl⟩:=Nq h2;exact⟨d,h1⟩
 obtain⟨year,e1⟩:=dig 0 4 (by omega)
 obtain⟨month,e2⟩:=dig 5 7 (by omega)
 obtain⟨day,e3⟩:=dig 8 10 (by omega)
 obtain⟨hour,e4⟩:=dig 11 13 (by omega)
 obtain⟨minute,e5⟩:=dig 14 16 (by omega)
 obtain⟨second,e6⟩:=dig 17 19 (by omega)
 simp only[au0]at e1;obtain⟨dd,e7,hdd⟩:=aiA H year month O hσ;have n4:4<=s.length:=by omega
 have n7:7<=s.length:=by omega
 have n10:10<=s.length:=by omega
 have n13:13<=s.length:=by omega
 have n16:16<=s.length:=by omega
 have n19:19<=s.length:=by omega
 by_cases hd:day<1
 ·exact bad (by simp only[fM,hl,a4,h4,a7,h7,a10,h10,a13,h13,a16,h16,a19,h19,e1,e2,e3,n4,n7,n10,hd,au0,au8,and_self,aS,EVX,seval])
 by_cases hd2:day>dd
 ·exact bad (by simp only[fM,hl,a4,h4,a7,h7,a10,h10,a13,h13,a16,h16,a19,h19,e1,e2,e3,e7,n4,n7,n10,hd,hd2,au0,au8,and_self,aS,EVX,seval])
 have hmon:=hdd (by omega)
 have ut:∀(a b:Int),∃q,ai C Js [.int .i64 a,.int .i64 b] O=some (.bool q,O):=fun a b=>by
  obtain⟨v,h1,h2⟩:=BI H.upTo (.cons (.int .i64 a) (.cons (.int .i64 b) .nil)) (.cons _ _ _ _ (.int _ _) (.cons _ _ _ _ (.int _ _) .nil)) hσ;obtain⟨d,rfl⟩:=JA h2;exact⟨d,h1⟩
 obtain⟨u1,e8⟩:=ut hour 23;obtain⟨u2,e9⟩:=ut minute 59;obtain⟨u3,e10⟩:=ut second 59;cases u1 with
 |false=>exact bad (by simp only[fM,hl,a4,h4,a7,h7,a10,h10,a13,h13,a16,h16,a19,h19,e1,e2,e3,e4,e5,e6,e7,e8,n4,n7,n10,n13,n16,n19,hd,hd2,au0,au8,and_self,aS,EVX,seval])
 |true=>
 cases u2 with
 |false=>exact bad (by simp only[fM,hl,a4,h4,a7,h7,a10,h10,a13,h13,a16,h16,a19,h19,e1,e2,e3,e4,e5,e6,e7,e8,e9,n4,n7,n10,n13,n16,n19,hd,hd2,au0,au8,and_self,aS,EVX,seval])
 |true=>
 cases u3 with
 |false=>exact bad (by simp only[fM,hl,a4,h4,a7,h7,a10,h10,a13,h13,a16,h16,a19,h19,e1,e2,e3,e4,e5,e6,e7,e8,e9,e10,n4,n7,n10,n13,n16,n19,hd,hd2,au0,au8,and_self,aS,EVX,seval])
 |true=>
 obtain⟨vs,e11,hs⟩:=BI H.start (.cons (.int .i64 year) .nil) (.cons _ _ _ _ (.int _ _) .nil) hσ;obtain⟨st,rfl⟩:=Nq hs;obtain⟨vl,e12,hl2⟩:=BI H.leap (.cons (.int .i64 year) .nil) (.cons _ _ _ _ (.int _ _) .nil) hσ;obtain⟨lp,rfl⟩:=JA hl2;have hb:=H.bef;have gv:∀E,avA C E (.g tZ)=.eptr bef:=fun E=>by show AV.eptr ((C.gl tZ).getD [])=_;rw[hb];rfl
 have w1:IntKind.i64.wrap (month-1)=month-1:=wrE (by omega)
 have g2:0<=month-1:=by omega
 have bl:bef.length=13:=rfl;have l2:(month-1).toNat<13:=by omega
 have l4:(month-1).toNat<=bef.length:=by omega
 obtain⟨z,hz⟩:=aep (month-1).toNat l2;have good:∀{r:Option (AV×St)} (n e:Int),r=some (.tup [.int .i64 n,.int .i64 e],O)->∃v,r=some (v,O)/\TI v:=fun n e h=>⟨_,h,⟨_,_,rfl⟩⟩;by_cases hm2:month>2
 ·cases lp with
  |true=>
   refine good (IntKind.i64.wrap (IntKind.i64.wrap (IntKind.i64.wrap (IntKind.i64.wrap (IntKind.i64.wrap (IntKind.i64.wrap (st+z)+day)-1)+1)*86400)+IntKind.i64.wrap (IntKind.i64.wrap (IntKind.i64.wrap (hour*3600)+IntKind.i64.wrap (minute*60))+second))) 0 ?_;simp only[fM,hl,a4,h4,a7,h7,a10,h10,a13,h13,a16,h16,a19,h19,e1,e2,e3,e4,e5,e6,e7,e8,e9,e10,e11,e12,n4,n7,n10,n13,n16,n19,hd,hd2,hm2,w1,g2,l2,l4,hz,gv,au0,au8,and_self,aS,EVX,seval]
  |false=>
   refine good (IntKind.i64.wrap (IntKind.i64.wrap (IntKind.i64.wrap (IntKind.i64.wrap (IntKind.i64.wrap (st+z)+day)-1)*86400)+IntKind.i64.wrap (IntKind.i64.wrap (IntKind.i64.wrap (hour*3600)+IntKind.i64.wrap (minute*60))+second))) 0 ?_;simp only[fM,hl,a4,h4,a7,h7,a10,h10,a13,h13,a16,h16,a19,h19,e1,e2,e3,e4,e5,e6,e7,e8,e9,e10,e11,e12,n4,n7,n10,n13,n16,n19,hd,hd2,hm2,w1,g2,l2,l4,hz,gv,au0,au8,and_self,aS,EVX,seval]
 ·refine good (IntKind.i64.wrap (IntKind.i64.wrap (IntKind.i64.wrap (IntKind.i64.wrap (IntKind.i64.wrap (st+z)+day)-1)*86400)+IntKind.i64.wrap (IntKind.i64.wrap (IntKind.i64.wrap (hour*3600)+IntKind.i64.wrap (minute*60))+second))) 0 ?_;simp only[fM,hl,a4,h4,a7,h7,a10,h10,a13,h13,a16,h16,a19,h19,e1,e2,e3,e4,e5,e6,e7,e8,e9,e10,e11,n4,n7,n10,n13,n16,n19,hd,hd2,hm2,w1,g2,l2,l4,hz,gv,au0,au8,and_self,aS,EVX,seval]
def abT(H:Vp C PK):gu C PK Bh (.pure [.strb] (.tup [.int .i64,.int .i64])):=
 vI H.read rfl fun azs hm=>by
  obtain⟨x,rfl,h1⟩:=YC hm;obtain⟨a,rfl,ha⟩:=xC h1;intro O hσ;obtain⟨v,h,n,e,rfl⟩:=aiB H a O hσ;exact⟨_,h,.tup _ _ (.cons _ _ _ _ (.int _ _) (.cons _ _ _ _ (.int _ _) .nil))⟩
end Go.Ev
namespace Go.Ev
def aoW(gl:Nat->Option Sh)(mt:List (TypeId×String×FuncId))(h:List (FuncId×Sm)):Cfg:={aqD mt h with gl:=gl}
def ael{C:Ctx}{gl:Nat->Option Sh}{mt:List (TypeId×String×FuncId)}{hd:List (FuncId×Sm)}(h0:∀n s,gl n=some s->∀V:Val,M V s (.eptr ((C.gl n).getD [])))(h1:∀p∈mt,methodOf C.P p.1 .nilp p.2.1=some (p.2.2,.nilp))(h2:∀p∈hd,gu C gz p.1 p.2){rows:List (FuncId×Sm)}(h3:∀p∈rows,Has C p.1 (kA C.P p.1))(h:(aej (aoW gl mt hd) (aoi C.P rows)).isSome=true):∀p∈rows,gu C gz p.1 p.2:=by
 obtain⟨X',hX⟩:=aw3.mp h;have hs:=(afM (C:=C) (X:=aoW gl mt hd) h0 (fun t m f hf v=>by
  obtain⟨p,hp,rfl⟩:=a97.mp hf;have e:=List.find?_some hp;simp only[a01,beq_iff_eq]at e
  grind [aps]) (fun f m hm=>by
  obtain⟨p,hp,rfl⟩:=ax1.mp hm
  grind [at7]) (fun p hp=>by
  obtain⟨q,hq,rfl⟩:=ax1.mp hp;exact h3 q hq) hX).1
 exact fun p hp=>hs _ _ ((acd hX).2 _ (ax1.mpr ⟨p,hp,rfl⟩))
set_option maxRecDepth 100000
variable{C:Ctx}
def aet(hC:Has C bQ iM)(ns:List LU)(h0:0<ns.length)(hn:ns.length<=8192)(O:St)(hσ:Ok O):ai C bQ [.sl ns.length (ns.map .str)] O=some (.sl ns.length (ns.map .str),O):=by
 have hb:ae 0 (ns.map AV.str)=true:=by
  clear h0 hn
  induction ns with
  |nil=>rfl
  |cons a l ih=>rw[av3,ae,ih];rfl
 have hnv:NVs (ns.map AV.str):=fun v hv=>by
  obtain⟨s,_,rfl⟩:=ax1.mp hv;exact .str s
 rw[hC.go (NVs.hand (.cons (.sl _ hb) .nil) _)];have fa:(ns.map AV.str).all AV.flat=true:=by
  rw[a90];intro v hv;obtain⟨s,_,rfl⟩:=ax1.mp hv;rfl
 have h1:¬ns.length=0:=by omega
 have sn:(ns.map AV.str).length=ns.length:=by simp
 have ap:=fun Y:St=>V7 Y none (sz:=1) (bytes:=16) (n:=0) (m:=ns.length) (l:=[]) (ns.map .str) h1 rfl (by omega) (by omega)
 simp only[av2,au3]at ap;have nm:=OJ (Y:=O++[.cells (ns.map .str) FZ]) (q:=O.length) (n:=ns.length) (sz:=1) (l:=ns.map .str) (fz:=FZ) (by rw[aQ];rfl) (by simp) hnv
 have fz:=zL (Y:=O++[.cells (ns.map .str) FZ]) (q:=O.length) (l:=ns.map .str) (by rw[aQ];rfl)
 have hd:hand false [.msl O.length 0 ns.length 1] (O++[.cells (ns.map .str) FZ])=some ([.sl ns.length (ns.map .str)],O++[.cells (ns.map .str) ⟨true,none⟩]):=by
  show(match(match asb _ (df _ 11) (.msl O.length 0 ns.length 1),aT _ (df _ 11) []with|some (v,fs),some (l,gs)=>some (v::l,fs++gs)|_,_=>none)with|some (l,fs)=>some (l,freeze _ fs)|none=>none)=_
  rw[nm];show some ([AV.sl ns.length (ns.map .str)],freeze (O++[.cells (ns.map .str) FZ]) [O.length])=_;rw[fz,jm];rfl
 have ty:=dE hσ (vs:=[.sl ns.length (ns.map .str)]) (by rw[ae,below,hb];rfl) [.cells (ns.map .str) ⟨true,none⟩]
 have body:dL C (ai C) iM.ntmps iM.body (jF 0 [.sl ns.length (ns.map .str)]) O=some (.ret,[(2,.msl O.length 0 ns.length 1)],O++[.cells (ns.map .str) FZ]):=by
  simp only[iM,fa,h0,sn,ap,EVX,seval]
 rw[body,EO (vs:=[.msl O.length 0 ns.length 1]) rfl hd];exact congrArg (fun t=>some (_,t)) ty
def YA(hC:Pe C dR kY)(xs:List EL)(h0:xs≠[])(hn:xs.length<=8192)(O:St)(hσ:Ok O):ai C dR [.sl xs.length (kQ xs)] O=some (.msl O.length 0 xs.length 6,O++[.cells (kQ xs) FZ]):=by
 have hl:0<xs.length:=List.length_pos_iff.mpr h0;rw[hC.go];have fa:(kQ xs).all AV.flat=true:=by
  rw[a90];intro v hv;obtain⟨x,_,hx⟩:=aD3.mp hv;exact a90.mp (yN x) v hx
 have h1:¬xs.length=0:=by omega
 have sn:=acB xs;have ap:=fun Y:St=>V7 Y none (sz:=6) (bytes:=96) (n:=0) (m:=xs.length) (l:=[]) (kQ xs) h1 rfl (by omega) (by omega)
 simp only[av2,au3]at ap;have ty:tidy O.length [.msl O.length 0 xs.length 6] (O++[.cells (kQ xs) FZ])=O++[.cells (kQ xs) FZ]:=by
  unfold tidy;have:ae O.length [.msl O.length 0 xs.length 6]=false:=by simp[ae,below]
  split
  ·rfl
  ·rw[this];simp
 simp only[kY,fa,hl,sn,ap,ty,qG,aY,EVX,seval]
def alT(n:Nat)(h:n<18446744073709551616):IntKind.u64.wrap (n:Int)=n:=by
 simp[IntKind.wrap,IntKind.bits,IntKind.signed];omega
def tV(n:Nat)(h:n<4294967296):IntKind.u32.wrap (n:Int)=n:=by
 simp[IntKind.wrap,IntKind.bits,IntKind.signed];omega
def aqX:(List.range 256).all (fun b=>match Td[b]? with|some c=>decide (b<2^c.toNat)&&decide (c.toNat<=8)|none=>false)=true:=by decide+kernel
def aqY(hC:Has C oO eG)(x:Nat)(hx:x<18446744073709551616):∃L:Nat,x<2^L/\L<=64/\∀O,ai C oO [.int .u64 x] O=some (.int .i64 L,O):=by
 have go:=fun O=>hC.go (O:=O) (NVs.hand (.cons (.int .u64 (x:Int)) .nil) _);have f:∀(k y:Nat),(y:Int).fdiv ((2^k:Nat):Int)=((y/2^k:Nat):Int):=fun k y=>by
  rw[az6 _ (Int.natCast_nonneg _)];rfl
 have f32:∀y:Nat,(y:Int).fdiv (2^min 32 IntKind.u64.bits)=((y/4294967296:Nat):Int):=f 32;have f16:∀y:Nat,(y:Int).fdiv (2^min 16 IntKind.u64.bits)=((y/65536:Nat):Int):=f 16;have f8:∀y:Nat,(y:Int).fdiv (2^min 8 IntKind.u64.bits)=((y/256:Nat):Int):=f 8;have fin:∀(n y:Nat),y=x/2^n->y<256->n<=56->(∀c:UInt8,Td[y]?=some c->IntKind.i64.wrap (c.toNat:Int)=c.toNat->IntKind.i64.wrap ((n:Int)+c.toNat)=((n+c.toNat:Nat):Int)->IntKind.u8.wrap (y:Int)=y->(0:Int)<=y->∀O,ai C oO [.int .u64 x] O=some (.int .i64 (n+c.toNat:Nat),O))->∃L:Nat,x<2^L/\L<=64/\∀O,ai C oO [.int .u64 x] O=some (.int .i64 L,O):=fun n y hy h1 h2 h=>by
  have t:=a90.mp aqX y (ay9.mpr h1);split at t
  ·rename_i c hc;simp only[a01,decide_eq_true_eq]at t;refine⟨n+c.toNat,?_,by omega,h c hc (by rw[w64]<;>omega) (by rw[w64]<;>omega) (by rw[IntKind.wrap_u8];omega) (by omega)⟩
   rw[hy,Nat.div_lt_iff_lt_mul (Nat.pow_pos (by decide)),Nat.mul_comm,<-Nat.pow_add]at t
   exact t.1
  ·cases t
 by_cases c1:(4294967296:Int)<=(x:Int)
 ·by_cases c2:(65536:Int)<=((x/4294967296:Nat):Int)
  ·by_cases c3:(256:Int)<=((x/4294967296/65536:Nat):Int)
   ·refine fin 56 (x/4294967296/65536/256) (by omega) (by omega) (by omega) fun c hc g1 g2 g3 g4 O=>?_
    rw[go];simp only[eG,c1,c2,c3,f32,f16,f8,hc,g1,g3,g4,a81,EVX,seval];exact congrArg (fun v=>some (AV.int IntKind.i64 v,O)) g2
   ·refine fin 48 (x/4294967296/65536) (by omega) (by omega) (by omega) fun c hc g1 g2 g3 g4 O=>?_
    rw[go];simp only[eG,c1,c2,c3,f32,f16,hc,g1,g3,g4,a81,EVX,seval];exact congrArg (fun v=>some (AV.int IntKind.i64 v,O)) g2
  ·by_cases c3:(256:Int)<=((x/4294967296:Nat):Int)
   ·refine fin 40 (x/4294967296/256) (by omega) (by omega) (by omega) fun c hc g1 g2 g3 g4 O=>?_
    rw[go];simp only[eG,c1,c2,c3,f32,f8,hc,g1,g3,g4,a81,EVX,seval];exact congrArg (fun v=>some (AV.int IntKind.i64 v,O)) g2
   ·refine fin 32 (x/4294967296) (by omega) (by omega) (by omega) fun c hc g1 g2 g3 g4 O=>?_
    rw[go];simp only[eG,c1,c2,c3,f32,hc,g1,g3,g4,a81,EVX,seval];exact congrArg (fun v=>some (AV.int IntKind.i64 v,O)) g2
 ·by_cases c2:(65536:Int)<=((x:Nat):Int)
  ·by_cases c3:(256:Int)<=((x/65536:Nat):Int)
   ·refine fin 24 (x/65536/256) (by omega) (by omega) (by omega) fun c hc g1 g2 g3 g4 O=>?_
    rw[go];simp only[eG,c1,c2,c3,f16,f8,hc,g1,g3,g4,a81,EVX,seval];exact congrArg (fun v=>some (AV.int IntKind.i64 v,O)) g2
   ·refine fin 16 (x/65536) (by omega) (by omega) (by omega) fun c hc g1 g2 g3 g4 O=>?_
    rw[go];simp only[eG,c1,c2,c3,f16,hc,g1,g3,g4,a81,EVX,seval];exact congrArg (fun v=>some (AV.int IntKind.i64 v,O)) g2
  ·by_cases c3:(256:Int)<=((x:Nat):Int)
   ·refine fin 8 (x/256) (by omega) (by omega) (by omega) fun c hc g1 g2 g3 g4 O=>?_
    rw[go];simp only[eG,c1,c2,c3,f8,hc,g1,g3,g4,a81,EVX,seval];exact congrArg (fun v=>some (AV.int IntKind.i64 v,O)) g2
   ·refine fin 0 (x) (by omega) (by omega) (by omega) fun c hc g1 g2 g3 g4 O=>?_
    rw[go];simp only[eG,c1,c2,c3,hc,g1,g3,g4,a81,EVX,seval];exact congrArg (fun v=>some (AV.int IntKind.i64 v,O)) (by simpa using g2)
def p10:LA:=(List.range 20).map fun i=>AV.int .u64 ((10^i:Nat):Int)
def arG:(List.range 65).all (fun L=>decide (2^L<=10^(L*78913/262144+1))&&decide (L*78913/262144<20))=true:=by decide+kernel
structure NdHas(C:Ctx):Prop where
 len:Has C oO eG
 log:Has C lV lQ
 b2i:Has C asi lN
 nd:Has C iR sO
 gl:C.gl qM=some p10
def ar1(hC:Has C lV lQ)(L:Nat)(hL:L<=64)(O:St):ai C lV [.int .i64 L] O=some (.int .i64 (L*78913/262144:Nat),O):=by
 rw[hC.go (NVs.hand (.cons (.int _ _) .nil) _)];have w:IntKind.i64.wrap ((L:Int)*78913)=((L*78913:Nat):Int):=wrE (by omega)
 have f:∀y:Nat,(y:Int).fdiv (2^min 18 IntKind.i64.bits)=((y/262144:Nat):Int):=fun y=>by
  rw[az6 _ (by decide)];rfl
 simp only[lQ,w,f,EVX,seval]
def b2i(hC:Has C asi lN)(b:Bool)(O:St):ai C asi [.bool b] O=some (.int .i64 (if b then 1 else 0),O):=by
 rw[hC.go (NVs.hand (.cons (.bool _) .nil) _)];cases b<;>simp only[lN,ay4,EVX,seval]
def numDigits(H:NdHas C)(u:Nat)(hu:u<18446744073709551616):∃d:Nat,u<10^d/\d<=20/\∀O,ai C iR [.int .u64 u] O=some (.int .i64 d,O):=by
 obtain⟨L,l1,l3,q1⟩:=aqY H.len u hu;have t:=a90.mp arG L (ay9.mpr (by omega))
 simp only[a01,decide_eq_true_eq]at t;obtain⟨t1,t2⟩:=t;have q2:=ar1 H.log L l3;generalize L*78913/262144=n at*;have hg:p10[n]?=some (.int .u64 ((10^n:Nat):Int)):=by
  unfold p10;rw[ax5,List.getElem?_range t2];rfl
 have hgl:=H.gl;refine⟨n+(if 10^n<=u then 1 else 0),?_,?_,fun O=>?_⟩
 ·split
  ·omega
  ·rename_i h;simpa using Nat.lt_of_not_le h
 ·split<;>omega
 ·rw[H.nd.go (NVs.hand (.cons (.int _ _) .nil) _)];have b:=b2i H.b2i (decide (10^n<=u)) O;have dn:p10.drop n=.int .u64 ((10^n:Nat):Int)::p10.drop (n+1):=by
   rw[as9 (by simp[p10];omega)]
   congr 1
   exact aA9 ((a02 (by simp[p10];omega)).symm.trans hg)
  have hn0:(0:Int)<=(n:Int):=by omega
  have hn20:n<20:=t2;have hd:decide (((10^n:Nat):Int)<=(u:Int))=decide (10^n<=u):=by
   rw[aB7];simp only[decide_eq_true_eq];omega
  have hl:p10.length=20:=rfl;have hle:n<=20:=by omega
  simp only[sO,q1,q2,hgl,dn,hl,hle,hn0,hn20,hd,b,a81,az2,decide_eq_true_eq,EVX,seval];refine congrArg (fun v=>some (AV.int IntKind.i64 v,O)) ?_;split<;>(rw[w64]<;>omega)
def sm_at(a:Nat)(h:a<100):eX[a*2]?=some (eX.getD (a*2) 0)/\eX[a*2+1]?=some (eX.getD (a*2+1) 0):=by
 have e:∀x,x<200->eX[x]?=some (eX.getD x 0):=fun x hx=>by
  rw[av4,a02 (by omega)];rfl
 exact⟨e _ (by omega),e _ (by omega)⟩
def aq9(l:LU)(i:Nat)(b:UInt8)(h:i<l.length):splice (ofBytes l) i [.int .u8 (b.toNat:Int)]=ofBytes (l.set i b):=by
 unfold splice ofBytes;rw[List.map_set,List.set_eq_take_append_cons_drop,if_pos (by simpa using h)]
 simp
def Uy(a:Nat)(ha:a<100):IntKind.u32.wrap ((a:Int)*2)=((a*2:Nat):Int)/\IntKind.u32.wrap (((a*2:Nat):Int)+1)=((a*2+1:Nat):Int)/\(0:Int)<=((a*2:Nat):Int)/\(0:Int)<=((a*2+1:Nat):Int):=⟨by have:=tV (a*2) (by omega);rw[<-this];rfl,by have:=tV (a*2+1) (by omega);rw[<-this];rfl,by omega,by omega⟩
def agj (d:Nat) (hd:d<=20) (O:St) (q:Nat) {x0:AO} (hq:O[q]?=some x0):∀(n i u:Nat) (l:LU),i<=d->i/8=n->u<10^i->u<18446744073709551616->l.length=24->∃(u':Nat) (l':LU),u'<10^(i%8)/\l'.length=24/\
  aH C (ai C) 167 [0,1,4] aU [(0,.msl q 1 d 1),(1,.int .u64 u),(4,.int .i64 i)] (O.set q (.cells (ofBytes l) FZ))=
   some (.exit 0,[(0,.msl q 1 d 1),(1,.int .u64 u'),(4,.int .i64 (i%8:Nat))],O.set q (.cells (ofBytes l') FZ))
 |0,i,u,l,hi,hn,hu,hu2,hl=>by
  have e:i%8=i:=Nat.mod_eq_of_lt (by omega)
  refine⟨u,l,by rw[e];exact hu,hl,?_⟩
  rw[aG (he:=rfl)];have h:¬(8:Int)<=(i:Int):=by omega
  simp only[aU,h,e,EVX,seval]
 |n+1,i,U,l,hi,hn,hu,hu2,hl=>by
  have h:(8:Int)<=(i:Int):=by omega
  obtain⟨j,rfl⟩:∃j,i=j+8:=⟨i-8,by omega⟩
  have step:∃l2:LU,l2.length=24/\aH C (ai C) 167 [0,1,4] aU [(0,.msl q 1 d 1),(1,.int .u64 U),(4,.int .i64 (j+8:Nat))] (O.set q (.cells (ofBytes l) FZ))=aH C (ai C) 167 [0,1,4] aU [(0,.msl q 1 d 1),(1,.int .u64 (U/100000000:Nat)),(4,.int .i64 j)] (O.set q (.cells (ofBytes l2) FZ)):=by
   have gs:∀(x:AO),(O.set q x)[q]?=some x:=fun x=>bg hq x;obtain⟨us,hus⟩:∃x,U%100000000=x:=⟨_,rfl⟩;obtain⟨hh,hhh⟩:∃x,us/10000=x:=⟨_,rfl⟩;obtain⟨ll,hll⟩:∃x,us%10000=x:=⟨_,rfl⟩;obtain⟨a1,ha1⟩:∃x,hh/100=x:=⟨_,rfl⟩;obtain⟨a2,ha2⟩:∃x,hh%100=x:=⟨_,rfl⟩;obtain⟨a3,ha3⟩:∃x,ll/100=x:=⟨_,rfl⟩;obtain⟨a4,ha4⟩:∃x,ll%100=x:=⟨_,rfl⟩;have t1:(U:Int).tmod 100000000=(us:Int):=by rw[<-hus];rfl
   have t2:(U:Int).tdiv 100000000=((U/100000000:Nat):Int):=rfl;have t3:(us:Int).tdiv 10000=(hh:Int):=by rw[<-hhh];rfl
   have t4:(us:Int).tmod 10000=(ll:Int):=by rw[<-hll];rfl
   have t5:(hh:Int).tdiv 100=(a1:Int):=by rw[<-ha1];rfl
   have t6:(hh:Int).tmod 100=(a2:Int):=by rw[<-ha2];rfl
   have t7:(ll:Int).tdiv 100=(a3:Int):=by rw[<-ha3];rfl
   have t8:(ll:Int).tmod 100=(a4:Int):=by rw[<-ha4];rfl
   have w0:=alT (U/100000000) (by omega)
   have w1:=tV us (by omega)
   have w2:=tV hh (by omega)
   have w3:=tV a1 (by omega)
   have w4:=tV a3 (by omega)
   obtain⟨x1,y1,z1,v1⟩:=Uy a1 (by omega)
   obtain⟨s1,r1⟩:=sm_at a1 (by omega)
   obtain⟨x2,y2,z2,v2⟩:=Uy a2 (by omega)
   obtain⟨s2,r2⟩:=sm_at a2 (by omega)
   obtain⟨x3,y3,z3,v3⟩:=Uy a3 (by omega)
   obtain⟨s3,r3⟩:=sm_at a3 (by omega)
   obtain⟨x4,y4,z4,v4⟩:=Uy a4 (by omega)
   obtain⟨s4,r4⟩:=sm_at a4 (by omega)
   have iw:∀(k:Int) (r:Nat),k+r=8->0<=k->IntKind.i64.wrap (((j+8:Nat):Int)-k)=((j+r:Nat):Int):=fun k r h h0=>by rw[w64]<;>omega
   have i1:=iw 1 7 rfl (by decide)
   have i2:=iw 2 6 rfl (by decide)
   have i3:=iw 3 5 rfl (by decide)
   have i4:=iw 4 4 rfl (by decide)
   have i5:=iw 5 3 rfl (by decide)
   have i6:=iw 6 2 rfl (by decide)
   have i7:=iw 7 1 rfl (by decide)
   have i8:IntKind.i64.wrap (((j+8:Nat):Int)-8)=(j:Int):=iw 8 0 rfl (by decide)
   have n8:(0:Int)<=(j:Int):=by omega
   have l8:j<d:=by omega
   have c8:1+j+1<=24:=by omega
   have d8:1+j<24:=by omega
   have ng:∀r:Nat,(0:Int)<=((j+r:Nat):Int):=fun r=>Int.natCast_nonneg _;have lg:∀r:Nat,r<8->j+r<d:=fun r h=>by omega
   have cg:∀r:Nat,r<8->1+(j+r)+1<=24:=fun r h=>by omega
   have c2:∀r:Nat,r<8->1+(j+r)<24:=fun r h=>by omega
   refine⟨?_,?_,?_⟩
   rotate_left 2
   ·rw[aG (he:=rfl)];generalize hk:aH C (ai C) 167 [0,1,4] aU=k;simp only[aU,h,gs,t1,t2,t3,t4,t5,t6,t7,t8,w0,w1,w2,w3,w4,x1,y1,z1,v1,s1,r1,x2,y2,z2,v2,s2,r2,x3,y3,z3,v3,s3,r3,x4,y4,z4,v4,s4,r4,i1,i2,i3,i4,i5,i6,i7,i8,n8,l8,c8,d8,ng,lg,cg,c2,aq9,hl,a95,aI,a81,ax4,AV.cells,AV.flat,EVX,seval];rfl
   ·simp only[a95,hl]
  obtain⟨l2,hl2,e2⟩:=step;obtain⟨u',l',a,b,c⟩:=agj d hd O q hq n j (U/100000000) l2 (by omega) (by omega) (by rw[Nat.div_lt_iff_lt_mul (by decide)];rw[Nat.pow_add]at hu;exact hu) (by omega) hl2
  rw[Nat.add_mod_right];exact⟨u',l',a,b,e2.trans c⟩
def bi(n:Nat):IntKind.u8.wrap (n:Int)=((UInt8.ofNat n).toNat:Int):=by
 rw[IntKind.wrap_u8,UInt8.toNat_ofNat'];omega
def arS (hC:Pe C dm dU) (d u:Nat) (l:LU) (hl:l.length=24) (hd:u<10^d) (hd20:d<=20) (hu:u<18446744073709551616) (O:St) (q:Nat) (hq:O[q]?=some (.cells (ofBytes l) FZ)):
  ∃l':LU,l'.length=24/\ai C dm [.msl q 1 d 1,.int .u64 u] O=some (.tup [],O.set q (.cells (ofBytes l') FZ)):=by
 obtain⟨x,l2,hx,hl2,lp⟩:=agj (C:=C) d hd20 O q hq (d/8) d u l (a06 _) rfl hd hu hl;rw[set_self hq]at lp;have gs:∀(x:AO),(O.set q x)[q]?=some x:=fun x=>bg hq x;have ty:∀x:AO,tidy O.length [] (O.set q x)=O.set q x:=fun x=>by
  have:=aS (O.set q x) [];rwa[a95]at this
 have hr:d%8<8:=Nat.mod_lt _ (by decide)
 have hrd:d%8<=d:=Nat.mod_le _ _;generalize d%8=r at*;have hx7:x<10000000:=ax8 hx (Nat.pow_le_pow_right (j:=7) (by decide) (by omega))
 have wx:=tV x (by omega)
 have t1:∀y:Nat,(y:Int).tmod 10000=((y%10000:Nat):Int):=fun y=>rfl;have t2:∀y:Nat,(y:Int).tdiv 10000=((y/10000:Nat):Int):=fun y=>rfl;have t3:∀y:Nat,(y:Int).tmod 100=((y%100:Nat):Int):=fun y=>rfl;have t4:∀y:Nat,(y:Int).tdiv 100=((y/100:Nat):Int):=fun y=>rfl;have w1:=tV (x/10000) (by omega)
 have w2:=tV (x/100) (by omega)
 have w3:=tV (x/10000/100) (by omega)
 have w4:=tV (x%10000/100) (by omega)
 obtain⟨xa,ya,za,va⟩:=Uy (x%10000/100) (by omega)
 obtain⟨sa,ra⟩:=sm_at (x%10000/100) (by omega)
 obtain⟨xb,yb,zb,vb⟩:=Uy (x%10000%100) (by omega)
 obtain⟨sb,rb⟩:=sm_at (x%10000%100) (by omega)
 obtain⟨xc,yc,zc,vc⟩:=Uy (x/10000%100) (by omega)
 obtain⟨sc,rc⟩:=sm_at (x/10000%100) (by omega)
 obtain⟨xd,yd,zd,vd⟩:=Uy (x%100) (by omega)
 obtain⟨sd,rd⟩:=sm_at (x%100) (by omega)
 have q1:∀y:Nat,y<10000000->IntKind.u32.wrap (48+(y:Int))=((48+y:Nat):Int):=fun y hy=>by have:=tV (48+y) (by omega);rw[<-this];rfl
 have q2:=q1 x hx7;have q3:=q1 (x/100) (by omega)
 have q4:=q1 (x/10000) (by omega)
 have q5:=q1 (x/10000/100) (by omega)
 have lg:∀k,k<r->k<d:=fun k h=>by omega
 have h8:r=0\/r=1\/r=2\/r=3\/r=4\/r=5\/r=6\/r=7:=by omega
 rcases h8 with rfl|rfl|rfl|rfl|rfl|rfl|rfl|rfl;all_goals
  simp only[at6,Int.natCast_zero,Int.natCast_one]at lp;refine⟨?_,?_,?_⟩
  rotate_left 2
  ·rw[hC.go];simp only[dU,lp,gs,ty,wx,t1,t2,t3,t4,w1,w2,w3,w4,xa,ya,za,va,sa,ra,xb,yb,zb,vb,sb,rb,xc,yc,zc,vc,sc,rc,xd,yd,zd,vd,sd,rd,q2,q3,q4,q5,bi,w64,lg,hl2,aq9,aI,a95,Uf,aY,bD,a81,ax4,AV.cells,AV.flat,EVX,seval];rfl
  ·simp only[a95,hl2]
structure Si(C:Ctx):Prop extends NdHas C where
 fb:Pe C dm dU
 small:Has C wB pI
 int:Has C iQ dN
 fmt:Has C Ce BX
 show_:Has C Ot VU
def alD(H:Si C)(y:Nat)(hy:y<100)(O:St):∃s:LU,s.length<=64/\ai C wB [.int .i64 y] O=some (.str s,O):=by
 have h0:(0:Int)<=(y:Int):=by omega
 have w1:=wrS y (by omega)
 have w2:IntKind.i64.wrap ((y:Int)*2)=((y*2:Nat):Int):=wrE (by omega)
 have w3:IntKind.i64.wrap (((y*2:Nat):Int)+2)=((y*2+2:Nat):Int):=wrE (by omega)
 have ng:∀k:Nat,(0:Int)<=(k:Int):=Int.natCast_nonneg;have l2:y<=y+1:=by omega
 have l3:y*2<=y*2+2:=by omega
 have l4:y*2+2<=200:=by omega
 have ll:eX.length=200:=rfl;have go:=H.small.go (O:=O) (NVs.hand (.cons (.int .i64 (y:Int)) .nil) _);by_cases c:(y:Int)<10
 ·have l5:y+1<=36:=by omega
  refine⟨?_,?_,?_⟩
  rotate_left 2
  ·rw[go];simp only[pI,c,h0,w1,ng,l2,l5,a81,EVX,seval];rfl
  ·simp;omega
 ·refine⟨?_,?_,?_⟩
  rotate_left 2
  ·rw[go];simp only[pI,c,w2,w3,ng,l3,l4,ll,a81,EVX,seval];rfl
  ·simp only[aD5,a07,ay6];omega
def agG(l:LU)(k:Nat):(ofBytes l).take k=ofBytes (l.take k):=by simp[ofBytes,List.map_take]
def an0(l:LU)(k:Nat):(ofBytes l).drop k=ofBytes (l.drop k):=by simp[ofBytes,List.map_drop]
def z24:LU:=List.replicate 24 0
set_option maxHeartbeats 2000000 in
def amF (H:Si C) (n:Int) (u:Nat) (c:¬(0<=n/\n<100)) (hu1:u<18446744073709551616) (b1:n<0->IntKind.u64.wrap (0-IntKind.u64.wrap n)=(u:Int)) (b2:¬n<0->IntKind.u64.wrap n=(u:Int)) (d:Nat) (d0:d≠0) (d1:u<10^d) (d2:d<=20) (q1:∀O,ai C iR [.int .u64 u] O=some (.int .i64 d,O)) (O:St) (hσ:Ok O):
  ∃s:LU,ai C iQ [.int .i64 n,.int .i64 10] O=some (.str s,O)/\s.length<=64:=by
 have go:=H.int.go (O:=O) (NVs.hand (.cons (.int .i64 n) (.cons (.int .i64 10) .nil)) _);obtain⟨l,hl,q2⟩:=arS H.fb d u z24 rfl d1 d2 hu1 (O++[.cells (ofBytes z24) FZ]) O.length (by rw[aQ];rfl)
 rw[jm]at q2;have zz:ofBytes z24=[.int .u8 0,.int .u8 0,.int .u8 0,.int .u8 0,.int .u8 0,.int .u8 0,.int .u8 0,.int .u8 0,.int .u8 0,.int .u8 0,.int .u8 0,.int .u8 0,.int .u8 0,.int .u8 0,.int .u8 0,.int .u8 0,.int .u8 0,.int .u8 0,.int .u8 0,.int .u8 0,.int .u8 0,.int .u8 0,.int .u8 0,.int .u8 0]:=rfl;rw[zz]at q2;have hw:IntKind.i64.wrap (1+(d:Int))=((1+d:Nat):Int):=wrE (by omega)
 have l1:(0:Int)<=((1+d:Nat):Int):=by omega
 have l2:1<=1+d:=by omega
 have l3:1+d<=24:=by omega
 have l4:1+d-1=d:=by omega
 have l5:¬1=1+d:=by omega
 have l6:¬0=1+d:=by omega
 have l7:1+d-0=1+d:=by omega
 have ty:=fun(s:LU) L=>dE hσ (vs:=[.str s]) rfl L;have sp:splice (ofBytes l) 0 [.int .u8 45]=ofBytes (l.set 0 45):=aq9 l 0 45 (by omega)
 by_cases s:n<0
 ·have c1:¬(0:Int)<=n:=by omega
  have hb:=b1 s;refine⟨?_,?_,?_⟩
  rotate_left 1
  ·rw[go];simp only[dN,c1,s,hb,q1,q2,hw,l1,l2,l3,l4,l5,l6,l7,hl,sp,agG,uC,aI,a95,au8,aw9,ty,a81,a98,EVX,seval];rfl
  ·rw[ay6];omega
 ·have hb:=b2 s;have c2:(0:Int)<=n:=by omega
  have c3:¬n<100:=by omega
  refine⟨?_,?_,?_⟩
  rotate_left 1
  ·rw[go];simp only[dN,c2,c3,s,hb,q1,q2,hw,l1,l2,l3,l4,l5,hl,agG,an0,uC,aI,au8,aw9,ty,a81,EVX,seval];rfl
  ·rw[ay6];omega
def ajt (hC:Pe C dm dU) (O:St):
  ai C dm [.emp,.int .u64 0] O=some (.tup [],O):=by
 rw[hC.go];have ty:=aS O [];have lp:aH C (ai C) 167 [0,1,4] aU [(0,.emp),(1,.int .u64 0),(4,.int .i64 0)] O=some (.exit 0,[(0,.emp),(1,.int .u64 0),(4,.int .i64 0)],O):=by
  rw[aG (he:=rfl)];simp only[aU,EVX,seval]
 simp only[dU,lp,ty,Uf,aY,bD,EVX,seval]
set_option maxHeartbeats 2000000 in
def amG(H:Si C)(n:Int)(c:¬(0<=n/\n<100))(b1:n<0->IntKind.u64.wrap (0-IntKind.u64.wrap n)=0)(b2:¬n<0->IntKind.u64.wrap n=0)(q1:∀O,ai C iR [.int .u64 0] O=some (.int .i64 0,O))(O:St)(hσ:Ok O):∃s:LU,ai C iQ [.int .i64 n,.int .i64 10] O=some (.str s,O)/\s.length<=64:=by
 rw[H.int.go (NVs.hand (.cons (.int _ _) (.cons (.int _ _) .nil)) _)];have q2:=ajt H.fb;have ty:=fun(s:LU) L=>dE hσ (vs:=[.str s]) rfl L;have hw:IntKind.i64.wrap 1=1:=rfl;have l1:bytesOf [.int .u8 45]=some [45]:=rfl;have l2:bytesOf []=some []:=rfl;have o1:(0:Int)<=1:=by decide
 have o2:(1:Int).toNat=1:=rfl;by_cases s:n<0
 ·have c1:¬(0:Int)<=n:=by omega
  have hb:=b1 s;refine⟨[45],?_,by simp⟩
  simp only[dN,c1,s,hb,q1,q2,hw,o1,o2,l1,au8,aw9,ty,splice,EVX,seval]
 ·have hb:=b2 s;have c2:(0:Int)<=n:=by omega
  have c3:¬n<100:=by omega
  refine⟨[],?_,by simp⟩
  simp only[dN,c2,c3,s,hb,q1,q2,hw,o1,o2,l2,au8,aw9,ty,EVX,seval]
def ahE(H:Si C)(n:Int)(O:St)(hσ:Ok O):∃s:LU,ai C iQ [.int .i64 n,.int .i64 10] O=some (.str s,O)/\s.length<=64:=by
 by_cases c:0<=n/\n<100
 ·obtain⟨y,rfl⟩:∃y:Nat,n=y:=⟨n.toNat,by omega⟩
  have c1:(0:Int)<=(y:Int):=by omega
  have c2:(y:Int)<100:=c.2;obtain⟨s,hs,q⟩:=alD H y (by omega) O
  refine⟨s,?_,hs⟩;rw[H.int.go (NVs.hand (.cons (.int _ _) (.cons (.int _ _) .nil)) _)];simp only[dN,c1,c2,q,EVX,seval]
 ·have rg:∀m:Int,∃u:Nat,u<18446744073709551616/\IntKind.u64.wrap m=(u:Int):=fun m=>by
   refine⟨(m%18446744073709551616).toNat,by omega,?_⟩
   simp[IntKind.wrap,IntKind.bits,IntKind.signed];omega
  obtain⟨u,hu1,b1,b2⟩:∃u:Nat,u<18446744073709551616/\(n<0->IntKind.u64.wrap (0-IntKind.u64.wrap n)=(u:Int))/\(¬n<0->IntKind.u64.wrap n=(u:Int)):=by
   by_cases s:n<0
   ·obtain⟨u,h1,h2⟩:=rg (0-IntKind.u64.wrap n);exact⟨u,h1,fun _=>h2,fun h=>absurd s h⟩
   ·obtain⟨u,h1,h2⟩:=rg n;exact⟨u,h1,fun h=>absurd h s,fun _=>h2⟩
  obtain⟨d,d1,d2,q1⟩:=numDigits H.toNdHas u hu1;by_cases h0:d=0
  ·subst h0;obtain rfl:u=0:=by simpa using d1
   exact amG H n c b1 b2 q1 O hσ
  ·exact amF H n u c hu1 b1 b2 d h0 d1 d2 q1 O hσ
def adm(H:Si C)(n:Int)(O:St)(hσ:Ok O):∃s:LU,ai C Ot [.int .i64 n] O=some (.str s,O)/\s.length<=64:=by
 obtain⟨s,q,hl⟩:=ahE H n O hσ;have q:ai C Ce [.int .i64 n,.int .i64 10] O=some (.str s,O):=by
  rw[H.fmt.go (NVs.hand (.cons (.int _ _) (.cons (.int _ _) .nil)) _)];simp only[BX,q,EVX,seval]
 refine⟨s,?_,hl⟩;rw[H.show_.go (NVs.hand (.cons (.int _ _) .nil) _)];simp only[VU,q,EVX,seval]
set_option maxRecDepth 1000000
noncomputable section
def kD:KF:=(.mk ?k:KsA 374 []).1
def mO:KC:=(.mk ?k:LsA 364 [] 0).1
attribute [local irreducible] mO
def GR:KF:=(.mk ?k:KsA 364 [mO]).1
def zH:KF:=(.mk ?k:KsA 353 []).1
def TU:KF:=(.mk ?k:KsA 195 []).1
def jO:KC:=(.mk ?k:LsA 138 [] 0).1
attribute [local irreducible] jO
def zZ:KF:=(.mk ?k:KsA 138 [jO]).1
def gI:KC:=(.mk ?k:LsA 348 [] 0).1
attribute [local irreducible] gI
def yE:KF:=(.mk ?k:KsA 348 [gI]).1
def oz:KF:=(.mk ?k:KsA 352 []).1
def fA:KF:=(.mk ?k:KsA 365 []).1
def ED:KF:=(.mk ?k:KsA 375 []).1
def BP:KF:=(.mk ?k:KsA 376 []).1
def jP:KC:=(.mk ?k:LsA 377 [] 0).1
attribute [local irreducible] jP
def jq:KF:=(.mk ?k:KsA 377 [jP]).1
def lh:KC:=(.mk ?k:LsA 383 [] 0).1
attribute [local irreducible] lh
def CG:KF:=(.mk ?k:KsA 383 [lh]).1
def pJ:KF:=(.mk ?k:KsA 384 []).1
def ny:KC:=(.mk ?k:LsA 385 [] 0).1
attribute [local irreducible] ny
def yF:KF:=(.mk ?k:KsA 385 [ny]).1
def uh:KF:=(.mk ?k:KsA 230 []).1
end
set_option maxRecDepth 100000
def bq(a b:Int):(a==b)=true\/(a==b)=false:=by cases a==b<;>simp
def ae4(h:Has C Hu kD)(c:Int)(O:St):∃z l u:Int,0<=z/\z<=4/\ai C Hu [.int .u8 c] O=some (.tup [.int .i64 z,.int .u8 l,.int .u8 u],O):=by
 rw[h.go (NVs.hand (.cons (.int _ _) .nil) _)];by_cases c1:c<128
 ·exact⟨1,0,0,by omega,by omega,by simp only[kD,c1,EVX,seval]⟩
 by_cases c2:c<194
 ·exact⟨0,0,0,by omega,by omega,by simp only[kD,c1,c2,EVX,seval]⟩
 by_cases c3:c<224
 ·exact⟨2,128,191,by omega,by omega,by simp only[kD,c1,c2,c3,EVX,seval]⟩
 rcases bq c 224 with c4|c4
 ·exact⟨3,160,191,by omega,by omega,by simp only[kD,c1,c2,c3,c4,EVX,seval]⟩
 rcases bq c 237 with c5|c5
 ·exact⟨3,128,159,by omega,by omega,by simp only[kD,c1,c2,c3,c4,c5,EVX,seval]⟩
 by_cases c6:c<240
 ·exact⟨3,128,191,by omega,by omega,by simp only[kD,c1,c2,c3,c4,c5,c6,EVX,seval]⟩
 rcases bq c 240 with c7|c7
 ·exact⟨4,144,191,by omega,by omega,by simp only[kD,c1,c2,c3,c4,c5,c6,c7,EVX,seval]⟩
 by_cases c8:c<244
 ·exact⟨4,128,191,by omega,by omega,by simp only[kD,c1,c2,c3,c4,c5,c6,c7,c8,EVX,seval]⟩
 rcases bq c 244 with c9|c9
 ·exact⟨4,128,143,by omega,by omega,by simp only[kD,c1,c2,c3,c4,c5,c6,c7,c8,c9,EVX,seval]⟩
 exact⟨0,0,0,by omega,by omega,by simp only[kD,c1,c2,c3,c4,c5,c6,c7,c8,c9,EVX,seval]⟩
def NG(s:LU)(hs:s.length<1099511627777)(i:Nat)(z:Int)(hz:z<=4)(hi:i<s.length)(O:St):∀(n k:Nat),(k:Int)+n=i+z->k<=s.length->∀r l u:Int,∃o,aH C (ai C) 78 [0,1,4,5,7,8,9] mO [(0,.str s),(1,.int .i64 i),(4,.int .i64 r),(5,.int .i64 z),(7,.int .u8 l),(8,.int .u8 u),(9,.int .i64 k)] O=some o/\((∃r',o=(.exit 0,[(4,.int .i64 r'),(5,.int .i64 z)],O))\/∃e:Int,e≠0/\o=(.ret,[(4,.int .i64 0),(5,.int .i64 0),(6,.int .i64 e)],O))
 |0,k,hk,hl,r,l,u=>by
  rw[aG (he:=rfl)];have w:IntKind.i64.wrap ((i:Int)+z)=k:=wrE (by omega)
  have h:¬((k:Int)<k):=by omega
  exact⟨_,by simp only[mO,w,h,EVX,seval],.inl ⟨r,rfl⟩⟩
 |n+1,k,hk,hl,r,l,u=>by
  rw[aG (he:=rfl)];have ih:=NG s hs i z hz hi O n (k+1) (by omega)
  generalize hK:aH C (ai C) 78 [0,1,4,5,7,8,9] mO=K at*;have w:IntKind.i64.wrap ((i:Int)+z)=i+z:=wrE (by omega)
  have w1:=wrS k (by omega)
  have h:(k:Int)<i+z:=by omega
  have h3:(0:Int)<=k:=by omega
  by_cases c:k=s.length
  ·have c':((k:Int)==(s.length:Int))=true:=by simp[c]
   exact⟨_,by simp only[mO,w,h,c',EVX,seval],.inr ⟨4,by decide,rfl⟩⟩
  have c':((k:Int)==(s.length:Int))=false:=by simp;omega
  have hb:s[k]?=some s[k]:=a02 (by omega)
  by_cases c1:(s[k].toNat:Int)<l
  ·exact⟨_,by simp only[mO,w,h,c',h3,hb,c1,EVX,seval],.inr ⟨12,by decide,rfl⟩⟩
  by_cases c2:u<(s[k].toNat:Int)
  ·exact⟨_,by simp only[mO,w,h,c',h3,hb,c1,c2,EVX,seval],.inr ⟨12,by decide,rfl⟩⟩
  simp only[mO,w,w1,h,c',h3,hb,c1,c2,EVX,seval];exact ih (by omega) _ _ _
def ae3(h:Has C Ou GR)(hl:Has C Hu kD)(s:LU)(hs:s.length<1099511627777)(i:Nat)(hi:i<s.length)(O:St):∃r z e:Int,ai C Ou [.str s,.int .i64 i] O=some (.tup [.int .i64 r,.int .i64 z,.int .i64 e],O)/\0<=z/\z<=4/\(e=0->1<=z):=by
 rw[h.go (NVs.hand (.cons (.str _) (.cons (.int _ _) .nil)) _)];have h1:¬((i:Int)<0):=by omega
 have h2:¬((s.length:Int)<i):=by omega
 have h4:((i:Int)==(s.length:Int))=false:=by simp;omega
 have h3:(0:Int)<=i:=by omega
 have hb:s[i]?=some s[i]:=a02 hi;obtain⟨z,l,u,z0,z4,hq⟩:=ae4 hl (s[i].toNat:Int) O;have w1:=wrS i (by omega)
 rcases bq z 0 with c|c
 ·have:z=0:=by simpa using c
  subst this;exact⟨0,0,12,by simp only[GR,h1,h2,h3,h4,hb,hq,EVX,seval],by omega,by omega,fun e=>by cases e⟩
 have c':z≠0:=by simpa using c
 by_cases c1:1<z;all_goals
  have lp:=fun r=>NG (C:=C) s hs i z z4 hi O (z-1).toNat (i+1) (by omega) (by omega) r l u
  have sh:¬(IntKind.i64.wrap (z+1)<0):=by rw[w64]<;>omega
  obtain⟨o,e⟩:=Classical.axiomOfChoice lp;have e1:=fun x=>(e x).1;have e2:=fun x=>(e x).2;simp only[GR,h1,h2,h3,h4,hb,hq,c,c1,w1,sh,e1,EVX,seval];apply Or.elim (e2 _)
  ·rintro⟨r',h⟩;rw[h];exact⟨r',z,0,by simp only[EVX,seval],z0,z4,fun _=>by omega⟩
  ·rintro⟨e,e0,h⟩;rw[h];exact⟨0,0,e,by simp only[EVX,seval],by omega,by omega,fun h=>absurd h e0⟩
def ajq(r:Int):(Utf8.encode r).data.toList.length<=4:=by
 unfold Utf8.encode;simp only;repeat' split
 all_goals simp
def afA(h:Has C SV zH)(r:Int)(O:St):∃(t:LU) (e:Int),ai C SV [.int .i64 r] O=some (.tup [.str t,.int .i64 e],O)/\t.length<=4:=by
 rw[h.go (NVs.hand (.cons (.int _ _) .nil) _)];by_cases c1:r<0
 ·exact⟨[],1,by simp only[zH,c1,EVX,seval],by simp⟩
 by_cases c2:1114111<r
 ·exact⟨[],1,by simp only[zH,c1,c2,EVX,seval],by simp⟩
 by_cases c3:55296<=r
 ·by_cases c4:r<=57343
  ·exact⟨[],1,by simp only[zH,c1,c2,c3,c4,EVX,seval],by simp⟩
  ·exact⟨_,0,by simp only[zH,c1,c2,c3,c4,EVX,seval],ajq (IntKind.i32.wrap r)⟩
 ·exact⟨_,0,by simp only[zH,c1,c2,c3,EVX,seval],ajq (IntKind.i32.wrap r)⟩
def aao(C:Ctx):Prop:=∀(s:LU) (i:Int) (O:St),∃(n:Int) (b:Bool),ai C ash [.str s,.int .i64 i] O=some (.tup [.int .i64 n,.bool b],O)
def XM(h:Has C wE pJ)(hd:aao C)(s:LU)(i:Nat)(hi:i<s.length)(O:St):∃(n:Int) (b:Bool),ai C wE [.str s,.int .i64 i] O=some (.tup [.int .i64 n,.bool b],O):=by
 rw[h.go (NVs.hand (.cons (.str _) (.cons (.int _ _) .nil)) _)];have h3:(0:Int)<=i:=by omega
 have hb:s[i]?=some s[i]:=a02 hi;obtain⟨n,b,q⟩:=hd s i O;by_cases c1:(65:Int)<=(s[i].toNat:Int)
 ·by_cases c2:(s[i].toNat:Int)<=70
  ·exact⟨_,_,by simp only[pJ,h3,hb,c1,c2,EVX,seval];rfl⟩
  ·exact⟨n,b,by simp only[pJ,h3,hb,c1,c2,q,EVX,seval]⟩
 ·exact⟨n,b,by simp only[pJ,h3,hb,c1,q,EVX,seval]⟩
def Fe(a b c d:Int)(O:St):∀(k i:Nat),i+k=4->∀n:Int,∃n':Int,aH C (ai C) 18 [3,6,7,8] ny [(3,.int .i64 n),(6,.sl 4 [.int .i64 a,.int .i64 b,.int .i64 c,.int .i64 d]),(7,.int .i64 4),(8,.int .i64 i)] O=some (.exit 0,[(3,.int .i64 n')],O)
 |0,i,hi,n=>by
  have:i=4:=by omega
  subst this;rw[aG (he:=rfl)];exact⟨n,by simp only[ny,EVX,seval]⟩
 |k+1,i,hi,n=>by
  have ih:=Fe a b c d O k (i+1) (by omega)
  rw[aG (he:=rfl)];generalize hK:aH C (ai C) 18 [3,6,7,8] ny=K at*;have:i=0\/i=1\/i=2\/i=3:=by omega
  rcases this with rfl|rfl|rfl|rfl<;>simp only[ny,AV.cells,EVX,seval]<;>exact ih _
def U9(h:Has C yR yF)(a b c d:Int)(O:St):∃n:Int,ai C yR [.xsl 4 [.int .i64 a,.int .i64 b,.int .i64 c,.int .i64 d]] O=some (.int .i64 n,O):=by
 have hn:hand false [.xsl 4 [.int .i64 a,.int .i64 b,.int .i64 c,.int .i64 d]] O=some ([.sl 4 [.int .i64 a,.int .i64 b,.int .i64 c,.int .i64 d]],O):=rfl;rw[h.go hn];obtain⟨n,q⟩:=Fe (C:=C) a b c d O 4 0 rfl 0;rw[show((0:Nat):Int)=0 from rfl]at q;exact⟨n,by simp only[yF,q,EVX,seval]⟩
def nc:((0:Nat):Int)=0/\((1:Nat):Int)=1/\((2:Nat):Int)=2/\((3:Nat):Int)=3/\((4:Nat):Int)=4:=⟨rfl,rfl,rfl,rfl,rfl⟩
def IJ(h:Has C wE pJ)(hd:aao C)(s:LU)(hs:s.length<1099511627777)(at_:Nat)(hat:at_<=s.length)(O:St)(hσ:Ok O):∀(k i:Nat),i+k=4->(i=0\/at_+i<=s.length)->∀a b c d:Int,∃x,aH C (ai C) 43 [0,1,6,10] lh [(0,.str s),(1,.int .i64 at_),(6,.ref O.length 0),(10,.int .i64 i)] (O++[.cells [.int .i64 a,.int .i64 b,.int .i64 c,.int .i64 d] FZ])=some x/\((∃a b c d:Int,at_+4<=s.length/\x=(.exit 0,[(6,.ref O.length 0)],O++[.cells [.int .i64 a,.int .i64 b,.int .i64 c,.int .i64 d] FZ]))\/∃(e:Int) (L:St),e≠0/\x=(.ret,[(4,.int .i64 0),(5,.int .i64 e)],O++L))
 |0,i,hi,hl,a,b,c,d=>by
  have:i=4:=by omega
  subst this;rw[aG (he:=rfl)];exact⟨_,by simp only[lh,EVX,seval],.inl ⟨a,b,c,d,by omega,rfl⟩⟩
 |k+1,i,hi,hl,a,b,c,d=>by
  have ih:=IJ h hd s hs at_ hat O hσ k (i+1) (by omega)
  rw[aG (he:=rfl)];generalize hK:aH C (ai C) 43 [0,1,6,10] lh=K at*;have w:IntKind.i64.wrap ((at_:Int)+i)=((at_+i:Nat):Int):=wrE (by omega)
  have w1:=wrS i (by omega)
  have c0:(i:Int)<4:=by omega
  have i0:(0:Int)<=i:=by omega
  by_cases c1:s.length<=at_+i
  ·have c1:(s.length:Int)<=((at_+i:Nat):Int):=by omega
   exact⟨_,by simp only[lh,c0,w,c1,EVX,seval];rfl,.inr ⟨4,_,by decide,rfl⟩⟩
  have c1':¬(s.length:Int)<=((at_+i:Nat):Int):=by omega
  obtain⟨n,b',q⟩:=XM h hd s (at_+i) (by omega) (O++[.cells [.int .i64 a,.int .i64 b,.int .i64 c,.int .i64 d] FZ])
  cases b' with
  |false=>exact⟨_,by simp only[lh,c0,w,c1',q,EVX,seval];rfl,.inr ⟨3,_,by decide,rfl⟩⟩
  |true=>
   have ih:=ih (.inr (by omega))
   have:i=0\/i=1\/i=2\/i=3:=by omega
   rcases this with rfl|rfl|rfl|rfl<;>simp only[Nat.reduceAdd,aD4,nc]at w w1 ih c1' q<;>simp only[lh,c0,i0,w,w1,c1',q,AV.cells,AV.flat,splice,EVX,seval]<;>exact ih _ _ _ _
def Nw(h:Has C wE pJ)(hn:Has C yR yF)(hf:Has C Hq CG)(hd:aao C)(s:LU)(hs:s.length<1099511627777)(i:Nat)(hi:i<=s.length)(O:St)(hσ:Ok O):∃n e:Int,ai C Hq [.str s,.int .i64 i] O=some (.tup [.int .i64 n,.int .i64 e],O)/\(e=0->i+4<=s.length):=by
 rw[hf.go (NVs.hand (.cons (.str _) (.cons (.int _ _) .nil)) _)];have ty:=fun n e:Int=>dE hσ (vs:=[.int .i64 n,.int .i64 e]) rfl;obtain⟨x,q,hx⟩:=IJ h hd s hs i hi O hσ 4 0 rfl (.inl rfl) 0 0 0 0;rw[show((0:Nat):Int)=0 from rfl]at q;rcases hx with⟨a,b,c,d,h4,rfl⟩|⟨e,L,e0,rfl⟩
 ·obtain⟨n,qn⟩:=U9 hn a b c d (O++[.cells [.int .i64 a,.int .i64 b,.int .i64 c,.int .i64 d] FZ]);exact⟨n,0,by simp only[CG,q,qn,ty,AV.cells,AV.flat,splice,EVX,seval],fun _=>h4⟩
 ·exact⟨0,e,by simp only[CG,q,ty,EVX,seval],fun h=>absurd h e0⟩
structure BC(C:Ctx):Prop extends BldHas C where
 lead:Has C Hu kD
 next:Has C Ou GR
 put:Has C SV zH
 digit:Has C wE pJ
 number:Has C yR yF
 four:Has C Hq CG
 coded:Has C Af jq
 dec:Has C Iy fA
 dec1:Has C ET ED
 dec11:Has C mF BP
 item:Has C Qj oz
 blen:Has C zy uh
 read:Has C iT yE
 quote:Has C FP zZ
 valid:Has C Bd TU
 dig:aao C
 len:∀(s:LU) (O:St),s.length<=1099511627776->∃(n:Int) (b:Bool),ai C Zp [.str s] O=some (.tup [.int .i64 n,.bool b],O)
def bn(a b:Int):(a !=b)=false\/(a !=b)=true:=by cases a !=b<;>simp
def ww:IntKind.i64.wrap 1=1/\IntKind.i64.wrap 2=2:=⟨rfl,rfl⟩
def Gv(s:LU)(hs:s.length<1099511627777)(f:Int)(O:St):∀(k i:Nat),i+k=2->∀p:Nat,p<=s.length->∃x,aH C (ai C) 75 [0,1,7,33,34,35] jP [(0,.str s),(1,.int .i64 p),(7,.int .i64 f),(33,.xsl 2 [.int .u8 92,.int .u8 117]),(34,.int .i64 2),(35,.int .i64 i)] O=some x/\((∃p':Nat,p<=p'/\p'<=p+k/\p'<=s.length/\x=(.exit 0,[(0,.str s),(1,.int .i64 p'),(7,.int .i64 f)],O))\/∃e:Int,e≠0/\x=(.ret,[(4,.int .i64 0),(5,.int .i64 0),(6,.int .i64 e)],O))
 |0,i,hi,p,hp=>by
  have:i=2:=by omega
  subst this;rw[aG (he:=rfl)];exact⟨_,by simp only[jP,EVX,seval],.inl ⟨p,by omega,by omega,hp,rfl⟩⟩
 |k+1,i,hi,p,hp=>by
  have ih:=Gv s hs f O k (i+1) (by omega) (p+1)
  rw[aG (he:=rfl)];generalize hK:aH C (ai C) 75 [0,1,7,33,34,35] jP=K at*;have w1:=wrS p (by omega)
  have p0:(0:Int)<=p:=by omega
  have i2:i=0\/i=1:=by omega
  rcases bq p s.length with c|c
  ·exact⟨_,by rcases i2 with rfl|rfl<;>simp only[jP,c,AV.cells,EVX,seval]<;>rfl,.inr ⟨4,by decide,rfl⟩⟩
  have c':(p:Int)≠s.length:=by simpa using c
  have hb:s[p]?=some s[p]:=a02 (by omega)
  rcases bn s[p].toNat (if i=0 then 92 else 117)with d|d
  case inr=>exact⟨_,by rcases i2 with rfl|rfl<;>simp only[if_true,Nat.succ_ne_zero,Nat.one_ne_zero,if_false]at d<;>simp only[jP,c,d,hb,p0,AV.cells,EVX,seval]<;>rfl,.inr ⟨12,by decide,rfl⟩⟩
  ·obtain⟨x,h1,h2⟩:=ih (by omega)
   refine⟨x,?_,?_⟩
   ·rcases i2 with rfl|rfl<;>simp only[Nat.reduceAdd,nc]at h1<;>simp only[if_true,Nat.succ_ne_zero,Nat.one_ne_zero,if_false]at d<;>simp only[jP,c,d,hb,p0,w1,h1,ww,AV.cells,EVX,seval]
   ·rcases h2 with⟨p',a,b,e,r⟩|h2
    ·exact .inl ⟨p',by omega,by omega,e,r⟩
    ·exact .inr h2
def XK(H:BC C)(s:LU)(hs:s.length<1099511627777)(i:Nat)(hi:i<=s.length)(O:St)(hσ:Ok O):∃n z e:Int,ai C Af [.str s,.int .i64 i] O=some (.tup [.int .i64 n,.int .i64 z,.int .i64 e],O)/\(e=0->i<=z/\z<=i+10):=by
 rw[H.coded.go (NVs.hand (.cons (.str _) (.cons (.int _ _) .nil)) _)];obtain⟨n,e,q1,b1⟩:=Nw H.digit H.number H.four H.dig s hs i hi O hσ;rcases bn e 0 with c|c
 case inr=>exact⟨0,0,e,by simp only[jq,q1,c,EVX,seval],fun h=>by subst h;simp at c⟩
 have e0:e=0:=by simpa using c
 subst e0;have b1:=b1 rfl;have w4:IntKind.i64.wrap ((i:Int)+4)=((i+4:Nat):Int):=wrE (by omega)
 by_cases c1:n<55296
 ·exact⟨n,_,0,by simp only[jq,q1,c1,w4,EVX,seval];rfl,fun _=>by omega⟩
 by_cases c2:57343<n
 ·exact⟨n,_,0,by simp only[jq,q1,c1,c2,w4,EVX,seval];rfl,fun _=>by omega⟩
 by_cases c3:56320<=n
 ·exact⟨0,0,12,by simp only[jq,q1,c1,c2,c3,w4,EVX,seval],fun h=>by cases h⟩
 obtain⟨x,l1,l2⟩:=Gv (C:=C) s hs n O 2 0 rfl (i+4) b1;rw[nc.1]at l1;rcases l2 with⟨p,p1,p2,p3,rfl⟩|⟨e,e0,rfl⟩
 case inr=>exact⟨0,0,e,by simp only[jq,q1,c1,c2,c3,w4,l1,EVX,seval],fun h=>absurd h e0⟩
 obtain⟨n2,e,q2,b2⟩:=Nw H.digit H.number H.four H.dig s hs p p3 O hσ;rcases bn e 0 with c|c
 case inr=>exact⟨0,0,e,by simp only[jq,q1,c1,c2,c3,w4,l1,q2,c,EVX,seval],fun h=>by subst h;simp at c⟩
 have e0:e=0:=by simpa using c
 subst e0;have w5:IntKind.i64.wrap ((p:Int)+4)=((p+4:Nat):Int):=wrE (by omega)
 by_cases c4:n2<56320
 ·exact⟨0,0,12,by simp only[jq,q1,c1,c2,c3,c4,w4,l1,q2,EVX,seval],fun h=>by cases h⟩
 by_cases c5:57343<n2
 ·exact⟨0,0,12,by simp only[jq,q1,c1,c2,c3,c4,c5,w4,l1,q2,EVX,seval],fun h=>by cases h⟩
 exact⟨_,_,0,by simp only[jq,q1,c1,c2,c3,c4,c5,w4,w5,l1,q2,EVX,seval];rfl,fun _=>by omega⟩
def aqp(Y:St)(v:AV):Prop:=v=.nilFunc\/v=.func (.func Af) [] []\/∃(r:Int) (o:Nat),v=.func (.func mF) [] [.ref o 0]/\Y[o]?=some (.cells [.int .i64 r] FZ)
def vJ(O L:St)(f:Fn):tidy O.length [.func f [] [.ref O.length 0]] (O++L)=O++L:=by
 unfold tidy;split
 ·rfl
 ·simp[ae,below]
def OQ(H:BC C)(r:Int)(O:St):ai C ET [.int .i64 r] O=some (.func (.func mF) [] [.ref O.length 0],O++[.cells [.int .i64 r] FZ]):=by
 rw[H.dec1.go (NVs.hand (.cons (.int _ _) .nil) _)];simp only[ED,vJ,EVX,seval]
def Tt(H:BC C)(c:Int)(O:St)(hσ:Ok O):∃v L,ai C Iy [.int .u8 c] O=some (v,O++L)/\Ok (O++L)/\aqp (O++L) v:=by
 rw[H.dec.go (NVs.hand (.cons (.int _ _) .nil) _)];have q:=fun r=>OQ H r O;have fin:∀r,Ok (O++[.cells [.int .i64 r] FZ])/\aqp (O++[.cells [.int .i64 r] FZ]) (.func (.func mF) [] [.ref O.length 0]):=fun r=>⟨hσ.plus rfl,.inr (.inr ⟨r,_,rfl,by rw[fG rfl];rfl⟩)⟩
 rcases bq c 34 with c1|c1
 ·exact⟨_,_,by simp only[fA,c1,q,jV,vJ,EVX,seval];rfl,fin _⟩
 rcases bq c 92 with c2|c2
 ·exact⟨_,_,by simp only[fA,c1,c2,q,jV,vJ,EVX,seval];rfl,fin _⟩
 rcases bq c 47 with c3|c3
 ·exact⟨_,_,by simp only[fA,c1,c2,c3,q,jV,vJ,EVX,seval];rfl,fin _⟩
 rcases bq c 98 with c4|c4
 ·exact⟨_,_,by simp only[fA,c1,c2,c3,c4,q,jV,vJ,EVX,seval];rfl,fin _⟩
 rcases bq c 102 with c5|c5
 ·exact⟨_,_,by simp only[fA,c1,c2,c3,c4,c5,q,jV,vJ,EVX,seval];rfl,fin _⟩
 rcases bq c 110 with c6|c6
 ·exact⟨_,_,by simp only[fA,c1,c2,c3,c4,c5,c6,q,jV,vJ,EVX,seval];rfl,fin _⟩
 rcases bq c 114 with c7|c7
 ·exact⟨_,_,by simp only[fA,c1,c2,c3,c4,c5,c6,c7,q,jV,vJ,EVX,seval];rfl,fin _⟩
 rcases bq c 116 with c8|c8
 ·exact⟨_,_,by simp only[fA,c1,c2,c3,c4,c5,c6,c7,c8,q,jV,vJ,EVX,seval];rfl,fin _⟩
 rcases bq c 117 with c9|c9
 ·exact⟨.func (.func Af) [] [],[],by simp only[fA,c1,c2,c3,c4,c5,c6,c7,c8,c9,au6,EVX,seval],by rwa[au6],.inr (.inl rfl)⟩
 exact⟨.nilFunc,[],by simp only[fA,c1,c2,c3,c4,c5,c6,c7,c8,c9,au6,EVX,seval],by rwa[au6],.inl rfl⟩
def XL(H:BC C)(s:LU)(z:Int)(o:Nat)(r:Int)(Y:St)(ho:Y[o]?=some (.cells [.int .i64 r] FZ)):ai C mF [.str s,.int .i64 z,.ref o 0] Y=some (.tup [.int .i64 r,.int .i64 z,.int .i64 0],Y):=by
 have hn:hand false [.str s,.int .i64 z,.ref o 0] Y=some ([.str s,.int .i64 z,.ref o 0],Y):=rfl;rw[H.dec11.go hn];simp only[BP,ho,EVX,seval]
def YE(H:BC C)(s:LU)(hs:s.length<1099511627777)(i:Nat)(hi:i<s.length)(O:St)(hσ:Ok O):∃n z e:Int,ai C Qj [.str s,.int .i64 i] O=some (.tup [.int .i64 n,.int .i64 z,.int .i64 e],O)/\(e=0->i<z/\z<=i+12):=by
 rw[H.item.go (NVs.hand (.cons (.str _) (.cons (.int _ _) .nil)) _)];have ty:=fun a b c:Int=>dE hσ (vs:=[.int .i64 a,.int .i64 b,.int .i64 c]) rfl;have h3:(0:Int)<=i:=by omega
 have hb:s[i]?=some s[i]:=a02 hi;by_cases c1:(s[i].toNat:Int)<32
 ·exact⟨0,0,3,by simp only[oz,h3,hb,c1,EVX,seval],fun h=>by cases h⟩
 rcases bn s[i].toNat 92 with c2|c2
 case inr=>
  obtain⟨r,z,e,q,z0,z4,z1⟩:=ae3 H.next H.lead s hs i hi O;rcases bn e 0 with c3|c3
  case inr=>exact⟨0,0,e,by simp only[oz,h3,hb,c1,c2,q,c3,EVX,seval],fun h=>by subst h;simp at c3⟩
  have e0:e=0:=by simpa using c3
  have z1:=z1 e0;obtain⟨m,rfl⟩:=Int.eq_ofNat_of_zero_le z0;have w:IntKind.i64.wrap ((i:Int)+(m:Int))=((i+m:Nat):Int):=wrE (by omega)
  exact⟨r,((i+m:Nat):Int),0,by simp only[oz,h3,hb,c1,c2,q,c3,w,EVX,seval],fun _=>by omega⟩
 have w1:=wrS i (by omega)
 have w2:IntKind.i64.wrap ((i:Int)+2)=((i+2:Nat):Int):=wrE (by omega)
 rcases bq ((i+1:Nat):Int) s.length with c3|c3
 ·exact⟨0,0,4,by simp only[oz,h3,hb,c1,c2,w1,c3,EVX,seval],fun h=>by cases h⟩
 have c3':((i+1:Nat):Int)≠s.length:=by simpa using c3
 have hb1:s[i+1]?=some s[i+1]:=a02 (by omega)
 have h4:(0:Int)<=((i+1:Nat):Int):=by omega
 obtain⟨v,L,q,okL,hv⟩:=Tt H s[i+1].toNat O hσ;rcases hv with rfl|rfl|⟨r,o,rfl,ho⟩
 ·exact⟨0,0,3,by simp only[oz,h3,h4,hb,hb1,c1,c2,w1,c3,q,ty,EVX,seval],fun h=>by cases h⟩
 ·obtain⟨n,z,e,q2,b2⟩:=XK H s hs (i+2) (by omega) (O++L) okL
  refine⟨n,z,e,by simp only[oz,h3,h4,hb,hb1,c1,c2,w1,w2,c3,q,q2,jV,ty,au3,au6,EVX,seval],fun h=>?_⟩
  have:=b2 h;omega
 ·have q2:=XL H s ((i+2:Nat):Int) o r (O++L) ho;exact⟨r,((i+2:Nat):Int),0,by simp only[oz,h3,h4,hb,hb1,c1,c2,w1,w2,c3,q,q2,jV,ty,au3,a99,EVX,seval],fun _=>by omega⟩
def afZ(H:BldHas C){o n:Nat}{O Y S:St}{w:LU}{q':Option Nat}(b:Bk S o w q')(t:TrB o Y none S q')(hn:n=O.length)(ht:Y.take n=O)(ho:n<=o)(hl:n<=Y.length)(hw:w.length<=1099511627776):∃S',ai C iG [.ref o 0] S=some (.str w,S')/\S'.take n=O:=by
 have tk:S.take n=O:=t.take hn ht ho;obtain⟨p,c,x1,x2,x3⟩:=b;rcases x3 with⟨_,rfl,rfl⟩|⟨q,x3,x4,x5,rfl,x6⟩
 ·exact⟨S,H.str0 _ _ _ x1,tk⟩
 ·refine⟨_,H.str1 _ _ _ _ _ x1 x6 x5 hw,?_⟩;rcases t.q q x3 with h|h
  ·cases h
  ·rw[dH _ _ _ (by omega),tk]
def aoS(H:BC C){o:Nat}{Y:St}{w:LU}{qo:Option Nat}(b:Bk Y o w qo):ai C zy [.ref o 0] Y=some (.int .i64 w.length,Y):=by
 have hn:=iI o Y;rw[H.blen.go hn];obtain⟨p,c,x1,x2,x3⟩:=b;dsimp only[bT]at x1;rcases x3 with⟨_,rfl,rfl⟩|⟨q,x3,x4,x5,rfl,x6⟩
 ·simp only[uh,x1,AV.cells,EVX,seval]
 ·simp only[uh,x1,AV.cells,EVX,seval]
def U8 (H:BC C) (s:LU) (hs:s.length<1099511627777) (O:St) (o:Nat) (ho:O.length<=o) (Y0:St) (h0:Y0.take O.length=O) (h1:O.length<=Y0.length):∀(k p:Nat),s.length<=p+k->p<=s.length+12->∀(Y:St) (w:LU) (qo:Option Nat),Ok Y->Bk Y o w qo->TrB o Y0 none Y qo->w.length<=4096->
  ∃x,aH C (ai C) 67 [0,1,7] gI [(0,.str s),(1,.int .i64 p),(7,.ref o 0)] Y=some x/\((∃Y',x=(.exit 0,[],Y')/\Y'.take O.length=O)\/∃(t:LU) (z e:Int) (Y':St),x=(.ret,[(4,.str t),(5,.int .i64 z),(6,.int .i64 e)],Y')/\Y'.take O.length=O/\0<=z/\t.length<=4096):=by
 intro k
 induction k with
 |zero=>
  intro p hp hp2 Y w qo hτ hb ht hw;rw[aG (he:=rfl)];have c0:¬((p:Int)<s.length):=by omega
  exact⟨_,by simp only[gI,c0,EVX,seval],.inl ⟨_,rfl,ht.take rfl h0 ho⟩⟩
 |succ k ih=>
  intro p hp hp2 Y w qo hτ hb ht hw;rw[aG (he:=rfl)];generalize hK:aH C (ai C) 67 [0,1,7] gI=K at*;have tk:Y.take O.length=O:=ht.take rfl h0 ho;by_cases c0:(p:Int)<s.length
  case neg=>exact⟨_,by simp only[gI,c0,EVX,seval],.inl ⟨_,rfl,tk⟩⟩
  have hb1:s[p]?=some s[p]:=a02 (by omega)
  have p0:(0:Int)<=p:=by omega
  rcases bq s[p].toNat 34 with c1|c1
  ·obtain⟨S',s1,s2⟩:=afZ H.toBldHas hb ht rfl h0 ho h1 (by omega)
   have w1:IntKind.i64.wrap ((p:Int)+1)=p+1:=wrE (by omega)
   exact⟨_,by simp only[gI,c0,c1,hb1,p0,s1,w1,EVX,seval],.inr ⟨w,p+1,0,S',rfl,s2,by omega,hw⟩⟩
  obtain⟨n,z,e,q,b⟩:=YE H s hs p (by omega) Y hτ
  rcases bn e 0 with c2|c2
  case inr=>exact⟨_,by simp only[gI,c0,c1,c2,hb1,p0,q,EVX,seval],.inr ⟨[],0,e,Y,rfl,tk,by omega,by simp⟩⟩
  have e0:e=0:=by simpa using c2
  have b:=b e0;obtain⟨t,e',q2,tl⟩:=afA H.put n Y;rcases bn e' 0 with c3|c3
  case inr=>exact⟨_,by simp only[gI,c0,c1,c2,c3,hb1,p0,q,q2,EVX,seval],.inr ⟨[],0,e',Y,rfl,tk,by omega,by simp⟩⟩
  have q3:=aoS H hb;have w2:IntKind.i64.wrap ((w.length:Int)+(t.length:Int))=w.length+t.length:=wrE (by omega)
  by_cases c4:(4096:Int)<(w.length:Int)+(t.length:Int)
  ·exact⟨_,by simp only[gI,c0,c1,c2,c3,c4,hb1,p0,q,q2,q3,w2,EVX,seval],.inr ⟨[],0,5,Y,rfl,tk,by omega,by simp⟩⟩
  obtain⟨Y',qo',q4,b4,t4⟩:=Gy H.toBldHas t hτ hb (by omega)
  obtain⟨m,rfl⟩:=Int.eq_ofNat_of_zero_le (show 0<=z by omega)
  obtain⟨x,x1,x2⟩:=ih m (by omega) (by omega) Y' (w++t) qo' t4.ok b4 (ht.trans t4) (by rw[a04];omega)
  exact⟨x,by simp only[gI,c0,c1,c2,c3,c4,hb1,p0,q,q2,q3,q4,w2,x1,EVX,seval],x2⟩
def ang(H:BC C):aaw C:=fun s i O hs hi hσ=>by
 rw[H.read.go (NVs.hand (.cons (.str _) (.cons (.int _ _) .nil)) _)];have h1:¬((i:Int)<0):=by omega
 have h2:¬((s.length:Int)<i):=by omega
 have h3:(0:Int)<=i:=by omega
 have ty:=fun(t:LU) (z e:Int)=>dE hσ (vs:=[.str t,.int .i64 z,.int .i64 e]) rfl;rcases bq i s.length with c|c
 ·exact⟨[],0,4,by simp only[yE,h1,h2,c,EVX,seval],by omega,lb0⟩
 have c':(i:Int)≠s.length:=by simpa using c
 have hb:s[i]?=some s[i]:=a02 (by omega)
 rcases bn s[i].toNat 34 with c1|c1
 case inr=>exact⟨[],0,3,by simp only[yE,h1,h2,h3,hb,c,c1,EVX,seval],by omega,lb0⟩
 have w1:=wrS i (by omega)
 have okB:Ok (O++[.cells [.nilp,.nils] bT]):=hσ.plus rfl;obtain⟨x,x1,x2⟩:=U8 H s hs O O.length (a06 _) (O++[.cells [.nilp,.nils] bT]) (by simp) (by simp) s.length (i+1) (by omega) (by omega) _ [] none okB ⟨.nilp,.nils,by rw[fG rfl];rfl,.inl rfl,.inl ⟨rfl,rfl,rfl⟩⟩ (.refl okB) (by simp)
 dsimp only[bT]at x1;rcases x2 with⟨Y',rfl,tk⟩|⟨t,z,e,Y',rfl,tk,z0,tl⟩
 ·have tq:=fun(t:LU) (z e:Int)=>pG (vs:=[.str t,.int .i64 z,.int .i64 e]) hσ rfl tk;exact⟨[],0,4,by simp only[yE,h1,h2,h3,hb,c,c1,w1,x1,tq,EVX,seval],by omega,lb0⟩
 ·have tq:=fun(t:LU) (z e:Int)=>pG (vs:=[.str t,.int .i64 z,.int .i64 e]) hσ rfl tk;exact⟨t,z,e,by simp only[yE,h1,h2,h3,hb,c,c1,w1,x1,tq,EVX,seval],z0,by simp only[LB];omega⟩
def RQ(H:BC C)(s:LU)(hs:s.length<=1099511627776)(O:St):∃b:Bool,ai C Bd [.str s] O=some (.bool b,O):=by
 rw[H.valid.go (NVs.hand (.cons (.str _) .nil) _)];obtain⟨n,b,q⟩:=H.len s O hs;exact⟨b,by simp only[TU,q,EVX,seval]⟩
def Tq (H:BC C) (s:LU) (hs:s.length<=4096) (O:St) (o:Nat) (Y0:St):∀(k p:Nat),p+k=s.length->∀(Y:St) (w:LU) (qo:Option Nat),Ok Y->Bk Y o w qo->TrB o Y0 none Y qo->w.length<=1+2*p->
  ∃(Y':St) (w':LU) (q':Option Nat),aH C (ai C) 36 [0,4,14,15] jO [(0,.str s),(4,.ref o 0),(14,.int .i64 s.length),(15,.int .i64 p)] Y=some (.exit 0,[(4,.ref o 0)],Y')/\Ok Y'/\Bk Y' o w' q'/\TrB o Y0 none Y' q'/\w'.length<=1+2*s.length:=by
 intro k
 induction k with
 |zero=>
  intro p hp Y w qo hτ hb ht hw;rw[aG (he:=rfl)];have c0:¬((p:Int)<s.length):=by omega
  exact⟨Y,w,qo,by simp only[jO,c0,EVX,seval],hτ,hb,ht,by omega⟩
 |succ k ih=>
  intro p hp Y w qo hτ hb ht hw;rw[aG (he:=rfl)];generalize hK:aH C (ai C) 36 [0,4,14,15] jO=K at*;have c0:(p:Int)<s.length:=by omega
  have hb1:s[p]?=some s[p]:=a02 (by omega)
  have p0:(0:Int)<=p:=by omega
  have w1:=wrS p (by omega)
  have bsl:((92:UInt8).toNat:Int)=92:=rfl;have esc:((s[p].toNat:Int)==34)=true\/((s[p].toNat:Int)==34)=false/\((s[p].toNat:Int)==92)=true->∃(Y':St) (w':LU) (q':Option Nat),ai C gq [.ref o 0,.int .u8 92] Y=some (.nilIface,Y')/\Ok Y'/\Bk Y' o w' q'/\TrB o Y0 none Y' q'/\w'.length<=2+2*p:=fun _=>by
   obtain⟨Y1,q1,e1,b1,t1⟩:=vM H.toBldHas 92 hτ hb (by omega)
   rw[bsl]at e1;exact⟨Y1,_,q1,e1,t1.ok,b1,ht.trans t1,by rw[a04,aA0];omega⟩
  rcases bq s[p].toNat 34 with c1|c1
  ·obtain⟨Y1,w1',q1,e1,ok1,b1,t1,l1⟩:=esc (.inl c1);obtain⟨Y2,q2,e2,b2,t2⟩:=vM H.toBldHas s[p] ok1 b1 (by omega)
   obtain⟨Y',w',q',x,h⟩:=ih (p+1) (by omega) Y2 _ q2 t2.ok b2 (t1.trans t2) (by rw[a04,aA0];omega)
   exact⟨Y',w',q',by simp only[jO,c0,c1,hb1,p0,e1,e2,w1,x,EVX,seval],h⟩
  ·rcases bq s[p].toNat 92 with c2|c2
   ·obtain⟨Y1,w1',q1,e1,ok1,b1,t1,l1⟩:=esc (.inr ⟨c1,c2⟩);obtain⟨Y2,q2,e2,b2,t2⟩:=vM H.toBldHas s[p] ok1 b1 (by omega)
    obtain⟨Y',w',q',x,h⟩:=ih (p+1) (by omega) Y2 _ q2 t2.ok b2 (t1.trans t2) (by rw[a04,aA0];omega)
    exact⟨Y',w',q',by simp only[jO,c0,c1,c2,hb1,p0,e1,e2,w1,x,EVX,seval],h⟩
   ·obtain⟨Y2,q2,e2,b2,t2⟩:=vM H.toBldHas s[p] hτ hb (by omega)
    obtain⟨Y',w',q',x,h⟩:=ih (p+1) (by omega) Y2 _ q2 t2.ok b2 (ht.trans t2) (by rw[a04,aA0];omega)
    exact⟨Y',w',q',by simp only[jO,c0,c1,c2,hb1,p0,e2,w1,x,EVX,seval],h⟩
def XJ(H:BC C)(s:LU)(O:St)(hσ:Ok O):∃(q:LU) (e:Int),ai C FP [.str s] O=some (.tup [.str q,.int .i64 e],O)/\q.length<=8194:=by
 rw[H.quote.go (NVs.hand (.cons (.str _) .nil) _)];by_cases c0:(4096:Int)<(s.length:Int)
 ·exact⟨[],5,by simp only[zZ,c0,EVX,seval],by simp⟩
 obtain⟨b,hv⟩:=RQ H s (by omega) O
 cases b with
 |false=>exact⟨[],12,by simp only[zZ,c0,hv,EVX,seval],by simp⟩
 |true=>
  have okB:Ok (O++[.cells [.nilp,.nils] bT]):=hσ.plus rfl;have bk:Bk (O++[.cells [.nilp,.nils] bT]) O.length [] none:=⟨.nilp,.nils,by rw[fG rfl];rfl,.inl rfl,.inl ⟨rfl,rfl,rfl⟩⟩
  obtain⟨Y1,q1,e1,b1,t1⟩:=vM H.toBldHas 34 okB bk (by simp)
  obtain⟨Y2,w2,q2,e2,ok2,b2,t2,l2⟩:=Tq H s (by omega) O O.length _ s.length 0 (by omega) Y1 _ q1 t1.ok b1 t1 (by simp)
  obtain⟨Y3,q3,e3,b3,t3⟩:=vM H.toBldHas 34 ok2 b2 (by omega)
  obtain⟨S',s1,s2⟩:=afZ H.toBldHas b3 (t2.trans t3) (n:=O.length) rfl (by simp) (a06 _) (by simp) (by rw[a04,aA0];omega)
  have tq:=fun t:LU=>pG (vs:=[.str t,.int .i64 0]) hσ rfl s2;have bsl:((34:UInt8).toNat:Int)=34:=rfl;rw[bsl]at e1 e3;rw[nc.1]at e2;dsimp only[bT]at e1;exact⟨w2++[34],0,by simp only[zZ,c0,hv,e1,e2,e3,s1,tq,EVX,seval],by rw[a04,aA0];omega⟩
open Go.Lib
def aaQ(x y:UInt8)(a b:LU):compareBytes (x::a) (y::b)=if x.toNat<y.toNat then-1 else if y.toNat<x.toNat then 1 else compareBytes a b:=by
 rw[compareBytes];simp only[UInt8.lt_iff_toNat_lt]
def ag1:∀a:LU,compareBytes a a=0
 |[]=>rfl
 |x::a=>by rw[aaQ,if_neg (by omega),if_neg (by omega),ag1 a]
def ack:∀a b c:LU,compareBytes a b<0->compareBytes b c<0->compareBytes a c<0
 |[],[],c,h,_=>absurd h (by decide)
 |[],_::_,[],_,h=>absurd h (by simp[compareBytes])
 |[],_::_,_::_,_,_=>by simp[compareBytes]
 |_::_,[],c,h,_=>absurd h (by simp[compareBytes])
 |_::_,_::_,[],_,h=>absurd h (by simp[compareBytes])
 |x::a,y::b,z::c,h,k=>by
  rw[aaQ]at h k⊢;have ih:=ack a b c;generalize compareBytes a b=p at*;generalize compareBytes b c=q at*;generalize compareBytes a c=r at*;split at h
  ·split at k
   ·rw[if_pos (by omega)];decide
   ·split at k
    ·exact absurd k (by decide)
    ·rw[if_pos (by omega)];decide
  ·split at h
   ·exact absurd h (by decide)
   ·split at k
    ·rw[if_pos (by omega)];decide
    ·split at k
     ·exact absurd k (by decide)
     ·rw[if_neg (by omega),if_neg (by omega)];exact ih h k
def Zb:∀a b c:LU,¬compareBytes a b<0->¬compareBytes b c<0->¬compareBytes a c<0
 |a,[],[],h,_=>h
 |[],_::_,c,h,_=>absurd (by simp[compareBytes]) h
 |_,[],_::_,_,h=>absurd (by simp[compareBytes]) h
 |_::_,_::_,[],_,_=>by simp[compareBytes]
 |x::a,y::b,z::c,h,k=>by
  rw[aaQ]at h k⊢;have ih:=Zb a b c;generalize compareBytes a b=p at*;generalize compareBytes b c=q at*;generalize compareBytes a c=r at*;split at h
  ·exact absurd (by decide) h
  ·split at h
   ·split at k
    ·exact absurd (by decide) k
    ·split at k
     ·rw[if_neg (by omega),if_pos (by omega)];decide
     ·rw[if_neg (by omega),if_pos (by omega)];decide
   ·split at k
    ·exact absurd (by decide) k
    ·split at k
     ·rw[if_neg (by omega),if_pos (by omega)];decide
     ·rw[if_neg (by omega),if_neg (by omega)];exact ih h k
open Go.RowKit Go.Shelf Go.Lib Go.Sort Go.Proofs
set_option maxRecDepth 10000
def abr(xs:List EL)(i:Nat):LU:=match xs[i]? with|some x=>x.1.1|none=>[]
def aer(xs:List EL)(i j:Nat):Int:=compareBytes (abr xs i) (abr xs j)
def aja(xs:List EL):SWO (ltOf (aer xs))where
 irrefl x:=by simp[ltOf,aer,ag1]
 trans x y z h1 h2:=decide_eq_true (ack _ _ _ (of_decide_eq_true h1) (of_decide_eq_true h2))
 ntrans x y z h1 h2:=decide_eq_false (Zb _ _ _ (of_decide_eq_false h1) (of_decide_eq_false h2))
def Eh(xs:List EL):Array Nat:=pdq (ltOf (aer xs)) (Array.range xs.length) 0 (Array.range xs.length).size (Lib.bitLen (Array.range xs.length).size) true true
def apB(xs:List EL):(Eh xs).size=xs.length/\∀i,i<xs.length->(Eh xs)[i]! <xs.length:=by
 have h:=(pdq_sorts (ltOf (aer xs)) (aja xs) (Array.range xs.length) 0 (Array.range xs.length).size (Lib.bitLen (Array.range xs.length).size) true true (a98 _) (a06 _) (Or.inl rfl)).1;refine⟨by have:=h.1;unfold Eh;rw[this];simp,fun i hi=>?_⟩
 exact permIn_all (Array.range xs.length) (Eh xs) 0 (Array.range xs.length).size (fun j=>j<xs.length) (a06 _) h (fun j _ hj=>by
  have hj':j<xs.length:=by simpa using hj
  rw[getElem!_pos _ j hj];simpa using hj') i (a98 _) (by simpa using hi)
def ar9:EL:=(⟨[],by decide⟩,JV.zero)
instance:Inhabited EL:=⟨ar9⟩
def X6(xs:List EL):List EL:=(List.range xs.length).map fun t=>xs.getD ((Eh xs)[t]!) ar9
def L6(xs:List EL):(X6 xs).length=xs.length:=by simp[X6]
open Classical in
noncomputable def UG(fc:FuncId)(args:LA)(O:St):Option (AV×St):=
 match args with
 |[.msl o 0 n 6,.func (.func g) [] []]=>match O[o]? with
  |some (.cells l ⟨false,t⟩)=>if h:g=fc/\n<4611686018427387904/\∃xs:List EL,l=kQ xs/\xs.length=n then some (.tup [],O.set o (.cells (kQ (X6 h.2.2.choose)) ⟨false,t⟩))else none
  |_=>none
 |_=>none
def Qd(xs:List EL):(kQ xs).length=xs.length*6:=dV nT xs
def ajo(xs:List EL)(i r:Nat)(hi:i<xs.length)(hr:r<6):(kQ xs)[i*6+r]?=(elC xs[i])[r]?:=by
 have h:=lM nT (a02 hi);have e:(kQ xs)[i*6+r]?=((kQ xs).drop (i*6))[r]?:=by rw[List.getElem?_drop]
 rw[e];unfold kQ;rw[h,av1 (by rw[nT];exact hr)]
def xQ(c:Array Value)(n i:Nat):List Value:=if i<n then(List.range 6).map fun r=>c[i*6+r]! else[.string ⟨⟨[]⟩⟩,.int .i64 0,.int .i64 0,.int .i64 0,.int .i64 0,.int .i64 0]
def agc(c:Array Value)(n i:Nat):(xQ c n i).length=6:=by
 unfold xQ;split<;>simp
def aew(c:Array Value)(n i r:Nat)(hi:i<n)(hr:r<6):(xQ c n i)[r]! =c[i*6+r]!:=by
 unfold xQ;rw[if_pos hi,getElem!_pos _ r (by simpa using hr)]
 simp
section
variable{ρ:Ren}{fs fc:FuncId}
def agR (L:SlLaysF0.n6 C.P ρ) (hfs:ρ.f 6=fs) (hfn:IV C.P fs) (aE:∀w,(isAgg (ρ.t 24)).run C.P w=.ok true w) (zE:∀w,(Go.sizeOf (ρ.t 24)).run C.P w=.ok 6 w)
  (eg:∀args w,(callFunc fc args).run C.P w=.ok (.enter fc args) w)
  (ajf:∀(x y:LU) (u v:List Value) (W:World),u.length=5->v.length=5->Calls C.P fc #[.agg (.string ⟨⟨x⟩⟩::u).toArray,.agg (.string ⟨⟨y⟩⟩::v).toArray] W fun e w'=>e=.returned (.int .i64 (compareBytes x y))/\∃q os',w'=grow (W.drewN q) os'):
  POK C fs (UG fc):=by
 intro args O v O' h g w args' ha hw hg;unfold UG at h;split at h
 ·rename_i o n gf;split at h
  ·rename_i l t ho;split at h
   ·rename_i hx;simp only[a05,av6]at h;obtain⟨rfl,rfl⟩:=h;have hxs:=hx.2.2.choose_spec;generalize hx.2.2.choose=xs at hxs;obtain⟨rfl,hn,_⟩:=hx;obtain⟨rfl,hlen⟩:=hxs;have hlen6:=Qd xs;obtain⟨c,e,fr,h1,h2',h3,h4,h5,h6⟩:=hw.obj o _ ho;have hfr:fr=(0,0):=h5.1;subst hfr;cases ha with
    |cons _ v1 _ l1 x1 y1=>
    cases y1 with
    |cons _ v2 _ l2 x2 y2=>
    cases y2;cases x1 with
    |msl _ _ _ _ cap hog hncap hcap=>
    cases x2 with
    |func _ _ _ x' y' k1 k2=>
    cases k1;cases k2;have cell:∀i,i<n->∀r,r<6->∃x,(elC xs[i]!)[r]?=some x/\VR g x c[i*6+r]!:=fun i hi r hr=>by
     have hi':i<xs.length:=by omega
     have e1:=ajo xs i r hi' hr;have hl6:=nT xs[i];have e2:(elC xs[i])[r]?=some (elC xs[i])[r]:=a02 (by omega)
     rw[e2]at e1;obtain⟨u,hu,hv⟩:=h4 _ _ e1;have e3:xs[i]! =xs[i]:=getElem!_pos xs i hi';refine⟨_,by rw[e3];exact e2,?_⟩
     obtain⟨hb,hu2⟩:=ay0.mp hu;rw[getElem!_pos c _ hb,hu2];exact hv
    have fst:∀i,∃u,xQ c n i=.string ⟨⟨abr xs i⟩⟩::u/\u.length=5:=fun i=>by
     have hl:=agc c n i;by_cases hi:i<n
     ·obtain⟨x,hx1,hx2⟩:=cell i hi 0 (by decide)
      have hi':i<xs.length:=by omega
      have e3:xs[i]! =xs[i]:=getElem!_pos xs i hi';have hx3:x=.str (abr xs i):=by
       have:abr xs i=(xs[i]).1.1:=by unfold abr;rw[a02 hi']
       rw[this];rw[e3]at hx1;exact(aA9 hx1).symm
      rw[hx3]at hx2;have e0:=aew c n i 0 hi (by decide)
      cases hE:xQ c n i with
      |nil=>rw[hE]at hl;cases hl
      |cons a u=>
       rw[hE]at e0 hl;refine⟨u,?_,by simpa using hl⟩
       have:a=c[i*6+0]!:=e0;rw[this];generalize c[i*6+0]! =q at hx2;cases hx2;rfl
     ·refine⟨[.int .i64 0,.int .i64 0,.int .i64 0,.int .i64 0,.int .i64 0],?_,rfl⟩;unfold xQ abr;rw[if_neg hi,aw2 (by omega)]
    have oneC:∀i,∀v∈xQ c n i,v.oneCell'=true:=fun i v hv=>by
     by_cases hi:i<n
     ·unfold xQ at hv;rw[if_pos hi]at hv;obtain⟨r,hr,rfl⟩:=ax1.mp hv;obtain⟨x,hx1,hx2⟩:=cell i hi r (ay9.mp hr);exact hx2.one (a90.mp (yN _) x (a94 hx1))
     ·unfold xQ at hv;rw[if_neg hi]at hv;simp only[au9,az4,or_false]at hv;rcases hv with rfl|rfl|rfl|rfl|rfl|rfl<;>rfl
    have hsz0:(Array.range xs.length).size=n:=by simp[hlen]
    have rg:∀j,j<n->(Array.range xs.length)[j]! =j:=fun j hj=>by
     rw[getElem!_pos _ j (by rw[hsz0];exact hj)];simp
    have fk:∀t,t<n*6->(flatK (xQ c n) 6 (Array.range xs.length))[t]! =c[t]!:=fun t ht=>by
     have hq:t/6<n:=by omega
     rw[get_flatK _ _ _ _ (by rw[hsz0];exact ht),rg _ hq,aew _ _ _ _ hq (Nat.mod_lt _ (by decide))]
     congr 1
     omega
    have hH:HoldsK (xQ c n) 6 w (g.ob o) 0 (Array.range xs.length):=by
     intro t ht;have ht':t<n*6:=by rw[size_flatK,hsz0]at ht;exact ht
     refine⟨?_,?_⟩
     ·rw[fk t ht',av2];show w.cell? ⟨g.ob o,t,none⟩=some c[t]!;rw[cell_of_heap h1,getElem!_pos c t (by omega)]
      exact aw0 (by omega)
     ·rw[World.frozen?,h1];rfl
    have hb:g.ob o<w.heap.size:=(ay0.mp h1).1;have hcmp:CmpLays C.P gf #[] (xQ c n) 6 (aer xs) (g.ob o) 0 (Array.range xs.length).size w:=fun m os dk _ i j=>by
     obtain⟨u,hu,lu⟩:=fst i;obtain⟨u',hu',lu'⟩:=fst j;rw[hu,hu'];exact ajf (abr xs i) (abr xs j) u u' _ lu lu'
    have run:=AnyQ.slices_SortFunc_eq L 6 aE zE (xQ c n) (agc c n) oneC (aer xs) (aja xs) gf #[] (g.ob o) 0 cap (Array.range xs.length) w eg hcmp hH hb (by omega)
    rw[hfs,hsz0]at run;refine CQ hfn (run.mono fun e' w2 ⟨he,q,os,hw2⟩=>⟨_,he,g,?_,.tup _ _ .nil⟩);have hd:=apB xs;have hd0:pdq (ltOf (aer xs)) (Array.range xs.length) 0 n (Lib.bitLen n) true true=Eh xs:=by unfold Eh;rw[hsz0]
    rw[hd0]at hw2;have hF:(flatK (xQ c n) 6 (Eh xs)).size=n*6:=by rw[size_flatK,hd.1,hlen]
    have heap:w2.heap=(w.heap.modify (g.ob o) (onCells (putCells id 0 (flatK (xQ c n) 6 (Eh xs)))))++os:=by rw[hw2];rfl
    have hms:(w.heap.modify (g.ob o) (onCells (putCells id 0 (flatK (xQ c n) 6 (Eh xs))))).size=w.heap.size:=by simp
    have h2:w2.heap[g.ob o]?=some (.cells (putCells id 0 (flatK (xQ c n) 6 (Eh xs)) c) e (0,0)):=by
     rw[heap,Array.getElem?_append_left (by rw[hms];exact hb),aB3,if_pos rfl,h1]
     rfl
    have psz:(putCells id 0 (flatK (xQ c n) 6 (Eh xs)) c).size=c.size:=by simp[putCells]
    refine ajF hw ho (by rw[hw2];rfl) (by rw[hw2];rfl) (by rw[hw2];rfl) (by rw[heap];simp) (fun k hk hne=>?_) ⟨_,e,(0,0),h2,by rw[psz];exact h2',by rw[psz,Qd,L6];omega,fun i x hx=>?_,?_,?_⟩
    ·rw[heap,Array.getElem?_append_left (by rw[hms];exact hk),aB3,if_neg (fun h=>hne h.symm)]
    ·have hi:i<n*6:=by
      have:=(a00.mp hx).1;rw[Qd,L6]at this;omega
     have hq:i/6<n:=by omega
     have hr:i%6<6:=Nat.mod_lt _ (by decide)
     have hoi:=hd.2 (i/6) (by omega)
     have ei:i=i/6*6+i%6:=by omega
     have es:(X6 xs)[i/6]'(by rw[L6];omega)=xs[(Eh xs)[i/6]!]!:=by
      unfold X6;rw[List.getElem_map,List.getElem_range,av4,a02 hoi,getElem!_pos xs _ hoi];rfl
     have hx':=hx;rw[ei,ajo (X6 xs) (i/6) (i%6) (by rw[L6];omega) hr,es]at hx'
     obtain⟨y,hy1,hy2⟩:=cell ((Eh xs)[i/6]!) (by omega) (i%6) hr
     rw[hy1]at hx';cases hx';refine⟨(flatK (xQ c n) 6 (Eh xs))[i]!,?_,?_⟩
     ·unfold putCells;rw[Array.getElem?_mapIdx,aw0 (by omega),au8,if_pos ⟨a98 _,by rw[hF];omega⟩]
      rfl
     ·rw[get_flatK _ _ _ _ (by rw[hd.1,hlen];exact hi),aew _ _ _ _ (by omega) hr]
      exact hy2
    ·refine⟨rfl,fun t' x' ht=>?_⟩;obtain⟨q1,q2⟩:=h5.2 t' x' ht;refine⟨q1,fun hx=>?_⟩;rw[psz,Qd,L6,<-Qd];exact q2 hx
    ·intro i v hv;exact absurd (h6 i v hv).1 (by simp)
   ·cases h
  ·cases h
 ·cases h
def ah7{D:Ctx}(hq:∀args O,ai D fs args O=UG fc args O):Vm D fs fc:=by
 intro O hσ o ho t N hN xs hxs;have hex:fc=fc/\N<4611686018427387904/\∃ys:List EL,kQ xs=kQ ys/\ys.length=N:=⟨rfl,by omega,xs,rfl,hxs⟩
 refine⟨X6 hex.2.2.choose,by rw[L6];exact hex.2.2.choose_spec.2,?_⟩
 rw[hq];unfold UG amr;simp only[ah0 ho t xs];rw[dif_pos hex,anq]
end
end Go.Ev
