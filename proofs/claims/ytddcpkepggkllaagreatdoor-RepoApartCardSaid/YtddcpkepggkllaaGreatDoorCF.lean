/- Code. No conditions. -/
import Derived.Test.YtddcpkepggkllaaGreatDoorCE
import Derived.Test.YtddcpkepggkllaaGreatDoorCB
import Derived.Test.YtddcpkepggkllaaGreatDoorCC
import Derived.Test.YtddcpkepggkllaaGreatDoorCD
import Derived.Test.YtddcpkepggkllaaGreatDoorEC
import Derived.Lib.Bytealg
import Derived.Shelf.SlSortCmp.WholeK
set_option linter.unusedVariables false
set_option linter.unusedSimpArgs false
set_option linter.defProp false
namespace Go.Ev
set_option maxRecDepth 100000
set_option maxHeartbeats 4000000
variable{C C1:Ctx}
structure abQ(C:Ctx):Prop where
 rmade:Has C jW lN
 smade:Has C uO uC
 rname:Has C xk H8
 srepo:Has C FD EW
def aha(H:abQ C){p:Rp}{S:St}(hS:Ok S)(a:p.at' S):aj C xk [.ref p.r 0] S=some (.str p.nm,S):=by
 have mk:=Iz H.rmade a;obtain⟨fv,ov,hs,_,_⟩:=(bG.st a).st;have q1:aj C uO [.ref p.s 0] S=some (.bool true,S):=by
  rw[H.smade.go (gJ p.s S)];simp only[uC,hs,EVX,seval]
 have q2:aj C FD [.ref p.s 0] S=some (.str p.nm,S):=by
  rw[H.srepo.go (gJ p.s S)];simp only[EW,q1,hs,EVX,seval]
 have rp:=bG.rp a;unfold nH at rp;rw[H.rname.go (gJ p.r S)];simp only[H8,mk,rp,q2,EVX,seval]
def V5 (H:Xh C C1) (HC:abU C) (HR:ahg C) (HN:abQ C) (s15:Has C uM uB) (hO:Has C sQ nK) (c:jH) (l more:List fQ) (O:St) (hσ:Ok O):
  aj C sQ [.agg c.cs,xO l,xO more] O=some (.bool true,O):=by
 have cb:AO.below 0 (.cells c.cs FZ)=true:=c.nvs.cl;have ok1:Ok (O++[.cells c.cs FZ]):=hσ.plus (by rw[a07,cb];rfl)
 have ty:=fun b=>bY hσ (vs:=[.bool b]) rfl;have lg:=Yu H.lng c [l,more] (by simp) _ ok1
 simp only[a09,a90,ay2,aD8,au6,av5,Nat.reduceAdd]at lg;unfold Ua at lg;simp only[a81,a99]at lg;have aw:=H.awake _ ok1;have cc:c.cs=[.str c.nm,.str c.data,.sl c.fs.length (c.fs.flatMap pC),.bool c.h,.sl c.l.length (c.l.flatMap iy.cs),.int .i64 c.now,.int .i64 c.b0,.int .i64 c.b1,.int .i64 c.rc,.int .i64 c.sc]:=rfl;have hn:hand false [.agg c.cs,xO l,xO more] O=some ([.agg c.cs,xO l,xO more],O):=NVs.hand (.cons (.agg c.nvs) (.cons (WA l) (.cons (WA more) .nil))) O;rw[hO.go hn];unfold xO;cases cl:SE c [l,more]
 case true=>
  rw[cl]at lg;rw[cc]at lg aw⊢;simp only[nK,lg,aw,ty,aJ,AV.cells,EVX,seval]
 rw[cl]at lg;obtain⟨v1,v2,v3,v4,v5,v6⟩:=SG cl;obtain⟨l12,lok⟩:=v6 l (by simp)
 obtain⟨m12,mok⟩:=v6 more (by simp)
 obtain⟨R,e,bv,rok,hK,mk⟩:=aqX H cl;rcases mk c.now _ ok1 with⟨m1,m2⟩|⟨m1,p,T,m2,np⟩
 ·have m1':(vH c.nm c.fs c.rc c.sc e !=0)=true:=by simpa using m1
  change aj C df [.agg c.cs] _=_ at m2;rw[cc]at lg aw m2⊢;simp only[nK,lg,aw,m1',m2,ty,aJ,AV.cells,bne_self_eq_false,EVX,seval]
 rcases mk c.now T np.ok with⟨n1,n2⟩|⟨n1,q,U,n2,nq⟩
 ·exact absurd m1 n1
 change aj C df [.agg c.cs] _=_ at m2 n2;obtain⟨a1,a2,a3,a4,a5,a6,a7,a8⟩:=np.of;obtain⟨b1,b2,b3,b4,b5,b6,b7,b8⟩:=nq.of;have lT:=np.len;have lU:=nq.len;have own:=np.own;simp only[a04,a09,a90]at own lT;have pto:p.to [] p.oo=p:=by unfold Rp.to;rw[<-np.F]
 have qto:q.to [] q.oo=q:=by unfold Rp.to;rw[<-nq.F]
 have dpq:Dw p q:=fun i=>⟨fun h h'=>by
  have:=Rp.lt np.at' (Rp.wh h);have:=nq.own i h';omega,fun h h'=>by
  have:=Rp.lt np.at' h';have:=nq.own i (Rp.wh h);omega⟩
 have B:Pair C1 (bv.K c.now) p q (bW (bv.K c.now) p.R p.fs p.rc p.sc (l.take 0) []) p.oo q.oo (O.length+1) U:=by
  show Pair C1 (bv.K c.now) p q [] p.oo q.oo (O.length+1) U;refine⟨nq.ok,?_,?_,?_,?_,?_,?_,?_,by omega⟩
  ·rw[pto];exact(np.at').moved fun i x h e=>by rw[yM nq.pre (Rp.lt np.at' h)];exact e
  ·rw[qto];exact nq.at'
  ·rw[pto];exact np.good
  ·rw[qto];exact nq.good
  ·rw[pto,qto];exact dpq
  ·rw[pto];intro i x;have:=own i x;omega
  ·rw[qto];intro i x;have:=nq.own i x;omega
 have eR:q.R=p.R:=b3.trans a3.symm;have ec:q.rc=p.rc:=b5.trans a5.symm;have es:q.sc=p.sc:=b6.trans a6.symm;have ef:q.fs=p.fs:=b8.trans a8.symm;obtain⟨op,oq,S,t1,t2,t3,t4⟩:=Xp H.cat H.asked p q eR ec es ef l l12 lok (xO more) (O.length+1) l.length 0 p.oo q.oo U (by omega) (by simp[bW]) B
 have xU:U[O.length]?=some (.cells c.cs FZ):=by
  rw[yM nq.pre (by omega),yM np.pre (by simp),aJ];rfl
 have xT:T[O.length]?=some (.cells c.cs FZ):=by
  rw[yM np.pre (by simp),aJ];rfl
 have preU:U.take O.length=O:=by
  have e1:T.take O.length=O:=by
   have:=congrArg (List.take O.length) np.pre
   grind
  have:=congrArg (List.take O.length) nq.pre
  grind
 generalize hF:bW (bv.K c.now) p.R p.fs p.rc p.sc l []=F at*;have hF24:F.length<=24:=by omega
 obtain⟨d,L,d1,d2,d3,d4,d5,d6,d7,d8,d9,d10,d11,d12,d13,d14⟩:=ajP HC t3.ok t3.pa;change aj C BM [.ref p.r 0] S=_ at d1;change d.o=p.o at d4;change∀i,d.has i->i=p.o\/S.length<=i at d5;change d.R=p.R at d8;change d.rc=p.rc at d10;change d.sc=p.sc at d11;change d.nm=p.nm at d12;change d.fs=p.fs at d13;change d.F=F at d14;have B2:=t3.app d2;have lS:=t3.len;have dto:d.to F d.oo=d:=by unfold Rp.to;rw[<-d14]
 have dw:∀i,d.wr i->S.length<=i:=fun i h=>by
  rcases d5 i (Rp.wh h)with e|e
  ·exact absurd (e.trans d4.symm) (Rp.wo d3 h)
  ·exact e
 have dg:d.good C1 (bv.K c.now):=by
  refine⟨⟨?_,?_,?_⟩,?_,?_⟩
  ·rw[d6,d7,d8,d9];exact t3.pg.case.chk
  ·rw[d8];exact t3.pg.case.root
  ·rw[d13];exact t3.pg.case.data
  ·rw[d13,d14];exact t3.pg.fet
  ·rw[d14];exact t3.pg.uniq
 have pd:Dw (p.to F op) d:=fun i=>⟨fun h h'=>by
  rcases d5 i h' with e|e
  ·exact Rp.wo t3.pa h e
  ·have:=Rp.lt t3.pa (Rp.wh h);omega,fun h h'=>by
  have:=dw i h;have:=Rp.lt t3.pa h';omega⟩
 have qd:Dw (q.to F oq) d:=fun i=>⟨fun h h'=>by
  rcases d5 i h' with e|e
  ·exact(t3.pq i).2 h (.inr (.inr (.inr (.inl e))))
  ·have:=Rp.lt t3.qa (Rp.wh h);omega,fun h h'=>by
  have:=dw i h;have:=Rp.lt t3.qa h';omega⟩
 have fe0:=vY H.fet B2.ok B2.pa B2.pg.uniq;obtain⟨od,V,u1,u2,u3⟩:=Xq H.cat H.asked d more m12 mok F (by omega) (.ref p.r 0) (.ref q.r 0) (.sl F.length (F.flatMap (mD p.nm))) more.length 0 d.oo (S++L) (by omega) d2 (by show(d.to F d.oo).at' _;rw[dto];exact d3) (by show(d.to F d.oo).good C1 _;rw[dto];exact dg) (by show F.length<=_;omega)
 change Stw _ V (d.to F d.oo) _ at u2;rw[dto]at u2;obtain⟨pV,dp⟩:=u2.other B2.pa pd.symm;obtain⟨qV,dq⟩:=u2.other B2.qa qd.symm;have lV:=u2.len;simp only[a04]at lV;have fe1:=vY H.fet u2.ok pV B2.pg.uniq;have c26:=P8 H.s26 p.nm F (by omega) V
 have nm1:=aha HN u2.ok u2.at';have nm2:=aha HN u2.ok pV;have rt1:=ahf HR u2.ok u2.at' (by show d.R.ok;rw[d8];exact t3.pg.case.root)
 have rt2:=ahf HR u2.ok pV t3.pg.case.root;change aj C xk [.ref d.r 0] V=some (.str d.nm,V)at nm1;change aj C xk [.ref p.r 0] V=some (.str p.nm,V)at nm2;change aj C xm [.ref d.r 0] V=some (.agg d.R.cs,V)at rt1;change aj C xm [.ref p.r 0] V=some (.agg p.R.cs,V)at rt2;change aj C dX [.ref p.r 0] _=some (.sl F.length (F.flatMap (mD p.nm)),_)at fe0 fe1;rw[d12]at nm1;rw[d8]at rt1;have rok':p.R.ok:=t3.pg.case.root;have c15:=P7 s15 p.R.tg.th p.R.tg.ids (by have:=rok'.tg.1;omega) V u2.ok
 unfold aC at c15;have B3:Pair C1 (bv.K c.now) p q (bW (bv.K c.now) p.R p.fs p.rc p.sc (more.take 0) F) op oq (O.length+1) V:=
  ⟨u2.ok,pV,qV,t3.pg,t3.qg,t3.pq,t3.po,t3.qo,by omega⟩
 obtain⟨op',oq',W,w1,w2,w3,w4⟩:=U0 H.cat H.asked p q eR ec es ef more m12 mok F (by omega) (.ref d.r 0) (O.length+1) more.length 0 op oq V (by omega) (by show F.length<=_;omega) B3
 change Kp V W (p.to F op) (q.to F oq)at w4;have dW:(d.to (bW (bv.K c.now) d.R d.fs d.rc d.sc more F) od).at' W:=(u2.at').moved fun i x h e=>w4.2 i x (fun h'=>(dp i).2 h' h) (fun h'=>(dq i).2 h' h) e;rw[d8,d13,d10,d11]at dW u3;generalize bW (bv.K c.now) p.R p.fs p.rc p.sc more F=F2 at*;have f1:=vY H.fet w2.ok w2.pa w2.pg.uniq;have f2:=vY H.fet w2.ok w2.qa w2.qg.uniq;have f3:=vY H.fet w2.ok dW u3.uniq;change aj C dX [.ref p.r 0] W=some (.sl F2.length (F2.flatMap (mD p.nm)),W)at f1;change aj C dX [.ref q.r 0] W=some (.sl F2.length (F2.flatMap (mD q.nm)),W)at f2;change aj C dX [.ref d.r 0] W=some (.sl F2.length (F2.flatMap (mD d.nm)),W)at f3;rw[b7.trans a7.symm]at f2;rw[d12]at f3;have c26':=P8 H.s26 p.nm F2 (by omega) W
 have keep:∀i,i<O.length->W[i]?=O[i]?:=fun i hi=>by
  have e0:U[i]?=O[i]?:=yM preU hi;have e1:O[i]?=some O[i]:=a01 hi;rw[e1]at e0⊢;have k1:=t4.2 i _ (fun h=>by have:=B.po i (Rp.wh h);omega) (fun h=>by have:=B.qo i (Rp.wh h);omega) e0
  have k2:=u2.keep i _ (fun h=>by have:=dw i h;omega) (aA k1 L)
  exact w4.2 i _ (fun h=>by have:=t3.po i (Rp.wh h);omega) (fun h=>by have:=t3.qo i (Rp.wh h);omega) k2
 have preW:W.take O.length=O:=aw7 fun k=>by
  grind
 have tyE:=qZ (vs:=[.bool true]) hσ rfl preW;have z:((0:Int) !=0)=false:=rfl;simp only[a97]at t1 u1 w1;unfold xO at t1 u1 w1;have Rc:=p.R.cs_is;rw[Rc]at rt1 rt2;rw[cc]at lg aw m2 n2 xT⊢;clear B B2 B3 t2 t3 t4 u2 u3 w2 w4 dp dq pd qd dw dg keep preW preU np nq mk hK pV qV dW d2 d3 d5 own;simp only[nK,lg,aw,z,m2,n2,xT,t1,d1,fe0,u1,fe1,c26,nm1,nm2,rt1,rt2,c15,w1,f1,f2,f3,c26',tyE,aY,aJ,bI,AV.cells,AV.flat,bne_self_eq_false,EVX,seval]
end Go.Ev
namespace Go.Ev
set_option maxRecDepth 100000
variable{C:Ctx}
def aj0 (hC:Kt C aG bQ) {Y:St} (hτ:Ok Y) {ov:AV} {F:List cO} {oo:Option Nat} (hF:F.length<=1000000) (ho:adt Y ov F oo):
  ∃ov' oo' L,aj C aG [ov] Y=some (ov',Y++L)/\Ok (Y++L)/\adt (Y++L) ov' F oo'/\∀q,oo'=some q->Y.length<=q:=by
 rcases ho with⟨rfl,_,rfl⟩|⟨q,e1,e2,rfl,fq⟩
 ·refine⟨.nils,none,[],?_,by simpa using hτ,.inl ⟨rfl,rfl,rfl⟩,fun q e=>by cases e⟩
  rw[hC.go];simp only[bQ,pK,bg,au6,EVX,seval]
 ·have nb:∀l:List cO,ai 0 (l.flatMap fun f=>[AV.str f.name])=true:=fun l=>fK (fun _=>rfl) l;refine⟨.msl Y.length 0 F.length 1,some Y.length,[.cells (F.flatMap fun f=>[.str f.name]) FZ],?_,hτ.plus (by rw[a07,aw0,AO.below,nb];rfl),.inr ⟨Y.length,rfl,e2,rfl,by rw[aJ];rfl⟩,fun q e=>by cases e;omega⟩
  have h1:¬F.length=0:=fun e=>e2 (aC5.mp e);have fl:=aU (f:=fun f:cO=>[AV.str f.name]) (k:=1) (fun _=>rfl) F;have ap:=fun Y:St=>TZ Y none (sz:=1) (bytes:=16) (n:=0) (m:=F.length) (l:=[]) (F.flatMap fun f=>[.str f.name]) h1 rfl (by omega) (by omega)
  simp only[av5,a99]at ap;have fa:=abr (NE (f:=fun f:cO=>[AV.str f.name]) (fun _=>rfl) F);have tf:(F.flatMap fun f=>[AV.str f.name]).take F.length=F.flatMap fun f=>[AV.str f.name]:=by rw[<-av7 F.length,<-fl,aD9]
  have ty:tidy Y.length [.msl Y.length 0 F.length 1] (Y++[.cells (F.flatMap fun f=>[.str f.name]) FZ])=Y++[.cells (F.flatMap fun f=>[.str f.name]) FZ]:=nO (by simp[ai,below]) _
  rw[hC.go];simp only[bQ,fq,fl,fa,tf,ap,ty,pK,bg,EVX,seval]
variable{PK:PkI}
def TI(v:AV):Prop:=∃n e:Int,v=.tup [.int .i64 n,.int .i64 e]
set_option maxHeartbeats 4000000 in
def ak8(H:Wx C PK)(s:LU)(O:St)(hσ:Ok O):∃v,aj C Dv [.str s] O=some (v,O)/\TI v:=by
 rw[H.read.go (NVs.hand (.cons (.str _) .nil) _)];cases hl:((s.length:Int) !=20)with
 |true=>
  refine⟨.tup [.int .i64 0,.int .i64 3],?_,⟨_,_,rfl⟩⟩;simp only[ig,hl,bu,EVX,seval]
 |false=>
 have hn:s.length=20:=by simp at hl;omega
 have at':∀i,i<20->s[i]?=some (s[i]?.getD 0):=fun i hi=>by rw[a01 (by omega)];rfl
 have a4:=at' 4 (by omega)
 have a7:=at' 7 (by omega)
 have a10:=at' 10 (by omega)
 have a13:=at' 13 (by omega)
 have a16:=at' 16 (by omega)
 have a19:=at' 19 (by omega)
 generalize s[4]?.getD 0=c4 at a4;generalize s[7]?.getD 0=c7 at a7;generalize s[10]?.getD 0=c10 at a10;generalize s[13]?.getD 0=c13 at a13;generalize s[16]?.getD 0=c16 at a16;generalize s[19]?.getD 0=c19 at a19;have bad:∀{r:Option (AV×St)},r=some (.tup [.int .i64 0,.int .i64 3],O)->∃v,r=some (v,O)/\TI v:=fun h=>⟨_,h,⟨_,_,rfl⟩⟩;cases h4:((c4.toNat:Int) !=45)with
 |true=>exact bad (by simp only[ig,hl,a4,h4,bu,EVX,seval])
 |false=>
 cases h7:((c7.toNat:Int) !=45)with
 |true=>exact bad (by simp only[ig,hl,a4,h4,a7,h7,bu,EVX,seval])
 |false=>
 cases h10:((c10.toNat:Int) !=84)with
 |true=>exact bad (by simp only[ig,hl,a4,h4,a7,h7,a10,h10,bu,EVX,seval])
 |false=>
 cases h13:((c13.toNat:Int) !=58)with
 |true=>exact bad (by simp only[ig,hl,a4,h4,a7,h7,a10,h10,a13,h13,bu,EVX,seval])
 |false=>
 cases h16:((c16.toNat:Int) !=58)with
 |true=>exact bad (by simp only[ig,hl,a4,h4,a7,h7,a10,h10,a13,h13,a16,h16,bu,EVX,seval])
 |false=>
 cases h19:((c19.toNat:Int) !=90)with
 |true=>exact bad (by simp only[ig,hl,a4,h4,a7,h7,a10,h10,a13,h13,a16,h16,a19,h19,bu,EVX,seval])
 |false=>
 have dig:∀(a b:Nat),b<=20->∃d,aj C Hu [.str ((s.take b).drop a)] O=some (.int .i64 d,O):=fun a b hb=>by
  obtain⟨v,h1,h2⟩:=DU H.digits (.cons (.str ((s.take b).drop a)) .nil) (.cons _ _ _ _ (.strb _ (by simp[LB];omega)) .nil) hσ
  obtain⟨d,rfl⟩:=OL h2;exact⟨d,h1⟩
 obtain⟨year,e1⟩:=dig 0 4 (by omega)
 obtain⟨month,e2⟩:=dig 5 7 (by omega)
 obtain⟨day,e3⟩:=dig 8 10 (by omega)
 obtain⟨hour,e4⟩:=dig 11 13 (by omega)
 obtain⟨minute,e5⟩:=dig 14 16 (by omega)
 obtain⟨second,e6⟩:=dig 17 19 (by omega)
 simp only[au7]at e1;obtain⟨dd,e7,hdd⟩:=ak7 H year month O hσ;have n4:4<=s.length:=by omega
 have n7:7<=s.length:=by omega
 have n10:10<=s.length:=by omega
 have n13:13<=s.length:=by omega
 have n16:16<=s.length:=by omega
 have n19:19<=s.length:=by omega
 by_cases hd:day<1
 ·exact bad (by simp only[ig,hl,a4,h4,a7,h7,a10,h10,a13,h13,a16,h16,a19,h19,e1,e2,e3,n4,n7,n10,hd,au7,av2,and_self,bu,EVX,seval])
 by_cases hd2:day>dd
 ·exact bad (by simp only[ig,hl,a4,h4,a7,h7,a10,h10,a13,h13,a16,h16,a19,h19,e1,e2,e3,e7,n4,n7,n10,hd,hd2,au7,av2,and_self,bu,EVX,seval])
 have hmon:=hdd (by omega)
 have ut:∀(a b:Int),∃q,aj C KZ [.int .i64 a,.int .i64 b] O=some (.bool q,O):=fun a b=>by
  obtain⟨v,h1,h2⟩:=DU H.upTo (.cons (.int .i64 a) (.cons (.int .i64 b) .nil)) (.cons _ _ _ _ (.int _ _) (.cons _ _ _ _ (.int _ _) .nil)) hσ;obtain⟨d,rfl⟩:=Lm h2;exact⟨d,h1⟩
 obtain⟨u1,e8⟩:=ut hour 23;obtain⟨u2,e9⟩:=ut minute 59;obtain⟨u3,e10⟩:=ut second 59;cases u1 with
 |false=>exact bad (by simp only[ig,hl,a4,h4,a7,h7,a10,h10,a13,h13,a16,h16,a19,h19,e1,e2,e3,e4,e5,e6,e7,e8,n4,n7,n10,n13,n16,n19,hd,hd2,au7,av2,and_self,bu,EVX,seval])
 |true=>
 cases u2 with
 |false=>exact bad (by simp only[ig,hl,a4,h4,a7,h7,a10,h10,a13,h13,a16,h16,a19,h19,e1,e2,e3,e4,e5,e6,e7,e8,e9,n4,n7,n10,n13,n16,n19,hd,hd2,au7,av2,and_self,bu,EVX,seval])
 |true=>
 cases u3 with
 |false=>exact bad (by simp only[ig,hl,a4,h4,a7,h7,a10,h10,a13,h13,a16,h16,a19,h19,e1,e2,e3,e4,e5,e6,e7,e8,e9,e10,n4,n7,n10,n13,n16,n19,hd,hd2,au7,av2,and_self,bu,EVX,seval])
 |true=>
 obtain⟨vs,e11,hs⟩:=DU H.start (.cons (.int .i64 year) .nil) (.cons _ _ _ _ (.int _ _) .nil) hσ;obtain⟨st,rfl⟩:=OL hs;obtain⟨vl,e12,hl2⟩:=DU H.leap (.cons (.int .i64 year) .nil) (.cons _ _ _ _ (.int _ _) .nil) hσ;obtain⟨lp,rfl⟩:=Lm hl2;have hb:=H.bef;have gv:∀E,avA C E (.g vO)=.eptr bef:=fun E=>by show AV.eptr ((C.gl vO).getD [])=_;rw[hb];rfl
 have w1:IntKind.i64.wrap (month-1)=month-1:=wrE (by omega)
 have g2:0<=month-1:=by omega
 have bl:bef.length=13:=rfl;have l2:(month-1).toNat<13:=by omega
 have l4:(month-1).toNat<=bef.length:=by omega
 obtain⟨z,hz⟩:=afM (month-1).toNat l2;have good:∀{r:Option (AV×St)} (n e:Int),r=some (.tup [.int .i64 n,.int .i64 e],O)->∃v,r=some (v,O)/\TI v:=fun n e h=>⟨_,h,⟨_,_,rfl⟩⟩;by_cases hm2:month>2
 ·cases lp with
  |true=>
   refine good (IntKind.i64.wrap (IntKind.i64.wrap (IntKind.i64.wrap (IntKind.i64.wrap (IntKind.i64.wrap (IntKind.i64.wrap (st+z)+day)-1)+1)*86400)+IntKind.i64.wrap (IntKind.i64.wrap (IntKind.i64.wrap (hour*3600)+IntKind.i64.wrap (minute*60))+second))) 0 ?_;simp only[ig,hl,a4,h4,a7,h7,a10,h10,a13,h13,a16,h16,a19,h19,e1,e2,e3,e4,e5,e6,e7,e8,e9,e10,e11,e12,n4,n7,n10,n13,n16,n19,hd,hd2,hm2,w1,g2,l2,l4,hz,gv,au7,av2,and_self,bu,EVX,seval]
  |false=>
   refine good (IntKind.i64.wrap (IntKind.i64.wrap (IntKind.i64.wrap (IntKind.i64.wrap (IntKind.i64.wrap (st+z)+day)-1)*86400)+IntKind.i64.wrap (IntKind.i64.wrap (IntKind.i64.wrap (hour*3600)+IntKind.i64.wrap (minute*60))+second))) 0 ?_;simp only[ig,hl,a4,h4,a7,h7,a10,h10,a13,h13,a16,h16,a19,h19,e1,e2,e3,e4,e5,e6,e7,e8,e9,e10,e11,e12,n4,n7,n10,n13,n16,n19,hd,hd2,hm2,w1,g2,l2,l4,hz,gv,au7,av2,and_self,bu,EVX,seval]
 ·refine good (IntKind.i64.wrap (IntKind.i64.wrap (IntKind.i64.wrap (IntKind.i64.wrap (IntKind.i64.wrap (st+z)+day)-1)*86400)+IntKind.i64.wrap (IntKind.i64.wrap (IntKind.i64.wrap (hour*3600)+IntKind.i64.wrap (minute*60))+second))) 0 ?_;simp only[ig,hl,a4,h4,a7,h7,a10,h10,a13,h13,a16,h16,a19,h19,e1,e2,e3,e4,e5,e6,e7,e8,e9,e10,e11,n4,n7,n10,n13,n16,n19,hd,hd2,hm2,w1,g2,l2,l4,hz,gv,au7,av2,and_self,bu,EVX,seval]
def adb(H:Wx C PK):iF C PK Dv (.pure [.strb] (.tup [.int .i64,.int .i64])):=
 xG H.read rfl fun azs hm=>by
  obtain⟨x,rfl,h1⟩:=ZW hm;obtain⟨a,rfl,ha⟩:=zu h1;intro O hσ;obtain⟨v,h,n,e,rfl⟩:=ak8 H a O hσ;exact⟨_,h,.tup _ _ (.cons _ _ _ _ (.int _ _) (.cons _ _ _ _ (.int _ _) .nil))⟩
end Go.Ev
namespace Go.Ev
def aqp(gl:Nat->Option Sh)(mt:List (TypeId×String×FuncId))(h:List (FuncId×Sm)):Cfg:={ase mt h with gl:=gl}
def afH{C:Ctx}{gl:Nat->Option Sh}{mt:List (TypeId×String×FuncId)}{hd:List (FuncId×Sm)}(h0:∀n s,gl n=some s->∀V:Val,M V s (.eptr ((C.gl n).getD [])))(h1:∀p∈mt,methodOf C.P p.1 .nilp p.2.1=some (p.2.2,.nilp))(h2:∀p∈hd,iF C iI p.1 p.2){rows:List (FuncId×Sm)}(h3:∀p∈rows,Has C p.1 (kA C.P p.1))(h:(afF (aqp gl mt hd) (apO C.P rows)).isSome=true):∀p∈rows,iF C iI p.1 p.2:=by
 obtain⟨X',hX⟩:=ax0.mp h;have hs:=(ahk (C:=C) (X:=aqp gl mt hd) h0 (fun t m f hf v=>by
  obtain⟨p,hp,rfl⟩:=au2.mp hf;have e:=List.find?_some hp;simp only[a02,beq_iff_eq]at e
  grind [aqU]) (fun f m hm=>by
  obtain⟨p,hp,rfl⟩:=ax7.mp hm
  grind [a98]) (fun p hp=>by
  obtain⟨q,hq,rfl⟩:=ax7.mp hp;exact h3 q hq) hX).1
 exact fun p hp=>hs _ _ ((adw hX).2 _ (ax7.mpr ⟨p,hp,rfl⟩))
set_option maxRecDepth 100000
variable{C:Ctx}
def afQ(hC:Has C aG bQ)(ns:List LU)(h0:0<ns.length)(hn:ns.length<=8192)(O:St)(hσ:Ok O):aj C aG [.sl ns.length (ns.map .str)] O=some (.sl ns.length (ns.map .str),O):=by
 have hb:ai 0 (ns.map AV.str)=true:=by
  clear h0 hn
  induction ns with
  |nil=>rfl
  |cons a l ih=>rw[av9,ai,ih];rfl
 have hnv:NVs (ns.map AV.str):=fun v hv=>by
  obtain⟨s,_,rfl⟩:=ax7.mp hv;exact .str s
 rw[hC.go (NVs.hand (.cons (.sl _ hb) .nil) _)];have fa:(ns.map AV.str).all AV.flat=true:=by
  rw[a94];intro v hv;obtain⟨s,_,rfl⟩:=ax7.mp hv;rfl
 have h1:¬ns.length=0:=by omega
 have sn:(ns.map AV.str).length=ns.length:=by simp
 have ap:=fun Y:St=>TZ Y none (sz:=1) (bytes:=16) (n:=0) (m:=ns.length) (l:=[]) (ns.map .str) h1 rfl (by omega) (by omega)
 simp only[av5,a99]at ap;have nm:=Ls (Y:=O++[.cells (ns.map .str) FZ]) (q:=O.length) (n:=ns.length) (sz:=1) (l:=ns.map .str) (fz:=FZ) (by rw[aJ];rfl) (by simp) hnv
 have fz:=zt (Y:=O++[.cells (ns.map .str) FZ]) (q:=O.length) (l:=ns.map .str) (by rw[aJ];rfl)
 have hd:hand false [.msl O.length 0 ns.length 1] (O++[.cells (ns.map .str) FZ])=some ([.sl ns.length (ns.map .str)],O++[.cells (ns.map .str) ⟨true,none⟩]):=by
  show(match(match bF _ (dE _ 11) (.msl O.length 0 ns.length 1),aV _ (dE _ 11) []with|some (v,fs),some (l,gs)=>some (v::l,fs++gs)|_,_=>none)with|some (l,fs)=>some (l,freeze _ fs)|none=>none)=_
  rw[nm];show some ([AV.sl ns.length (ns.map .str)],freeze (O++[.cells (ns.map .str) FZ]) [O.length])=_;rw[fz,iJ];rfl
 have ty:=bY hσ (vs:=[.sl ns.length (ns.map .str)]) (by rw[ai,below,hb];rfl) [.cells (ns.map .str) ⟨true,none⟩]
 have body:eu C (aj C) bQ.ntmps bQ.body (kS 0 [.sl ns.length (ns.map .str)]) O=some (.ret,[(2,.msl O.length 0 ns.length 1)],O++[.cells (ns.map .str) FZ]):=by
  simp only[bQ,fa,h0,sn,ap,EVX,seval]
 rw[body,Gv (vs:=[.msl O.length 0 ns.length 1]) rfl hd];exact congrArg (fun t=>some (_,t)) ty
def ZU(hC:Kt C fA mV)(xs:List EL)(h0:xs≠[])(hn:xs.length<=8192)(O:St)(hσ:Ok O):aj C fA [.sl xs.length (mM xs)] O=some (.msl O.length 0 xs.length 6,O++[.cells (mM xs) FZ]):=by
 have hl:0<xs.length:=List.length_pos_iff.mpr h0;rw[hC.go];have fa:(mM xs).all AV.flat=true:=by
  rw[a94];intro v hv;obtain⟨x,_,hx⟩:=aC8.mp hv;exact a94.mp (Az x) v hx
 have h1:¬xs.length=0:=by omega
 have sn:=adS xs;have ap:=fun Y:St=>TZ Y none (sz:=6) (bytes:=96) (n:=0) (m:=xs.length) (l:=[]) (mM xs) h1 rfl (by omega) (by omega)
 simp only[av5,a99]at ap;have ty:tidy O.length [.msl O.length 0 xs.length 6] (O++[.cells (mM xs) FZ])=O++[.cells (mM xs) FZ]:=by
  unfold tidy;have:ai O.length [.msl O.length 0 xs.length 6]=false:=by simp[ai,below]
  split
  ·rfl
  ·rw[this];simp
 simp only[mV,fa,hl,sn,ap,ty,pK,bg,EVX,seval]
def anr(n:Nat)(h:n<18446744073709551616):IntKind.u64.wrap (n:Int)=n:=by
 simp[IntKind.wrap,IntKind.bits,IntKind.signed];omega
def vK(n:Nat)(h:n<4294967296):IntKind.u32.wrap (n:Int)=n:=by
 simp[IntKind.wrap,IntKind.bits,IntKind.signed];omega
def asA:(List.range 256).all (fun b=>match Us[b]? with|some c=>decide (b<2^c.toNat)&&decide (c.toNat<=8)|none=>false)=true:=by decide+kernel
def asB(hC:Has C qL fO)(x:Nat)(hx:x<18446744073709551616):∃L:Nat,x<2^L/\L<=64/\∀O,aj C qL [.int .u64 x] O=some (.int .i64 L,O):=by
 have go:=fun O=>hC.go (O:=O) (NVs.hand (.cons (.int .u64 (x:Int)) .nil) _);have f:∀(k y:Nat),(y:Int).fdiv ((2^k:Nat):Int)=((y/2^k:Nat):Int):=fun k y=>by
  rw[aA3 _ (Int.natCast_nonneg _)];rfl
 have f32:∀y:Nat,(y:Int).fdiv (2^min 32 IntKind.u64.bits)=((y/4294967296:Nat):Int):=f 32;have f16:∀y:Nat,(y:Int).fdiv (2^min 16 IntKind.u64.bits)=((y/65536:Nat):Int):=f 16;have f8:∀y:Nat,(y:Int).fdiv (2^min 8 IntKind.u64.bits)=((y/256:Nat):Int):=f 8;have fin:∀(n y:Nat),y=x/2^n->y<256->n<=56->(∀c:UInt8,Us[y]?=some c->IntKind.i64.wrap (c.toNat:Int)=c.toNat->IntKind.i64.wrap ((n:Int)+c.toNat)=((n+c.toNat:Nat):Int)->IntKind.u8.wrap (y:Int)=y->(0:Int)<=y->∀O,aj C qL [.int .u64 x] O=some (.int .i64 (n+c.toNat:Nat),O))->∃L:Nat,x<2^L/\L<=64/\∀O,aj C qL [.int .u64 x] O=some (.int .i64 L,O):=fun n y hy h1 h2 h=>by
  have t:=a94.mp asA y (az4.mpr h1);split at t
  ·rename_i c hc;simp only[a02,decide_eq_true_eq]at t;refine⟨n+c.toNat,?_,by omega,h c hc (by rw[w64]<;>omega) (by rw[w64]<;>omega) (by rw[IntKind.wrap_u8];omega) (by omega)⟩
   rw[hy,Nat.div_lt_iff_lt_mul (Nat.pow_pos (by decide)),Nat.mul_comm,<-Nat.pow_add]at t
   exact t.1
  ·cases t
 by_cases c1:(4294967296:Int)<=(x:Int)
 ·by_cases c2:(65536:Int)<=((x/4294967296:Nat):Int)
  ·by_cases c3:(256:Int)<=((x/4294967296/65536:Nat):Int)
   ·refine fin 56 (x/4294967296/65536/256) (by omega) (by omega) (by omega) fun c hc g1 g2 g3 g4 O=>?_
    rw[go];simp only[fO,c1,c2,c3,f32,f16,f8,hc,g1,g3,g4,a95,EVX,seval];exact congrArg (fun v=>some (AV.int IntKind.i64 v,O)) g2
   ·refine fin 48 (x/4294967296/65536) (by omega) (by omega) (by omega) fun c hc g1 g2 g3 g4 O=>?_
    rw[go];simp only[fO,c1,c2,c3,f32,f16,hc,g1,g3,g4,a95,EVX,seval];exact congrArg (fun v=>some (AV.int IntKind.i64 v,O)) g2
  ·by_cases c3:(256:Int)<=((x/4294967296:Nat):Int)
   ·refine fin 40 (x/4294967296/256) (by omega) (by omega) (by omega) fun c hc g1 g2 g3 g4 O=>?_
    rw[go];simp only[fO,c1,c2,c3,f32,f8,hc,g1,g3,g4,a95,EVX,seval];exact congrArg (fun v=>some (AV.int IntKind.i64 v,O)) g2
   ·refine fin 32 (x/4294967296) (by omega) (by omega) (by omega) fun c hc g1 g2 g3 g4 O=>?_
    rw[go];simp only[fO,c1,c2,c3,f32,hc,g1,g3,g4,a95,EVX,seval];exact congrArg (fun v=>some (AV.int IntKind.i64 v,O)) g2
 ·by_cases c2:(65536:Int)<=((x:Nat):Int)
  ·by_cases c3:(256:Int)<=((x/65536:Nat):Int)
   ·refine fin 24 (x/65536/256) (by omega) (by omega) (by omega) fun c hc g1 g2 g3 g4 O=>?_
    rw[go];simp only[fO,c1,c2,c3,f16,f8,hc,g1,g3,g4,a95,EVX,seval];exact congrArg (fun v=>some (AV.int IntKind.i64 v,O)) g2
   ·refine fin 16 (x/65536) (by omega) (by omega) (by omega) fun c hc g1 g2 g3 g4 O=>?_
    rw[go];simp only[fO,c1,c2,c3,f16,hc,g1,g3,g4,a95,EVX,seval];exact congrArg (fun v=>some (AV.int IntKind.i64 v,O)) g2
  ·by_cases c3:(256:Int)<=((x:Nat):Int)
   ·refine fin 8 (x/256) (by omega) (by omega) (by omega) fun c hc g1 g2 g3 g4 O=>?_
    rw[go];simp only[fO,c1,c2,c3,f8,hc,g1,g3,g4,a95,EVX,seval];exact congrArg (fun v=>some (AV.int IntKind.i64 v,O)) g2
   ·refine fin 0 (x) (by omega) (by omega) (by omega) fun c hc g1 g2 g3 g4 O=>?_
    rw[go];simp only[fO,c1,c2,c3,hc,g1,g3,g4,a95,EVX,seval];exact congrArg (fun v=>some (AV.int IntKind.i64 v,O)) (by simpa using g2)
def p10:LA:=(List.range 20).map fun i=>AV.int .u64 ((10^i:Nat):Int)
def atu:(List.range 65).all (fun L=>decide (2^L<=10^(L*78913/262144+1))&&decide (L*78913/262144<20))=true:=by decide+kernel
structure NdHas(C:Ctx):Prop where
 len:Has C qL fO
 log:Has C nV nR
 b2i:Has C nU nP
 nd:Has C jF uV
 gl:C.gl sV=some p10
def asE(hC:Has C nV nR)(L:Nat)(hL:L<=64)(O:St):aj C nV [.int .i64 L] O=some (.int .i64 (L*78913/262144:Nat),O):=by
 rw[hC.go (NVs.hand (.cons (.int _ _) .nil) _)];have w:IntKind.i64.wrap ((L:Int)*78913)=((L*78913:Nat):Int):=wrE (by omega)
 have f:∀y:Nat,(y:Int).fdiv (2^min 18 IntKind.i64.bits)=((y/262144:Nat):Int):=fun y=>by
  rw[aA3 _ (by decide)];rfl
 simp only[nR,w,f,EVX,seval]
def b2i(hC:Has C nU nP)(b:Bool)(O:St):aj C nU [.bool b] O=some (.int .i64 (if b then 1 else 0),O):=by
 rw[hC.go (NVs.hand (.cons (.bool _) .nil) _)];cases b<;>simp only[nP,ay7,EVX,seval]
def numDigits(H:NdHas C)(u:Nat)(hu:u<18446744073709551616):∃d:Nat,u<10^d/\d<=20/\∀O,aj C jF [.int .u64 u] O=some (.int .i64 d,O):=by
 obtain⟨L,l1,l3,q1⟩:=asB H.len u hu;have t:=a94.mp atu L (az4.mpr (by omega))
 simp only[a02,decide_eq_true_eq]at t;obtain⟨t1,t2⟩:=t;have q2:=asE H.log L l3;generalize L*78913/262144=n at*;have hg:p10[n]?=some (.int .u64 ((10^n:Nat):Int)):=by
  unfold p10;rw[ay4,List.getElem?_range t2];rfl
 have hgl:=H.gl;refine⟨n+(if 10^n<=u then 1 else 0),?_,?_,fun O=>?_⟩
 ·split
  ·omega
  ·rename_i h;simpa using Nat.lt_of_not_le h
 ·split<;>omega
 ·rw[H.nd.go (NVs.hand (.cons (.int _ _) .nil) _)];have b:=b2i H.b2i (decide (10^n<=u)) O;have dn:p10.drop n=.int .u64 ((10^n:Nat):Int)::p10.drop (n+1):=by
   rw[au1 (by simp[p10];omega)]
   congr 1
   exact az7 ((a01 (by simp[p10];omega)).symm.trans hg)
  have hn0:(0:Int)<=(n:Int):=by omega
  have hn20:n<20:=t2;have hd:decide (((10^n:Nat):Int)<=(u:Int))=decide (10^n<=u):=by
   rw[aC2];simp only[decide_eq_true_eq];omega
  have hl:p10.length=20:=rfl;have hle:n<=20:=by omega
  simp only[uV,q1,q2,hgl,dn,hl,hle,hn0,hn20,hd,b,a95,az9,decide_eq_true_eq,EVX,seval];refine congrArg (fun v=>some (AV.int IntKind.i64 v,O)) ?_;split<;>(rw[w64]<;>omega)
def sm_at(a:Nat)(h:a<100):gu[a*2]?=some (gu.getD (a*2) 0)/\gu[a*2+1]?=some (gu.getD (a*2+1) 0):=by
 have e:∀x,x<200->gu[x]?=some (gu.getD x 0):=fun x hx=>by
  rw[aw1,a01 (by omega)];rfl
 exact⟨e _ (by omega),e _ (by omega)⟩
def arJ(l:LU)(i:Nat)(b:UInt8)(h:i<l.length):splice (ofBytes l) i [.int .u8 (b.toNat:Int)]=ofBytes (l.set i b):=by
 unfold splice ofBytes;rw[List.map_set,List.set_eq_take_append_cons_drop,if_pos (by simpa using h)]
 simp
def Vs(a:Nat)(ha:a<100):IntKind.u32.wrap ((a:Int)*2)=((a*2:Nat):Int)/\IntKind.u32.wrap (((a*2:Nat):Int)+1)=((a*2+1:Nat):Int)/\(0:Int)<=((a*2:Nat):Int)/\(0:Int)<=((a*2+1:Nat):Int):=⟨by have:=vK (a*2) (by omega);rw[<-this];rfl,by have:=vK (a*2+1) (by omega);rw[<-this];rfl,by omega,by omega⟩
def ahN (d:Nat) (hd:d<=20) (O:St) (q:Nat) {x0:AO} (hq:O[q]?=some x0):∀(n i u:Nat) (l:LU),i<=d->i/8=n->u<10^i->u<18446744073709551616->l.length=24->∃(u':Nat) (l':LU),u'<10^(i%8)/\l'.length=24/\
  aH C (aj C) 167 [0,1,4] aW [(0,.msl q 1 d 1),(1,.int .u64 u),(4,.int .i64 i)] (O.set q (.cells (ofBytes l) FZ))=
   some (.exit 0,[(0,.msl q 1 d 1),(1,.int .u64 u'),(4,.int .i64 (i%8:Nat))],O.set q (.cells (ofBytes l') FZ))
 |0,i,u,l,hi,hn,hu,hu2,hl=>by
  have e:i%8=i:=Nat.mod_eq_of_lt (by omega)
  refine⟨u,l,by rw[e];exact hu,hl,?_⟩
  rw[aB (he:=rfl)];have h:¬(8:Int)<=(i:Int):=by omega
  simp only[aW,h,e,EVX,seval]
 |n+1,i,U,l,hi,hn,hu,hu2,hl=>by
  have h:(8:Int)<=(i:Int):=by omega
  obtain⟨j,rfl⟩:∃j,i=j+8:=⟨i-8,by omega⟩
  have step:∃l2:LU,l2.length=24/\aH C (aj C) 167 [0,1,4] aW [(0,.msl q 1 d 1),(1,.int .u64 U),(4,.int .i64 (j+8:Nat))] (O.set q (.cells (ofBytes l) FZ))=aH C (aj C) 167 [0,1,4] aW [(0,.msl q 1 d 1),(1,.int .u64 (U/100000000:Nat)),(4,.int .i64 j)] (O.set q (.cells (ofBytes l2) FZ)):=by
   have gs:∀(x:AO),(O.set q x)[q]?=some x:=fun x=>bC hq x;obtain⟨us,hus⟩:∃x,U%100000000=x:=⟨_,rfl⟩;obtain⟨hh,hhh⟩:∃x,us/10000=x:=⟨_,rfl⟩;obtain⟨ll,hll⟩:∃x,us%10000=x:=⟨_,rfl⟩;obtain⟨a1,ha1⟩:∃x,hh/100=x:=⟨_,rfl⟩;obtain⟨a2,ha2⟩:∃x,hh%100=x:=⟨_,rfl⟩;obtain⟨a3,ha3⟩:∃x,ll/100=x:=⟨_,rfl⟩;obtain⟨a4,ha4⟩:∃x,ll%100=x:=⟨_,rfl⟩;have t1:(U:Int).tmod 100000000=(us:Int):=by rw[<-hus];rfl
   have t2:(U:Int).tdiv 100000000=((U/100000000:Nat):Int):=rfl;have t3:(us:Int).tdiv 10000=(hh:Int):=by rw[<-hhh];rfl
   have t4:(us:Int).tmod 10000=(ll:Int):=by rw[<-hll];rfl
   have t5:(hh:Int).tdiv 100=(a1:Int):=by rw[<-ha1];rfl
   have t6:(hh:Int).tmod 100=(a2:Int):=by rw[<-ha2];rfl
   have t7:(ll:Int).tdiv 100=(a3:Int):=by rw[<-ha3];rfl
   have t8:(ll:Int).tmod 100=(a4:Int):=by rw[<-ha4];rfl
   have w0:=anr (U/100000000) (by omega)
   have w1:=vK us (by omega)
   have w2:=vK hh (by omega)
   have w3:=vK a1 (by omega)
   have w4:=vK a3 (by omega)
   obtain⟨x1,y1,z1,v1⟩:=Vs a1 (by omega)
   obtain⟨s1,r1⟩:=sm_at a1 (by omega)
   obtain⟨x2,y2,z2,v2⟩:=Vs a2 (by omega)
   obtain⟨s2,r2⟩:=sm_at a2 (by omega)
   obtain⟨x3,y3,z3,v3⟩:=Vs a3 (by omega)
   obtain⟨s3,r3⟩:=sm_at a3 (by omega)
   obtain⟨x4,y4,z4,v4⟩:=Vs a4 (by omega)
   obtain⟨s4,r4⟩:=sm_at a4 (by omega)
   have iw:∀(k:Int) (r:Nat),k+r=8->0<=k->IntKind.i64.wrap (((j+8:Nat):Int)-k)=((j+r:Nat):Int):=fun k r h h0=>by rw[w64]<;>omega
   have i1:=iw 1 7 rfl (by decide)
   have i2:=iw 2 6 rfl (by decide)
   have i3:=iw 3 5 rfl (by decide)
   have i4:=iw 4 4 rfl (by decide)
   have i5:=iw 5 3 rfl (by decide)
   have i6:=iw 6 2 rfl (by decide)
   have i7:=iw 7 1 rfl (by decide)
   have i8:IntKind.i64.wrap (((j+8:Nat):Int)-8)=(j:Int):=iw 8 0 rfl (by decide)
   have n8:(0:Int)<=(j:Int):=by omega
   have l8:j<d:=by omega
   have c8:1+j+1<=24:=by omega
   have d8:1+j<24:=by omega
   have ng:∀r:Nat,(0:Int)<=((j+r:Nat):Int):=fun r=>Int.natCast_nonneg _;have lg:∀r:Nat,r<8->j+r<d:=fun r h=>by omega
   have cg:∀r:Nat,r<8->1+(j+r)+1<=24:=fun r h=>by omega
   have c2:∀r:Nat,r<8->1+(j+r)<24:=fun r h=>by omega
   refine⟨?_,?_,?_⟩
   rotate_left 2
   ·rw[aB (he:=rfl)];generalize hk:aH C (aj C) 167 [0,1,4] aW=k;simp only[aW,h,gs,t1,t2,t3,t4,t5,t6,t7,t8,w0,w1,w2,w3,w4,x1,y1,z1,v1,s1,r1,x2,y2,z2,v2,s2,r2,x3,y3,z3,v3,s3,r3,x4,y4,z4,v4,s4,r4,i1,i2,i3,i4,i5,i6,i7,i8,n8,l8,c8,d8,ng,lg,cg,c2,arJ,hl,a96,aK,a95,ay3,AV.cells,AV.flat,EVX,seval];rfl
   ·simp only[a96,hl]
  obtain⟨l2,hl2,e2⟩:=step;obtain⟨u',l',a,b,c⟩:=ahN d hd O q hq n j (U/100000000) l2 (by omega) (by omega) (by rw[Nat.div_lt_iff_lt_mul (by decide)];rw[Nat.pow_add]at hu;exact hu) (by omega) hl2
  rw[Nat.add_mod_right];exact⟨u',l',a,b,e2.trans c⟩
def arR(n:Nat):IntKind.u8.wrap (n:Int)=((UInt8.ofNat n).toNat:Int):=by
 rw[IntKind.wrap_u8,UInt8.toNat_ofNat'];omega
def atH (hC:Kt C dK fF) (d u:Nat) (l:LU) (hl:l.length=24) (hd:u<10^d) (hd20:d<=20) (hu:u<18446744073709551616) (O:St) (q:Nat) (hq:O[q]?=some (.cells (ofBytes l) FZ)):
  ∃l':LU,l'.length=24/\aj C dK [.msl q 1 d 1,.int .u64 u] O=some (.tup [],O.set q (.cells (ofBytes l') FZ)):=by
 obtain⟨x,l2,hx,hl2,lp⟩:=ahN (C:=C) d hd20 O q hq (d/8) d u l (a06 _) rfl hd hu hl;rw[set_self hq]at lp;have gs:∀(x:AO),(O.set q x)[q]?=some x:=fun x=>bC hq x;have ty:∀x:AO,tidy O.length [] (O.set q x)=O.set q x:=fun x=>by
  have:=bu (O.set q x) [];rwa[a96]at this
 have hr:d%8<8:=Nat.mod_lt _ (by decide)
 have hrd:d%8<=d:=Nat.mod_le _ _;generalize d%8=r at*;have hx7:x<10000000:=ay6 hx (Nat.pow_le_pow_right (j:=7) (by decide) (by omega))
 have wx:=vK x (by omega)
 have t1:∀y:Nat,(y:Int).tmod 10000=((y%10000:Nat):Int):=fun y=>rfl;have t2:∀y:Nat,(y:Int).tdiv 10000=((y/10000:Nat):Int):=fun y=>rfl;have t3:∀y:Nat,(y:Int).tmod 100=((y%100:Nat):Int):=fun y=>rfl;have t4:∀y:Nat,(y:Int).tdiv 100=((y/100:Nat):Int):=fun y=>rfl;have w1:=vK (x/10000) (by omega)
 have w2:=vK (x/100) (by omega)
 have w3:=vK (x/10000/100) (by omega)
 have w4:=vK (x%10000/100) (by omega)
 obtain⟨xa,ya,za,va⟩:=Vs (x%10000/100) (by omega)
 obtain⟨sa,ra⟩:=sm_at (x%10000/100) (by omega)
 obtain⟨xb,yb,zb,vb⟩:=Vs (x%10000%100) (by omega)
 obtain⟨sb,rb⟩:=sm_at (x%10000%100) (by omega)
 obtain⟨xc,yc,zc,vc⟩:=Vs (x/10000%100) (by omega)
 obtain⟨sc,rc⟩:=sm_at (x/10000%100) (by omega)
 obtain⟨xd,yd,zd,vd⟩:=Vs (x%100) (by omega)
 obtain⟨sd,rd⟩:=sm_at (x%100) (by omega)
 have q1:∀y:Nat,y<10000000->IntKind.u32.wrap (48+(y:Int))=((48+y:Nat):Int):=fun y hy=>by have:=vK (48+y) (by omega);rw[<-this];rfl
 have q2:=q1 x hx7;have q3:=q1 (x/100) (by omega)
 have q4:=q1 (x/10000) (by omega)
 have q5:=q1 (x/10000/100) (by omega)
 have lg:∀k,k<r->k<d:=fun k h=>by omega
 have h8:r=0\/r=1\/r=2\/r=3\/r=4\/r=5\/r=6\/r=7:=by omega
 rcases h8 with rfl|rfl|rfl|rfl|rfl|rfl|rfl|rfl;all_goals
  simp only[a97,Int.natCast_zero,Int.natCast_one]at lp;refine⟨?_,?_,?_⟩
  rotate_left 2
  ·rw[hC.go];simp only[fF,lp,gs,ty,wx,t1,t2,t3,t4,w1,w2,w3,w4,xa,ya,za,va,sa,ra,xb,yb,zb,vb,sb,rb,xc,yc,zc,vc,sc,rc,xd,yd,zd,vd,sd,rd,q2,q3,q4,q5,arR,w64,lg,hl2,arJ,aK,a96,U8,bg,bK,a95,ay3,AV.cells,AV.flat,EVX,seval];rfl
  ·simp only[a96,hl2]
structure TP(C:Ctx):Prop extends NdHas C where
 fb:Kt C dK fF
 small:Has C yx rf
 int:Has C jE eG
 fmt:Has C Ed Ea
 show_:Has C Pz Xf
def ana(H:TP C)(y:Nat)(hy:y<100)(O:St):∃s:LU,s.length<=64/\aj C yx [.int .i64 y] O=some (.str s,O):=by
 have h0:(0:Int)<=(y:Int):=by omega
 have w1:=wrS y (by omega)
 have w2:IntKind.i64.wrap ((y:Int)*2)=((y*2:Nat):Int):=wrE (by omega)
 have w3:IntKind.i64.wrap (((y*2:Nat):Int)+2)=((y*2+2:Nat):Int):=wrE (by omega)
 have ng:∀k:Nat,(0:Int)<=(k:Int):=Int.natCast_nonneg;have l2:y<=y+1:=by omega
 have l3:y*2<=y*2+2:=by omega
 have l4:y*2+2<=200:=by omega
 have ll:gu.length=200:=rfl;have go:=H.small.go (O:=O) (NVs.hand (.cons (.int .i64 (y:Int)) .nil) _);by_cases c:(y:Int)<10
 ·have l5:y+1<=36:=by omega
  refine⟨?_,?_,?_⟩
  rotate_left 2
  ·rw[go];simp only[rf,c,h0,w1,ng,l2,l5,a95,EVX,seval];rfl
  ·simp;omega
 ·refine⟨?_,?_,?_⟩
  rotate_left 2
  ·rw[go];simp only[rf,c,w2,w3,ng,l3,l4,ll,a95,EVX,seval];rfl
  ·simp only[aD7,a09,az2];omega
def aib(l:LU)(k:Nat):(ofBytes l).take k=ofBytes (l.take k):=by simp[ofBytes,List.map_take]
def aox(l:LU)(k:Nat):(ofBytes l).drop k=ofBytes (l.drop k):=by simp[ofBytes,List.map_drop]
def z24:LU:=List.replicate 24 0
set_option maxHeartbeats 2000000 in
def aod (H:TP C) (n:Int) (u:Nat) (c:¬(0<=n/\n<100)) (hu1:u<18446744073709551616) (b1:n<0->IntKind.u64.wrap (0-IntKind.u64.wrap n)=(u:Int)) (b2:¬n<0->IntKind.u64.wrap n=(u:Int)) (d:Nat) (d0:d≠0) (d1:u<10^d) (d2:d<=20) (q1:∀O,aj C jF [.int .u64 u] O=some (.int .i64 d,O)) (O:St) (hσ:Ok O):
  ∃s:LU,aj C jE [.int .i64 n,.int .i64 10] O=some (.str s,O)/\s.length<=64:=by
 have go:=H.int.go (O:=O) (NVs.hand (.cons (.int .i64 n) (.cons (.int .i64 10) .nil)) _);obtain⟨l,hl,q2⟩:=atH H.fb d u z24 rfl d1 d2 hu1 (O++[.cells (ofBytes z24) FZ]) O.length (by rw[aJ];rfl)
 rw[iJ]at q2;have zz:ofBytes z24=[.int .u8 0,.int .u8 0,.int .u8 0,.int .u8 0,.int .u8 0,.int .u8 0,.int .u8 0,.int .u8 0,.int .u8 0,.int .u8 0,.int .u8 0,.int .u8 0,.int .u8 0,.int .u8 0,.int .u8 0,.int .u8 0,.int .u8 0,.int .u8 0,.int .u8 0,.int .u8 0,.int .u8 0,.int .u8 0,.int .u8 0,.int .u8 0]:=rfl;rw[zz]at q2;have hw:IntKind.i64.wrap (1+(d:Int))=((1+d:Nat):Int):=wrE (by omega)
 have l1:(0:Int)<=((1+d:Nat):Int):=by omega
 have l2:1<=1+d:=by omega
 have l3:1+d<=24:=by omega
 have l4:1+d-1=d:=by omega
 have l5:¬1=1+d:=by omega
 have l6:¬0=1+d:=by omega
 have l7:1+d-0=1+d:=by omega
 have ty:=fun(s:LU) L=>bY hσ (vs:=[.str s]) rfl L;have sp:splice (ofBytes l) 0 [.int .u8 45]=ofBytes (l.set 0 45):=arJ l 0 45 (by omega)
 by_cases s:n<0
 ·have c1:¬(0:Int)<=n:=by omega
  have hb:=b1 s;refine⟨?_,?_,?_⟩
  rotate_left 1
  ·rw[go];simp only[eG,c1,s,hb,q1,q2,hw,l1,l2,l3,l4,l5,l6,l7,hl,sp,aib,wF,aK,a96,av2,av7,ty,a95,au3,EVX,seval];rfl
  ·rw[az2];omega
 ·have hb:=b2 s;have c2:(0:Int)<=n:=by omega
  have c3:¬n<100:=by omega
  refine⟨?_,?_,?_⟩
  rotate_left 1
  ·rw[go];simp only[eG,c2,c3,s,hb,q1,q2,hw,l1,l2,l3,l4,l5,hl,aib,aox,wF,aK,av2,av7,ty,a95,EVX,seval];rfl
  ·rw[az2];omega
def akY (hC:Kt C dK fF) (O:St):
  aj C dK [.emp,.int .u64 0] O=some (.tup [],O):=by
 rw[hC.go];have ty:=bu O [];have lp:aH C (aj C) 167 [0,1,4] aW [(0,.emp),(1,.int .u64 0),(4,.int .i64 0)] O=some (.exit 0,[(0,.emp),(1,.int .u64 0),(4,.int .i64 0)],O):=by
  rw[aB (he:=rfl)];simp only[aW,EVX,seval]
 simp only[fF,lp,ty,U8,bg,bK,EVX,seval]
set_option maxHeartbeats 2000000 in
def aoe(H:TP C)(n:Int)(c:¬(0<=n/\n<100))(b1:n<0->IntKind.u64.wrap (0-IntKind.u64.wrap n)=0)(b2:¬n<0->IntKind.u64.wrap n=0)(q1:∀O,aj C jF [.int .u64 0] O=some (.int .i64 0,O))(O:St)(hσ:Ok O):∃s:LU,aj C jE [.int .i64 n,.int .i64 10] O=some (.str s,O)/\s.length<=64:=by
 rw[H.int.go (NVs.hand (.cons (.int _ _) (.cons (.int _ _) .nil)) _)];have q2:=akY H.fb;have ty:=fun(s:LU) L=>bY hσ (vs:=[.str s]) rfl L;have hw:IntKind.i64.wrap 1=1:=rfl;have l1:bytesOf [.int .u8 45]=some [45]:=rfl;have l2:bytesOf []=some []:=rfl;have o1:(0:Int)<=1:=by decide
 have o2:(1:Int).toNat=1:=rfl;by_cases s:n<0
 ·have c1:¬(0:Int)<=n:=by omega
  have hb:=b1 s;refine⟨[45],?_,by simp⟩
  simp only[eG,c1,s,hb,q1,q2,hw,o1,o2,l1,av2,av7,ty,splice,EVX,seval]
 ·have hb:=b2 s;have c2:(0:Int)<=n:=by omega
  have c3:¬n<100:=by omega
  refine⟨[],?_,by simp⟩
  simp only[eG,c2,c3,s,hb,q1,q2,hw,o1,o2,l2,av2,av7,ty,EVX,seval]
def ajc(H:TP C)(n:Int)(O:St)(hσ:Ok O):∃s:LU,aj C jE [.int .i64 n,.int .i64 10] O=some (.str s,O)/\s.length<=64:=by
 by_cases c:0<=n/\n<100
 ·obtain⟨y,rfl⟩:∃y:Nat,n=y:=⟨n.toNat,by omega⟩
  have c1:(0:Int)<=(y:Int):=by omega
  have c2:(y:Int)<100:=c.2;obtain⟨s,hs,q⟩:=ana H y (by omega) O
  refine⟨s,?_,hs⟩;rw[H.int.go (NVs.hand (.cons (.int _ _) (.cons (.int _ _) .nil)) _)];simp only[eG,c1,c2,q,EVX,seval]
 ·have rg:∀m:Int,∃u:Nat,u<18446744073709551616/\IntKind.u64.wrap m=(u:Int):=fun m=>by
   refine⟨(m%18446744073709551616).toNat,by omega,?_⟩
   simp[IntKind.wrap,IntKind.bits,IntKind.signed];omega
  obtain⟨u,hu1,b1,b2⟩:∃u:Nat,u<18446744073709551616/\(n<0->IntKind.u64.wrap (0-IntKind.u64.wrap n)=(u:Int))/\(¬n<0->IntKind.u64.wrap n=(u:Int)):=by
   by_cases s:n<0
   ·obtain⟨u,h1,h2⟩:=rg (0-IntKind.u64.wrap n);exact⟨u,h1,fun _=>h2,fun h=>absurd s h⟩
   ·obtain⟨u,h1,h2⟩:=rg n;exact⟨u,h1,fun h=>absurd h s,fun _=>h2⟩
  obtain⟨d,d1,d2,q1⟩:=numDigits H.toNdHas u hu1;by_cases h0:d=0
  ·subst h0;obtain rfl:u=0:=by simpa using d1
   exact aoe H n c b1 b2 q1 O hσ
  ·exact aod H n u c hu1 b1 b2 d h0 d1 d2 q1 O hσ
def aeC(H:TP C)(n:Int)(O:St)(hσ:Ok O):∃s:LU,aj C Pz [.int .i64 n] O=some (.str s,O)/\s.length<=64:=by
 obtain⟨s,q,hl⟩:=ajc H n O hσ;have q:aj C Ed [.int .i64 n,.int .i64 10] O=some (.str s,O):=by
  rw[H.fmt.go (NVs.hand (.cons (.int _ _) (.cons (.int _ _) .nil)) _)];simp only[Ea,q,EVX,seval]
 refine⟨s,?_,hl⟩;rw[H.show_.go (NVs.hand (.cons (.int _ _) .nil) _)];simp only[Xf,q,EVX,seval]
set_option maxRecDepth 1000000
noncomputable section
def lQ:KF:=(.mk ?k:KsA 375 []).1
def oH:KC:=(.mk ?k:LsA 365 [] 0).1
attribute [local irreducible] oH
def IQ:KF:=(.mk ?k:KsA 365 [oH]).1
def BI:KF:=(.mk ?k:KsA 354 []).1
def UX:KF:=(.mk ?k:KsA 189 []).1
def lm:KC:=(.mk ?k:LsA 121 [] 0).1
attribute [local irreducible] lm
def Cc:KF:=(.mk ?k:KsA 121 [lm]).1
def iM:KC:=(.mk ?k:LsA 349 [] 0).1
attribute [local irreducible] iM
def Ai:KF:=(.mk ?k:KsA 349 [iM]).1
def qy:KF:=(.mk ?k:KsA 353 []).1
def gz:KF:=(.mk ?k:KsA 366 []).1
def Gi:KF:=(.mk ?k:KsA 376 []).1
def D5:KF:=(.mk ?k:KsA 377 []).1
def lC:KC:=(.mk ?k:LsA 378 [] 0).1
attribute [local irreducible] lC
def kH:KF:=(.mk ?k:KsA 378 [lC]).1
def mZ:KC:=(.mk ?k:LsA 384 [] 0).1
attribute [local irreducible] mZ
def Ei:KF:=(.mk ?k:KsA 384 [mZ]).1
def rq:KF:=(.mk ?k:KsA 385 []).1
def oU:KC:=(.mk ?k:LsA 386 [] 0).1
attribute [local irreducible] oU
def Aj:KF:=(.mk ?k:KsA 386 [oU]).1
def vT:KF:=(.mk ?k:KsA 224 []).1
end
set_option maxRecDepth 100000
def bq(a b:Int):(a==b)=true\/(a==b)=false:=by cases a==b<;>simp
def afo(h:Has C Jm lQ)(c:Int)(O:St):∃z l u:Int,0<=z/\z<=4/\aj C Jm [.int .u8 c] O=some (.tup [.int .i64 z,.int .u8 l,.int .u8 u],O):=by
 rw[h.go (NVs.hand (.cons (.int _ _) .nil) _)];by_cases c1:c<128
 ·exact⟨1,0,0,by omega,by omega,by simp only[lQ,c1,EVX,seval]⟩
 by_cases c2:c<194
 ·exact⟨0,0,0,by omega,by omega,by simp only[lQ,c1,c2,EVX,seval]⟩
 by_cases c3:c<224
 ·exact⟨2,128,191,by omega,by omega,by simp only[lQ,c1,c2,c3,EVX,seval]⟩
 rcases bq c 224 with c4|c4
 ·exact⟨3,160,191,by omega,by omega,by simp only[lQ,c1,c2,c3,c4,EVX,seval]⟩
 rcases bq c 237 with c5|c5
 ·exact⟨3,128,159,by omega,by omega,by simp only[lQ,c1,c2,c3,c4,c5,EVX,seval]⟩
 by_cases c6:c<240
 ·exact⟨3,128,191,by omega,by omega,by simp only[lQ,c1,c2,c3,c4,c5,c6,EVX,seval]⟩
 rcases bq c 240 with c7|c7
 ·exact⟨4,144,191,by omega,by omega,by simp only[lQ,c1,c2,c3,c4,c5,c6,c7,EVX,seval]⟩
 by_cases c8:c<244
 ·exact⟨4,128,191,by omega,by omega,by simp only[lQ,c1,c2,c3,c4,c5,c6,c7,c8,EVX,seval]⟩
 rcases bq c 244 with c9|c9
 ·exact⟨4,128,143,by omega,by omega,by simp only[lQ,c1,c2,c3,c4,c5,c6,c7,c8,c9,EVX,seval]⟩
 exact⟨0,0,0,by omega,by omega,by simp only[lQ,c1,c2,c3,c4,c5,c6,c7,c8,c9,EVX,seval]⟩
def OZ(s:LU)(hs:s.length<1099511627777)(i:Nat)(z:Int)(hz:z<=4)(hi:i<s.length)(O:St):∀(n k:Nat),(k:Int)+n=i+z->k<=s.length->∀r l u:Int,∃o,aH C (aj C) 78 [0,1,4,5,7,8,9] oH [(0,.str s),(1,.int .i64 i),(4,.int .i64 r),(5,.int .i64 z),(7,.int .u8 l),(8,.int .u8 u),(9,.int .i64 k)] O=some o/\((∃r',o=(.exit 0,[(4,.int .i64 r'),(5,.int .i64 z)],O))\/∃e:Int,e≠0/\o=(.ret,[(4,.int .i64 0),(5,.int .i64 0),(6,.int .i64 e)],O))
 |0,k,hk,hl,r,l,u=>by
  rw[aB (he:=rfl)];have w:IntKind.i64.wrap ((i:Int)+z)=k:=wrE (by omega)
  have h:¬((k:Int)<k):=by omega
  exact⟨_,by simp only[oH,w,h,EVX,seval],.inl ⟨r,rfl⟩⟩
 |n+1,k,hk,hl,r,l,u=>by
  rw[aB (he:=rfl)];have ih:=OZ s hs i z hz hi O n (k+1) (by omega)
  generalize hK:aH C (aj C) 78 [0,1,4,5,7,8,9] oH=K at*;have w:IntKind.i64.wrap ((i:Int)+z)=i+z:=wrE (by omega)
  have w1:=wrS k (by omega)
  have h:(k:Int)<i+z:=by omega
  have h3:(0:Int)<=k:=by omega
  by_cases c:k=s.length
  ·have c':((k:Int)==(s.length:Int))=true:=by simp[c]
   exact⟨_,by simp only[oH,w,h,c',EVX,seval],.inr ⟨4,by decide,rfl⟩⟩
  have c':((k:Int)==(s.length:Int))=false:=by simp;omega
  have hb:s[k]?=some s[k]:=a01 (by omega)
  by_cases c1:(s[k].toNat:Int)<l
  ·exact⟨_,by simp only[oH,w,h,c',h3,hb,c1,EVX,seval],.inr ⟨12,by decide,rfl⟩⟩
  by_cases c2:u<(s[k].toNat:Int)
  ·exact⟨_,by simp only[oH,w,h,c',h3,hb,c1,c2,EVX,seval],.inr ⟨12,by decide,rfl⟩⟩
  simp only[oH,w,w1,h,c',h3,hb,c1,c2,EVX,seval];exact ih (by omega) _ _ _
def afn(h:Has C PE IQ)(hl:Has C Jm lQ)(s:LU)(hs:s.length<1099511627777)(i:Nat)(hi:i<s.length)(O:St):∃r z e:Int,aj C PE [.str s,.int .i64 i] O=some (.tup [.int .i64 r,.int .i64 z,.int .i64 e],O)/\0<=z/\z<=4/\(e=0->1<=z):=by
 rw[h.go (NVs.hand (.cons (.str _) (.cons (.int _ _) .nil)) _)];have h1:¬((i:Int)<0):=by omega
 have h2:¬((s.length:Int)<i):=by omega
 have h4:((i:Int)==(s.length:Int))=false:=by simp;omega
 have h3:(0:Int)<=i:=by omega
 have hb:s[i]?=some s[i]:=a01 hi;obtain⟨z,l,u,z0,z4,hq⟩:=afo hl (s[i].toNat:Int) O;have w1:=wrS i (by omega)
 rcases bq z 0 with c|c
 ·have:z=0:=by simpa using c
  subst this;exact⟨0,0,12,by simp only[IQ,h1,h2,h3,h4,hb,hq,EVX,seval],by omega,by omega,fun e=>by cases e⟩
 have c':z≠0:=by simpa using c
 by_cases c1:1<z;all_goals
  have lp:=fun r=>OZ (C:=C) s hs i z z4 hi O (z-1).toNat (i+1) (by omega) (by omega) r l u
  have sh:¬(IntKind.i64.wrap (z+1)<0):=by rw[w64]<;>omega
  obtain⟨o,e⟩:=Classical.axiomOfChoice lp;have e1:=fun x=>(e x).1;have e2:=fun x=>(e x).2;simp only[IQ,h1,h2,h3,h4,hb,hq,c,c1,w1,sh,e1,EVX,seval];apply Or.elim (e2 _)
  ·rintro⟨r',h⟩;rw[h];exact⟨r',z,0,by simp only[EVX,seval],z0,z4,fun _=>by omega⟩
  ·rintro⟨e,e0,h⟩;rw[h];exact⟨0,0,e,by simp only[EVX,seval],by omega,by omega,fun h=>absurd h e0⟩
def akV(r:Int):(Utf8.encode r).data.toList.length<=4:=by
 unfold Utf8.encode;simp only;repeat' split
 all_goals simp
def ah5(h:Has C Ul BI)(r:Int)(O:St):∃(t:LU) (e:Int),aj C Ul [.int .i64 r] O=some (.tup [.str t,.int .i64 e],O)/\t.length<=4:=by
 rw[h.go (NVs.hand (.cons (.int _ _) .nil) _)];by_cases c1:r<0
 ·exact⟨[],1,by simp only[BI,c1,EVX,seval],by simp⟩
 by_cases c2:1114111<r
 ·exact⟨[],1,by simp only[BI,c1,c2,EVX,seval],by simp⟩
 by_cases c3:55296<=r
 ·by_cases c4:r<=57343
  ·exact⟨[],1,by simp only[BI,c1,c2,c3,c4,EVX,seval],by simp⟩
  ·exact⟨_,0,by simp only[BI,c1,c2,c3,c4,EVX,seval],akV (IntKind.i32.wrap r)⟩
 ·exact⟨_,0,by simp only[BI,c1,c2,c3,EVX,seval],akV (IntKind.i32.wrap r)⟩
def abJ(C:Ctx):Prop:=∀(s:LU) (i:Int) (O:St),∃(n:Int) (b:Bool),aj C ny [.str s,.int .i64 i] O=some (.tup [.int .i64 n,.bool b],O)
def YR(h:Has C yz rq)(hd:abJ C)(s:LU)(i:Nat)(hi:i<s.length)(O:St):∃(n:Int) (b:Bool),aj C yz [.str s,.int .i64 i] O=some (.tup [.int .i64 n,.bool b],O):=by
 rw[h.go (NVs.hand (.cons (.str _) (.cons (.int _ _) .nil)) _)];have h3:(0:Int)<=i:=by omega
 have hb:s[i]?=some s[i]:=a01 hi;obtain⟨n,b,q⟩:=hd s i O;by_cases c1:(65:Int)<=(s[i].toNat:Int)
 ·by_cases c2:(s[i].toNat:Int)<=70
  ·exact⟨_,_,by simp only[rq,h3,hb,c1,c2,EVX,seval];rfl⟩
  ·exact⟨n,b,by simp only[rq,h3,hb,c1,c2,q,EVX,seval]⟩
 ·exact⟨n,b,by simp only[rq,h3,hb,c1,q,EVX,seval]⟩
def GX(a b c d:Int)(O:St):∀(k i:Nat),i+k=4->∀n:Int,∃n':Int,aH C (aj C) 18 [3,6,7,8] oU [(3,.int .i64 n),(6,.sl 4 [.int .i64 a,.int .i64 b,.int .i64 c,.int .i64 d]),(7,.int .i64 4),(8,.int .i64 i)] O=some (.exit 0,[(3,.int .i64 n')],O)
 |0,i,hi,n=>by
  have:i=4:=by omega
  subst this;rw[aB (he:=rfl)];exact⟨n,by simp only[oU,EVX,seval]⟩
 |k+1,i,hi,n=>by
  have ih:=GX a b c d O k (i+1) (by omega)
  rw[aB (he:=rfl)];generalize hK:aH C (aj C) 18 [3,6,7,8] oU=K at*;have:i=0\/i=1\/i=2\/i=3:=by omega
  rcases this with rfl|rfl|rfl|rfl<;>simp only[oU,AV.cells,EVX,seval]<;>exact ih _
def V8(h:Has C AL Aj)(a b c d:Int)(O:St):∃n:Int,aj C AL [.xsl 4 [.int .i64 a,.int .i64 b,.int .i64 c,.int .i64 d]] O=some (.int .i64 n,O):=by
 have hn:hand false [.xsl 4 [.int .i64 a,.int .i64 b,.int .i64 c,.int .i64 d]] O=some ([.sl 4 [.int .i64 a,.int .i64 b,.int .i64 c,.int .i64 d]],O):=rfl;rw[h.go hn];obtain⟨n,q⟩:=GX (C:=C) a b c d O 4 0 rfl 0;rw[show((0:Nat):Int)=0 from rfl]at q;exact⟨n,by simp only[Aj,q,EVX,seval]⟩
def nc:((0:Nat):Int)=0/\((1:Nat):Int)=1/\((2:Nat):Int)=2/\((3:Nat):Int)=3/\((4:Nat):Int)=4:=⟨rfl,rfl,rfl,rfl,rfl⟩
def J5(h:Has C yz rq)(hd:abJ C)(s:LU)(hs:s.length<1099511627777)(at_:Nat)(hat:at_<=s.length)(O:St)(hσ:Ok O):∀(k i:Nat),i+k=4->(i=0\/at_+i<=s.length)->∀a b c d:Int,∃x,aH C (aj C) 43 [0,1,6,10] mZ [(0,.str s),(1,.int .i64 at_),(6,.ref O.length 0),(10,.int .i64 i)] (O++[.cells [.int .i64 a,.int .i64 b,.int .i64 c,.int .i64 d] FZ])=some x/\((∃a b c d:Int,at_+4<=s.length/\x=(.exit 0,[(6,.ref O.length 0)],O++[.cells [.int .i64 a,.int .i64 b,.int .i64 c,.int .i64 d] FZ]))\/∃(e:Int) (L:St),e≠0/\x=(.ret,[(4,.int .i64 0),(5,.int .i64 e)],O++L))
 |0,i,hi,hl,a,b,c,d=>by
  have:i=4:=by omega
  subst this;rw[aB (he:=rfl)];exact⟨_,by simp only[mZ,EVX,seval],.inl ⟨a,b,c,d,by omega,rfl⟩⟩
 |k+1,i,hi,hl,a,b,c,d=>by
  have ih:=J5 h hd s hs at_ hat O hσ k (i+1) (by omega)
  rw[aB (he:=rfl)];generalize hK:aH C (aj C) 43 [0,1,6,10] mZ=K at*;have w:IntKind.i64.wrap ((at_:Int)+i)=((at_+i:Nat):Int):=wrE (by omega)
  have w1:=wrS i (by omega)
  have c0:(i:Int)<4:=by omega
  have i0:(0:Int)<=i:=by omega
  by_cases c1:s.length<=at_+i
  ·have c1:(s.length:Int)<=((at_+i:Nat):Int):=by omega
   exact⟨_,by simp only[mZ,c0,w,c1,EVX,seval];rfl,.inr ⟨4,_,by decide,rfl⟩⟩
  have c1':¬(s.length:Int)<=((at_+i:Nat):Int):=by omega
  obtain⟨n,b',q⟩:=YR h hd s (at_+i) (by omega) (O++[.cells [.int .i64 a,.int .i64 b,.int .i64 c,.int .i64 d] FZ])
  cases b' with
  |false=>exact⟨_,by simp only[mZ,c0,w,c1',q,EVX,seval];rfl,.inr ⟨3,_,by decide,rfl⟩⟩
  |true=>
   have ih:=ih (.inr (by omega))
   have:i=0\/i=1\/i=2\/i=3:=by omega
   rcases this with rfl|rfl|rfl|rfl<;>simp only[Nat.reduceAdd,aD6,nc]at w w1 ih c1' q<;>simp only[mZ,c0,i0,w,w1,c1',q,AV.cells,AV.flat,splice,EVX,seval]<;>exact ih _ _ _ _
def OT(h:Has C yz rq)(hn:Has C AL Aj)(hf:Has C Jj Ei)(hd:abJ C)(s:LU)(hs:s.length<1099511627777)(i:Nat)(hi:i<=s.length)(O:St)(hσ:Ok O):∃n e:Int,aj C Jj [.str s,.int .i64 i] O=some (.tup [.int .i64 n,.int .i64 e],O)/\(e=0->i+4<=s.length):=by
 rw[hf.go (NVs.hand (.cons (.str _) (.cons (.int _ _) .nil)) _)];have ty:=fun n e:Int=>bY hσ (vs:=[.int .i64 n,.int .i64 e]) rfl;obtain⟨x,q,hx⟩:=J5 h hd s hs i hi O hσ 4 0 rfl (.inl rfl) 0 0 0 0;rw[show((0:Nat):Int)=0 from rfl]at q;rcases hx with⟨a,b,c,d,h4,rfl⟩|⟨e,L,e0,rfl⟩
 ·obtain⟨n,qn⟩:=V8 hn a b c d (O++[.cells [.int .i64 a,.int .i64 b,.int .i64 c,.int .i64 d] FZ]);exact⟨n,0,by simp only[Ei,q,qn,ty,AV.cells,AV.flat,splice,EVX,seval],fun _=>h4⟩
 ·exact⟨0,e,by simp only[Ei,q,ty,EVX,seval],fun h=>absurd h e0⟩
structure DL(C:Ctx):Prop extends BldHas C where
 lead:Has C Jm lQ
 next:Has C PE IQ
 put:Has C Ul BI
 digit:Has C yz rq
 number:Has C AL Aj
 four:Has C Jj Ei
 coded:Has C CB kH
 dec:Has C JQ gz
 dec1:Has C Gz Gi
 dec11:Has C oz D5
 item:Has C QZ qy
 blen:Has C BB vT
 read:Has C jG Ai
 quote:Has C Hq Cc
 valid:Has C Dq UX
 dig:abJ C
 len:∀(s:LU) (O:St),s.length<=1099511627776->∃(n:Int) (b:Bool),aj C aaB [.str s] O=some (.tup [.int .i64 n,.bool b],O)
def bn(a b:Int):(a !=b)=false\/(a !=b)=true:=by cases a !=b<;>simp
def ww:IntKind.i64.wrap 1=1/\IntKind.i64.wrap 2=2:=⟨rfl,rfl⟩
def Iw(s:LU)(hs:s.length<1099511627777)(f:Int)(O:St):∀(k i:Nat),i+k=2->∀p:Nat,p<=s.length->∃x,aH C (aj C) 75 [0,1,7,33,34,35] lC [(0,.str s),(1,.int .i64 p),(7,.int .i64 f),(33,.xsl 2 [.int .u8 92,.int .u8 117]),(34,.int .i64 2),(35,.int .i64 i)] O=some x/\((∃p':Nat,p<=p'/\p'<=p+k/\p'<=s.length/\x=(.exit 0,[(0,.str s),(1,.int .i64 p'),(7,.int .i64 f)],O))\/∃e:Int,e≠0/\x=(.ret,[(4,.int .i64 0),(5,.int .i64 0),(6,.int .i64 e)],O))
 |0,i,hi,p,hp=>by
  have:i=2:=by omega
  subst this;rw[aB (he:=rfl)];exact⟨_,by simp only[lC,EVX,seval],.inl ⟨p,by omega,by omega,hp,rfl⟩⟩
 |k+1,i,hi,p,hp=>by
  have ih:=Iw s hs f O k (i+1) (by omega) (p+1)
  rw[aB (he:=rfl)];generalize hK:aH C (aj C) 75 [0,1,7,33,34,35] lC=K at*;have w1:=wrS p (by omega)
  have p0:(0:Int)<=p:=by omega
  have i2:i=0\/i=1:=by omega
  rcases bq p s.length with c|c
  ·exact⟨_,by rcases i2 with rfl|rfl<;>simp only[lC,c,AV.cells,EVX,seval]<;>rfl,.inr ⟨4,by decide,rfl⟩⟩
  have c':(p:Int)≠s.length:=by simpa using c
  have hb:s[p]?=some s[p]:=a01 (by omega)
  rcases bn s[p].toNat (if i=0 then 92 else 117)with d|d
  case inr=>exact⟨_,by rcases i2 with rfl|rfl<;>simp only[if_true,Nat.succ_ne_zero,Nat.one_ne_zero,if_false]at d<;>simp only[lC,c,d,hb,p0,AV.cells,EVX,seval]<;>rfl,.inr ⟨12,by decide,rfl⟩⟩
  ·obtain⟨x,h1,h2⟩:=ih (by omega)
   refine⟨x,?_,?_⟩
   ·rcases i2 with rfl|rfl<;>simp only[Nat.reduceAdd,nc]at h1<;>simp only[if_true,Nat.succ_ne_zero,Nat.one_ne_zero,if_false]at d<;>simp only[lC,c,d,hb,p0,w1,h1,ww,AV.cells,EVX,seval]
   ·rcases h2 with⟨p',a,b,e,r⟩|h2
    ·exact .inl ⟨p',by omega,by omega,e,r⟩
    ·exact .inr h2
def YP(H:DL C)(s:LU)(hs:s.length<1099511627777)(i:Nat)(hi:i<=s.length)(O:St)(hσ:Ok O):∃n z e:Int,aj C CB [.str s,.int .i64 i] O=some (.tup [.int .i64 n,.int .i64 z,.int .i64 e],O)/\(e=0->i<=z/\z<=i+10):=by
 rw[H.coded.go (NVs.hand (.cons (.str _) (.cons (.int _ _) .nil)) _)];obtain⟨n,e,q1,b1⟩:=OT H.digit H.number H.four H.dig s hs i hi O hσ;rcases bn e 0 with c|c
 case inr=>exact⟨0,0,e,by simp only[kH,q1,c,EVX,seval],fun h=>by subst h;simp at c⟩
 have e0:e=0:=by simpa using c
 subst e0;have b1:=b1 rfl;have w4:IntKind.i64.wrap ((i:Int)+4)=((i+4:Nat):Int):=wrE (by omega)
 by_cases c1:n<55296
 ·exact⟨n,_,0,by simp only[kH,q1,c1,w4,EVX,seval];rfl,fun _=>by omega⟩
 by_cases c2:57343<n
 ·exact⟨n,_,0,by simp only[kH,q1,c1,c2,w4,EVX,seval];rfl,fun _=>by omega⟩
 by_cases c3:56320<=n
 ·exact⟨0,0,12,by simp only[kH,q1,c1,c2,c3,w4,EVX,seval],fun h=>by cases h⟩
 obtain⟨x,l1,l2⟩:=Iw (C:=C) s hs n O 2 0 rfl (i+4) b1;rw[nc.1]at l1;rcases l2 with⟨p,p1,p2,p3,rfl⟩|⟨e,e0,rfl⟩
 case inr=>exact⟨0,0,e,by simp only[kH,q1,c1,c2,c3,w4,l1,EVX,seval],fun h=>absurd h e0⟩
 obtain⟨n2,e,q2,b2⟩:=OT H.digit H.number H.four H.dig s hs p p3 O hσ;rcases bn e 0 with c|c
 case inr=>exact⟨0,0,e,by simp only[kH,q1,c1,c2,c3,w4,l1,q2,c,EVX,seval],fun h=>by subst h;simp at c⟩
 have e0:e=0:=by simpa using c
 subst e0;have w5:IntKind.i64.wrap ((p:Int)+4)=((p+4:Nat):Int):=wrE (by omega)
 by_cases c4:n2<56320
 ·exact⟨0,0,12,by simp only[kH,q1,c1,c2,c3,c4,w4,l1,q2,EVX,seval],fun h=>by cases h⟩
 by_cases c5:57343<n2
 ·exact⟨0,0,12,by simp only[kH,q1,c1,c2,c3,c4,c5,w4,l1,q2,EVX,seval],fun h=>by cases h⟩
 exact⟨_,_,0,by simp only[kH,q1,c1,c2,c3,c4,c5,w4,w5,l1,q2,EVX,seval];rfl,fun _=>by omega⟩
def arZ(Y:St)(v:AV):Prop:=v=.nilFunc\/v=.func (.func CB) [] []\/∃(r:Int) (o:Nat),v=.func (.func oz) [] [.ref o 0]/\Y[o]?=some (.cells [.int .i64 r] FZ)
def xH(O L:St)(f:Fn):tidy O.length [.func f [] [.ref O.length 0]] (O++L)=O++L:=by
 unfold tidy;split
 ·rfl
 ·simp[ai,below]
def PZ(H:DL C)(r:Int)(O:St):aj C Gz [.int .i64 r] O=some (.func (.func oz) [] [.ref O.length 0],O++[.cells [.int .i64 r] FZ]):=by
 rw[H.dec1.go (NVs.hand (.cons (.int _ _) .nil) _)];simp only[Gi,xH,EVX,seval]
def UC(H:DL C)(c:Int)(O:St)(hσ:Ok O):∃v L,aj C JQ [.int .u8 c] O=some (v,O++L)/\Ok (O++L)/\arZ (O++L) v:=by
 rw[H.dec.go (NVs.hand (.cons (.int _ _) .nil) _)];have q:=fun r=>PZ H r O;have fin:∀r,Ok (O++[.cells [.int .i64 r] FZ])/\arZ (O++[.cells [.int .i64 r] FZ]) (.func (.func oz) [] [.ref O.length 0]):=fun r=>⟨hσ.plus rfl,.inr (.inr ⟨r,_,rfl,by rw[gQ rfl];rfl⟩)⟩
 rcases bq c 34 with c1|c1
 ·exact⟨_,_,by simp only[gz,c1,q,jZ,xH,EVX,seval];rfl,fin _⟩
 rcases bq c 92 with c2|c2
 ·exact⟨_,_,by simp only[gz,c1,c2,q,jZ,xH,EVX,seval];rfl,fin _⟩
 rcases bq c 47 with c3|c3
 ·exact⟨_,_,by simp only[gz,c1,c2,c3,q,jZ,xH,EVX,seval];rfl,fin _⟩
 rcases bq c 98 with c4|c4
 ·exact⟨_,_,by simp only[gz,c1,c2,c3,c4,q,jZ,xH,EVX,seval];rfl,fin _⟩
 rcases bq c 102 with c5|c5
 ·exact⟨_,_,by simp only[gz,c1,c2,c3,c4,c5,q,jZ,xH,EVX,seval];rfl,fin _⟩
 rcases bq c 110 with c6|c6
 ·exact⟨_,_,by simp only[gz,c1,c2,c3,c4,c5,c6,q,jZ,xH,EVX,seval];rfl,fin _⟩
 rcases bq c 114 with c7|c7
 ·exact⟨_,_,by simp only[gz,c1,c2,c3,c4,c5,c6,c7,q,jZ,xH,EVX,seval];rfl,fin _⟩
 rcases bq c 116 with c8|c8
 ·exact⟨_,_,by simp only[gz,c1,c2,c3,c4,c5,c6,c7,c8,q,jZ,xH,EVX,seval];rfl,fin _⟩
 rcases bq c 117 with c9|c9
 ·exact⟨.func (.func CB) [] [],[],by simp only[gz,c1,c2,c3,c4,c5,c6,c7,c8,c9,au6,EVX,seval],by rwa[au6],.inr (.inl rfl)⟩
 exact⟨.nilFunc,[],by simp only[gz,c1,c2,c3,c4,c5,c6,c7,c8,c9,au6,EVX,seval],by rwa[au6],.inl rfl⟩
def YQ(H:DL C)(s:LU)(z:Int)(o:Nat)(r:Int)(Y:St)(ho:Y[o]?=some (.cells [.int .i64 r] FZ)):aj C oz [.str s,.int .i64 z,.ref o 0] Y=some (.tup [.int .i64 r,.int .i64 z,.int .i64 0],Y):=by
 have hn:hand false [.str s,.int .i64 z,.ref o 0] Y=some ([.str s,.int .i64 z,.ref o 0],Y):=rfl;rw[H.dec11.go hn];simp only[D5,ho,EVX,seval]
def ZY(H:DL C)(s:LU)(hs:s.length<1099511627777)(i:Nat)(hi:i<s.length)(O:St)(hσ:Ok O):∃n z e:Int,aj C QZ [.str s,.int .i64 i] O=some (.tup [.int .i64 n,.int .i64 z,.int .i64 e],O)/\(e=0->i<z/\z<=i+12):=by
 rw[H.item.go (NVs.hand (.cons (.str _) (.cons (.int _ _) .nil)) _)];have ty:=fun a b c:Int=>bY hσ (vs:=[.int .i64 a,.int .i64 b,.int .i64 c]) rfl;have h3:(0:Int)<=i:=by omega
 have hb:s[i]?=some s[i]:=a01 hi;by_cases c1:(s[i].toNat:Int)<32
 ·exact⟨0,0,3,by simp only[qy,h3,hb,c1,EVX,seval],fun h=>by cases h⟩
 rcases bn s[i].toNat 92 with c2|c2
 case inr=>
  obtain⟨r,z,e,q,z0,z4,z1⟩:=afn H.next H.lead s hs i hi O;rcases bn e 0 with c3|c3
  case inr=>exact⟨0,0,e,by simp only[qy,h3,hb,c1,c2,q,c3,EVX,seval],fun h=>by subst h;simp at c3⟩
  have e0:e=0:=by simpa using c3
  have z1:=z1 e0;obtain⟨m,rfl⟩:=Int.eq_ofNat_of_zero_le z0;have w:IntKind.i64.wrap ((i:Int)+(m:Int))=((i+m:Nat):Int):=wrE (by omega)
  exact⟨r,((i+m:Nat):Int),0,by simp only[qy,h3,hb,c1,c2,q,c3,w,EVX,seval],fun _=>by omega⟩
 have w1:=wrS i (by omega)
 have w2:IntKind.i64.wrap ((i:Int)+2)=((i+2:Nat):Int):=wrE (by omega)
 rcases bq ((i+1:Nat):Int) s.length with c3|c3
 ·exact⟨0,0,4,by simp only[qy,h3,hb,c1,c2,w1,c3,EVX,seval],fun h=>by cases h⟩
 have c3':((i+1:Nat):Int)≠s.length:=by simpa using c3
 have hb1:s[i+1]?=some s[i+1]:=a01 (by omega)
 have h4:(0:Int)<=((i+1:Nat):Int):=by omega
 obtain⟨v,L,q,okL,hv⟩:=UC H s[i+1].toNat O hσ;rcases hv with rfl|rfl|⟨r,o,rfl,ho⟩
 ·exact⟨0,0,3,by simp only[qy,h3,h4,hb,hb1,c1,c2,w1,c3,q,ty,EVX,seval],fun h=>by cases h⟩
 ·obtain⟨n,z,e,q2,b2⟩:=YP H s hs (i+2) (by omega) (O++L) okL
  refine⟨n,z,e,by simp only[qy,h3,h4,hb,hb1,c1,c2,w1,w2,c3,q,q2,jZ,ty,a99,au6,EVX,seval],fun h=>?_⟩
  have:=b2 h;omega
 ·have q2:=YQ H s ((i+2:Nat):Int) o r (O++L) ho;exact⟨r,((i+2:Nat):Int),0,by simp only[qy,h3,h4,hb,hb1,c1,c2,w1,w2,c3,q,q2,jZ,ty,a99,a81,EVX,seval],fun _=>by omega⟩
def ahu(H:BldHas C){o n:Nat}{O Y S:St}{w:LU}{q':Option Nat}(b:Bk S o w q')(t:TrB o Y none S q')(hn:n=O.length)(ht:Y.take n=O)(ho:n<=o)(hl:n<=Y.length)(hw:w.length<=1099511627776):∃S',aj C jq [.ref o 0] S=some (.str w,S')/\S'.take n=O:=by
 have tk:S.take n=O:=t.take hn ht ho;obtain⟨p,c,x1,x2,x3⟩:=b;rcases x3 with⟨_,rfl,rfl⟩|⟨q,x3,x4,x5,rfl,x6⟩
 ·exact⟨S,H.str0 _ _ _ x1,tk⟩
 ·refine⟨_,H.str1 _ _ _ _ _ x1 x6 x5 hw,?_⟩;rcases t.q q x3 with h|h
  ·cases h
  ·rw[dS _ _ _ (by omega),tk]
def aql(H:DL C){o:Nat}{Y:St}{w:LU}{qo:Option Nat}(b:Bk Y o w qo):aj C BB [.ref o 0] Y=some (.int .i64 w.length,Y):=by
 have hn:=gJ o Y;rw[H.blen.go hn];obtain⟨p,c,x1,x2,x3⟩:=b;dsimp only[bT]at x1;rcases x3 with⟨_,rfl,rfl⟩|⟨q,x3,x4,x5,rfl,x6⟩
 ·simp only[vT,x1,AV.cells,EVX,seval]
 ·simp only[vT,x1,AV.cells,EVX,seval]
def V7 (H:DL C) (s:LU) (hs:s.length<1099511627777) (O:St) (o:Nat) (ho:O.length<=o) (Y0:St) (h0:Y0.take O.length=O) (h1:O.length<=Y0.length):∀(k p:Nat),s.length<=p+k->p<=s.length+12->∀(Y:St) (w:LU) (qo:Option Nat),Ok Y->Bk Y o w qo->TrB o Y0 none Y qo->w.length<=4096->
  ∃x,aH C (aj C) 67 [0,1,7] iM [(0,.str s),(1,.int .i64 p),(7,.ref o 0)] Y=some x/\((∃Y',x=(.exit 0,[],Y')/\Y'.take O.length=O)\/∃(t:LU) (z e:Int) (Y':St),x=(.ret,[(4,.str t),(5,.int .i64 z),(6,.int .i64 e)],Y')/\Y'.take O.length=O/\0<=z/\t.length<=4096):=by
 intro k
 induction k with
 |zero=>
  intro p hp hp2 Y w qo hτ hb ht hw;rw[aB (he:=rfl)];have c0:¬((p:Int)<s.length):=by omega
  exact⟨_,by simp only[iM,c0,EVX,seval],.inl ⟨_,rfl,ht.take rfl h0 ho⟩⟩
 |succ k ih=>
  intro p hp hp2 Y w qo hτ hb ht hw;rw[aB (he:=rfl)];generalize hK:aH C (aj C) 67 [0,1,7] iM=K at*;have tk:Y.take O.length=O:=ht.take rfl h0 ho;by_cases c0:(p:Int)<s.length
  case neg=>exact⟨_,by simp only[iM,c0,EVX,seval],.inl ⟨_,rfl,tk⟩⟩
  have hb1:s[p]?=some s[p]:=a01 (by omega)
  have p0:(0:Int)<=p:=by omega
  rcases bq s[p].toNat 34 with c1|c1
  ·obtain⟨S',s1,s2⟩:=ahu H.toBldHas hb ht rfl h0 ho h1 (by omega)
   have w1:IntKind.i64.wrap ((p:Int)+1)=p+1:=wrE (by omega)
   exact⟨_,by simp only[iM,c0,c1,hb1,p0,s1,w1,EVX,seval],.inr ⟨w,p+1,0,S',rfl,s2,by omega,hw⟩⟩
  obtain⟨n,z,e,q,b⟩:=ZY H s hs p (by omega) Y hτ
  rcases bn e 0 with c2|c2
  case inr=>exact⟨_,by simp only[iM,c0,c1,c2,hb1,p0,q,EVX,seval],.inr ⟨[],0,e,Y,rfl,tk,by omega,by simp⟩⟩
  have e0:e=0:=by simpa using c2
  have b:=b e0;obtain⟨t,e',q2,tl⟩:=ah5 H.put n Y;rcases bn e' 0 with c3|c3
  case inr=>exact⟨_,by simp only[iM,c0,c1,c2,c3,hb1,p0,q,q2,EVX,seval],.inr ⟨[],0,e',Y,rfl,tk,by omega,by simp⟩⟩
  have q3:=aql H hb;have w2:IntKind.i64.wrap ((w.length:Int)+(t.length:Int))=w.length+t.length:=wrE (by omega)
  by_cases c4:(4096:Int)<(w.length:Int)+(t.length:Int)
  ·exact⟨_,by simp only[iM,c0,c1,c2,c3,c4,hb1,p0,q,q2,q3,w2,EVX,seval],.inr ⟨[],0,5,Y,rfl,tk,by omega,by simp⟩⟩
  obtain⟨Y',qo',q4,b4,t4⟩:=IE H.toBldHas t hτ hb (by omega)
  obtain⟨m,rfl⟩:=Int.eq_ofNat_of_zero_le (show 0<=z by omega)
  obtain⟨x,x1,x2⟩:=ih m (by omega) (by omega) Y' (w++t) qo' t4.ok b4 (ht.trans t4) (by rw[a04];omega)
  exact⟨x,by simp only[iM,c0,c1,c2,c3,c4,hb1,p0,q,q2,q3,q4,w2,x1,EVX,seval],x2⟩
def aoN(H:DL C):abT C:=fun s i O hs hi hσ=>by
 rw[H.read.go (NVs.hand (.cons (.str _) (.cons (.int _ _) .nil)) _)];have h1:¬((i:Int)<0):=by omega
 have h2:¬((s.length:Int)<i):=by omega
 have h3:(0:Int)<=i:=by omega
 have ty:=fun(t:LU) (z e:Int)=>bY hσ (vs:=[.str t,.int .i64 z,.int .i64 e]) rfl;rcases bq i s.length with c|c
 ·exact⟨[],0,4,by simp only[Ai,h1,h2,c,EVX,seval],by omega,lb0⟩
 have c':(i:Int)≠s.length:=by simpa using c
 have hb:s[i]?=some s[i]:=a01 (by omega)
 rcases bn s[i].toNat 34 with c1|c1
 case inr=>exact⟨[],0,3,by simp only[Ai,h1,h2,h3,hb,c,c1,EVX,seval],by omega,lb0⟩
 have w1:=wrS i (by omega)
 have okB:Ok (O++[.cells [.nilp,.nils] bT]):=hσ.plus rfl;obtain⟨x,x1,x2⟩:=V7 H s hs O O.length (a06 _) (O++[.cells [.nilp,.nils] bT]) (by simp) (by simp) s.length (i+1) (by omega) (by omega) _ [] none okB ⟨.nilp,.nils,by rw[gQ rfl];rfl,.inl rfl,.inl ⟨rfl,rfl,rfl⟩⟩ (.refl okB) (by simp)
 dsimp only[bT]at x1;rcases x2 with⟨Y',rfl,tk⟩|⟨t,z,e,Y',rfl,tk,z0,tl⟩
 ·have tq:=fun(t:LU) (z e:Int)=>qZ (vs:=[.str t,.int .i64 z,.int .i64 e]) hσ rfl tk;exact⟨[],0,4,by simp only[Ai,h1,h2,h3,hb,c,c1,w1,x1,tq,EVX,seval],by omega,lb0⟩
 ·have tq:=fun(t:LU) (z e:Int)=>qZ (vs:=[.str t,.int .i64 z,.int .i64 e]) hσ rfl tk;exact⟨t,z,e,by simp only[Ai,h1,h2,h3,hb,c,c1,w1,x1,tq,EVX,seval],z0,by simp only[LB];omega⟩
def TG(H:DL C)(s:LU)(hs:s.length<=1099511627776)(O:St):∃b:Bool,aj C Dq [.str s] O=some (.bool b,O):=by
 rw[H.valid.go (NVs.hand (.cons (.str _) .nil) _)];obtain⟨n,b,q⟩:=H.len s O hs;exact⟨b,by simp only[UX,q,EVX,seval]⟩
def UB (H:DL C) (s:LU) (hs:s.length<=4096) (O:St) (o:Nat) (Y0:St):∀(k p:Nat),p+k=s.length->∀(Y:St) (w:LU) (qo:Option Nat),Ok Y->Bk Y o w qo->TrB o Y0 none Y qo->w.length<=1+2*p->
  ∃(Y':St) (w':LU) (q':Option Nat),aH C (aj C) 36 [0,4,14,15] lm [(0,.str s),(4,.ref o 0),(14,.int .i64 s.length),(15,.int .i64 p)] Y=some (.exit 0,[(4,.ref o 0)],Y')/\Ok Y'/\Bk Y' o w' q'/\TrB o Y0 none Y' q'/\w'.length<=1+2*s.length:=by
 intro k
 induction k with
 |zero=>
  intro p hp Y w qo hτ hb ht hw;rw[aB (he:=rfl)];have c0:¬((p:Int)<s.length):=by omega
  exact⟨Y,w,qo,by simp only[lm,c0,EVX,seval],hτ,hb,ht,by omega⟩
 |succ k ih=>
  intro p hp Y w qo hτ hb ht hw;rw[aB (he:=rfl)];generalize hK:aH C (aj C) 36 [0,4,14,15] lm=K at*;have c0:(p:Int)<s.length:=by omega
  have hb1:s[p]?=some s[p]:=a01 (by omega)
  have p0:(0:Int)<=p:=by omega
  have w1:=wrS p (by omega)
  have bsl:((92:UInt8).toNat:Int)=92:=rfl;have esc:((s[p].toNat:Int)==34)=true\/((s[p].toNat:Int)==34)=false/\((s[p].toNat:Int)==92)=true->∃(Y':St) (w':LU) (q':Option Nat),aj C iE [.ref o 0,.int .u8 92] Y=some (.nilIface,Y')/\Ok Y'/\Bk Y' o w' q'/\TrB o Y0 none Y' q'/\w'.length<=2+2*p:=fun _=>by
   obtain⟨Y1,q1,e1,b1,t1⟩:=xJ H.toBldHas 92 hτ hb (by omega)
   rw[bsl]at e1;exact⟨Y1,_,q1,e1,t1.ok,b1,ht.trans t1,by rw[a04,aA6];omega⟩
  rcases bq s[p].toNat 34 with c1|c1
  ·obtain⟨Y1,w1',q1,e1,ok1,b1,t1,l1⟩:=esc (.inl c1);obtain⟨Y2,q2,e2,b2,t2⟩:=xJ H.toBldHas s[p] ok1 b1 (by omega)
   obtain⟨Y',w',q',x,h⟩:=ih (p+1) (by omega) Y2 _ q2 t2.ok b2 (t1.trans t2) (by rw[a04,aA6];omega)
   exact⟨Y',w',q',by simp only[lm,c0,c1,hb1,p0,e1,e2,w1,x,EVX,seval],h⟩
  ·rcases bq s[p].toNat 92 with c2|c2
   ·obtain⟨Y1,w1',q1,e1,ok1,b1,t1,l1⟩:=esc (.inr ⟨c1,c2⟩);obtain⟨Y2,q2,e2,b2,t2⟩:=xJ H.toBldHas s[p] ok1 b1 (by omega)
    obtain⟨Y',w',q',x,h⟩:=ih (p+1) (by omega) Y2 _ q2 t2.ok b2 (t1.trans t2) (by rw[a04,aA6];omega)
    exact⟨Y',w',q',by simp only[lm,c0,c1,c2,hb1,p0,e1,e2,w1,x,EVX,seval],h⟩
   ·obtain⟨Y2,q2,e2,b2,t2⟩:=xJ H.toBldHas s[p] hτ hb (by omega)
    obtain⟨Y',w',q',x,h⟩:=ih (p+1) (by omega) Y2 _ q2 t2.ok b2 (ht.trans t2) (by rw[a04,aA6];omega)
    exact⟨Y',w',q',by simp only[lm,c0,c1,c2,hb1,p0,e2,w1,x,EVX,seval],h⟩
def YO(H:DL C)(s:LU)(O:St)(hσ:Ok O):∃(q:LU) (e:Int),aj C Hq [.str s] O=some (.tup [.str q,.int .i64 e],O)/\q.length<=8194:=by
 rw[H.quote.go (NVs.hand (.cons (.str _) .nil) _)];by_cases c0:(4096:Int)<(s.length:Int)
 ·exact⟨[],5,by simp only[Cc,c0,EVX,seval],by simp⟩
 obtain⟨b,hv⟩:=TG H s (by omega) O
 cases b with
 |false=>exact⟨[],12,by simp only[Cc,c0,hv,EVX,seval],by simp⟩
 |true=>
  have okB:Ok (O++[.cells [.nilp,.nils] bT]):=hσ.plus rfl;have bk:Bk (O++[.cells [.nilp,.nils] bT]) O.length [] none:=⟨.nilp,.nils,by rw[gQ rfl];rfl,.inl rfl,.inl ⟨rfl,rfl,rfl⟩⟩
  obtain⟨Y1,q1,e1,b1,t1⟩:=xJ H.toBldHas 34 okB bk (by simp)
  obtain⟨Y2,w2,q2,e2,ok2,b2,t2,l2⟩:=UB H s (by omega) O O.length _ s.length 0 (by omega) Y1 _ q1 t1.ok b1 t1 (by simp)
  obtain⟨Y3,q3,e3,b3,t3⟩:=xJ H.toBldHas 34 ok2 b2 (by omega)
  obtain⟨S',s1,s2⟩:=ahu H.toBldHas b3 (t2.trans t3) (n:=O.length) rfl (by simp) (a06 _) (by simp) (by rw[a04,aA6];omega)
  have tq:=fun t:LU=>qZ (vs:=[.str t,.int .i64 0]) hσ rfl s2;have bsl:((34:UInt8).toNat:Int)=34:=rfl;rw[bsl]at e1 e3;rw[nc.1]at e2;dsimp only[bT]at e1;exact⟨w2++[34],0,by simp only[Cc,c0,hv,e1,e2,e3,s1,tq,EVX,seval],by rw[a04,aA6];omega⟩
open Go.Lib
def acf(x y:UInt8)(a b:LU):compareBytes (x::a) (y::b)=if x.toNat<y.toNat then-1 else if y.toNat<x.toNat then 1 else compareBytes a b:=by
 rw[compareBytes];simp only[UInt8.lt_iff_toNat_lt]
def ahw:∀a:LU,compareBytes a a=0
 |[]=>rfl
 |x::a=>by rw[acf,if_neg (by omega),if_neg (by omega),ahw a]
def adD:∀a b c:LU,compareBytes a b<0->compareBytes b c<0->compareBytes a c<0
 |[],[],c,h,_=>absurd h (by decide)
 |[],_::_,[],_,h=>absurd h (by simp[compareBytes])
 |[],_::_,_::_,_,_=>by simp[compareBytes]
 |_::_,[],c,h,_=>absurd h (by simp[compareBytes])
 |_::_,_::_,[],_,h=>absurd h (by simp[compareBytes])
 |x::a,y::b,z::c,h,k=>by
  rw[acf]at h k⊢;have ih:=adD a b c;generalize compareBytes a b=p at*;generalize compareBytes b c=q at*;generalize compareBytes a c=r at*;split at h
  ·split at k
   ·rw[if_pos (by omega)];decide
   ·split at k
    ·exact absurd k (by decide)
    ·rw[if_pos (by omega)];decide
  ·split at h
   ·exact absurd h (by decide)
   ·split at k
    ·rw[if_pos (by omega)];decide
    ·split at k
     ·exact absurd k (by decide)
     ·rw[if_neg (by omega),if_neg (by omega)];exact ih h k
def aal:∀a b c:LU,¬compareBytes a b<0->¬compareBytes b c<0->¬compareBytes a c<0
 |a,[],[],h,_=>h
 |[],_::_,c,h,_=>absurd (by simp[compareBytes]) h
 |_,[],_::_,_,h=>absurd (by simp[compareBytes]) h
 |_::_,_::_,[],_,_=>by simp[compareBytes]
 |x::a,y::b,z::c,h,k=>by
  rw[acf]at h k⊢;have ih:=aal a b c;generalize compareBytes a b=p at*;generalize compareBytes b c=q at*;generalize compareBytes a c=r at*;split at h
  ·exact absurd (by decide) h
  ·split at h
   ·split at k
    ·exact absurd (by decide) k
    ·split at k
     ·rw[if_neg (by omega),if_pos (by omega)];decide
     ·rw[if_neg (by omega),if_pos (by omega)];decide
   ·split at k
    ·exact absurd (by decide) k
    ·split at k
     ·rw[if_neg (by omega),if_pos (by omega)];decide
     ·rw[if_neg (by omega),if_neg (by omega)];exact ih h k
open Go.RowKit Go.Shelf Go.Lib Go.Sort Go.Proofs
set_option maxRecDepth 10000
def acN(xs:List EL)(i:Nat):LU:=match xs[i]? with|some x=>x.1.1|none=>[]
def afO(xs:List EL)(i j:Nat):Int:=compareBytes (acN xs i) (acN xs j)
def akG(xs:List EL):SWO (ltOf (afO xs))where
 irrefl x:=by simp[ltOf,afO,ahw]
 trans x y z h1 h2:=decide_eq_true (adD _ _ _ (of_decide_eq_true h1) (of_decide_eq_true h2))
 ntrans x y z h1 h2:=decide_eq_false (aal _ _ _ (of_decide_eq_false h1) (of_decide_eq_false h2))
def FQ(xs:List EL):Array Nat:=pdq (ltOf (afO xs)) (Array.range xs.length) 0 (Array.range xs.length).size (Lib.bitLen (Array.range xs.length).size) true true
def ar4(xs:List EL):(FQ xs).size=xs.length/\∀i,i<xs.length->(FQ xs)[i]! <xs.length:=by
 have h:=(pdq_sorts (ltOf (afO xs)) (akG xs) (Array.range xs.length) 0 (Array.range xs.length).size (Lib.bitLen (Array.range xs.length).size) true true (au3 _) (a06 _) (Or.inl rfl)).1;refine⟨by have:=h.1;unfold FQ;rw[this];simp,fun i hi=>?_⟩
 exact permIn_all (Array.range xs.length) (FQ xs) 0 (Array.range xs.length).size (fun j=>j<xs.length) (a06 _) h (fun j _ hj=>by
  have hj':j<xs.length:=by simpa using hj
  rw[getElem!_pos _ j hj];simpa using hj') i (au3 _) (by simpa using hi)
def asL:EL:=(⟨[],by decide⟩,JV.zero)
instance:Inhabited EL:=⟨asL⟩
def Zl(xs:List EL):List EL:=(List.range xs.length).map fun t=>xs.getD ((FQ xs)[t]!) asL
def Oa(xs:List EL):(Zl xs).length=xs.length:=by simp[Zl]
open Classical in
noncomputable def VB(fc:FuncId)(args:LA)(O:St):Option (AV×St):=
 match args with
 |[.msl o 0 n 6,.func (.func g) [] []]=>match O[o]? with
  |some (.cells l ⟨false,t⟩)=>if h:g=fc/\n<4611686018427387904/\∃xs:List EL,l=mM xs/\xs.length=n then some (.tup [],O.set o (.cells (mM (Zl h.2.2.choose)) ⟨false,t⟩))else none
  |_=>none
 |_=>none
def QU(xs:List EL):(mM xs).length=xs.length*6:=aU qh xs
def akT(xs:List EL)(i r:Nat)(hi:i<xs.length)(hr:r<6):(mM xs)[i*6+r]?=(elC xs[i])[r]?:=by
 have h:=fB qh (a01 hi);have e:(mM xs)[i*6+r]?=((mM xs).drop (i*6))[r]?:=by rw[List.getElem?_drop]
 rw[e];unfold mM;rw[h,av4 (by rw[qh];exact hr)]
def zM(c:Array Value)(n i:Nat):List Value:=if i<n then(List.range 6).map fun r=>c[i*6+r]! else[.string ⟨⟨[]⟩⟩,.int .i64 0,.int .i64 0,.int .i64 0,.int .i64 0,.int .i64 0]
def ahH(c:Array Value)(n i:Nat):(zM c n i).length=6:=by
 unfold zM;split<;>simp
def afU(c:Array Value)(n i r:Nat)(hi:i<n)(hr:r<6):(zM c n i)[r]! =c[i*6+r]!:=by
 unfold zM;rw[if_pos hi,getElem!_pos _ r (by simpa using hr)]
 simp
section
variable{ρ:Ren}{fs fc:FuncId}
def aim (L:SlLaysF0.n6 C.P ρ) (hfs:ρ.f 6=fs) (hfn:IJ C.P fs) (aE:∀w,(isAgg (ρ.t 24)).run C.P w=.ok true w) (zE:∀w,(Go.sizeOf (ρ.t 24)).run C.P w=.ok 6 w)
  (eg:∀args w,(callFunc fc args).run C.P w=.ok (.enter fc args) w)
  (akL:∀(x y:LU) (u v:List Value) (W:World),u.length=5->v.length=5->Calls C.P fc #[.agg (.string ⟨⟨x⟩⟩::u).toArray,.agg (.string ⟨⟨y⟩⟩::v).toArray] W fun e w'=>e=.returned (.int .i64 (compareBytes x y))/\∃q os',w'=grow (W.drewN q) os'):
  POK C fs (VB fc):=by
 intro args O v O' h g w args' ha hw hg;unfold VB at h;split at h
 ·rename_i o n gf;split at h
  ·rename_i l t ho;split at h
   ·rename_i hx;simp only[a05,aw3]at h;obtain⟨rfl,rfl⟩:=h;have hxs:=hx.2.2.choose_spec;generalize hx.2.2.choose=xs at hxs;obtain⟨rfl,hn,_⟩:=hx;obtain⟨rfl,hlen⟩:=hxs;have hlen6:=QU xs;obtain⟨c,e,fr,h1,h2',h3,h4,h5,h6⟩:=hw.obj o _ ho;have hfr:fr=(0,0):=h5.1;subst hfr;cases ha with
    |cons _ v1 _ l1 x1 y1=>
    cases y1 with
    |cons _ v2 _ l2 x2 y2=>
    cases y2;cases x1 with
    |msl _ _ _ _ cap hog hncap hcap=>
    cases x2 with
    |func _ _ _ x' y' k1 k2=>
    cases k1;cases k2;have cell:∀i,i<n->∀r,r<6->∃x,(elC xs[i]!)[r]?=some x/\VR g x c[i*6+r]!:=fun i hi r hr=>by
     have hi':i<xs.length:=by omega
     have e1:=akT xs i r hi' hr;have hl6:=qh xs[i];have e2:(elC xs[i])[r]?=some (elC xs[i])[r]:=a01 (by omega)
     rw[e2]at e1;obtain⟨u,hu,hv⟩:=h4 _ _ e1;have e3:xs[i]! =xs[i]:=getElem!_pos xs i hi';refine⟨_,by rw[e3];exact e2,?_⟩
     obtain⟨hb,hu2⟩:=ay8.mp hu;rw[getElem!_pos c _ hb,hu2];exact hv
    have fst:∀i,∃u,zM c n i=.string ⟨⟨acN xs i⟩⟩::u/\u.length=5:=fun i=>by
     have hl:=ahH c n i;by_cases hi:i<n
     ·obtain⟨x,hx1,hx2⟩:=cell i hi 0 (by decide)
      have hi':i<xs.length:=by omega
      have e3:xs[i]! =xs[i]:=getElem!_pos xs i hi';have hx3:x=.str (acN xs i):=by
       have:acN xs i=(xs[i]).1.1:=by unfold acN;rw[a01 hi']
       rw[this];rw[e3]at hx1;exact(az7 hx1).symm
      rw[hx3]at hx2;have e0:=afU c n i 0 hi (by decide)
      cases hE:zM c n i with
      |nil=>rw[hE]at hl;cases hl
      |cons a u=>
       rw[hE]at e0 hl;refine⟨u,?_,by simpa using hl⟩
       have:a=c[i*6+0]!:=e0;rw[this];generalize c[i*6+0]! =q at hx2;cases hx2;rfl
     ·refine⟨[.int .i64 0,.int .i64 0,.int .i64 0,.int .i64 0,.int .i64 0],?_,rfl⟩;unfold zM acN;rw[if_neg hi,aw8 (by omega)]
    have oneC:∀i,∀v∈zM c n i,v.oneCell'=true:=fun i v hv=>by
     by_cases hi:i<n
     ·unfold zM at hv;rw[if_pos hi]at hv;obtain⟨r,hr,rfl⟩:=ax7.mp hv;obtain⟨x,hx1,hx2⟩:=cell i hi r (az4.mp hr);exact hx2.one (a94.mp (Az _) x (a88 hx1))
     ·unfold zM at hv;rw[if_neg hi]at hv;simp only[av3,aA1,or_false]at hv;rcases hv with rfl|rfl|rfl|rfl|rfl|rfl<;>rfl
    have hsz0:(Array.range xs.length).size=n:=by simp[hlen]
    have rg:∀j,j<n->(Array.range xs.length)[j]! =j:=fun j hj=>by
     rw[getElem!_pos _ j (by rw[hsz0];exact hj)];simp
    have fk:∀t,t<n*6->(flatK (zM c n) 6 (Array.range xs.length))[t]! =c[t]!:=fun t ht=>by
     have hq:t/6<n:=by omega
     rw[get_flatK _ _ _ _ (by rw[hsz0];exact ht),rg _ hq,afU _ _ _ _ hq (Nat.mod_lt _ (by decide))]
     congr 1
     omega
    have hH:HoldsK (zM c n) 6 w (g.ob o) 0 (Array.range xs.length):=by
     intro t ht;have ht':t<n*6:=by rw[size_flatK,hsz0]at ht;exact ht
     refine⟨?_,?_⟩
     ·rw[fk t ht',av5];show w.cell? ⟨g.ob o,t,none⟩=some c[t]!;rw[cell_of_heap h1,getElem!_pos c t (by omega)]
      exact aw6 (by omega)
     ·rw[World.frozen?,h1];rfl
    have hb:g.ob o<w.heap.size:=(ay8.mp h1).1;have hcmp:CmpLays C.P gf #[] (zM c n) 6 (afO xs) (g.ob o) 0 (Array.range xs.length).size w:=fun m os dk _ i j=>by
     obtain⟨u,hu,lu⟩:=fst i;obtain⟨u',hu',lu'⟩:=fst j;rw[hu,hu'];exact akL (acN xs i) (acN xs j) u u' _ lu lu'
    have run:=AnyQ.slices_SortFunc_eq L 6 aE zE (zM c n) (ahH c n) oneC (afO xs) (akG xs) gf #[] (g.ob o) 0 cap (Array.range xs.length) w eg hcmp hH hb (by omega)
    rw[hfs,hsz0]at run;refine Cm hfn (run.mono fun e' w2 ⟨he,q,os,hw2⟩=>⟨_,he,g,?_,.tup _ _ .nil⟩);have hd:=ar4 xs;have hd0:pdq (ltOf (afO xs)) (Array.range xs.length) 0 n (Lib.bitLen n) true true=FQ xs:=by unfold FQ;rw[hsz0]
    rw[hd0]at hw2;have hF:(flatK (zM c n) 6 (FQ xs)).size=n*6:=by rw[size_flatK,hd.1,hlen]
    have heap:w2.heap=(w.heap.modify (g.ob o) (onCells (putCells id 0 (flatK (zM c n) 6 (FQ xs)))))++os:=by rw[hw2];rfl
    have hms:(w.heap.modify (g.ob o) (onCells (putCells id 0 (flatK (zM c n) 6 (FQ xs))))).size=w.heap.size:=by simp
    have h2:w2.heap[g.ob o]?=some (.cells (putCells id 0 (flatK (zM c n) 6 (FQ xs)) c) e (0,0)):=by
     rw[heap,Array.getElem?_append_left (by rw[hms];exact hb),aB6,if_pos rfl,h1]
     rfl
    have psz:(putCells id 0 (flatK (zM c n) 6 (FQ xs)) c).size=c.size:=by simp[putCells]
    refine alb hw ho (by rw[hw2];rfl) (by rw[hw2];rfl) (by rw[hw2];rfl) (by rw[heap];simp) (fun k hk hne=>?_) ⟨_,e,(0,0),h2,by rw[psz];exact h2',by rw[psz,QU,Oa];omega,fun i x hx=>?_,?_,?_⟩
    ·rw[heap,Array.getElem?_append_left (by rw[hms];exact hk),aB6,if_neg (fun h=>hne h.symm)]
    ·have hi:i<n*6:=by
      have:=(a00.mp hx).1;rw[QU,Oa]at this;omega
     have hq:i/6<n:=by omega
     have hr:i%6<6:=Nat.mod_lt _ (by decide)
     have hoi:=hd.2 (i/6) (by omega)
     have ei:i=i/6*6+i%6:=by omega
     have es:(Zl xs)[i/6]'(by rw[Oa];omega)=xs[(FQ xs)[i/6]!]!:=by
      unfold Zl;rw[List.getElem_map,List.getElem_range,aw1,a01 hoi,getElem!_pos xs _ hoi];rfl
     have hx':=hx;rw[ei,akT (Zl xs) (i/6) (i%6) (by rw[Oa];omega) hr,es]at hx'
     obtain⟨y,hy1,hy2⟩:=cell ((FQ xs)[i/6]!) (by omega) (i%6) hr
     rw[hy1]at hx';cases hx';refine⟨(flatK (zM c n) 6 (FQ xs))[i]!,?_,?_⟩
     ·unfold putCells;rw[Array.getElem?_mapIdx,aw6 (by omega),av2,if_pos ⟨au3 _,by rw[hF];omega⟩]
      rfl
     ·rw[get_flatK _ _ _ _ (by rw[hd.1,hlen];exact hi),afU _ _ _ _ (by omega) hr]
      exact hy2
    ·refine⟨rfl,fun t' x' ht=>?_⟩;obtain⟨q1,q2⟩:=h5.2 t' x' ht;refine⟨q1,fun hx=>?_⟩;rw[psz,QU,Oa,<-QU];exact q2 hx
    ·intro i v hv;exact absurd (h6 i v hv).1 (by simp)
   ·cases h
  ·cases h
 ·cases h
def aiD{D:Ctx}(hq:∀args O,aj D fs args O=VB fc args O):Wv D fs fc:=by
 intro O hσ o ho t N hN xs hxs;have hex:fc=fc/\N<4611686018427387904/\∃ys:List EL,mM xs=mM ys/\ys.length=N:=⟨rfl,by omega,xs,rfl,hxs⟩
 refine⟨Zl hex.2.2.choose,by rw[Oa];exact hex.2.2.choose_spec.2,?_⟩
 rw[hq];unfold VB anZ;simp only[aiv ho t xs];rw[dif_pos hex,aoV]
end
end Go.Ev
