/- Code. No conditions. -/
import Derived.Test.YtpikfmmkcckclaaGreatDoorCC
import Derived.Test.YtpikfmmkcckclaaGreatDoorCB
import Derived.Test.YtpikfmmkcckclaaGreatDoorEC
set_option linter.unusedVariables false
set_option linter.unusedSimpArgs false
set_option linter.defProp false
namespace Go.Ev
set_option maxRecDepth 100000
variable{C:Ctx}{PK:PkI}
def BI{f:FuncId}{args:List Sh}{res:Sh}(h:gu C PK f (.pure args res)){azs:LA}(hn:NVs azs)(hm:Mt V0 args azs){O:St}(hσ:Ok O):∃v,ai C f azs O=some (v,O)/\M V0 res v:=h O azs azs O hσ (hn.hand O) hσ hm
def Nq{V:Val}{k:IntKind}{v:AV}(h:M V (.int k) v):∃n,v=.int k n:=by cases h;exact⟨_,rfl⟩
def JA{V:Val}{v:AV}(h:M V .bool v):∃n,v=.bool n:=by cases h;exact⟨_,rfl⟩
def aqB:List Int:=[0,31,59,90,120,151,181,212,243,273,304,334,365]
def bef:LA:=aqB.map (.int .i64)
def aep(i:Nat)(h:i<13):∃x,(bef.drop i).head? =some (.int .i64 x):=by
 unfold bef;rw[aC7,ax5,a02 (show i<aqB.length from h)];exact⟨_,rfl⟩
structure Vp(C:Ctx)(PK:PkI):Prop where
 days:Has C Uj rq
 read:Has C Bh fM
 bef:C.gl tZ=some bef
 leap:gu C PK Uk (.pure [.int .i64] .bool)
 upTo:gu C PK Js (.pure [.int .i64,.int .i64] .bool)
 start:gu C PK Qn (.pure [.int .i64] (.int .i64))
 digits:gu C PK FU (.pure [.strb] (.int .i64))
def aiA(H:Vp C PK)(y m:Int)(O:St)(hσ:Ok O):∃d,ai C Uj [.int .i64 y,.int .i64 m] O=some (.int .i64 d,O)/\(1<=d->1<=m/\m<=12):=by
 rw[H.days.go (NVs.hand (.cons (.int _ _) (.cons (.int _ _) .nil)) _)];by_cases h1:y<1970
 ·exact⟨0,by simp only[rq,h1,aS,EVX,seval],by omega⟩
 by_cases h2:y>9999
 ·exact⟨0,by simp only[rq,h1,h2,aS,EVX,seval],by omega⟩
 by_cases h3:m<1
 ·exact⟨0,by simp only[rq,h1,h2,h3,aS,EVX,seval],by omega⟩
 by_cases h4:m>12
 ·exact⟨0,by simp only[rq,h1,h2,h3,h4,aS,EVX,seval],by omega⟩
 have hb:=H.bef;have w1:IntKind.i64.wrap (m-1)=m-1:=wrE (by omega)
 have a1:0<=m:=by omega
 have a2:0<=m-1:=by omega
 have bl:bef.length=13:=rfl;have l1:m.toNat<13:=by omega
 have l2:(m-1).toNat<13:=by omega
 have l3:m.toNat<=bef.length:=by omega
 have l4:(m-1).toNat<=bef.length:=by omega
 obtain⟨x,hx⟩:=aep m.toNat l1;obtain⟨z,hz⟩:=aep (m-1).toNat l2;obtain⟨b,hl,hbm⟩:=BI H.leap (.cons (.int .i64 y) .nil) (.cons _ _ _ _ (.int _ _) .nil) hσ;obtain⟨b,rfl⟩:=JA hbm;have gv:∀E,avA C E (.g tZ)=.eptr bef:=fun E=>by show AV.eptr ((C.gl tZ).getD [])=_;rw[hb];rfl
 cases h5:(m==(2:Int))with
 |false=>
  refine⟨IntKind.i64.wrap (x-z),?_,by omega⟩
  simp only[rq,h1,h2,h3,h4,h5,w1,a1,a2,l1,l2,l3,l4,hx,hz,gv,au8,and_self,aS,EVX,seval]
 |true=>
  cases b with
  |true=>
   refine⟨IntKind.i64.wrap (IntKind.i64.wrap (x-z)+1),?_,by omega⟩
   simp only[rq,h1,h2,h3,h4,h5,w1,a1,a2,l1,l2,l3,l4,hx,hz,hl,gv,au8,and_self,aS,EVX,seval]
  |false=>
   refine⟨IntKind.i64.wrap (x-z),?_,by omega⟩
   simp only[rq,h1,h2,h3,h4,h5,w1,a1,a2,l1,l2,l3,l4,hx,hz,hl,gv,au8,and_self,aS,EVX,seval]
def PB(Q:Prop)(v:AV):Prop:=∃b:Bool,v=.bool b/\(b=true->Q)
def PB.no{Q:Prop}:PB Q (.bool false):=⟨false,rfl,fun h=>by cases h⟩
def PB.yes{Q:Prop}(h:Q):PB Q (.bool true):=⟨true,rfl,fun _=>h⟩
structure GU(C:Ctx)(PK:PkI):Prop where
 proper:Has C Jr aN
 written:Has C Iz BB
 may:Has C Ui mW
 May:Has C Bg TV
 valid:gu C PK Bd (.pure [.strb] .bool)
 ascending:gu C PK oV (.pure [.slx [.strb]] .bool)
def Yo(H:GU C PK)(s:LU)(O:St)(hσ:Ok O):∃b:Bool,ai C Iz [.str s] O=some (.bool b,O)/\(b=true->s.length<=4096):=by
 rw[H.written.go (NVs.hand (.cons (.str _) .nil) _)];by_cases h:(s.length:Int)<=4096
 ·obtain⟨v,h1,h2⟩:=BI H.valid (.cons (.str s) .nil) (.cons _ _ _ _ (.strb s (by simp only[LB];omega)) .nil) hσ
  obtain⟨b,rfl⟩:=JA h2;exact⟨b,by simp only[BB,h,h1,aS,EVX,seval],fun _=>by omega⟩
 ·exact⟨false,by simp only[BB,h,aS,EVX,seval],fun hf=>by cases hf⟩
def X9(ns:List LU)(i:Nat)(h:i<ns.length):(ns.map AV.str).drop i=.str ns[i]::(ns.map AV.str).drop (i+1):=by
 rw[as9 (l:=ns.map AV.str) (by simpa using h),List.getElem_map]
def UJ (H:GU C PK) (ns:List LU) (hn:ns.length<=8192) (O:St) (hσ:Ok O):∀(n i:Nat),i+n=ns.length->
  (aH C (ai C) 99 [89,90,91] fH [(89,.sl ns.length (ns.map .str)),(90,.int .i64 ns.length),(91,.int .i64 i)] O=some (.exit 1,[],O)/\∀x∈ns.drop i,x.length<=4096)\/
  aH C (ai C) 99 [89,90,91] fH [(89,.sl ns.length (ns.map .str)),(90,.int .i64 ns.length),(91,.int .i64 i)] O=some (.ret,[(2,.bool false)],O)
 |0,i,hi=>by
  left;refine⟨?_,by rw[aC3 (by omega)];simp⟩
  rw[aG (he:=rfl)];have h:¬((i:Int)<(ns.length:Int)):=by omega
  simp only[fH,h,EVX,seval]
 |n+1,i,hi=>by
  have h:((i:Int)<(ns.length:Int)):=by omega
  have h2:i<ns.length:=by omega
  have h3:(0:Int)<=i:=by omega
  have hw:=wrS i (by omega)
  have sl:(ns.map AV.str).length=ns.length:=by simp
  have dr:=X9 ns i h2;have dn:ns.drop i=ns[i]::ns.drop (i+1):=as9 h2;generalize ns[i]=x at dr dn;obtain⟨b,e,hb⟩:=Yo H x O hσ;have ih:=UJ H ns hn O hσ n (i+1) (by omega)
  cases b with
  |false=>
   right;rw[aG (he:=rfl)];simp only[fH,h,h2,h3,sl,dr,e,EVX,seval]
  |true=>
   rcases ih with⟨ih,hq⟩|ih
   ·left;refine⟨?_,fun y hy=>?_⟩
    ·rw[aG (he:=rfl)];generalize hk:aH C (ai C) 99 [89,90,91] fH=rest at*;simp only[fH,h,h2,h3,hw,sl,dr,e,ih,EVX,seval]
    ·rw[dn]at hy;rcases au9.mp hy with rfl|hy
     ·exact hb rfl
     ·exact hq y hy
   ·right;rw[aG (he:=rfl)];generalize hk:aH C (ai C) 99 [89,90,91] fH=rest at*;simp only[fH,h,h2,h3,hw,sl,dr,e,ih,EVX,seval]
def aau(k:Int)(t:LU)(ns:List LU)(is:List JV):Prop:=t.length<=4096/\(∀x∈ns,x.length<=4096)/\(k≠4->k≠5->is=[])
set_option maxHeartbeats 4000000 in
def aie(H:GU C PK)(k n:Int)(t:LU)(ns:List LU)(is:List JV)(h1:ns.length<=is.length)(h3:k=5->is.length<=ns.length)(h2:is.length<=8192)(h4:StB t ns)(O:St)(hσ:Ok O):∃v,ai C Jr [(JV.mk k n t ns is h1 h3 h2 h4).av] O=some (v,O)/\PB (aau k t ns is) v:=by
 rw[H.proper.go (NVs.hand (.cons (JV.nv _) .nil) _)];have ty:=fun(q:Bool)=>dE hσ (vs:=[.bool q]) rfl;have ca:(JV.mk k n t ns is h1 h3 h2 h4).av=.agg [.int .u8 k,.int .i64 n,.str t,.sl ns.length (ns.map .str),.sl is.length (aJ is)]:=by unfold JV.av;rw[JV.mk_cs]
 have nt:∀{r:Option (AV×St)},r=some (.bool false,O)->∃v,r=some (v,O)/\PB (aau k t ns is) v:=fun h=>⟨_,h,PB.no⟩;have yt:∀{r:Option (AV×St)},r=some (.bool true,O)->aau k t ns is->∃v,r=some (v,O)/\PB (aau k t ns is) v:=fun h g=>⟨_,h,PB.yes g⟩
 let B:Int->AO:=fun k=>.cells [.int .u8 k,.int .i64 n,.str t,.sl ns.length (ns.map .str),.sl is.length (aJ is)] FZ
 have okB:∀k,Ok (O++[.cells [.int .u8 k,.int .i64 n,.str t,.sl ns.length (ns.map .str),.sl is.length (aJ is)] FZ]):=fun k=>RF hσ (by simp[AO.below,ae,Ev.below,aO (a98 _) _ (o9 ns),aO (a98 _) _ (iq is)])
 have tB:t=[]->t.length<=4096:=fun h=>by rw[h];simp
 have nB:¬(ns.length:Int)>0->ns=[]:=fun h=>au5 (by omega)
 have nD:¬(is.length:Int)>0->is=[]:=fun h=>au5 (by omega)
 have sl:(ns.map AV.str).length=ns.length:=by simp
 by_cases hk:k=1
 ·subst hk;cases hT:decide (t=[])with
  |false=>exact nt (by simp only[aN,ca,hT,AV.cells,av5,kH,ty,EVX,seval])
  |true=>
  have ht:t=[]:=by simpa using hT
  by_cases hC:(ns.length:Int)>0
  ·exact nt (by simp only[aN,ca,hT,hC,bU,AV.cells,decide_true,aw4,av5,kH,ty,EVX,seval])
  have hns:=nB hC;by_cases hD:(is.length:Int)>0
  ·exact nt (by simp only[aN,ca,hT,hC,hD,bU,AV.cells,decide_true,decide_false,aw4,av5,kH,ty,EVX,seval])
  cases h0:(n==0)with
  |true=>exact yt (by simp only[aN,ca,hT,hC,hD,h0,bU,AV.cells,decide_false,aw4,av5,kH,ty,EVX,seval]) ⟨tB ht,by rw[hns];simp,fun _ _=>nD hD⟩
  |false=>
  cases h1':(n==1)with
  |true=>exact yt (by simp only[aN,ca,hT,hC,hD,h0,h1',bU,AV.cells,decide_false,aw4,av5,kH,ty,EVX,seval]) ⟨tB ht,by rw[hns];simp,fun _ _=>nD hD⟩
  |false=>exact nt (by simp only[aN,ca,hT,hC,hD,h0,h1',bU,AV.cells,decide_false,aw4,av5,kH,ty,EVX,seval])
 by_cases hk:k=2
 ·subst hk;cases hT:decide (t=[])with
  |false=>exact nt (by simp only[aN,ca,hT,AV.cells,av5,kH,ty,EVX,seval])
  |true=>
  have ht:t=[]:=by simpa using hT
  by_cases hC:(ns.length:Int)>0
  ·exact nt (by simp only[aN,ca,hT,hC,bU,AV.cells,decide_true,aw4,av5,kH,ty,EVX,seval])
  have hns:=nB hC;by_cases hD:(is.length:Int)>0
  ·exact nt (by simp only[aN,ca,hT,hC,hD,bU,AV.cells,decide_true,decide_false,aw4,av5,kH,ty,EVX,seval])
  exact yt (by simp only[aN,ca,hT,hC,hD,bU,AV.cells,decide_false,aw4,av5,kH,ty,EVX,seval]) ⟨tB ht,by rw[hns];simp,fun _ _=>nD hD⟩
 by_cases hk:k=3
 ·subst hk;cases hN:(n !=0)with
  |true=>exact nt (by simp only[aN,ca,hN,AV.cells,aw4,ty,EVX,seval])
  |false=>
  by_cases hC:(ns.length:Int)>0
  ·exact nt (by simp only[aN,ca,hN,hC,bU,AV.cells,decide_true,aw4,av5,ty,EVX,seval])
  have hns:=nB hC;by_cases hD:(is.length:Int)>0
  ·exact nt (by simp only[aN,ca,hN,hC,hD,bU,AV.cells,decide_true,decide_false,av5,ty,EVX,seval])
  obtain⟨bw,ew,hw⟩:=Yo H t _ (okB 3);cases bw with
  |true=>exact yt (by simp only[aN,ca,hN,hC,hD,ew,bU,AV.cells,decide_false,av5,ty,EVX,seval]) ⟨hw rfl,by rw[hns];simp,fun _ _=>nD hD⟩
  |false=>exact nt (by simp only[aN,ca,hN,hC,hD,ew,bU,AV.cells,decide_false,av5,ty,EVX,seval])
 by_cases hk:k=4
 ·subst hk;cases hN:(n !=0)with
  |true=>exact nt (by simp only[aN,ca,hN,AV.cells,aw4,ty,EVX,seval])
  |false=>
  cases hT:decide (t=[])with
  |false=>exact nt (by simp only[aN,ca,hN,hT,AV.cells,av5,kH,ty,EVX,seval])
  |true=>
  have ht:t=[]:=by simpa using hT
  by_cases hC:(ns.length:Int)>0
  ·exact nt (by simp only[aN,ca,hN,hT,hC,bU,AV.cells,decide_true,aw4,av5,kH,ty,EVX,seval])
  have hns:=nB hC;exact yt (by simp only[aN,ca,hN,hT,hC,bU,AV.cells,decide_false,aw4,av5,kH,ty,EVX,seval]) ⟨tB ht,by rw[hns];simp,fun h _=>absurd rfl h⟩
 by_cases hk:k=5
 ·subst hk;cases hN:(n !=0)with
  |true=>exact nt (by simp only[aN,ca,hN,AV.cells,aw4,ty,EVX,seval])
  |false=>
  cases hT:decide (t=[])with
  |false=>exact nt (by simp only[aN,ca,hN,hT,AV.cells,av5,kH,ty,EVX,seval])
  |true=>
  have ht:t=[]:=by simpa using hT
  cases hL:((ns.length:Int) !=is.length)with
  |true=>exact nt (by simp only[aN,ca,hN,hT,hL,bU,AV.cells,aw4,av5,kH,ty,EVX,seval])
  |false=>
  obtain⟨va,ea,hva⟩:=BI H.ascending (.cons (.sl ns.length (o9 ns)) .nil) (.cons _ _ _ _ (by
   obtain⟨rs,r1,r2,r3⟩:=XU (V:=V0) ns h4.ns;rw[<-r1,<-r2];exact .slx _ rs (by rw[r1];simp only[LS];omega) r3) .nil) (okB 5)
  obtain⟨ba,rfl⟩:=JA hva;cases ba with
  |false=>exact nt (by simp only[aN,ca,hN,hT,hL,ea,bU,AV.cells,aw4,av5,kH,ty,EVX,seval])
  |true=>
  have lp:=UJ H ns (by omega) _ (okB 5) ns.length 0 (by omega)
  simp only[at6,au0]at lp;rcases lp with⟨lp,hq⟩|lp
  ·exact yt (by simp only[aN,ca,hN,hT,hL,ea,lp,bU,AV.cells,aw4,av5,kH,ty,EVX,seval]) ⟨tB ht,hq,fun _ h=>absurd rfl h⟩
  ·exact nt (by simp only[aN,ca,hN,hT,hL,ea,lp,bU,AV.cells,aw4,av5,kH,ty,EVX,seval])
 have k1:(k !=1)=true:=by simpa using‹¬k=1›
 have q1:(k==1)=false:=by simpa using‹¬k=1›
 have k2:(k !=2)=true:=by simpa using‹¬k=2›
 have q2:(k==2)=false:=by simpa using‹¬k=2›
 have k3:(k !=3)=true:=by simpa using‹¬k=3›
 have q3:(k==3)=false:=by simpa using‹¬k=3›
 have k4:(k !=4)=true:=by simpa using‹¬k=4›
 have q4:(k==4)=false:=by simpa using‹¬k=4›
 have k5:(k !=5)=true:=by simpa using‹¬k=5›
 have q5:(k==5)=false:=by simpa using‹¬k=5›
 cases hN:(n !=0)with
 |true=>exact nt (by simp only[aN,ca,k1,k2,hN,AV.cells,aw4,ty,EVX,seval])
 |false=>
 cases hT:decide (t=[])with
 |false=>exact nt (by simp only[aN,ca,k1,k2,k3,hN,hT,AV.cells,av5,kH,ty,EVX,seval])
 |true=>
 by_cases hC:(ns.length:Int)>0
 ·exact nt (by simp only[aN,ca,k1,k2,k3,k5,hN,hT,hC,bU,AV.cells,decide_true,aw4,av5,kH,ty,EVX,seval])
 by_cases hD:(is.length:Int)>0
 ·exact nt (by simp only[aN,ca,k1,k2,k3,k4,k5,hN,hT,hC,hD,bU,AV.cells,decide_true,decide_false,aw4,av5,kH,ty,EVX,seval])
 exact nt (by simp only[aN,ca,k1,k2,k3,k4,k5,q1,q2,q3,q4,q5,hN,hT,hC,hD,bU,AV.cells,decide_false,aw4,av5,kH,ty,EVX,seval])
mutual
def JW.cnt:JW->Nat
 |.mk _ _ _ _ is=>MG is+1
def MG:List JW->Nat
 |[]=>0
 |j::l=>j.cnt+MG l
end
mutual
def JW.Good:JW->Prop
 |.mk k n t ns is=>(t.length<=4096/\(∀x∈ns,x.length<=4096)/\(k≠4->k≠5->is=[]))/\Xa is
def Xa:List JW->Prop
 |[]=>True
 |j::l=>j.Good/\Xa l
end
def yV(L:Int):AO:=.cells [.int .i64 L] FZ
def aox(C:Ctx)(j:JV):Prop:=∀(nested L:Int) (O:St) (o:Nat),Ok O->0<=L->L<=8192->O[o]?=some (yV L)->∃(b:Bool) (L':Int),ai C Ui [j.av,.int .i64 nested,.ref o 0] O=some (.bool b,O.set o (yV L'))/\(b=true->0<=L'/\(j.w.cnt:Int)+L'<=L/\j.w.Good)
def adf (is:List JV) (hn:is.length<=8192) (IH:∀j∈is,aox C j) (nested:Int) (o:Nat) (O:St) (ho:o<O.length):∀(n i:Nat),i+n=is.length->∀(L:Int) (Y:St),Ok Y->0<=L->L<=8192->O.length<=Y.length->Y.take O.length=O.set o (yV L)->
  ∃(L':Int) (Y':St),Y'.take O.length=O.set o (yV L')/\
  ((aH C (ai C) 47 [1,2,34,35,36] jr [(1,.int .i64 nested),(2,.ref o 0),(34,.sl is.length (aJ is)),(35,.int .i64 is.length),(36,.int .i64 i)] Y=some (.exit 0,[],Y')/\0<=L'/\(MG ((is.drop i).map (·.w)):Int)+L'<=L/\Xa ((is.drop i).map (·.w)))\/
   aH C (ai C) 47 [1,2,34,35,36] jr [(1,.int .i64 nested),(2,.ref o 0),(34,.sl is.length (aJ is)),(35,.int .i64 is.length),(36,.int .i64 i)] Y=some (.ret,[(6,.bool false)],Y'))
 |0,i,hi,L,Y,hτ,h0,h8,hl,ht=>by
  refine⟨L,Y,ht,.inl ⟨?_,h0,?_,?_⟩⟩
  ·rw[aG (he:=rfl)];have h:¬((i:Int)<(is.length:Int)):=by omega
   simp only[jr,h,EVX,seval]
  ·rw[aC3 (by omega)]
   simp[MG]
  ·rw[aC3 (by omega)]
   trivial
 |n+1,i,hi,L,Y,hτ,h0,h8,hl,ht=>by
  have h:((i:Int)<(is.length:Int)):=by omega
  have h2:i<is.length:=by omega
  have w2:=wrS i (by omega)
  have p2:(0:Int)<=(i:Int):=by omega
  have d2:=xX is i h2;have sl:=jK is;have hj:is[i]∈is:=az1 h2;have dn:is.drop i=is[i]::is.drop (i+1):=as9 h2;generalize is[i]=j at*;generalize aJ (is.drop (i+1))=R at*;have jl:=JV.len j;have jf:=JV.flat j;have jt:(j.cs++R).take 5=j.cs:=by rw[<-jl];simp
  have je:5<=(j.cs++R).length:=by simp[jl]
  have jt':j.cs.take 5=j.cs:=a08 (by rw[JV.len];exact a06 _)
  have je':5<=j.cs.length:=by rw[JV.len];exact a06 _
  have sp:∀a b c d e:AV,splice [a,b,c,d,e] 0 j.cs=j.cs:=fun a b c d e=>by simp[splice,jl]
  have ok1:Ok (Y++[.cells j.cs FZ]):=hτ.plus (by rw[a88,show AO.below 0 (.cells j.cs FZ)=true from j.bel];rfl)
  have hL:Y[o]?=some (yV L):=by
   have:(Y.take O.length)[o]?=some (yV L):=by rw[ht];simp[ho]
   rw[au7]at this;rwa[if_pos ho]at this
  obtain⟨b,L',q,hq⟩:=IH j hj (IntKind.i64.wrap (nested-1)) L _ o ok1 h0 h8 (aA hL _);rw[dJ hL]at q;have t2:(Y.set o (yV L')++[AO.cells j.cs FZ]:St).take O.length=O.set o (yV L'):=by
   rw[qW _ _ _ (by simpa using hl),List.take_set,ht,ax4]
  have g1:=fun L=>fG (rfl:Y.length=_) L;have s1:=fun L y=>sN (rfl:Y.length=_) L y;unfold JV.av at q;cases b with
  |false=>
   refine⟨L',_,t2,.inr ?_⟩;rw[aG (he:=rfl)];simp only[jr,h,h2,p2,d2,sl,q,g1,s1,jl,jf,jt,je,jt',sp,a81,AV.cells,EVX,seval]
  |true=>
   obtain⟨q1,q2,q3⟩:=hq rfl;obtain⟨L2,Y',e1,e2⟩:=adf is hn IH nested o O ho n (i+1) (by omega) L' _ ((hτ.set o rfl).plus (by rw[a88,show AO.below 0 (.cells j.cs FZ)=true from j.bel];rfl)) q1 (by omega) (by simp;omega) t2
   refine⟨L2,Y',e1,?_⟩;have hs:∀r,aH C (ai C) 47 [1,2,34,35,36] jr [(1,.int .i64 nested),(2,.ref o 0),(34,.sl is.length (aJ is)),(35,.int .i64 is.length),(36,.int .i64 (i+1:Nat))] (Y.set o (yV L')++[AO.cells j.cs FZ])=r->aH C (ai C) 47 [1,2,34,35,36] jr [(1,.int .i64 nested),(2,.ref o 0),(34,.sl is.length (aJ is)),(35,.int .i64 is.length),(36,.int .i64 i)] Y=r:=fun r e=>by
    rw[aG (he:=rfl)];generalize hk:aH C (ai C) 47 [1,2,34,35,36] jr=kk at*;simp only[jr,h,h2,w2,p2,d2,sl,q,g1,s1,e,jl,jf,jt,je,jt',sp,a81,AV.cells,EVX,seval]
   rcases e2 with⟨e2,e3,e4,e5⟩|e2
   ·refine .inl ⟨hs _ e2,e3,?_,?_⟩
    ·rw[dn,av3,MG];omega
    ·rw[dn,av3];exact⟨q3,e5⟩
   ·exact .inr (hs _ e2)
def JV.mk_lt(k n:Int)(t:LU)(ns:List LU)(is:List JV)(h1:ns.length<=is.length)(h3:k=5->is.length<=ns.length)(h2:is.length<=8192)(h4:StB t ns)(x:JV)(hx:x∈is):SizeOf.sizeOf x.w<SizeOf.sizeOf (JV.mk k n t ns is h1 h3 h2 h4).w:=by
 show SizeOf.sizeOf x.w<SizeOf.sizeOf (JW.mk k n t ns (is.map (·.w)));have:SizeOf.sizeOf x.w<SizeOf.sizeOf (is.map (·.w)):=List.sizeOf_lt_of_mem (List.mem_map_of_mem hx);simp;omega
def RU(H:GU C PK):∀(m:Nat) (j:JV),SizeOf.sizeOf j.w<m->aox C j
 |0,j,hm=>absurd hm (by omega)
 |m+1,j,hm=>by
  intro nested L O o hσ h0 h8 hL;obtain⟨k,n,t,ns,is,h1,h3,h2,h4,rfl⟩:=j.ex;have IH:∀x∈is,aox C x:=fun x hx=>RU H m x (by have:=JV.mk_lt k n t ns is h1 h3 h2 h4 x hx;omega)
  have ho:o<O.length:=(a00.mp hL).1;have w1:IntKind.i64.wrap (L-1)=L-1:=wrE (by omega)
  have hn:hand false [(JV.mk k n t ns is h1 h3 h2 h4).av,.int .i64 nested,.ref o 0] O=some ([(JV.mk k n t ns is h1 h3 h2 h4).av,.int .i64 nested,.ref o 0],O):=by
   rw[oW,aK,(JV.nv _).nf,aK,aK];rfl
  have okp:Ok (O.set o (yV (L-1))++[.cells (JV.mk k n t ns is h1 h3 h2 h4).cs FZ]):=(hσ.set o rfl).plus (by rw[a88,show AO.below 0 (.cells (JV.mk k n t ns is h1 h3 h2 h4).cs FZ)=true from JV.bel _];rfl)
  obtain⟨v,pe,pb⟩:=aie H k n t ns is h1 h3 h2 h4 _ okp;have ty:=fun(q:Bool) L' L=>J6 hσ o (x:=yV L') rfl [.bool q] rfl L;have ca:(JV.mk k n t ns is h1 h3 h2 h4).av=.agg [.int .u8 k,.int .i64 n,.str t,.sl ns.length (ns.map .str),.sl is.length (aJ is)]:=by unfold JV.av;rw[JV.mk_cs]
  have gl:=fun L' L=>aA (bg hL (yV L')) L;have g0:=fun L=>aA hL L;have p0:=fun L y=>dJ hL L y;have tk:=fun(q:Bool) S L' (h:List.take O.length S=O.set o (yV L'))=>zX (vs:=[.bool q]) hσ (x:=yV L') rfl rfl h;have lp:=adf is h2 IH nested o O ho is.length 0 (by omega) (L-1)
  rw[JV.mk_cs]at okp;rw[ca,JV.mk_cs]at pe;rw[ca]at hn;rw[ca,H.may.go hn];have tp:(O.set o (yV (L-1))++[AO.cells [.int .u8 k,.int .i64 n,.str t,.sl ns.length (ns.map .str),.sl is.length (aJ is)] FZ]:St).take O.length=O.set o (yV (L-1)):=by
   rw[av7 (by simp),a08 (by simp)]
  dsimp only[yV]at*;by_cases hz:L-1<0
  ·exact⟨false,L-1,by simp only[mW,hz,w1,g0,p0,gl,ty,AV.cells,AV.flat,splice,EVX,seval],fun h=>by cases h⟩
  obtain⟨b,rfl,hb⟩:=pb;cases b with
  |false=>exact⟨false,L-1,by simp only[mW,hz,pe,w1,g0,p0,gl,ty,AV.cells,AV.flat,splice,kU,EVX,seval],fun h=>by cases h⟩
  |true=>
  obtain⟨b1,b2,b3⟩:=hb rfl;have gd:∀(c:Nat),Xa (is.map (·.w))->MG (is.map (·.w))=c->(JV.mk k n t ns is h1 h3 h2 h4).w.cnt=c+1/\(JV.mk k n t ns is h1 h3 h2 h4).w.Good:=fun c hg hc=>by
   refine⟨?_,⟨b1,b2,fun x y=>?_⟩,hg⟩
   ·show MG (is.map (·.w))+1=_;rw[hc]
   ·rw[b3 x y];rfl
  have fin:k≠4->k≠5->0<=L-1/\((JV.mk k n t ns is h1 h3 h2 h4).w.cnt:Int)+(L-1)<=L/\(JV.mk k n t ns is h1 h3 h2 h4).w.Good:=fun x y=>by
   obtain⟨e1,e2⟩:=gd 0 (by rw[b3 x y];trivial) (by rw[b3 x y];rfl)
   rw[e1];exact⟨by omega,by omega,e2⟩
  by_cases k4:k=4
  ·subst k4;cases hN:(nested==0)with
   |true=>exact⟨false,L-1,by simp only[mW,hz,pe,hN,w1,g0,p0,gl,ty,AV.cells,AV.flat,splice,kU,EVX,seval],fun h=>by cases h⟩
   |false=>
   obtain⟨L2,Y',t',q⟩:=lp _ okp (by omega) (by omega) (by simp) tp
   simp only[at6,au0]at q;rcases q with⟨q,q1,q2,q3⟩|q
   ·have tq:=tk true _ _ t';obtain⟨e1,e2⟩:=gd _ q3 rfl;refine⟨true,L2,by simp only[mW,hz,pe,hN,q,tq,w1,g0,p0,gl,AV.cells,AV.flat,splice,kU,EVX,seval],fun _=>⟨q1,by rw[e1];omega,e2⟩⟩
   ·have tq:=tk false _ _ t';exact⟨false,L2,by simp only[mW,hz,pe,hN,q,tq,w1,g0,p0,gl,AV.cells,AV.flat,splice,kU,EVX,seval],fun h=>by cases h⟩
  by_cases k5:k=5
  ·subst k5;cases hN:(nested==0)with
   |true=>exact⟨false,L-1,by simp only[mW,hz,pe,hN,w1,g0,p0,gl,ty,AV.cells,AV.flat,splice,kU,EVX,seval],fun h=>by cases h⟩
   |false=>
   obtain⟨L2,Y',t',q⟩:=lp _ okp (by omega) (by omega) (by simp) tp
   simp only[at6,au0]at q;rcases q with⟨q,q1,q2,q3⟩|q
   ·have tq:=tk true _ _ t';obtain⟨e1,e2⟩:=gd _ q3 rfl;refine⟨true,L2,by simp only[mW,hz,pe,hN,q,tq,w1,g0,p0,gl,AV.cells,AV.flat,splice,kU,EVX,seval],fun _=>⟨q1,by rw[e1];omega,e2⟩⟩
   ·have tq:=tk false _ _ t';exact⟨false,L2,by simp only[mW,hz,pe,hN,q,tq,w1,g0,p0,gl,AV.cells,AV.flat,splice,kU,EVX,seval],fun h=>by cases h⟩
  have n4:(k !=4)=true:=by simpa using k4
  have n5:(k !=5)=true:=by simpa using k5
  exact⟨true,L-1,by simp only[mW,hz,pe,n4,n5,w1,g0,p0,gl,ty,AV.cells,AV.flat,splice,kU,EVX,seval],fun _=>fin k4 k5⟩
def RS(H:GU C PK)(j:JV)(O:St)(hσ:Ok O):∃b:Bool,ai C Bg [j.av] O=some (.bool b,O)/\(b=true->j.w.cnt<=8192/\j.w.Good):=by
 have ok1:Ok (O++[.cells j.cs FZ,yV 8192]):=hσ.plus (by rw[a88,show AO.below 0 (.cells j.cs FZ)=true from j.bel];rfl)
 obtain⟨b,L',q,hq⟩:=RU H _ j (Nat.lt_succ_self _) 12 8192 _ (O.length+1) ok1 (by omega) (by omega) (by rw[dM];rfl)
 refine⟨b,?_,fun h=>?_⟩
 ·have hn:hand false [j.av] O=some ([j.av],O):=NVs.hand (.cons j.nv .nil) _;have ty:=fun(q:Bool)=>dE hσ (vs:=[.bool q]) rfl;have jl:=JV.len j;have jt':j.cs.take 5=j.cs:=a08 (by rw[JV.len];exact a06 _)
  have je':5<=j.cs.length:=by rw[JV.len];exact a06 _
  unfold JV.av at*;dsimp only[yV]at*;rw[H.May.go hn];simp only[TV,q,jl,jt',ty,AV.cells,splice,EVX,seval]
 ·obtain⟨h1,h2,h3⟩:=hq h;exact⟨by omega,h3⟩
def bT:Fz:=⟨false,some (254,true)⟩
def uT:Fz:=⟨false,some (5,false)⟩
structure BldHas(C:Ctx):Prop where
 copy0:∀(O:St) (o:Nat) (b:AV),O[o]?=some (.cells [.nilp,b] bT)->ai C jk [.ref o 0] O=some (.undef,O.set o (.cells [.ref o 0,b] bT))
 copy1:∀(O:St) (o:Nat) (b:AV),O[o]?=some (.cells [.ref o 0,b] bT)->ai C jk [.ref o 0] O=some (.undef,O)
 str0:∀(O:St) (o:Nat) (p:AV),O[o]?=some (.cells [p,.nils] bT)->ai C iG [.ref o 0] O=some (.str [],O)
 str1:∀(O:St) (o q:Nat) (p:AV) (w:LU),O[o]?=some (.cells [p,.msl q 0 w.length 1] bT)->O[q]?=some (.cells (ofBytes w) uT)->w≠[]->w.length<=1099511627776->ai C iG [.ref o 0] O=some (.str w,O.set q .dead)
 wstr:Has C rE kZ
 wbyte:Has C gq ui
def Bk(Y:St)(o:Nat)(w:LU)(qo:Option Nat):Prop:=∃p b,Y[o]?=some (.cells [p,b] bT)/\(p=.nilp\/p=.ref o 0)/\((qo=none/\w=[]/\b=.nils)\/∃q,qo=some q/\q≠o/\w≠[]/\b=.msl q 0 w.length 1/\Y[q]?=some (.cells (ofBytes w) uT))
structure TrB(o:Nat)(Y:St)(qo:Option Nat)(Y':St)(qo':Option Nat):Prop where
 ok:Ok Y'
 len:Y.length<=Y'.length
 old:∀i x,i≠o->qo≠some i->Y[i]?=some x->Y'[i]?=some x
 q:∀i,qo'=some i->qo=some i\/Y.length<=i
def TrB.refl{o:Nat}{Y:St}{qo:Option Nat}(h:Ok Y):TrB o Y qo Y qo:=⟨h,a06 _,fun _ _ _ _ h=>h,fun _ h=>.inl h⟩
def TrB.trans{o:Nat}{Y Y1 Y2:St}{qo q1 q2:Option Nat}(h:TrB o Y qo Y1 q1)(k:TrB o Y1 q1 Y2 q2):TrB o Y qo Y2 q2 where
 ok:=k.ok
 len:=ax7 h.len k.len
 old:=fun i x hi hq hx=>k.old i x hi (fun e=>by
  rcases h.q i e with e|e
  ·exact hq e
  ·have:=(a00.mp hx).1;omega) (h.old i x hi hq hx)
 q:=fun i e=>by
  rcases k.q i e with e|e
  ·exact h.q i e
  ·have:=h.len;exact .inr (by omega)
def TrB.plus{o:Nat}{Y:St}{qo:Option Nat}(h:Ok Y){L:St}(hL:L.all (AO.below (Y.length+L.length))=true):TrB o Y qo (Y++L) qo:=⟨h.app hL,by simp,fun _ _ _ _ hx=>aA hx L,fun _ e=>.inl e⟩
def Bk.plus{o:Nat}{Y:St}{qo:Option Nat}{w:LU}(h:Bk Y o w qo)(L:St):Bk (Y++L) o w qo:=by
 obtain⟨p,b,h1,h2,h3⟩:=h;refine⟨p,b,aA h1 L,h2,?_⟩;rcases h3 with h3|⟨q,e1,e2,e3,e4,e5⟩
 ·exact .inl h3
 ·exact .inr ⟨q,e1,e2,e3,e4,aA e5 L⟩
def Bk.lt{o:Nat}{Y:St}{qo:Option Nat}{w:LU}(h:Bk Y o w qo):o<Y.length:=by
 obtain⟨p,b,h1,h2,h3⟩:=h;exact(a00.mp h1).1
def Bk.qlt{o:Nat}{Y:St}{qo:Option Nat}{w:LU}(h:Bk Y o w qo){i:Nat}(e:qo=some i):i<Y.length:=by
 obtain⟨p,b,h1,h2,h3⟩:=h;rcases h3 with⟨h3,_⟩|⟨q,e1,e2,e3,e4,e5⟩
 ·rw[h3]at e;cases e
 ·rw[e1]at e;cases e;exact(a00.mp e5).1
def VJ{o:Nat}{Y S:St}{qo qo':Option Nat}{w:LU}(vs:LA)(ho:o<Y.length)(h:TrB o Y qo S qo')(b:Bk S o w qo'):TrB o Y qo (tidy Y.length vs S) qo'/\Bk (tidy Y.length vs S) o w qo':=by
 unfold tidy;split
 ·exact⟨h,b⟩
 split
 ·rename_i hc;rw[a01]at hc;have hl:(S.take Y.length).length=Y.length:=by
   have:=h.len;simp;omega
  have hg:∀i,i<Y.length->(S.take Y.length)[i]?=S[i]?:=fun i hi=>by rw[au7,if_pos hi]
  obtain⟨p,c,h1,h2,h3⟩:=b;refine⟨⟨?_,by rw[hl];exact a06 _,fun i x hi hq hx=>?_,h.q⟩,p,c,by rw[hg _ ho];exact h1,h2,?_⟩
  ·unfold Ok;rw[hl];exact hc.2
  ·rw[hg _ (a00.mp hx).1];exact h.old i x hi hq hx
  ·rcases h3 with h3|⟨q,e1,e2,e3,e4,e5⟩
   ·exact .inl h3
   ·refine .inr ⟨q,e1,e2,e3,e4,?_⟩;have hb:=a90.mp hc.2 (.cells [p,c] bT) (a94 (by rw[hg _ ho];exact h1))
    have:q<Y.length:=by
     rw[e4]at hb;simp only[AO.below,ae,below,a01,decide_eq_true_eq]at hb;exact hb.2.1
    rw[hg _ this];exact e5
 ·exact⟨h,b⟩
def afY(H:BldHas C){o:Nat}{Y:St}{w:LU}{qo:Option Nat}(hτ:Ok Y)(hb:Bk Y o w qo):∃b Y1,ai C jk [.ref o 0] Y=some (.undef,Y1)/\Y1[o]?=some (.cells [.ref o 0,b] bT)/\Y1.length=Y.length/\Ok Y1/\(∀i x,i≠o->Y[i]?=some x->Y1[i]?=some x)/\((qo=none/\w=[]/\b=.nils)\/∃q,qo=some q/\q≠o/\w≠[]/\b=.msl q 0 w.length 1/\Y1[q]?=some (.cells (ofBytes w) uT)):=by
 have ho:=hb.lt;obtain⟨p,b,h1,h2,h3⟩:=hb;rcases h2 with rfl|rfl
 ·refine⟨b,_,H.copy0 Y o b h1,bg h1 _,by simp,?_,fun i x hi hx=>aF hx hi _,?_⟩
  ·refine hτ.set2 o ?_;have:=a90.mp hτ _ (a94 h1);simp only[AO.below,ae,below,aw7,a01,decide_eq_true_eq]at this⊢;exact⟨ho,this.2⟩
  ·rcases h3 with h3|⟨q,e1,e2,e3,e4,e5⟩
   ·exact .inl h3
   ·exact .inr ⟨q,e1,e2,e3,e4,aF e5 e2 _⟩
 ·exact⟨b,Y,H.copy1 Y o b h1,h1,rfl,hτ,fun _ _ _ h=>h,h3⟩
def aiX {o:Nat} {Y:St} {w cs:LU} {b:AV} {qo:Option Nat} (hτ:Ok Y) (h0:Y[o]?=some (.cells [.ref o 0,b] bT)) (h3:(qo=none/\w=[]/\b=.nils)\/∃q,qo=some q/\q≠o/\w≠[]/\b=.msl q 0 w.length 1/\Y[q]?=some (.cells (ofBytes w) uT)) (hc:cs≠[]) (hl:w.length+cs.length<=1099511627776):
  ∃S:St,rO Y 1 1 (some (5,false)) b cs.length (ofBytes cs)=some (.msl Y.length 0 (w++cs).length 1,S++[.cells (ofBytes (w++cs)) uT])/\S.length=Y.length/\S[o]?=some (.cells [.ref o 0,b] bT)/\(∀i x,qo≠some i->Y[i]?=some x->S[i]?=some x)/\Ok S:=by
 have hm:¬cs.length=0:=fun e=>hc (au5 e);rcases h3 with⟨rfl,rfl,rfl⟩|⟨q,rfl,e2,e3,rfl,e5⟩
 ·refine⟨Y,?_,rfl,h0,fun _ _ _ h=>h,hτ⟩;rw[GV _ _ (ofBytes cs) hm (by simp at hl;omega) (by simp at hl;omega)]
  rfl
 ·refine⟨Y.set q .dead,?_,by simp,aF h0 (fun e=>e2 e.symm) _,fun i x hi hx=>aF hx (fun e=>hi (by rw[e])) _,hτ.set2 q rfl⟩
  unfold rO;rw[if_neg hm];simp only[e5];rw[if_pos ⟨trivial,by rw[aI];omega,by omega,by omega⟩,JD,a04]
  rfl
def Gy (H:BldHas C) {o:Nat} {Y:St} {w:LU} {qo:Option Nat} (s:LU) (hτ:Ok Y) (hb:Bk Y o w qo) (hl:w.length+s.length<=1099511627776):
  ∃Y' qo',ai C rE [.ref o 0,.str s] Y=some (.tup [.int .i64 s.length,.nilIface],Y')/\Bk Y' o (w++s) qo'/\TrB o Y qo Y' qo':=by
 have ho:=hb.lt;obtain⟨b,Y1,c1,c2,c3,c4,c5,c6⟩:=afY H hτ hb;have hn:hand false [.ref o 0,.str s] Y=some ([.ref o 0,.str s],Y):=rfl;rw[H.wstr.go hn];by_cases hs:s=[]
 ·subst hs;have an:rO Y1 1 1 (some (5,false)) b 0 []=some (b,Y1):=by
   rcases c6 with⟨_,_,rfl⟩|⟨q,_,_,_,rfl,_⟩<;>rfl
  have ty:=zW Y1 [.int .i64 0,.nilIface];rw[c3]at ty;have ss:=set_self c2;have fb:b.flat=true:=by rcases c6 with⟨_,_,rfl⟩|⟨q,_,_,_,rfl,_⟩<;>rfl
  refine⟨Y1,qo,?_,?_,c4,by rw[c3];exact a06 _,fun i x hi _ hx=>c5 i x hi hx,fun i e=>.inl e⟩
  ·dsimp only[bT]at*;rcases c6 with⟨_,_,rfl⟩|⟨q,_,_,_,rfl,_⟩<;>simp only[kZ,c1,c2,an,ty,ss,splice,ofBytes,List.map_nil,a09,AV.flat,AV.cells,EVX,seval]
  ·rw[au6];exact⟨_,b,c2,.inr rfl,c6⟩
 ·obtain⟨S,a1,a2,a3,a4,a5⟩:=aiX c4 c2 c6 hs hl;have fl:=vH s;rw[c3]at a1;have sp:=fun L y=>dJ a3 L y;have sg:=fun L=>aA a3 L;have okS:Ok (S.set o (.cells [.ref o 0,.msl Y.length 0 (w++s).length 1] bT)++[.cells (ofBytes (w++s)) uT]):=by
   have:=(Ok.app a5 (l:=[.cells (ofBytes (w++s)) uT]) (by simp[AO.below,jG])).set2 o (x:=.cells [.ref o 0,.msl Y.length 0 (w++s).length 1] bT) (by
    simp only[AO.below,ae,below,aw7,a01,decide_eq_true_eq,a04,a07,a09];omega)
   rwa[sp]at this
  have bkS:Bk (S.set o (.cells [.ref o 0,.msl Y.length 0 (w++s).length 1] bT)++[.cells (ofBytes (w++s)) uT]) o (w++s) (some Y.length):=by
   refine⟨_,_,aA (bg a3 _) _,.inr rfl,.inr ⟨_,rfl,by omega,by simp[hs],rfl,?_⟩⟩
   rw[fG (by simp[a2,c3])];rfl
  have trS:TrB o Y qo (S.set o (.cells [.ref o 0,.msl Y.length 0 (w++s).length 1] bT)++[.cells (ofBytes (w++s)) uT]) (some Y.length):=by
   refine⟨okS,by simp[a2,c3],fun i x hi hq hx=>aA (aF (a4 i x hq (c5 i x hi hx)) hi _) _,fun i e=>.inr ?_⟩
   cases e;exact a06 _
  obtain⟨t1,t2⟩:=VJ [.int .i64 s.length,.nilIface] ho trS bkS;refine⟨_,_,?_,t2,t1⟩;dsimp only[bT,uT]at*;simp only[kZ,c1,c2,a1,sp,sg,fl,splice,AV.flat,AV.cells,EVX,seval]
def vM (H:BldHas C) {o:Nat} {Y:St} {w:LU} {qo:Option Nat} (c:UInt8) (hτ:Ok Y) (hb:Bk Y o w qo) (hl:w.length+1<=1099511627776):
  ∃Y' qo',ai C gq [.ref o 0,.int .u8 c.toNat] Y=some (.nilIface,Y')/\Bk Y' o (w++[c]) qo'/\TrB o Y qo Y' qo':=by
 have ho:=hb.lt;obtain⟨b,Y1,c1,c2,c3,c4,c5,c6⟩:=afY H hτ hb;have hn:hand false [.ref o 0,.int .u8 c.toNat] Y=some ([.ref o 0,.int .u8 c.toNat],Y):=rfl;rw[H.wbyte.go hn];obtain⟨S,a1,a2,a3,a4,a5⟩:=aiX (cs:=[c]) c4 c2 c6 (by simp) hl
 rw[c3]at a1;have sp:=fun L y=>dJ a3 L y;have sg:=fun L=>aA a3 L;have okS:Ok (S.set o (.cells [.ref o 0,.msl Y.length 0 (w++[c]).length 1] bT)++[.cells (ofBytes (w++[c])) uT]):=by
  have:=(Ok.app a5 (l:=[.cells (ofBytes (w++[c])) uT]) (by simp[AO.below,jG])).set2 o (x:=.cells [.ref o 0,.msl Y.length 0 (w++[c]).length 1] bT) (by
   simp only[AO.below,ae,below,aw7,a01,decide_eq_true_eq,a04,a07,a09];omega)
  rwa[sp]at this
 have bkS:Bk (S.set o (.cells [.ref o 0,.msl Y.length 0 (w++[c]).length 1] bT)++[.cells (ofBytes (w++[c])) uT]) o (w++[c]) (some Y.length):=by
  refine⟨_,_,aA (bg a3 _) _,.inr rfl,.inr ⟨_,rfl,by omega,by simp,rfl,?_⟩⟩
  rw[fG (by simp[a2,c3])];rfl
 have trS:TrB o Y qo (S.set o (.cells [.ref o 0,.msl Y.length 0 (w++[c]).length 1] bT)++[.cells (ofBytes (w++[c])) uT]) (some Y.length):=by
  refine⟨okS,by simp[a2,c3],fun i x hi hq hx=>aA (aF (a4 i x hq (c5 i x hi hx)) hi _) _,fun i e=>.inr ?_⟩
  cases e;exact a06 _
 obtain⟨t1,t2⟩:=VJ [.nilIface] ho trS bkS;refine⟨_,_,?_,t2,t1⟩;have o1:ofBytes [c]=[.int .u8 c.toNat]:=rfl;have l1:[c].length=1:=rfl;dsimp only[bT,uT]at*;rw[o1,l1]at a1;simp only[ui,c1,c2,a1,sp,sg,splice,AV.flat,AV.cells,EVX,seval]
structure NJ(C:Ctx):Prop extends BldHas C where
 quote:∀s:LU,s.length<=4096->∀O,Ok O->∃(q:LU) (e:Int),ai C FP [.str s] O=some (.tup [.str q,.int .i64 e],O)/\q.length<=65536
 num:∀n O,Ok O->∃s:LU,ai C Ot [.int .i64 n] O=some (.str s,O)/\s.length<=64
 enc:Has C iE yC
 enc1:Has C uX F6
 enc2:Has C qI iZ
def acD (H:NJ C) {o:Nat} {Y:St} {w:LU} {qo:Option Nat} (s:LU) (hs:s.length<=4096) (hτ:Ok Y) (hb:Bk Y o w qo) (hl:w.length+65536<=1099511627776):
  ∃Y' w' qo',ai C uX [.str s,.ref o 0] Y=some (bD [],Y')/\Bk Y' o w' qo'/\TrB o Y qo Y' qo'/\w'.length<=w.length+65536:=by
 obtain⟨q,e,q1,q2⟩:=H.quote s hs Y hτ;obtain⟨S,q',r1,r2,r3⟩:=Gy H.toBldHas q hτ hb (by omega)
 have hn:hand false [.str s,.ref o 0] Y=some ([.str s,.ref o 0],Y):=rfl;obtain⟨t1,t2⟩:=VJ [] hb.lt r3 r2;refine⟨_,_,q',?_,t2,t1,by rw[a04];omega⟩
 rw[H.enc1.go hn];simp only[F6,q1,r1,EVX,seval]
structure WE(o a b:Nat)(Y:St)(qo:Option Nat):Prop where
 na:a≠o
 nb:b≠o
 qa:qo≠some a
 qb:qo≠some b
 ca:Y[a]?=some (.cells [.func (.func uX) [] [.ref o 0]] FZ)
 cb:Y[b]?=some (.cells [.func (.func qI) [] [.ref o 0,.ref a 0,.ref b 0]] FZ)
def TrB.qn{o i:Nat}{Y Y':St}{qo qo':Option Nat}(t:TrB o Y qo Y' qo')(hi:i<Y.length)(h:qo≠some i):qo'≠some i:=fun e=>by
 rcases t.q _ e with e|e
 ·exact h e
 ·omega
def WE.step{o a b:Nat}{Y Y':St}{qo qo':Option Nat}(h:WE o a b Y qo)(t:TrB o Y qo Y' qo'):WE o a b Y' qo':=
 ⟨h.na,h.nb,t.qn (a00.mp h.ca).1 h.qa,t.qn (a00.mp h.cb).1 h.qb,t.old _ _ h.na h.qa h.ca,t.old _ _ h.nb h.qb h.cb⟩
def am5(C:Ctx)(j:JV):Prop:=∀(o a b:Nat) (Y:St) (w:LU) (qo:Option Nat),Ok Y->Bk Y o w qo->WE o a b Y qo->j.w.Good->w.length+j.w.cnt*131076<=1099511627776+65538->
 ∃Y' w' qo',ai C qI [j.av,.ref o 0,.ref a 0,.ref b 0] Y=some (bD [],Y')/\Bk Y' o w' qo'/\TrB o Y qo Y' qo'/\w'.length+65538<=w.length+j.w.cnt*131076
def ag6:∀j:JW,1<=j.cnt
 |.mk _ _ _ _ is=>by
  show 1<=MG is+1;omega
def acC (H:NJ C) (is:List JV) (hn:is.length<=8192) (IH:∀j∈is,am5 C j) (o a b:Nat):∀(n i:Nat),i+n=is.length->∀(Y:St) (w:LU) (qo:Option Nat),Ok Y->Bk Y o w qo->WE o a b Y qo->Xa ((is.drop i).map (·.w))->w.length+MG ((is.drop i).map (·.w))*131076<=1099511627776->
  ∃Y' w' qo',aH C (ai C) 76 [1,3,34,35,36] gG [(1,.ref o 0),(3,.ref b 0),(34,.sl is.length (aJ is)),(35,.int .i64 is.length),(36,.int .i64 i)] Y=some (.exit 1,[(1,.ref o 0)],Y')/\Bk Y' o w' qo'/\TrB o Y qo Y' qo'/\w'.length<=w.length+MG ((is.drop i).map (·.w))*131076
 |0,i,hi,Y,w,qo,hτ,hb,hw,hg,hl=>by
  refine⟨Y,w,qo,?_,hb,.refl hτ,by omega⟩
  rw[aG (he:=rfl)];have h:¬((i:Int)<(is.length:Int)):=by omega
  simp only[gG,h,EVX,seval]
 |n+1,i,hi,Y,w,qo,hτ,hb,hw,hg,hl=>by
  have h:((i:Int)<(is.length:Int)):=by omega
  have h2:i<is.length:=by omega
  have w2:=wrS i (by omega)
  have p2:(0:Int)<=(i:Int):=by omega
  have d2:=xX is i h2;have sl:=jK is;have hj:is[i]∈is:=az1 h2;have dn:is.drop i=is[i]::is.drop (i+1):=as9 h2;generalize is[i]=j at*;generalize aJ (is.drop (i+1))=R at*;rw[dn,av3]at hg hl⊢;obtain⟨g1,g2⟩:=hg;rw[MG]at hl⊢;have cp:=ag6 j.w;have jl:=JV.len j;have jf:=JV.flat j;have jt:(j.cs++R).take 5=j.cs:=by rw[<-jl];simp
  have je:5<=(j.cs++R).length:=by simp[jl]
  have jt':j.cs.take 5=j.cs:=a08 (by rw[JV.len];exact a06 _)
  have je':5<=j.cs.length:=by rw[JV.len];exact a06 _
  have sp:∀a b c d e:AV,splice [a,b,c,d,e] 0 j.cs=j.cs:=fun a b c d e=>by simp[splice,jl]
  have hL:([.cells j.cs FZ]:St).all (AO.below (Y.length+1))=true:=by
   simp only[a88,aw1,aw7,AO.below];exact aO (a98 _) _ j.bel
  have tr1:=TrB.plus (o:=o) (qo:=qo) hτ hL;have bk1:=hb.plus [.cells j.cs FZ];have we1:=hw.step tr1;have bx1:(Y++[AO.cells j.cs FZ]:St)[Y.length]?=some (.cells j.cs FZ):=by rw[fG rfl];rfl
  have s1:=fun L y=>sN (rfl:Y.length=_) L y;have ne:Y.length≠o:=by have:=hb.lt;omega
  have nq:qo≠some Y.length:=fun e=>by have:=hb.qlt e;omega
  have key:∃Y2 w2 q2,(if 0<(i:Int)then ai C gq [.ref o 0,.int .u8 44] (Y++[AO.cells j.cs FZ])=some (.nilIface,Y2)else Y2=Y++[AO.cells j.cs FZ])/\Bk Y2 o w2 q2/\TrB o (Y++[AO.cells j.cs FZ]) qo Y2 q2/\w2.length<=w.length+1:=by
   split
   ·obtain⟨Y2,q2,e1,e2,e3⟩:=vM H.toBldHas 44 tr1.ok bk1 (by omega)
    exact⟨Y2,_,q2,e1,e2,e3,by simp⟩
   ·exact⟨_,w,qo,rfl,bk1,.refl tr1.ok,by omega⟩
  obtain⟨Y2,w2',q2,k1,k2,k3,k4⟩:=key;have we2:=we1.step k3;have bx2:=k3.old _ _ ne nq bx1;obtain⟨Y3,w3,q3,e1,e2,e3,e4⟩:=IH j hj o a b Y2 w2' q2 k3.ok k2 we2 g1 (by omega)
  have we3:=we2.step e3;obtain⟨Y4,w4,q4,f1,f2,f3,f4⟩:=acC H is hn IH o a b n (i+1) (by omega) Y3 w3 q3 e3.ok e2 we3 g2 (by omega)
  refine⟨Y4,w4,q4,?_,f2,((tr1.trans k3).trans e3).trans f3,by omega⟩
  have cb:=we2.cb;unfold JV.av at e1;rw[aG (he:=rfl)];generalize hk:aH C (ai C) 76 [1,3,34,35,36] gG=kk at*;by_cases hz:0<(i:Int)
  ·rw[if_pos hz]at k1;simp only[gG,h,h2,w2,p2,d2,sl,hz,k1,e1,f1,cb,bx2,s1,jl,jf,jt,je,jt',sp,jV,a81,AV.cells,EVX,seval]
  ·rw[if_neg hz]at k1;subst k1;simp only[gG,h,h2,w2,p2,d2,sl,hz,e1,f1,cb,bx1,s1,jl,jf,jt,je,jt',sp,jV,a81,AV.cells,EVX,seval]
def agd (H:NJ C) (is:List JV) (ns:List LU) (hns:ns.length=is.length) (hnb:∀x∈ns,x.length<=4096) (hn:is.length<=8192) (IH:∀j∈is,am5 C j) (c0 c1 c2:AV) (o a b v0:Nat) (hv:v0≠o):∀(n i:Nat),i+n=is.length->∀(Y:St) (w:LU) (qo:Option Nat),Ok Y->Bk Y o w qo->WE o a b Y qo->qo≠some v0->Y[v0]?=some (.cells [c0,c1,c2,.sl ns.length (ns.map .str),.sl is.length (aJ is)] FZ)->Xa ((is.drop i).map (·.w))->w.length+MG ((is.drop i).map (·.w))*131076<=1099511627776->
  ∃Y' w' qo',aH C (ai C) 76 [1,2,3,4,53,54,55] iU [(1,.ref o 0),(2,.ref a 0),(3,.ref b 0),(4,.ref v0 0),(53,.sl is.length (aJ is)),(54,.int .i64 is.length),(55,.int .i64 i)] Y=some (.exit 3,[(1,.ref o 0)],Y')/\Bk Y' o w' qo'/\TrB o Y qo Y' qo'/\w'.length<=w.length+MG ((is.drop i).map (·.w))*131076
 |0,i,hi,Y,w,qo,hτ,hb,hw,_,_,hg,hl=>by
  refine⟨Y,w,qo,?_,hb,.refl hτ,by omega⟩
  rw[aG (he:=rfl)];have h:¬((i:Int)<(is.length:Int)):=by omega
  simp only[iU,h,EVX,seval]
 |n+1,i,hi,Y,w,qo,hτ,hb,hw,qv,hv0,hg,hl=>by
  have h:((i:Int)<(is.length:Int)):=by omega
  have h2:i<is.length:=by omega
  have h2n:i<ns.length:=by omega
  have w2:=wrS i (by omega)
  have p2:(0:Int)<=(i:Int):=by omega
  have d2:=xX is i h2;have dr:=X9 ns i h2n;have sl:=jK is;have sn:(ns.map AV.str).length=ns.length:=by simp
  have hj:is[i]∈is:=az1 h2;have hx:ns[i].length<=4096:=hnb _ (az1 h2n);have dn:is.drop i=is[i]::is.drop (i+1):=as9 h2;generalize is[i]=j at*;generalize ns[i]=x at*;generalize hR:aJ (is.drop (i+1))=R at*;rw[dn,av3]at hg hl⊢;obtain⟨g1,g2⟩:=hg;rw[MG]at hl⊢;have cp:=ag6 j.w;have jl:=JV.len j;have jf:=JV.flat j;have jt:(j.cs++R).take 5=j.cs:=by rw[<-jl];simp
  have je:5<=(j.cs++R).length:=by simp[jl]
  have jt':j.cs.take 5=j.cs:=a08 (by rw[JV.len];exact a06 _)
  have je':5<=j.cs.length:=by rw[JV.len];exact a06 _
  have sp:∀a b c d e:AV,splice [a,b,c,d,e] 0 j.cs=j.cs:=fun a b c d e=>by simp[splice,jl]
  have hL:([.cells j.cs FZ]:St).all (AO.below (Y.length+1))=true:=by
   simp only[a88,aw1,aw7,AO.below];exact aO (a98 _) _ j.bel
  have tr1:=TrB.plus (o:=o) (qo:=qo) hτ hL;have bk1:=hb.plus [.cells j.cs FZ];have we1:=hw.step tr1;have bx1:(Y++[AO.cells j.cs FZ]:St)[Y.length]?=some (.cells j.cs FZ):=by rw[fG rfl];rfl
  have s1:=fun L y=>sN (rfl:Y.length=_) L y;have ne:Y.length≠o:=by have:=hb.lt;omega
  have nq:qo≠some Y.length:=fun e=>by have:=hb.qlt e;omega
  have vl:v0<Y.length:=(a00.mp hv0).1;have key:∃Y2 w2 q2,(if 0<(i:Int)then ai C gq [.ref o 0,.int .u8 44] (Y++[AO.cells j.cs FZ])=some (.nilIface,Y2)else Y2=Y++[AO.cells j.cs FZ])/\Bk Y2 o w2 q2/\TrB o (Y++[AO.cells j.cs FZ]) qo Y2 q2/\w2.length<=w.length+1:=by
   split
   ·obtain⟨Y2,q2,e1,e2,e3⟩:=vM H.toBldHas 44 tr1.ok bk1 (by omega)
    exact⟨Y2,_,q2,e1,e2,e3,by simp⟩
   ·exact⟨_,w,qo,rfl,bk1,.refl tr1.ok,by omega⟩
  obtain⟨Y2,w2',q2,k1,k2,k3,k4⟩:=key;have we2:=we1.step k3;obtain⟨Y3,w3,q3,t1,t2,t3,t4⟩:=acD H x hx k3.ok k2 (by omega)
  have we3:=we2.step t3;obtain⟨Y4,q4,u1,u2,u3⟩:=vM H.toBldHas 58 t3.ok t2 (by omega)
  have we4:=we3.step u3;have T4:=(k3.trans t3).trans u3;have bx4:=T4.old _ _ ne nq bx1;have v2:=k3.old _ _ hv qv (tr1.old _ _ hv qv hv0);have qv4:=T4.qn (by simp;omega) qv
  have v4:=T4.old _ _ hv qv (tr1.old _ _ hv qv hv0);obtain⟨Y5,w5,q5,e1,e2,e3,e4⟩:=IH j hj o a b Y4 _ q4 u3.ok u2 we4 g1 (by rw[a04,a07,a09];omega)
  rw[a04,a07,a09]at e4;have we5:=we4.step e3;have v5:=e3.old _ _ hv qv4 v4;have qv5:=e3.qn (a00.mp v4).1 qv4;obtain⟨Y6,w6,q6,f1,f2,f3,f4⟩:=agd H is ns hns hnb hn IH c0 c1 c2 o a b v0 hv n (i+1) (by omega) Y5 w5 q5 e3.ok e2 we5 qv5 v5 g2 (by omega)
  refine⟨Y6,w6,q6,?_,f2,((tr1.trans T4).trans e3).trans f3,by omega⟩
  have ca:=we2.ca;have cb:=we4.cb;have q58:((58:UInt8).toNat:Int)=58:=rfl;rw[q58]at u1;unfold JV.av at e1;rw[aG (he:=rfl)];generalize hk:aH C (ai C) 76 [1,2,3,4,53,54,55] iU=kk at*;by_cases hz:0<(i:Int)
  ·rw[if_pos hz]at k1;simp only[iU,h,h2,h2n,w2,p2,d2,dr,sl,sn,hz,k1,t1,u1,e1,f1,ca,cb,bx4,v2,s1,jl,jf,jt,je,jt',sp,jV,a81,AV.cells,EVX,seval]
  ·rw[if_neg hz]at k1;subst k1;simp only[iU,h,h2,h2n,w2,p2,d2,dr,sl,sn,hz,t1,u1,e1,f1,ca,cb,bx4,v2,s1,jl,jf,jt,je,jt',sp,jV,a81,AV.cells,EVX,seval]
set_option maxHeartbeats 1000000 in
def Zf(H:NJ C):∀(m:Nat) (j:JV),SizeOf.sizeOf j.w<m->am5 C j
 |0,j,hm=>absurd hm (by omega)
 |m+1,j,hm=>by
  intro o a b Y w qo hτ hb hw hg hl;obtain⟨k,n,t,ns,is,h1,h3,h2,h4,rfl⟩:=j.ex;have IH:∀x∈is,am5 C x:=fun x hx=>Zf H m x (by have:=JV.mk_lt k n t ns is h1 h3 h2 h4 x hx;omega)
  have ho:=hb.lt;have hn:hand false [(JV.mk k n t ns is h1 h3 h2 h4).av,.ref o 0,.ref a 0,.ref b 0] Y=some ([(JV.mk k n t ns is h1 h3 h2 h4).av,.ref o 0,.ref a 0,.ref b 0],Y):=by
   rw[oW,aK,(JV.nv _).nf,aK,aK,aK];rfl
  have ca:(JV.mk k n t ns is h1 h3 h2 h4).av=.agg [.int .u8 k,.int .i64 n,.str t,.sl ns.length (ns.map .str),.sl is.length (aJ is)]:=by unfold JV.av;rw[JV.mk_cs]
  obtain⟨⟨g1,g2,g3⟩,g4⟩:(t.length<=4096/\(∀x∈ns,x.length<=4096)/\(k≠4->k≠5->is.map (fun x:JV=>x.w)=[]))/\Xa (is.map fun x:JV=>x.w):=hg;have ct:(JV.mk k n t ns is h1 h3 h2 h4).w.cnt=MG (is.map (·.w))+1:=rfl;rw[ct]at hl⊢;have hL:([.cells [.int .u8 k,.int .i64 n,.str t,.sl ns.length (ns.map .str),.sl is.length (aJ is)] FZ]:St).all (AO.below (Y.length+1))=true:=by
   have:=aO (a98 (Y.length+1)) _ (JV.bel (JV.mk k n t ns is h1 h3 h2 h4));rw[JV.mk_cs]at this;simp only[a88,aw1,aw7,AO.below];exact this
  have tr1:=TrB.plus (o:=o) (qo:=qo) hτ hL;have bk1:=hb.plus [.cells [.int .u8 k,.int .i64 n,.str t,.sl ns.length (ns.map .str),.sl is.length (aJ is)] FZ];have we1:=hw.step tr1;have bx:(Y++[AO.cells [.int .u8 k,.int .i64 n,.str t,.sl ns.length (ns.map .str),.sl is.length (aJ is)] FZ]:St)[Y.length]?=some (.cells [.int .u8 k,.int .i64 n,.str t,.sl ns.length (ns.map .str),.sl is.length (aJ is)] FZ):=by rw[fG rfl];rfl
  have s1:=fun L y=>sN (rfl:Y.length=_) L y;have ne:Y.length≠o:=by omega
  have nq:qo≠some Y.length:=fun e=>by have:=hb.qlt e;omega
  have gv:=we1.ca;suffices hh:∃(S:St) (w':LU) (q':Option Nat),Bk S o w' q'/\TrB o (Y++[.cells [.int .u8 k,.int .i64 n,.str t,.sl ns.length (ns.map .str),.sl is.length (aJ is)] FZ]) qo S q'/\w'.length+65538<=w.length+(MG (is.map fun x:JV=>x.w)+1)*131076/\ai C qI [(JV.mk k n t ns is h1 h3 h2 h4).av,.ref o 0,.ref a 0,.ref b 0] Y=some (bD [],tidy Y.length [] S) by
   obtain⟨S,w',q',x1,x2,x3,x4⟩:=hh;obtain⟨y1,y2⟩:=VJ [] ho (tr1.trans x2) x1;exact⟨_,_,_,x4,y2,y1,x3⟩
  rw[ca]at hn⊢;rw[H.enc2.go hn];by_cases k1:k=1
  ·subst k1;cases hN:(n==1)with
   |true=>
    obtain⟨S,q',r1,r2,r3⟩:=Gy H.toBldHas [116,114,117,101] tr1.ok bk1 (by simp;omega)
    exact⟨S,_,q',r2,r3,by simp;omega,by simp only[iZ,hN,r1,bx,AV.cells,EVX,seval]⟩
   |false=>
    obtain⟨S,q',r1,r2,r3⟩:=Gy H.toBldHas [102,97,108,115,101] tr1.ok bk1 (by simp;omega)
    exact⟨S,_,q',r2,r3,by simp;omega,by simp only[iZ,hN,r1,bx,AV.cells,EVX,seval]⟩
  by_cases k2:k=2
  ·subst k2;obtain⟨x,x1,x2⟩:=H.num n _ tr1.ok;obtain⟨S,q',r1,r2,r3⟩:=Gy H.toBldHas x tr1.ok bk1 (by omega)
   exact⟨S,_,q',r2,r3,by simp;omega,by simp only[iZ,x1,r1,bx,AV.cells,EVX,seval]⟩
  by_cases k3:k=3
  ·subst k3;obtain⟨S,w',q',r1,r2,r3,r4⟩:=acD H t g1 tr1.ok bk1 (by omega)
   exact⟨S,w',q',r2,r3,by omega,by simp only[iZ,r1,gv,bx,jV,AV.cells,a99,EVX,seval]⟩
  by_cases k4:k=4
  ·subst k4;obtain⟨S1,q1,r1,r2,r3⟩:=vM H.toBldHas 91 tr1.ok bk1 (by omega)
   obtain⟨S2,w2,q2,e1,e2,e3,e4⟩:=acC H is h2 IH o a b is.length 0 (by omega) S1 _ q1 r3.ok r2 (we1.step r3) g4 (by rw[a04,a07,a09,au0];omega)
   obtain⟨S3,q3,f1,f2,f3⟩:=vM H.toBldHas 93 e3.ok e2 (by rw[a04,a07,a09,au0]at e4;omega)
   rw[a04,a07,a09,au0]at e4;have bx1:=r3.old _ _ ne nq bx;rw[show(((91:UInt8).toNat:Nat):Int)=91 from rfl]at r1;rw[show(((93:UInt8).toNat:Nat):Int)=93 from rfl]at f1;simp only[at6]at e1;exact⟨S3,_,q3,f2,(r3.trans e3).trans f3,by rw[a04,a07,a09];omega,by simp only[iZ,r1,e1,f1,bx1,bx,AV.cells,bU,EVX,seval]⟩
  by_cases k5:k=5
  ·subst k5;have h5:=h3 rfl;obtain⟨S1,q1,r1,r2,r3⟩:=vM H.toBldHas 123 tr1.ok bk1 (by omega)
   have bx1:=r3.old _ _ ne nq bx;obtain⟨S2,w2,q2,e1,e2,e3,e4⟩:=agd H is ns (by omega) g2 h2 IH _ _ _ o a b Y.length ne is.length 0 (by omega) S1 _ q1 r3.ok r2 (we1.step r3) (r3.qn (by simp) nq) bx1 g4 (by rw[a04,a07,a09,au0];omega)
   rw[a04,a07,a09,au0]at e4;obtain⟨S3,q3,f1,f2,f3⟩:=vM H.toBldHas 125 e3.ok e2 (by omega)
   rw[show(((123:UInt8).toNat:Nat):Int)=123 from rfl]at r1;rw[show(((125:UInt8).toNat:Nat):Int)=125 from rfl]at f1;simp only[at6]at e1;exact⟨S3,_,q3,f2,(r3.trans e3).trans f3,by rw[a04,a07,a09];omega,by simp only[iZ,r1,e1,f1,bx1,bx,AV.cells,bU,EVX,seval]⟩
  have n1:(k==1)=false:=by simpa using k1
  have n2:(k==2)=false:=by simpa using k2
  have n3:(k==3)=false:=by simpa using k3
  have n4:(k==4)=false:=by simpa using k4
  have n5:(k==5)=false:=by simpa using k5
  exact⟨_,w,qo,bk1,.refl tr1.ok,by omega,by simp only[iZ,n1,n2,n3,n4,n5,bx,AV.cells,EVX,seval]⟩
def TrB.take{o n:Nat}{O Y S:St}{q':Option Nat}(h:TrB o Y none S q')(hn:n=O.length)(ht:Y.take n=O)(ho:n<=o):S.take n=O:=by
 subst hn;apply aw5;intro i;rw[au7];split
 ·rename_i hi;have h1:(Y.take O.length)[i]?=some O[i]:=by rw[ht];exact a02 hi
  rw[au7,if_pos hi]at h1;rw[h.old i _ (by omega) (fun e=>by cases e) h1,a02 hi]
 ·rw[aw2 (by omega)]
def U1(H:NJ C)(V:GU C PK)(j:JV)(O:St)(hσ:Ok O):∃(s:LU) (e:Int),ai C iE [j.av] O=some (.tup [.str s,.int .i64 e],O)/\s.length<=LB:=by
 have hn:hand false [j.av] O=some ([j.av],O):=NVs.hand (.cons j.nv .nil) _;have ok1:Ok (O++[.cells j.cs FZ]):=hσ.plus (by rw[a88,show AO.below 0 (.cells j.cs FZ)=true from j.bel];rfl)
 obtain⟨b,m1,m2⟩:=RS V j _ ok1;have ty:=fun(s:LU) (e:Int)=>dE hσ (vs:=[.str s,.int .i64 e]) rfl;have jl:=JV.len j;have jt':j.cs.take 5=j.cs:=a08 (by rw[JV.len];exact a06 _)
 have je':5<=j.cs.length:=by rw[JV.len];exact a06 _
 cases b with
 |false=>
  refine⟨[],3,?_,lb0⟩;unfold JV.av at*;rw[H.enc.go hn];simp only[yC,m1,jl,jt',ty,AV.cells,EVX,seval]
 |true=>
  obtain⟨c1,c2⟩:=m2 rfl
  let B:St:=[.cells j.cs FZ,.cells [.nilp,.nils] bT,.cells [.func (.func uX) [] [.ref (O.length+1) 0]] FZ,.cells [.func (.func qI) [] [.ref (O.length+1) 0,.ref (O.length+2) 0,.ref (O.length+3) 0]] FZ]
  have okB:Ok (O++B):=hσ.app (by
   have:=aO (a98 (O.length+4)) _ j.bel;simp[B,AO.below,ae,below,this])
  have bk:Bk (O++B) (O.length+1) [] none:=⟨.nilp,.nils,by rw[dM];rfl,.inl rfl,.inl ⟨rfl,rfl,rfl⟩⟩
  have we:WE (O.length+1) (O.length+2) (O.length+3) (O++B) none:=⟨by omega,by omega,by simp,by simp,by rw[dM];rfl,by rw[dM];rfl⟩
  obtain⟨S,w,q',e1,e2,e3,e4⟩:=Zf H _ j (Nat.lt_succ_self _) (O.length+1) (O.length+2) (O.length+3) _ [] none okB bk we c2 (by simp only[a09];omega)
  simp only[a09]at e4;have tk:S.take O.length=O:=e3.take rfl (by simp) (by omega)
  have fin:∃S',ai C iG [.ref (O.length+1) 0] S=some (.str w,S')/\S'.take O.length=O:=by
   obtain⟨p,c,x1,x2,x3⟩:=e2;rcases x3 with⟨_,rfl,rfl⟩|⟨q,x3,x4,x5,rfl,x6⟩
   ·exact⟨S,H.str0 _ _ _ x1,tk⟩
   ·refine⟨_,H.str1 _ _ _ _ _ x1 x6 x5 (by omega),?_⟩
    rcases e3.q q x3 with h|h
    ·cases h
    ·have lB:(O++B).length=O.length+4:=by simp[B]
     rw[dH _ _ _ (by omega),tk]
  obtain⟨S',s1,s2⟩:=fin;have tq:=pG (vs:=[.str w,.int .i64 0]) hσ rfl s2;refine⟨w,0,?_,by simp only[LB];omega⟩
  dsimp only[B,bT]at e1;unfold JV.av at*;rw[H.enc.go hn];simp only[yC,m1,e1,s1,tq,jl,jt',jV,AV.cells,AV.flat,splice,EVX,seval]
structure aav(C:Ctx):Prop extends CopyHas C where
 clone:∀xs:List EL,xs≠[]->xs.length<=8192->∀O,Ok O->ai C dR [.sl xs.length (kQ xs)] O=some (.msl O.length 0 xs.length 6,O++[.cells (kQ xs) FZ])
 srt:Vm C jS ES
 of:Has C tu wV
def Bf(Y:St)(lo n sz:Nat)(l:LA)(x:AV):Prop:=(n=0/\x=.nils)\/(0<n/\∃q,x=.msl q 0 n sz/\Y[q]?=some (.cells l FZ)/\lo<=q)
def Bf.same{Y:St}{lo n sz:Nat}{l:LA}{x:AV}(h:Bf Y lo n sz l x):same x x=true:=by
 rcases h with⟨_,rfl⟩|⟨_,q,rfl,_⟩
 ·rfl
 ·exact adK ..
theorem Bf.flat{Y:St}{lo n sz:Nat}{l:LA}{x:AV}(h:Bf Y lo n sz l x):x.flat=true:=by
 rcases h with⟨_,rfl⟩|⟨_,q,rfl,_⟩<;>rfl
theorem Bf.mono{Y Y':St}{lo n sz:Nat}{l:LA}{x:AV}(h:Bf Y lo n sz l x)(k:∀q w,lo<=q->x=.msl q 0 n sz->Y[q]?=some w->Y'[q]?=some w):Bf Y' lo n sz l x:=by
 rcases h with h|⟨h0,q,e,h1,h2⟩
 ·exact .inl h
 ·exact .inr ⟨h0,q,e,k q _ h2 e h1,h2⟩
def aiR {Y:St} {lo n sz bytes:Nat} {l:LA} {x:AV} (cs:LA) (h:Bf Y lo n sz l x) (hl:l.length=n*sz) (hb:(n+1)*bytes<=70368744177664) (hn:n+1<=70368744177664) (hok:Ok Y):
  ∃S:St,rO Y sz bytes none x 1 cs=some (.msl Y.length 0 (n+1) sz,S++[.cells (l++cs) FZ])/\S.length=Y.length/\(∀i w,x≠ .msl i 0 n sz\/i<lo->Y[i]?=some w->S[i]?=some w)/\Ok S:=by
 rcases h with⟨rfl,rfl⟩|⟨h0,q,rfl,h1,h2⟩
 ·refine⟨Y,?_,rfl,fun _ _ _ h=>h,hok⟩;have:l=[]:=au5 (by omega)
  subst this;rw[GV _ none cs (by omega) (by omega) (by omega)]
  rfl
 ·refine⟨Y.set q .dead,?_,by simp,fun i w hi h=>aF h (by
   rcases hi with hi|hi
   ·exact fun e=>hi (by rw[e])
   ·omega) _,hok.set2 _ rfl⟩
  exact SA cs h1 (by omega) hl hb hn
structure OI(O:St)(xs:List EL)(i:Nat)(x1 x2:AV)(Y:St):Prop where
 ok:Ok Y
 res:Y[O.length]?=some o8
 row:Y[O.length+1]?=some (.cells (kQ xs) FZ)
 v:Y[O.length+2]?=some (.cells [.int .u8 5,.int .i64 0,.str [],x1,x2] FZ)
 a1:Bf Y (O.length+3) i 1 (nR (xs.take i)) x1
 a2:Bf Y (O.length+3) i 5 (zk (xs.take i)) x2
 ne:∀q,x1=.msl q 0 i 1->x2≠ .msl q 0 i 5
 pre:Y.take O.length=O
def aiv(xs:List EL):ae 0 (nR xs)=true:=by
 have:=o9 (xs.map fun x=>x.1.1);rwa[List.map_map]at this
def ZZ (H:aav C) (O:St) (xs:List EL) (hN:xs.length<=8192):∀(n i:Nat),i+n=xs.length->∀(x1 x2:AV) (Y:St),OI O xs i x1 x2 Y->
  (∃x1' x2' Y',aH C (ai C) 51 [2,4,5,13,14,15] cO [(2,.ref O.length 0),(4,.msl (O.length+1) 0 xs.length 6),(5,.ref (O.length+2) 0),(13,.msl (O.length+1) 0 xs.length 6),(14,.int .i64 xs.length),(15,.int .i64 i)] Y=some (.exit 0,[(2,.ref O.length 0),(5,.ref (O.length+2) 0)],Y')/\OI O xs xs.length x1' x2' Y')\/
  (∃Y',aH C (ai C) 51 [2,4,5,13,14,15] cO [(2,.ref O.length 0),(4,.msl (O.length+1) 0 xs.length 6),(5,.ref (O.length+2) 0),(13,.msl (O.length+1) 0 xs.length 6),(14,.int .i64 xs.length),(15,.int .i64 i)] Y=some (.ret,[(2,.ref O.length 0),(3,.int .i64 7)],Y')/\Y'[O.length]?=some o8/\Y'.take O.length=O)
 |0,i,hi,x1,x2,Y,I=>by
  have h:¬((i:Int)<(xs.length:Int)):=by omega
  refine .inl ⟨x1,x2,Y,?_,by have:i=xs.length:=by omega
                             subst this;exact I⟩
  rw[aG (he:=rfl)];simp only[cO,h,EVX,seval]
 |n+1,i,hi,x1,x2,Y,I=>by
  obtain⟨hok,hres,hrow,hv,ha1,ha2,hne,hpre⟩:=I;have li:i<xs.length:=by omega
  have h:((i:Int)<(xs.length:Int)):=by omega
  have pi:(0:Int)<=(i:Int):=by omega
  have hw:=wrS i (by omega)
  have di:=KU xs i li;have ht:xs.take (i+1)=xs.take i++[xs[i]]:=by rw[ay7 li]
  have lt:(xs.take i).length=i:=by simp;omega
  have lna:=OD (xs.take i);have lva:=TM (xs.take i);rw[lt]at lna lva;have ca:∀l,AV.cells (.agg l)=l:=fun _=>rfl;have nl:O.length+2<Y.length:=(a00.mp hv).1;have hprev:0<i->∃(y:EL),(kQ xs).drop ((i-1)*6)=elC y++(kQ (xs.drop i)):=fun h0=>by
   have:=KU xs (i-1) (by omega)
   rw[show i-1+1=i by omega]at this
   exact⟨_,this⟩
  generalize hm:xs[i]=x at*;have okb:Ok (Y++[.cells (elC x) FZ]):=hok.plus (by rw[a88,show AO.below 0 (.cells (elC x) FZ)=true from Vt x];rfl)
  have r0:=fun L=>aA hrow L;have b0:=fun L=>aA hv L;have c0:=fun L=>aA hres L;have cp0:=fun L y=>dJ hres L y;have g1:=fun L=>fG (rfl:Y.length=_) L;have s1:=fun L y=>sN (rfl:Y.length=_) L y;have eh:(elC x).head? =some (.str x.1.1):=rfl;have et:(elC x).drop 1=x.2.cs:=rfl;have ek:x.2.cs.take 5=x.2.cs:=a08 (by rw[JV.len];exact a06 _)
  have el:5<=x.2.cs.length:=by rw[JV.len];exact a06 _
  have jl:=JV.len x.2;have jf:=JV.flat x.2;have nx1:x1≠ .msl Y.length 0 i 1:=fun e=>by
   rcases ha1 with⟨_,e'⟩|⟨_,q,e',h1,_⟩
   ·rw[e']at e;cases e
   ·rw[e']at e;have:=(a00.mp h1).1;cases e;omega
  have q2l:∀q,x2=.msl q 0 i 5->q<Y.length:=fun q e=>by
   rcases ha2 with⟨_,e'⟩|⟨_,q',e',h1,_⟩
   ·rw[e']at e;cases e
   ·rw[e']at e;have:=(a00.mp h1).1;cases e;exact this
  obtain⟨S1,n1,n2,n3,n4⟩:=aiR (bytes:=16) [.str x.1.1] (ha1.mono fun q w hq e hw=>aA hw [AO.cells (elC x) FZ]) (by rw[lna,aw9]) (by omega) (by omega) okb
  rw[<-UB,a04,a07,a09]at n1;rw[a04,a07,a09]at n2;simp only[av2]at n1 n2;have v1:=n3 _ _ (.inr (by omega)) (b0 [AO.cells (elC x) FZ])
  have r1:=n3 _ _ (.inr (by omega)) (r0 [AO.cells (elC x) FZ])
  have c1:=n3 _ _ (.inr (by omega)) (c0 [AO.cells (elC x) FZ])
  have x1b:=n3 Y.length _ (.inl nx1) (by rw[g1];rfl)
  have bv1:=fun L=>aA v1 L;have pv1:=fun L y=>dJ v1 L y;have gv2:=fun L=>aA (bg v1 (.cells [.int .u8 5,.int .i64 0,.str [],.msl (Y.length+1) 0 (i+1) 1,x2] FZ)) L;have gx2:=fun L=>aA (aF x1b (show Y.length≠O.length+2 by omega) (.cells [.int .u8 5,.int .i64 0,.str [],.msl (Y.length+1) 0 (i+1) 1,x2] FZ)) L
  have ok2:Ok (S1.set (O.length+2) (.cells [.int .u8 5,.int .i64 0,.str [],.msl (Y.length+1) 0 (i+1) 1,x2] FZ)++[AO.cells (nR (xs.take i++[x])) FZ]):=by
   have:=(n4.plus (L:=[AO.cells (nR (xs.take i++[x])) FZ]) (by
    rw[a88,show AO.below 0 (AO.cells (nR (xs.take i++[x])) FZ)=true from aiv _];rfl)).set2 (O.length+2) (x:=(.cells [.int .u8 5,.int .i64 0,.str [],.msl (Y.length+1) 0 (i+1) 1,x2] FZ)) (by
    have h2:below (Y.length+1+1) x2=true:=by
     have:=a90.mp hok _ (a94 hv);simp only[AO.below,ae,below,aw7,a01]at this;exact below_mono (by omega) x2 this.2.2.2.2
    simp only[AO.below,ae,below,aw7,aw6,a01,decide_eq_true_eq,a04,a07,a09,n2];exact⟨by omega,h2⟩)
   rwa[pv1]at this
  have L2:(S1.set (O.length+2) (.cells [.int .u8 5,.int .i64 0,.str [],.msl (Y.length+1) 0 (i+1) 1,x2] FZ)).length=Y.length+1:=by rw[a95,n2]
  have ha2':Bf (S1.set (O.length+2) (.cells [.int .u8 5,.int .i64 0,.str [],.msl (Y.length+1) 0 (i+1) 1,x2] FZ)++[AO.cells (nR (xs.take i++[x])) FZ]) (O.length+3) i 5 (zk (xs.take i)) x2:=ha2.mono fun q w hq e hw=>aA (aF (n3 q w (.inl fun e'=>hne q e' e) (aA hw _)) (by omega) _) _
  have cpy:=O7 H.toCopyHas x.2 _ ok2;have sx:=ha2.same;obtain⟨S3,m1,m2,m3,m4⟩:=aiR (bytes:=80) x.2.cs ha2' lva (by omega) (by omega) ok2
  rw[<-Yl,a04,L2,a07,a09]at m1;rw[a04,L2,a07,a09]at m2;simp only[av2,aB9,Nat.reduceAdd]at m1 m2;have v3:=m3 _ _ (.inr (by omega)) (gv2 [AO.cells (nR (xs.take i++[x])) FZ])
  have r3:=m3 _ _ (.inr (by omega)) (aA (aF r1 (show O.length+1≠O.length+2 by omega) (.cells [.int .u8 5,.int .i64 0,.str [],.msl (Y.length+1) 0 (i+1) 1,x2] FZ)) [AO.cells (nR (xs.take i++[x])) FZ])
  have c3:=m3 _ _ (.inr (by omega)) (aA (aF c1 (show O.length≠O.length+2 by omega) (.cells [.int .u8 5,.int .i64 0,.str [],.msl (Y.length+1) 0 (i+1) 1,x2] FZ)) [AO.cells (nR (xs.take i++[x])) FZ])
  have nm3:=m3 (Y.length+1) (AO.cells (nR (xs.take i++[x])) FZ) (.inl fun e=>by have:=q2l _ e;omega) (by rw[fG L2];rfl)
  have bv3:=fun L=>aA v3 L;have pv3:=fun L y=>dJ v3 L y;have tk3:S3.take O.length=O:=by
   apply aw5;intro k;rw[au7];split
   ·rename_i hk;have h1:(Y.take O.length)[k]?=some O[k]:=by rw[hpre];exact a02 hk
    rw[au7,if_pos hk]at h1;rw[m3 k _ (.inr (by omega)) (aA (aF (n3 k _ (.inr (by omega)) (aA h1 _)) (by omega) _) _),a02 hk]
   ·rw[aw2 (by omega)]
  have ok4:Ok (S3.set (O.length+2) (.cells [.int .u8 5,.int .i64 0,.str [],.msl (Y.length+1) 0 (i+1) 1,.msl (Y.length+2) 0 (i+1) 5] FZ)++[AO.cells (zk (xs.take i++[x])) FZ]):=by
   have:=(m4.plus (L:=[AO.cells (zk (xs.take i++[x])) FZ]) (by
    rw[a88,show AO.below 0 (AO.cells (zk (xs.take i++[x])) FZ)=true from iq _];rfl)).set2 (O.length+2) (x:=(.cells [.int .u8 5,.int .i64 0,.str [],.msl (Y.length+1) 0 (i+1) 1,.msl (Y.length+2) 0 (i+1) 5] FZ)) (by
    simp only[AO.below,ae,below,aw7,aw6,a01,decide_eq_true_eq,a04,a07,a09,m2];omega)
   rwa[pv3]at this
  have I2:OI O xs (i+1) (.msl (Y.length+1) 0 (i+1) 1) (.msl (Y.length+2) 0 (i+1) 5) (S3.set (O.length+2) (.cells [.int .u8 5,.int .i64 0,.str [],.msl (Y.length+1) 0 (i+1) 1,.msl (Y.length+2) 0 (i+1) 5] FZ)++[AO.cells (zk (xs.take i++[x])) FZ]):=by
   rw[<-ht]at nm3⊢;refine⟨by rw[ht];exact ok4,aA (aF c3 (by omega) _) _,aA (aF r3 (by omega) _) _,aA (bg v3 _) _,.inr ⟨by omega,_,rfl,aA (aF nm3 (by omega) _) _,by omega⟩,.inr ⟨by omega,_,rfl,?_,by omega⟩,fun q e1 e2=>(by injection e1;injection e2;omega),?_⟩
   ·rw[fG (by rw[a95,m2])];rfl
   ·rw[qW _ _ _ (by rw[a95,m2];omega),dH _ _ _ (by omega),tk3]
  have rcv:=ZZ H O xs hN n (i+1) (by omega) _ _ _ I2
  have go:∀r,aH C (ai C) 51 [2,4,5,13,14,15] cO [(2,.ref O.length 0),(4,.msl (O.length+1) 0 xs.length 6),(5,.ref (O.length+2) 0),(13,.msl (O.length+1) 0 xs.length 6),(14,.int .i64 xs.length),(15,.int .i64 (i+1:Nat))] (S3.set (O.length+2) (.cells [.int .u8 5,.int .i64 0,.str [],.msl (Y.length+1) 0 (i+1) 1,.msl (Y.length+2) 0 (i+1) 5] FZ)++[AO.cells (zk (xs.take i++[x])) FZ])=r->
    (aH C (ai C) 51 [2,4,5,13,14,15] cO [(2,.ref O.length 0),(4,.msl (O.length+1) 0 xs.length 6),(5,.ref (O.length+2) 0),(13,.msl (O.length+1) 0 xs.length 6),(14,.int .i64 xs.length),(15,.int .i64 i)] Y=r\/∃Y',aH C (ai C) 51 [2,4,5,13,14,15] cO [(2,.ref O.length 0),(4,.msl (O.length+1) 0 xs.length 6),(5,.ref (O.length+2) 0),(13,.msl (O.length+1) 0 xs.length 6),(14,.int .i64 xs.length),(15,.int .i64 i)] Y=some (.ret,[(2,.ref O.length 0),(3,.int .i64 7)],Y')/\Y'[O.length]?=some o8/\Y'.take O.length=O):=fun r e=>by
   have cpy':=cpy;unfold JV.av at cpy';rw[aG (he:=rfl)];generalize hk:aH C (ai C) 51 [2,4,5,13,14,15] cO=kk at*;by_cases hz:(i:Int)>0
   ·obtain⟨y,dy⟩:=hprev (by omega)
    have w1:IntKind.i64.wrap ((i:Int)-1)=((i-1:Nat):Int):=wrE (by omega)
    have l1:i-1<xs.length:=by omega
    have p1:(0:Int)<=((i-1:Nat):Int):=by omega
    have hy:∀R,(elC y++R).head? =some (.str y.1.1):=fun _=>rfl;cases hd:decide (y.1.1=x.1.1)with
    |true=>
     refine .inr ⟨Y.set O.length o8++[AO.cells (elC x) FZ],?_,aA (bg hres _) _,by rw[qW _ _ _ (by simp;omega),dH _ _ _ (a06 _),hpre]⟩
     dsimp only[o8]at*;simp only[hz,dy,w1,l1,p1,hy,hd,c0,cp0,cO,h,li,pi,di,hrow,r0,g1,s1,eh,ca,Jj,nT,yN,splice,a81,a04,Nat.le_add_right,EVX,seval]
    |false=>
     refine .inl ?_;simp only[hz,dy,w1,l1,p1,hy,hd,cO,h,li,pi,hw,di,hrow,r0,b0,g1,s1,eh,et,ek,jl,jf,n1,bv1,pv1,gv2,gx2,cpy',sx,m1,bv3,pv3,e,ca,Jj,nT,yN,splice,a81,a04,Nat.le_add_right,EVX,seval]
   ·refine .inl ?_;simp only[hz,cO,h,li,pi,hw,di,hrow,b0,g1,s1,eh,et,ek,jl,jf,n1,bv1,pv1,gv2,gx2,cpy',sx,m1,bv3,pv3,e,ca,Jj,nT,yN,splice,a81,a04,Nat.le_add_right,EVX,seval]
  rcases rcv with⟨x1',x2',Y',e1,e2⟩|⟨Y',e1,e2⟩
  ·rcases go _ e1 with e|e
   ·exact .inl ⟨x1',x2',Y',e,e2⟩
   ·exact .inr e
  ·rcases go _ e1 with e|e
   ·exact .inr ⟨Y',e,e2⟩
   ·exact .inr e
def adn(H:aav C)(xs:List EL)(h1:xs≠[])(hN:xs.length<=8192)(O:St)(hσ:Ok O):∃(j:JV) (e:Int),ai C tu [.sl xs.length (kQ xs)] O=some (.tup [j.av,.int .i64 e],O):=by
 have hn:hand false [.sl xs.length (kQ xs)] O=some ([.sl xs.length (kQ xs)],O):=NVs.hand (.cons (.sl _ (WC xs)) .nil) _;have cl:=H.clone xs h1 hN (O++[o8]) (hσ.plus rfl);have bx:∀ys:List EL,AO.below 0 (.cells (kQ ys) FZ)=true:=WC;obtain⟨ys,y1,y2⟩:=H.srt (O++[o8,.cells (kQ xs) FZ]) (hσ.plus (by rw[a88,a88,bx];rfl)) (O.length+1) (by simp) none xs.length (by omega) xs rfl
 unfold row at y2;rw[BJ,BJ]at y2;dsimp only[List.set,amr]at y2;have I0:OI O ys 0 .nils .nils (O++[o8,.cells (kQ ys) FZ,.cells [.int .u8 5,.int .i64 0,.str [],.nils,.nils] FZ]):=by
  refine⟨hσ.plus (by rw[a88,a88,bx];rfl),by rw[aQ];rfl,by rw[dM];rfl,by rw[dM];rfl,.inl ⟨rfl,rfl⟩,.inl ⟨rfl,rfl⟩,fun q e=>(by cases e),by simp⟩
 have lp:=ZZ H O ys (by omega) ys.length 0 (by omega) _ _ _ I0
 rw[y1]at lp;have sd:O.set O.length .dead=O:=List.set_eq_of_length_le (a06 _);have st3:∀a b c:AO,(O++[a,b,c]:St)[O.length+2]?=some c:=fun a b c=>by rw[dM];rfl
 have fin:∃(j:JV) (e:Int) (x:RX),aH C (ai C) 51 [2,4,5,13,14,15] cO [(2,.ref O.length 0),(4,.msl (O.length+1) 0 xs.length 6),(5,.ref (O.length+2) 0),(13,.msl (O.length+1) 0 xs.length 6),(14,.int .i64 xs.length),(15,.int .i64 0)] (O++[o8,.cells (kQ ys) FZ,.cells [.int .u8 5,.int .i64 0,.str [],.nils,.nils] FZ])=x/\
   ((x=some (.ret,[(2,.ref O.length 0),(3,.int .i64 7)],(match x with|some (_,_,Y)=>Y|none=>[]))/\∀E,look E 2=.ref O.length 0->look E 3=.int .i64 7->xu O.length [.cell 2 true 5,.tmp 3] (some (.ret,E,(match x with|some (_,_,Y)=>Y|none=>[])))=some (.tup [j.av,.int .i64 e],O))\/
    ∃Y' c,x=some (.exit 0,[(2,.ref O.length 0),(5,.ref (O.length+2) 0)],Y')/\Y'[O.length]?=some o8/\Y'[O.length+2]?=some (.cells c FZ)/\c.length=5/\c.all AV.flat=true/\∀E,look E 2=.ref O.length 0->look E 3=.int .i64 0->xu O.length [.cell 2 true 5,.tmp 3] (some (.ret,E,Y'.set O.length (.cells c FZ)))=some (.tup [j.av,.int .i64 e],O)):=by
  simp only[at6]at lp;rcases lp with⟨x1,x2,Y',l1,l2⟩|⟨Y',l1,l2,l3⟩
  ·obtain⟨hok,hres,hrow,hv,ha1,ha2,hne,hpre⟩:=l2;have hp:¬xs.length=0:=fun e=>h1 (au5 e);rcases ha1 with⟨e,_⟩|⟨_,q1,rfl,a1,a2⟩
   ·omega
   rcases ha2 with⟨e,_⟩|⟨_,q2,rfl,b1,b2⟩
   ·omega
   rw[a08 (by omega)]at a1 b1
   refine⟨an1 ys (by omega),0,_,l1,.inr ⟨Y',_,rfl,hres,hv,rfl,rfl,fun E h2 h3=>?_⟩⟩
   have:=age (Y:=Y'.set O.length (.cells [.int .u8 5,.int .i64 0,.str [],.msl q1 0 xs.length 1,.msl q2 0 xs.length 5] FZ)) (o:=O.length) (x:=.dead) hσ rfl 0 E h2 h3 (by rw[dH _ _ _ (a06 _),hpre,sd]) ys (by omega) q1 q2 (by rw[y1];exact bg hres _) (aF a1 (by omega) _) (aF b1 (by omega) _) (by omega) (by omega) (fun e=>hne q1 rfl (by rw[e]))
   rwa[sd]at this
  ·refine⟨JV.zero,7,_,l1,.inl ⟨rfl,fun E h2 h3=>?_⟩⟩;have:=Jk (Y:=Y') (o:=O.length) (x:=.dead) hσ rfl 7 E h2 h3 (by rw[l3,sd]) l2
   rwa[sd]at this
 obtain⟨j,e,x,f1,f2⟩:=fin;refine⟨j,e,?_⟩;rw[H.of.go hn];generalize hE:xu=eR at*;rcases f2 with⟨f2,f3⟩|⟨Y',c,f2,g1,g2,g3,g4,f3⟩
 ·generalize(match x with|some (_,_,Y)=>Y|none=>[])=Y' at*
  rw[f2]at f1;have f4:=f3 [(2,.ref O.length 0),(3,.int .i64 7)] rfl rfl;unfold o8 at*;simp only[wV,cl,y2,f1,f4,st3,splice,AV.cells,AV.flat,EVX,seval]
 ·rw[f2]at f1;have t5:c.take 5=c:=a08 (by omega)
  have sp:∀a b d e f:AV,splice [a,b,d,e,f] 0 c=c:=fun a b d e f=>by simp[splice,g3]
  unfold o8 at*;simp only[wV,cl,y2,f1,st3,g1,g2,g3,g4,t5,sp,AV.cells,AV.flat,EVX,seval];refine f3 _ ?_ ?_<;>rfl
def Rl:List Sh:=[.strb,.int .i64,.int .i64,.slx [.strb,.strb]]
structure Aa(C:Ctx)(PK:PkI):Prop where
 text:gu C PK Iw (.pk [.strb] .strb)
 num:gu C PK Jq (.pk [.strb,.int .i64,.int .i64] (.int .i64))
 obj:gu C PK EQ (.pk [.strb,.int .i64] .jv)
 fail:gu C PK Iu (.pk [.int .i64] (.tup []))
 done:gu C PK Ir (.pk [] (.int .i64))
 of:gu C PK Zo (.pof [.jv])
 pin:gu C PK Qk (.pure [.strb,.jv] (.tup [.agg Rl,.int .i64]))
 when:gu C PK Bh (.pure [.strb] (.tup [.int .i64,.int .i64]))
 May:gu C PK Bg (.pure [.jv] .bool)
 parts:Has C Ql Pi
 pType:Has C vF zG
 pVersion:Has C qw BV
 pExpires:Has C qp BU
 pMeta:Has C vC zF
 snapOf:Has C vz Kt
def JI{f:FuncId}{args:List Sh}{res:Sh}(h:gu C PK f (.pk args res)){O:St}{o:Nat}{ms:List Nat}{azs:LA}(hσ:Ok O)(hn:NVs azs)(hp:PK.ok O o ms)(hm:Mt V0 args azs):∃v O2,ai C f (.ref o 0::azs) O=some (v,O2)/\M V0 res v/\Ok O2/\O2.length=O.length/\(∀i,i∉o::ms->O2[i]?=O[i]?)/\PK.ok O2 o ms:=
 h O o ms azs azs O hσ (by rw[oW,aK,hn.nf];rfl) hσ hp hm
def aat(n0 p:Nat)(os:List Nat)(Y:St)(x:AV):Prop:=x=.nils\/∃q rs,x=.msl q 0 rs.length 4/\Y[q]?=some (.cells rs.flatten FZ)/\rs.length<=LS/\MRs V0 Rl rs/\q∉os/\q≠p/\n0<=q
structure SI(PK:PkI)(O0:St)(o p:Nat)(ms:List Nat)(x:AV)(Y:St):Prop where
 ok:Ok Y
 pk:PK.ok Y o ms
 lt:∀i∈o::ms,i<Y.length
 ge:∀i∈o::ms,O0.length<=i
 np:p∉o::ms
 gp:O0.length<=p
 s:∃a b,Y[p]?=some (.cells [.int .i64 a,.int .i64 b,x] FZ)
 meta_:aat O0.length p (o::ms) Y x
 keep:∀(i:Nat) (y:AO),O0[i]?=some y->Y[i]?=some y
def SI.pl{O0:St}{o p:Nat}{ms:List Nat}{x:AV}{Y:St}(h:SI PK O0 o p ms x Y):p<Y.length:=by
 obtain⟨a,b,h⟩:=h.s;exact(a00.mp h).1
def SI.pick{O0:St}{o p:Nat}{ms:List Nat}{x:AV}{Y Y2:St}(h:SI PK O0 o p ms x Y)(h1:Ok Y2)(h2:Y2.length=Y.length)(h3:∀i,i∉o::ms->Y2[i]?=Y[i]?)(h4:PK.ok Y2 o ms):SI PK O0 o p ms x Y2:=by
 obtain⟨a,b,hs⟩:=h.s;refine⟨h1,h4,fun i hi=>by rw[h2];exact h.lt i hi,h.ge,h.np,h.gp,⟨a,b,by rw[h3 _ h.np];exact hs⟩,?_,fun i y hy=>?_⟩
 ·rcases h.meta_ with hm|⟨q,rs,e1,e2,e3,e4,e5,e6,e7⟩
  ·exact .inl hm
  ·exact .inr ⟨q,rs,e1,by rw[h3 _ e5];exact e2,e3,e4,e5,e6,e7⟩
 ·rw[h3]
  ·exact h.keep i y hy
  ·intro hi;have:=h.ge i hi;have:=(a00.mp hy).1;omega
def SI.plus{O0:St}{o p:Nat}{ms:List Nat}{x:AV}{Y:St}(h:SI PK O0 o p ms x Y)(L:St)(hL:L.all (AO.below (Y.length+L.length))=true):SI PK O0 o p ms x (Y++L):=by
 obtain⟨a,b,hs⟩:=h.s;refine⟨h.ok.app hL,PK.fr h.pk fun i hi=>by rw[av1 (h.lt i hi)],fun i hi=>by rw[a04];have:=h.lt i hi;omega,h.ge,h.np,h.gp,⟨a,b,aA hs L⟩,?_,fun i y hy=>aA (h.keep i y hy) L⟩
 rcases h.meta_ with hm|⟨q,rs,e1,e2,e3,e4,e5,e6,e7⟩
 ·exact .inl hm
 ·exact .inr ⟨q,rs,e1,aA e2 L,e3,e4,e5,e6,e7⟩
def SI.set{O0:St}{o p:Nat}{ms:List Nat}{x:AV}{Y:St}(h:SI PK O0 o p ms x Y)(a b:Int):SI PK O0 o p ms x (Y.set p (.cells [.int .i64 a,.int .i64 b,x] FZ)):=by
 obtain⟨a',b',hs⟩:=h.s;refine⟨h.ok.set2 p ?_,PK.fr h.pk fun i hi=>?_,fun i hi=>by rw[a95];exact h.lt i hi,h.ge,h.np,h.gp,⟨a,b,bg hs _⟩,?_,fun i y hy=>?_⟩
 ·have:=a90.mp h.ok _ (a94 hs);simp only[AO.below,ae,below,aw6]at this⊢;exact this
 ·rw[aA5 (fun e=>h.np (by rw[e];exact hi))]
 ·rcases h.meta_ with hm|⟨q,rs,e1,e2,e3,e4,e5,e6,e7⟩
  ·exact .inl hm
  ·exact .inr ⟨q,rs,e1,aF e2 e6 _,e3,e4,e5,e6,e7⟩
 ·have:=h.gp;have:=(a00.mp hy).1;exact aF (h.keep i y hy) (by omega) _
def SI.tidy{O0:St}{o p n:Nat}{ms:List Nat}{x:AV}{S:St}(h:SI PK O0 o p ms x S)(vs:LA)(hn:n<=S.length)(hp:p<n)(ho:∀i∈o::ms,i<n)(h0:O0.length<=n):SI PK O0 o p ms x (Ev.tidy n vs S):=by
 unfold Ev.tidy;split
 ·exact h
 split
 ·rename_i hc;rw[a01]at hc;have hl:(S.take n).length=n:=by simp;omega
  have hg:∀i,i<n->(S.take n)[i]?=S[i]?:=fun i hi=>by rw[au7,if_pos hi]
  obtain⟨a,b,hs⟩:=h.s;refine⟨?_,PK.fr h.pk fun i hi=>hg i (ho i hi),fun i hi=>by rw[hl];exact ho i hi,h.ge,h.np,h.gp,⟨a,b,by rw[hg _ hp];exact hs⟩,?_,fun i y hy=>?_⟩
  ·unfold Ok;rw[hl];exact hc.2
  ·rcases h.meta_ with hm|⟨q,rs,e1,e2,e3,e4,e5,e6,e7⟩
   ·exact .inl hm
   ·refine .inr ⟨q,rs,e1,?_,e3,e4,e5,e6,e7⟩;have hb:=a90.mp hc.2 _ (a94 ((hg _ hp).trans hs));have:q<n:=by
     rw[e1]at hb;simp only[AO.below,ae,below,aw7,aw6,decide_eq_true_eq]at hb;exact hb
    rw[hg _ this];exact e2
  ·rw[hg _ (by have:=(a00.mp hy).1;omega)]
   exact h.keep i y hy
 ·exact h
def aqs(C:Ctx)(PK:PkI)(f:FuncId):Prop:=∀(O0:St) (o p:Nat) (ms:List Nat) (Y:St),SI PK O0 o p ms .nils Y->O0.length<=Y.length->∃Y' x,ai C f [.ref o 0,.ref p 0] Y=some (bD [],Y')/\SI PK O0 o p ms x Y'/\Y.length<=Y'.length
def aiF(C:Ctx)(PK:PkI)(f:FuncId):Prop:=∀(O0:St) (o p:Nat) (ms:List Nat) (Y:St),SI PK O0 o p ms .nils Y->O0.length<=Y.length->∃Y',ai C f [.ref o 0,.ref p 0] Y=some (bD [],Y')/\SI PK O0 o p ms .nils Y'/\Y.length<=Y'.length
def TJ(s:LU)(h:s.length<=LB){l:List Sh}{m:LA}(k:Mt V0 l m):Mt V0 (.strb::l) (.str s::m):=.cons _ _ _ _ (.strb s h) k
def UU(n:Int){l:List Sh}{m:LA}(k:Mt V0 l m):Mt V0 (.int .i64::l) (.int .i64 n::m):=.cons _ _ _ _ (.int _ n) k
def J8{n:Nat}{vs:LA}{S:St}(h:n<=S.length):n<=(Ev.tidy n vs S).length:=by
 unfold Ev.tidy;split
 ·exact h
 split
 ·simp;omega
 ·exact h
end Go.Ev
namespace Go.Ev
set_option maxRecDepth 100000
variable{C:Ctx}{V:Val}
structure SnV where
 ver:Int
 exp:Int
 pins:List mi
def SnV.cs(s:SnV):LA:=[.int .i64 s.ver,.int .i64 s.exp,.sl s.pins.length (s.pins.flatMap mi.cs)]
structure SnV.ok(s:SnV):Prop where
 len:s.pins.length<=8192
 each:∀p∈s.pins,zC p.hashes/\p.name.length<=LB
def ajW(r:LA)(h:Ms V [.strb,.strb] r):∃s,r=pC s/\s.1.length<=LB/\s.2.length<=LB:=by
 obtain⟨s,b,rfl,h0,h1⟩:=Aj h;obtain⟨u,b,rfl,h3,h2⟩:=Aj h1;rw[Ee h2];exact⟨(s,u),rfl,h0,h3⟩
def amN(r:LA)(h:Ms V Rl r):∃p,r=mi.cs p/\zC p.hashes/\p.name.length<=LB:=by
 obtain⟨s,b,rfl,h0,h1⟩:=Aj h;obtain⟨n,b,rfl,h2⟩:=xE h1;obtain⟨m,b,rfl,h3⟩:=xE h2;obtain⟨hs,b,rfl,hl,hb,h4⟩:=xG ajW h3;rw[Ee h4];exact⟨⟨s,n,m,hs⟩,rfl,⟨hl,hb⟩,h0⟩
def ajY{v:AV}(h:M V (.agg [.int .i64,.int .i64,.slx Rl]) v):∃s:SnV,v=.agg s.cs/\s.ok:=by
 cases h with
 |agg _ v h=>
  obtain⟨a,b,rfl,h1⟩:=xE h;obtain⟨e,b,rfl,h2⟩:=xE h1;obtain⟨l,b,rfl,l1,q1,h3⟩:=xG amN h2;rw[Ee h3];exact⟨⟨a,e,l⟩,rfl,l1,q1⟩
def mi.len4(p:mi):p.cs.length=4:=rfl
theorem mi.nvs(p:mi):NVs p.cs:=.cons (.str _) (.cons (.int _ _) (.cons (.int _ _) (.cons (yY _) .nil)))
theorem mi.bel(p:mi):ae 0 p.cs=true:=p.nvs.cl
theorem SnV.nvs(s:SnV):NVs s.cs:=.cons (.int _ _) (.cons (.int _ _) (.cons (.sl _ (fP (fun p=>p.bel) s.pins)) .nil))
structure ChkTot(C:Ctx):Prop where
 role:Po C
 hash:∀hs:List PS,zC hs->∃(d:LU) (b:Bool),∀Y,ai C wF [.sl hs.length (hs.flatMap pC),.str [115,104,97,50,53,54]] Y=some (.tup [.str d,.bool b],Y)
 rd:∀data:LU,data.length<=LB->∃(j:JV) (n e:Int),∀Y,ai C iD [.str data] Y=some (.tup [j.av,.int .i64 n,.int .i64 e],Y)
 sg:∀j:JV,∃(r:AV) (e:Int),M V0 acH r/\∀Y,ai C vw [j.av] Y=some (.tup [r,.int .i64 e],Y)
 tg:∀j:JV,∃(t:kG) (e:Int),t.ok/\∀Y,ai C Dl [j.av] Y=some (.tup [.agg t.cs,.int .i64 e],Y)
 sn:∀j:JV,∃(s:SnV) (e:Int),s.ok/\∀Y,ai C vz [j.av] Y=some (.tup [.agg s.cs,.int .i64 e],Y)
 over:∀a b:Int,∃ov:Bool,∀Y,ai C mZ [.int .i64 a,.int .i64 b] Y=some (.bool ov,Y)
 dig:∀s:LU,s.length<=LB->∃d:LU,∀Y,ai C oU [.str s] Y=some (.str d,Y)
 enough:∀(h:Bool) (l:List fV) (r:AV) (th:Int) (ids:List LU) (ks:List PS),uM l=false->xM ids->zC ks->M V0 acH r->∃b:Bool,∀Y o,Y[o]?=some (Ep h l)->ai C iF [.ref o 0,r,.agg (aC th ids),.sl ks.length (ks.flatMap pC)] Y=some (.bool b,Y)
def inf(h:Bool)(l:List fV)(o:Nat)(th:Int)(ids:List LU)(ks:List PS)(pn:LU)(pv pl:Int)(ph:AV)(now:Int)(data:LU)(size:Int):InF:=
 ⟨.ref o 0,th,.sl ids.length (ids.flatMap sC),.sl ks.length (ks.flatMap pC),pn,pv,pl,ph,now,data,size⟩
structure jQ where
 ver:Int
 exp:Int
 ks:List PS
 rt:eu
 sn:eu
 tg:eu
def jQ.cs(r:jQ):LA:=[.int .i64 r.ver,.int .i64 r.exp,.sl r.ks.length (r.ks.flatMap pC),.int .i64 r.rt.th,.sl r.rt.ids.length (r.rt.ids.flatMap sC),.int .i64 r.sn.th,.sl r.sn.ids.length (r.sn.ids.flatMap sC),.int .i64 r.tg.th,.sl r.tg.ids.length (r.tg.ids.flatMap sC)]
def jQ.cs_is(r:jQ):r.cs=[.int .i64 r.ver,.int .i64 r.exp,.sl r.ks.length (r.ks.flatMap pC),.int .i64 r.rt.th,.sl r.rt.ids.length (r.rt.ids.flatMap sC),.int .i64 r.sn.th,.sl r.sn.ids.length (r.sn.ids.flatMap sC),.int .i64 r.tg.th,.sl r.tg.ids.length (r.tg.ids.flatMap sC)]:=rfl
theorem jQ.nvs(r:jQ):NVs r.cs:=.cons (.int _ _) (.cons (.int _ _) (.cons (yY _) (.cons (.int _ _) (.cons (JS _) (.cons (.int _ _) (.cons (JS _) (.cons (.int _ _) (.cons (JS _) .nil))))))))
def alF (H:ChkTot C) (h:Bool) (l:List fV) (R:jQ) (data:LU) (b1:uM l=false) (b2:xM R.sn.ids) (b3:zC R.ks) (b4:data.length<=LB):
  ∃(S:SnV) (e1 e2 e3:Int) (en:Bool) (ov:Int->Bool),S.ok/\(∀now Y,ai C mZ [.int .i64 S.exp,.int .i64 now] Y=some (.bool (ov now),Y))/\∀(now size:Int) (O:St) (o:Nat),Ok O->O[o]?=some (Ep h l)->
   ai C nG [.ref o 0,.agg R.cs,.int .i64 now,.str data,.int .i64 size] O=
    some (.tup [.agg (if Ry size e1 e2 e3 en (ov now)=0 then S.cs else zSn),.int .u8 (Ry size e1 e2 e3 en (ov now))],O):=by
 obtain⟨j,n1,e1,q1⟩:=H.rd data b4;obtain⟨r,e2,mr,q2⟩:=H.sg j;obtain⟨en,q5⟩:=H.enough h l r R.sn.th R.sn.ids R.ks b1 b2 b3 mr;obtain⟨k,ps,rfl,lp⟩:=abg mr;obtain⟨S,e3,sok,q3⟩:=H.sn k;obtain⟨ov,q4⟩:=Classical.axiomOfChoice (fun now=>H.over S.exp now);obtain⟨x0,x1,x2,x3,x4,je,ox0,ox1,ox2,ox3,ox4⟩:=j.ones;obtain⟨r0,r1,r2,r3,r4,ke,or0,or1,or2,or3,or4⟩:=k.ones;unfold JV.av at q1 q2 q3;rw[je]at q1 q2;rw[ke]at q2 q3 q5;refine⟨S,e1,e2,e3,en,ov,sok,q4,fun now size O o hσ ho=>?_⟩;have hl:o<O.length:=(a00.mp ho).1;have hI:(inf h l o R.sn.th R.sn.ids R.ks [] 0 (-1) .nils now data size).ok O.length:=⟨.inr ⟨o,rfl,hl⟩,uN _ (JS _),uN _ (yY _),rfl⟩;exact P8 H.role hσ hI ⟨rfl,rfl⟩ ⟨rfl,rfl,rfl,rfl⟩
  {x0:=x0,x1:=x1,x2:=x2,x3:=x3,x4:=x4,n1:=n1,e1:=e1,r0:=r0,r1:=r1,r2:=r2,r3:=r3,r4:=r4,r5:=.sl ps.length (ps.flatMap pC),e2:=e2,en:=en
   hx0:=ox0,hx1:=ox1,hx2:=ox2,hx3:=ox3,hx4:=ox4,hr0:=or0,hr1:=or1,hr2:=or2,hr3:=or3,hr4:=or4,hr5:=uN _ (yY ps)
   rd:=fun Y _=>q1 Y,sg:=fun _ Y _=>q2 Y
   enough:=fun _ _ Y _ hx=>q5 Y o (hx o _ ho)
   sv:=S.ver,sx:=S.exp,s2:=.sl S.pins.length (S.pins.flatMap mi.cs),e3:=e3,ov:=ov now
   h2:=uN _ (.sl _ (fP (fun p=>p.bel) S.pins))
   sn:=fun _ _ Y _=>q3 Y,over:=fun Y _=>q4 now Y}
  (Fa _ _) (Fa _ _) (Fa _ _) (uN _ (JS _)) (Fa _ _) (uN _ (JS _))
end Go.Ev
namespace Go.Ev
set_option maxRecDepth 100000
variable{C:Ctx}
structure aoD(C:Ctx):Prop where
 pin:Has C IR IQ
 snap:Has C Oj NQ
 hashes:Has C wC vX
def ata(H:aoD C)(p:mi)(hp:zC p.hashes)(O:St)(hσ:Ok O):ai C IR [.agg p.cs,.agg p.cs] O=some (.bool true,O):=by
 have nv:NV (.agg p.cs):=.agg p.nvs;rw[H.pin.go (NVs.hand (.cons nv (.cons nv .nil)) _)];have hO:Ok (O++[.cells p.cs FZ,.cells p.cs FZ]):=hσ.plus (by
  have:AO.below 0 (.cells p.cs FZ)=true:=p.bel;rw[a88,this,a88,this];rfl)
 have q1:=asw H.hashes p.hashes (by have:=hp.1;omega)
 have ty:=dE hσ (vs:=[.bool true]) rfl;unfold mi.cs at⊢;simp only[IQ,q1,ty,aQ,dM,AV.cells,a99,aD7,EVX,seval]
def asR (H:aoD C) (s:SnV) (hs:s.ok) (q:Nat):∀(m i:Nat) (Y:St),i+m=s.pins.length->Ok Y->Y[q]?=some (.cells s.cs FZ)->Y[q+1]?=some (.cells s.cs FZ)->
  aH C (ai C) 46 [2,3,5] Az [(2,.ref q 0),(3,.ref (q+1) 0),(5,.int .i64 i)] Y=some (.exit 0,[],Y)
 |0,i,Y,hi,hτ,f2,f3=>by
  rw[aG (he:=rfl)];have h:¬((i:Int)<(s.pins.length:Int)):=by omega
  unfold SnV.cs at f2;simp only[Az,h,f2,bU,EVX,seval]
 |m+1,i,Y,hi,hτ,f2,f3=>by
  have hlt:i<s.pins.length:=by omega
  have h8:=hs.len;have fa:=lM mi.len4 (a02 hlt);have hp:=(hs.each _ (az1 hlt)).1;generalize s.pins[i]=p at*;have ih:=asR H s hs q m (i+1) Y (by omega) hτ f2 f3
  have q1:=ata H p hp Y hτ;rw[aG (he:=rfl)];have h:((i:Int)<(s.pins.length:Int)):=by omega
  have hw:=wrS i (by omega)
  have h3:(0:Int)<=i:=by omega
  have fl:=dV mi.len4 s.pins;unfold SnV.cs at f2 f3;have pc:p.cs=[.str p.name,.int .i64 p.version,.int .i64 p.length,.sl p.hashes.length (p.hashes.flatMap pC)]:=rfl;rw[pc]at q1 fa;generalize(s.pins.drop (i+1)).flatMap mi.cs=R at fa;generalize hF:s.pins.flatMap mi.cs=F at*;generalize hk:aH C (ai C) 46 [2,3,5] Az=k at*;simp only[a99,au3]at fa;simp only[Az,h,hlt,h3,hw,fl,fa,f2,f3,q1,ih,bU,a99,au3,aD7,aD9,EVX,seval]
def asQ(H:aoD C)(s:SnV)(hs:s.ok)(O:St)(hσ:Ok O):ai C Oj [.agg s.cs,.agg s.cs] O=some (.bool true,O):=by
 have nv:NV (.agg s.cs):=.agg s.nvs;rw[H.snap.go (NVs.hand (.cons nv (.cons nv .nil)) _)];have hO:Ok (O++[.cells s.cs FZ,.cells s.cs FZ]):=hσ.plus (by
  have:AO.below 0 (.cells s.cs FZ)=true:=s.nvs.cl;rw[a88,this,a88,this];rfl)
 have lp:=asR H s hs O.length s.pins.length 0 _ (by omega) hO (by rw[aQ];rfl) (by rw[dM];rfl)
 rw[show((0:Nat):Int)=0 from rfl]at lp;have ty:=dE hσ (vs:=[.bool true]) rfl;unfold SnV.cs at lp⊢;simp only[NQ,lp,bU,ty,aQ,dM,AV.cells,a99,au3,aD7,EVX,seval]
def ML:kG:=⟨0,0,[],⟨[],[],0,[],0,[]⟩⟩
def RY:ML.ok:=⟨by decide,fun _ h=>(by cases h),⟨by decide,by decide,fun _ h=>(by cases h),by decide⟩⟩
def afj(T:kG)(c:Int):kG:=if c=0 then T else ML
def ano(T:kG)(c:Int):(if c=0 then T.cs else zTn)=(afj T c).cs:=by
 unfold afj;split<;>rfl
def anp{T:kG}(h:T.ok)(c:Int):(afj T c).ok:=by
 unfold afj;split
 ·exact h
 ·exact RY
theorem kG.len(t:kG):t.cs.length=9:=rfl
def kG.fl(t:kG):t.cs.all AV.flat=true:=rfl
def kG.tk(t:kG):t.cs.take 9=t.cs:=rfl
def Vj:SnV:=⟨0,0,[]⟩
def afi(S:SnV)(c:Int):SnV:=if c=0 then S else Vj
def anl(S:SnV)(c:Int):(if c=0 then S.cs else zSn)=(afi S c).cs:=by
 unfold afi;split<;>rfl
def anm{S:SnV}(h:S.ok)(c:Int):(afi S c).ok:=by
 unfold afi;split
 ·exact h
 ·exact⟨by decide,fun _ h=>by cases h⟩
theorem SnV.len(t:SnV):t.cs.length=3:=rfl
def SnV.fl(t:SnV):t.cs.all AV.flat=true:=rfl
def SnV.tk(t:SnV):t.cs.take 3=t.cs:=rfl
variable{V:Val}
def anv{a:AV}(h:Vb a=true):NV a:=by
 cases a<;>first|(cases h;done)|exact .bool _|exact .int _ _|exact .str _
def adL{l:LA}(h:l.all Vb=true):NVs l:=fun v hv=>anv (a90.mp h v hv)
def ail{l:LA}(h:l.all Vb=true):l.all AV.flat=true:=by
 rw[a90]at*;intro v hv;have:=h v hv;cases v<;>first|(cases this;done)|rfl
def ZK:∀(l:List LU) (n:Nat),liN l n<5000->n+10*l.length<=liN l n/\∀s∈l,s.length<5000
 |[],n,h=>⟨by simp[liN],fun s hs=>by cases hs⟩
 |s::l,n,h=>by
  unfold liN at*;split at h
  ·rename_i hn;rw[if_pos hn];obtain⟨a,b⟩:=ZK l _ h;refine⟨by simp only[a07];omega,fun t ht=>?_⟩
   rcases au9.mp ht with rfl|ht
   ·omega
   ·exact b t ht
  ·omega
def aim{th:Int}{ids:List LU}(h:Xp [⟨th,ids⟩]=false):xM ids:=by
 have h:liN ids 0<5000:=Nat.not_le.mp (of_decide_eq_false h);obtain⟨a,b⟩:=ZK ids 0 h;exact⟨by omega,fun s hs=>by have:=b s hs;simp only[LB];omega⟩
def afr{l:List PS}(h:Tf l=false):zC l:=by
 simp only[Tf,ay2,decide_eq_false_iff_not,List.any_eq_false,ad8,Bool.not_eq_true]at h;refine⟨by omega,fun p hp=>?_⟩
 have:=h.2 p hp;simp only[LB];omega
def Fh{l:List fV}(h:uM l=false):l.length<=8192/\∀p∈l,p.id.length<=LB/\p.sig.length<=LB/\p.dig.length<=LB:=by
 simp only[uM,ay2,decide_eq_false_iff_not,List.any_eq_false,ad9,Bool.not_eq_true]at h;refine⟨by omega,fun p hp=>?_⟩
 have:=h.2 p hp;simp only[LB];omega
def apq{th:Int}{ids:List LU}(h:xM ids):M V (.agg [.int .i64,.slx [.strb]]) (.agg (aC th ids)):=
 .agg _ _ (.one _ _ _ _ rfl (.int _ _) (.one _ _ _ _ rfl (af5 ids (fun s hs=>.one _ _ _ _ rfl (.strb _ (h.2 s hs)) .nil) h.1) .nil))
def akp{l:List PS}(h:zC l):M V (.slx [.strb,.strb]) (.sl l.length (l.flatMap pC)):=
 af5 l (fun p hp=>.one _ _ _ _ rfl (.strb _ (h.2 p hp).1) (.one _ _ _ _ rfl (.strb _ (h.2 p hp).2) .nil)) h.1
def amT{l:List fV}(h:uM l=false):M V (.slx [.strb,.strb,.strb]) (O9 l):=
 af5 l (fun p hp=>.one _ _ _ _ rfl (.strb _ ((Fh h).2 p hp).1) (.one _ _ _ _ rfl (.strb _ ((Fh h).2 p hp).2.1) (.one _ _ _ _ rfl (.strb _ ((Fh h).2 p hp).2.2) .nil))) (Fh h).1
end Go.Ev
namespace Go.Ev
set_option maxRecDepth 100000
variable{C:Ctx}{PK:PkI}
def akq{V:Val}{v:AV}(h:M V .strb v):∃s,v=.str s/\s.length<=LB:=xC h
def aic(H:Aa C PK):aiF C PK vF:=by
 intro O0 o p ms Y I hl;obtain⟨v,O2,e1,m1,k1,k2,k3,k4⟩:=JI (azs:=[.str [95,116,121,112,101]]) H.text I.ok (.cons (.str _) .nil) I.pk (TJ _ (by simp[LB]) .nil)
 obtain⟨s,rfl,_⟩:=akq m1;have I2:=I.pick k1 k2 k3 k4;have hn:=Gi o p Y;rw[H.pType.go hn];cases c:decide (s=[115,110,97,112,115,104,111,116])with
 |true=>
  refine⟨_,?_,I2.tidy [] (by omega) I.pl I.lt hl,J8 (by omega)⟩
  simp only[zG,e1,c,kH,AV.cells,AV.flat,EVX,seval]
 |false=>
  obtain⟨w,O3,f1,n1,j1,j2,j3,j4⟩:=JI (azs:=[.int .i64 13]) H.fail I2.ok (.cons (.int _ _) .nil) I2.pk (UU _ .nil);refine⟨_,?_,(I2.pick j1 j2 j3 j4).tidy [] (by omega) I.pl I.lt hl,J8 (by omega)⟩
  simp only[zG,e1,c,f1,kH,AV.cells,AV.flat,EVX,seval]
def abw(H:Aa C PK):aiF C PK qw:=by
 intro O0 o p ms Y I hl;obtain⟨v,O2,e1,m1,k1,k2,k3,k4⟩:=JI (azs:=[.str [118,101,114,115,105,111,110],.int .i64 1,.int .i64 1099511627776]) H.num I.ok (.cons (.str _) (.cons (.int _ _) (.cons (.int _ _) .nil))) I.pk (TJ _ (by simp[LB]) (UU _ (UU _ .nil)))
 obtain⟨n,rfl⟩:=Nq m1;have I2:=I.pick k1 k2 k3 k4;obtain⟨a,b,hs⟩:=I2.s;have hn:=Gi o p Y;rw[H.pVersion.go hn];refine⟨_,?_,(I2.set n b).tidy [] (by rw[a95];omega) I.pl I.lt hl,J8 (by rw[a95];omega)⟩
 simp only[BV,e1,hs,splice,AV.cells,AV.flat,EVX,seval]
def akr{V:Val}{a b:Sh}{v:AV}(h:M V (.tup [a,b]) v):∃x y,v=.tup [x,y]/\M V a x/\M V b y:=by
 cases h with|tup _ l h=>obtain⟨x,y,rfl,h1,h2⟩:=ahP h;exact⟨x,y,rfl,h1,h2⟩
def abv(H:Aa C PK):aiF C PK qp:=by
 intro O0 o p ms Y I hl;obtain⟨v,O2,e1,m1,k1,k2,k3,k4⟩:=JI (azs:=[.str [101,120,112,105,114,101,115]]) H.text I.ok (.cons (.str _) .nil) I.pk (TJ _ (by simp[LB]) .nil)
 obtain⟨s,rfl,hs⟩:=akq m1;have I2:=I.pick k1 k2 k3 k4;obtain⟨w,e2,m2⟩:=BI H.when (.cons (.str s) .nil) (TJ _ hs .nil) I2.ok;obtain⟨x,y,rfl,q1,q2⟩:=akr m2;obtain⟨n,rfl⟩:=Nq q1;obtain⟨e,rfl⟩:=Nq q2;obtain⟨w,O3,f1,n1,j1,j2,j3,j4⟩:=JI (azs:=[.int .i64 e]) H.fail I2.ok (.cons (.int _ _) .nil) I2.pk (UU _ .nil);have I3:=I2.pick j1 j2 j3 j4;obtain⟨a,b,hs⟩:=I3.s;have hn:=Gi o p Y;rw[H.pExpires.go hn];refine⟨_,?_,(I3.set a n).tidy [] (by rw[a95];omega) I.pl I.lt hl,J8 (by rw[a95];omega)⟩
 simp only[BU,e1,e2,f1,hs,splice,AV.cells,AV.flat,EVX,seval]
def ms1{V:Val}{s:Sh}{t:List Sh}{l:LA}(hs:s.one=true)(h:Ms V (s::t) l):∃v b,l=v::b/\M V s v/\Ms V t b:=by
 cases h with
 |one _ _ v b h1 h2 h3=>exact⟨v,b,rfl,h2,h3⟩
 |jv _ j b h=>cases hs
 |jg _ _ _ j r h1 h2=>cases hs
def aid{l:LA}(h:Ms V0 Rl l):∃(s:LU) (a b:Int) (rs:List LA),l=[.str s,.int .i64 a,.int .i64 b,.sl rs.length rs.flatten]/\ae 0 rs.flatten=true:=by
 obtain⟨v1,b1,rfl,h1,k1⟩:=ms1 rfl h;obtain⟨v2,b2,rfl,h2,k2⟩:=ms1 rfl k1;obtain⟨v3,b3,rfl,h3,k3⟩:=ms1 rfl k2;obtain⟨v4,b4,rfl,h4,k4⟩:=ms1 rfl k3;cases k4;obtain⟨s,rfl,_⟩:=xC h1;obtain⟨a,rfl⟩:=Nq h2;obtain⟨b,rfl⟩:=Nq h3;cases h4 with
 |slx _ rs hl hr=>
  exact⟨s,a,b,rs,rfl,(MRs.nvs (by rfl) hr).cl⟩
def YQ(n0 p vb:Nat)(os:List Nat)(Y:St)(i:Nat)(x:AV):Prop:=(i=0/\x=.nils)\/(0<i/\∃q rs,x=.msl q 0 i 4/\rs.length=i/\Y[q]?=some (.cells rs.flatten FZ)/\MRs V0 Rl rs/\q∉os/\q≠p/\n0<=q/\q≠vb)
def arN(PK:PkI)(O0:St)(o p:Nat)(ms:List Nat)(Y:St)(x:RX):Prop:=∃Y' x',(x=some (.exit 0,[],Y')\/x=some (.ret,[],Y'))/\SI PK O0 o p ms x' Y'/\Y.length<=Y'.length
def YQ.of{n0 p vb i:Nat}{os:List Nat}{Y:St}{x:AV}(hi:i<=8192)(h:YQ n0 p vb os Y i x):aat n0 p os Y x:=by
 rcases h with⟨_,rfl⟩|⟨_,q,rs,rfl,e1,e2,e3,e4,e5,e6,_⟩
 ·exact .inl rfl
 ·exact .inr ⟨q,rs,by rw[e1],e2,by rw[e1];exact hi,e3,e4,e5,e6⟩
def amd {Y:St} {n0 p vb i:Nat} {os:List Nat} {x:AV} {l:LA} (h:YQ n0 p vb os Y i x) (hl:Ms V0 Rl l) (hi:i<=8192) (hok:Ok Y):
  ∃(S:St) (rs:List LA),rO Y 4 56 none x 1 l=some (.msl Y.length 0 (i+1) 4,S++[.cells rs.flatten FZ])/\rs.length=i+1/\MRs V0 Rl rs/\S.length=Y.length/\(∀k y,k∈os\/k=p\/k<n0\/k=vb->Y[k]?=some y->S[k]?=some y)/\Ok S:=by
 rcases h with⟨rfl,rfl⟩|⟨h0,q,rs,rfl,e1,e2,e3,e4,e5,e6,e7⟩
 ·refine⟨Y,[l],?_,rfl,MRs.one hl,rfl,fun _ _ _ h=>h,hok⟩;rw[GV _ none l (by omega) (by omega) (by omega)]
  simp
 ·refine⟨Y.set q .dead,rs++[l],?_,by simp[e1],e3.app (MRs.one hl),by simp,fun k y hk h=>aF h (fun e=>?_) _,hok.set2 _ rfl⟩
  ·rw[SA l e2 (by omega) (by rw[MRs.len e3,e1];rfl) (by omega) (by omega)]
   simp
  ·subst e;rcases hk with hk|hk|hk|hk
   ·exact e4 hk
   ·exact e5 hk
   ·omega
   ·exact e7 hk
def ZQ (H:Aa C PK) (O0:St) (o p vb:Nat) (ms:List Nat) (c0 c1 c2:AV) (ns:List LU) (is:List JV) (hle:ns.length<=is.length) (h8:is.length<=8192) (hns:∀x∈ns,x.length<=LB) (hvp:vb≠p) (hvo:vb∉o::ms) (hv0:O0.length<=vb):∀(n i:Nat),i+n=ns.length->∀(x:AV) (Y:St),SI PK O0 o p ms x Y->YQ O0.length p vb (o::ms) Y i x->O0.length<=Y.length->
  Y[vb]?=some (.cells [c0,c1,c2,.sl ns.length (ns.map .str),.sl is.length (aJ is)] FZ)->
  arN PK O0 o p ms Y (aH C (ai C) 45 [0,1,4,12,13,14] dS [(0,.ref o 0),(1,.ref p 0),(4,.ref vb 0),(12,.sl ns.length (ns.map .str)),(13,.int .i64 ns.length),(14,.int .i64 i)] Y)
 |0,i,hi,x,Y,I,hm,hl,hv=>by
  have h:¬((i:Int)<(ns.length:Int)):=by omega
  refine⟨Y,x,.inl ?_,I,a06 _⟩;rw[aG (he:=rfl)];simp only[dS,h,EVX,seval]
 |n+1,i,hi,x,Y,I,hm,hl,hv=>by
  have h:((i:Int)<(ns.length:Int)):=by omega
  have h2:i<is.length:=by omega
  have h2n:i<ns.length:=by omega
  have w2:=wrS i (by omega)
  have p2:(0:Int)<=(i:Int):=by omega
  have d2:=xX is i h2;have dr:=X9 ns i h2n;have sl:=jK is;have sn:(ns.map AV.str).length=ns.length:=by simp
  have hx:ns[i].length<=LB:=hns _ (az1 h2n);generalize is[i]=j at*;generalize ns[i]=s at*;generalize aJ (is.drop (i+1))=R at*;have jl:=JV.len j;have jf:=JV.flat j;have jt:(j.cs++R).take 5=j.cs:=by rw[<-jl];simp
  have je:5<=(j.cs++R).length:=by simp[jl]
  obtain⟨v,e1,m1⟩:=BI H.pin (azs:=[.str s,j.av]) (.cons (.str s) (.cons j.nv .nil)) (TJ _ hx (.cons _ _ _ _ (.jv j) .nil)) I.ok;obtain⟨a,b,rfl,m2,m3⟩:=akr m1;obtain⟨e,rfl⟩:=Nq m3;cases m2 with
  |agg _ l ml=>
  obtain⟨s1,a1,b1,rs1,rfl,hb⟩:=aid ml;have hL:([.cells [.str s1,.int .i64 a1,.int .i64 b1,.sl rs1.length rs1.flatten] FZ]:St).all (AO.below (Y.length+1))=true:=by
   simp only[a88,aw1,aw7,AO.below,ae,below,aw6];exact aO (a98 _) _ hb
  have I1:=I.plus _ hL;have g1:=fun L=>fG (rfl:Y.length=_) L;have s1':=fun L y=>sN (rfl:Y.length=_) L y;unfold JV.av at e1;cases ce:(e !=0)with
  |true=>
   obtain⟨w,O3,f1,n1,j1,j2,j3,j4⟩:=JI (azs:=[.int .i64 e]) H.fail I1.ok (.cons (.int _ _) .nil) I1.pk (UU _ .nil);refine⟨O3,x,.inr ?_,I1.pick j1 j2 j3 j4,by rw[j2];simp⟩
   rw[aG (he:=rfl)];generalize hk:aH C (ai C) 45 [0,1,4,12,13,14] dS=kk at*;simp only[dS,h,h2,h2n,w2,p2,d2,dr,sl,sn,hv,e1,ce,f1,g1,s1',jl,jf,jt,je,splice,a81,AV.cells,AV.flat,EVX,seval]
  |false=>
   have hm1:YQ O0.length p vb (o::ms) (Y++[AO.cells [.str s1,.int .i64 a1,.int .i64 b1,.sl rs1.length rs1.flatten] FZ]) i x:=by
    rcases hm with hm|⟨h0,q,rs,y1,y2,y3,y4,y5,y6,y7,y8⟩
    ·exact .inl hm
    ·exact .inr ⟨h0,q,rs,y1,y2,aA y3 _,y4,y5,y6,y7,y8⟩
   obtain⟨S,rs,t1,t2,t3,t4,t5,t6⟩:=amd hm1 ml (by omega) I1.ok
   rw[a04,a07,a09]at t1 t4;simp only[av2]at t1 t4;obtain⟨a0,b0,hs⟩:=I1.s;have hs2:=t5 p _ (.inr (.inl rfl)) hs;have pv:=fun L y=>dJ hs2 L y;have gv:=fun L=>aA hs2 L;have pl:=I.pl;have ok3:Ok (S.set p (.cells [.int .i64 a0,.int .i64 b0,.msl (Y.length+1) 0 (i+1) 4] FZ)++[.cells rs.flatten FZ]):=by
    have:=(t6.plus (L:=[.cells rs.flatten FZ]) (by
     rw[a88,show AO.below 0 (.cells rs.flatten FZ)=true from(MRs.nvs (by rfl) t3).cl];rfl)).set2 p (x:=.cells [.int .i64 a0,.int .i64 b0,.msl (Y.length+1) 0 (i+1) 4] FZ) (by
     simp only[AO.below,ae,below,aw7,aw6,decide_eq_true_eq,a04,a07,a09,t4];omega)
    rwa[pv]at this
   have L3:(S.set p (.cells [.int .i64 a0,.int .i64 b0,.msl (Y.length+1) 0 (i+1) 4] FZ)).length=Y.length+1:=by rw[a95,t4]
   have blk:(S.set p (.cells [.int .i64 a0,.int .i64 b0,.msl (Y.length+1) 0 (i+1) 4] FZ)++[.cells rs.flatten FZ]:St)[Y.length+1]?=some (.cells rs.flatten FZ):=by rw[fG L3];rfl
   have no:Y.length+1∉o::ms:=fun hi=>by have:=I.lt _ hi;omega
   have vl:vb<Y.length:=(a00.mp hv).1;have I3:SI PK O0 o p ms (.msl (Y.length+1) 0 (i+1) 4) (S.set p (.cells [.int .i64 a0,.int .i64 b0,.msl (Y.length+1) 0 (i+1) 4] FZ)++[.cells rs.flatten FZ]):=by
    refine⟨ok3,PK.fr I1.pk fun k hk=>?_,fun k hk=>by rw[a04,L3];have:=I.lt k hk;omega,I.ge,I.np,I.gp,⟨a0,b0,aA (bg hs2 _) _⟩,.inr ⟨_,rs,by rw[t2],blk,by rw[t2];simp only[LS];omega,t3,no,by omega,by omega⟩,fun k y hy=>?_⟩
    ·have hk2:=I1.lt k hk;have e:=a02 hk2;rw[e];exact aA (aF (t5 k _ (.inl hk) e) (fun e'=>I.np (by rw[<-e'];exact hk)) _) _
    ·have:=(a00.mp hy).1;have:=I.gp;exact aA (aF (t5 k _ (.inr (.inr (.inl (by omega)))) (I1.keep k y hy)) (by omega) _) _
   have mi3:YQ O0.length p vb (o::ms) (S.set p (.cells [.int .i64 a0,.int .i64 b0,.msl (Y.length+1) 0 (i+1) 4] FZ)++[.cells rs.flatten FZ]) (i+1) (.msl (Y.length+1) 0 (i+1) 4):=
    .inr ⟨by omega,_,rs,rfl,t2,blk,t3,no,by omega,by omega,by omega⟩
   obtain⟨Y',x',r1,r2,r3⟩:=ZQ H O0 o p vb ms c0 c1 c2 ns is hle h8 hns hvp hvo hv0 n (i+1) (by omega) _ _ I3 mi3 (by rw[a04,L3];omega) (aA (aF (t5 vb _ (.inr (.inr (.inr rfl))) (aA hv _)) hvp _) _)
   have go:∀r,aH C (ai C) 45 [0,1,4,12,13,14] dS [(0,.ref o 0),(1,.ref p 0),(4,.ref vb 0),(12,.sl ns.length (ns.map .str)),(13,.int .i64 ns.length),(14,.int .i64 (i+1:Nat))] (S.set p (.cells [.int .i64 a0,.int .i64 b0,.msl (Y.length+1) 0 (i+1) 4] FZ)++[.cells rs.flatten FZ])=r->aH C (ai C) 45 [0,1,4,12,13,14] dS [(0,.ref o 0),(1,.ref p 0),(4,.ref vb 0),(12,.sl ns.length (ns.map .str)),(13,.int .i64 ns.length),(14,.int .i64 i)] Y=r:=fun r er=>by
    have xf:x.flat=true:=by
     rcases hm with⟨_,rfl⟩|⟨_,q,_,rfl,_⟩<;>rfl
    rw[aG (he:=rfl)];generalize hk:aH C (ai C) 45 [0,1,4,12,13,14] dS=kk at*;simp only[dS,h,h2,h2n,w2,p2,d2,dr,sl,sn,hv,e1,ce,hs,t1,pv,gv,er,xf,g1,s1',jl,jf,jt,je,splice,a81,AV.cells,AV.flat,EVX,seval]
   refine⟨Y',x',r1.imp (fun e=>go _ e) (fun e=>go _ e),r2,by rw[a04,L3]at r3;omega⟩
def aib(H:Aa C PK):aqs C PK vC:=by
 intro O0 o p ms Y I hl;obtain⟨v,O2,e1,m1,k1,k2,k3,k4⟩:=JI (azs:=[.str [109,101,116,97],.int .i64 256]) H.obj I.ok (.cons (.str _) (.cons (.int _ _) .nil)) I.pk (TJ _ (by simp[LB]) (UU _ .nil))
 have I2:=I.pick k1 k2 k3 k4;obtain⟨j,rfl⟩:=ZE m1;obtain⟨k,n,t,ns,is,h1,h3,h2,h4,rfl⟩:=j.ex;have ca:(JV.mk k n t ns is h1 h3 h2 h4).av=.agg [.int .u8 k,.int .i64 n,.str t,.sl ns.length (ns.map .str),.sl is.length (aJ is)]:=by unfold JV.av;rw[JV.mk_cs]
 rw[ca]at e1;have hL:([.cells [.int .u8 k,.int .i64 n,.str t,.sl ns.length (ns.map .str),.sl is.length (aJ is)] FZ]:St).all (AO.below (O2.length+1))=true:=by
  have:=aO (a98 (O2.length+1)) _ (JV.bel (JV.mk k n t ns is h1 h3 h2 h4));rw[JV.mk_cs]at this;simp only[a88,aw1,aw7,AO.below];exact this
 have I3:=I2.plus _ hL;have bx:(O2++[AO.cells [.int .u8 k,.int .i64 n,.str t,.sl ns.length (ns.map .str),.sl is.length (aJ is)] FZ]:St)[O2.length]?=some (.cells [.int .u8 k,.int .i64 n,.str t,.sl ns.length (ns.map .str),.sl is.length (aJ is)] FZ):=by rw[fG rfl];rfl
 have s1:=fun L y=>sN (rfl:O2.length=_) L y;obtain⟨Y',x',r1,r2,r3⟩:=ZQ H O0 o p O2.length ms _ _ _ ns is h1 h2 h4.ns (by have:=I2.pl;omega) (fun hi=>by have:=I2.lt _ hi;omega) (by omega) ns.length 0 (by omega) .nils _ I3 (.inl ⟨rfl,rfl⟩) (by simp;omega) bx
 simp only[a04,a07,a09]at r3;have hn:=Gi o p Y;rw[H.pMeta.go hn];refine⟨_,x',?_,r2.tidy [] (by omega) I.pl I.lt hl,J8 (by omega)⟩
 simp only[Int.natCast_zero,at6]at r1;rcases r1 with r1|r1
 ·simp only[zF,e1,bx,s1,r1,splice,AV.cells,AV.flat,EX,a99,EVX,seval]
 ·simp only[zF,e1,bx,s1,r1,splice,AV.cells,AV.flat,EX,a99,EVX,seval]
def JG:LA:=[.func (.func vF) [] [],.func (.func qw) [] [],.func (.func qp) [] [],.func (.func vC) [] []]
def adu(H:Aa C PK)(O:St):ai C Ql [] O=some (.sl 4 JG,O):=by
 rw[H.parts.go (by rfl)]
 have hh:hand false [.xsl 4 JG] O=some ([.sl 4 JG],O):=rfl;simp only[Pi,AV.cells,AV.flat,rep,EVX,seval];rfl
def VE (H:Aa C PK) (O0:St) (o p n2:Nat) (ms:List Nat) (f:FuncId) (i:Nat) (hi:i<4) (R:LA) (hd:JG.drop i=.func (.func f) [] []::R) (Y Y':St) (hp:ai C f [.ref o 0,.ref p 0] (Y++[.cells [.func (.func f) [] []] FZ])=some (bD [],Y')):
  aH C (ai C) 33 [2,4,5,15,16,17] ru [(2,.ref n2 0),(4,.ref o 0),(5,.ref p 0),(15,.sl 4 JG),(16,.int .i64 4),(17,.int .i64 i)] Y=aH C (ai C) 33 [2,4,5,15,16,17] ru [(2,.ref n2 0),(4,.ref o 0),(5,.ref p 0),(15,.sl 4 JG),(16,.int .i64 4),(17,.int .i64 (i+1:Nat))] Y':=by
 have h:((i:Int)<(4:Int)):=by omega
 have w2:=wrS i (by omega)
 have p2:(0:Int)<=(i:Int):=by omega
 have pl:JG.length=4:=rfl;have g1:=fun L=>fG (rfl:Y.length=_) L;have s1:=fun L y=>sN (rfl:Y.length=_) L y
 conv=>lhs;rw[aG (he:=rfl)]
 generalize hk:aH C (ai C) 33 [2,4,5,15,16,17] ru=kk at*;simp only[ru,h,hi,w2,p2,pl,hd,hp,g1,s1,jV,splice,a81,AV.cells,AV.flat,EVX,seval]
def acF {O Y:St} {p:Nat} {os:List Nat} {n0:Nat} (hσ:Ok O) (hn0:O.length<=n0) (a b e:Int) (x:AV) (hm:aat n0 p os Y x) (E:As) (h2:look E 2=.ref (O.length+1) 0) (h3:look E 3=.int .i64 e) (hl:Y[O.length+1]?=some (.cells [.int .i64 a,.int .i64 b,x] FZ)) (ht:Y.take O.length=O):
  ∃v,xu O.length [.cell 2 true 3,.tmp 3] (some (.ret,E,Y))=some (v,O)/\M V0 (.tup [.agg [.int .i64,.int .i64,.slx Rl],.int .i64]) v:=by
 have m0:∀rs,rs.length<=LS->MRs V0 Rl rs->M V0 (.tup [.agg [.int .i64,.int .i64,.slx Rl],.int .i64]) (.tup [.agg [.int .i64 a,.int .i64 b,.sl rs.length rs.flatten],.int .i64 e]):=fun rs h1 h2=>
  .tup _ _ (.cons _ _ _ _ (.agg _ _ (.one _ _ _ _ rfl (.int _ _) (.one _ _ _ _ rfl (.int _ _) (.one _ _ _ _ rfl (.slx _ rs h1 h2) .nil)))) (UU e .nil))
 have xf:x.flat=true:=by
  rcases hm with rfl|⟨q,_,rfl,_⟩<;>rfl
 rw[uD];have hr:aY E Y [.cell 2 true 3,.tmp 3]=some [.agg [.int .i64 a,.int .i64 b,x],.int .i64 e]:=by
  simp only[aY,h2,h3,hl,pt,AV.flat,au0,a07,a09,List.take,a88,aw1,xf];rfl
 rw[hr];dsimp only;rcases hm with rfl|⟨q,rs,rfl,e2,e3,e4,e5,e6,e7⟩
 ·have hh:hand false [.agg [.int .i64 a,.int .i64 b,.nils],.int .i64 e] Y=some ([.agg [.int .i64 a,.int .i64 b,.sl 0 []],.int .i64 e],Y):=by
   rw[oW,aK,aX,aK,aK,aK,dA,vG];rfl
  rw[hh];dsimp only;rw[pG hσ rfl ht];exact⟨_,rfl,m0 [] (by simp) (.nil _)⟩
 ·have nv:=MRs.nvs (by rfl) e4
  have hh:hand false [.agg [.int .i64 a,.int .i64 b,.msl q 0 rs.length 4],.int .i64 e] Y=some ([.agg [.int .i64 a,.int .i64 b,.sl rs.length rs.flatten],.int .i64 e],Y.set q (.cells rs.flatten ⟨true,none⟩)):=by
   rw[oW,aK,aX,aK,aK,aK,OJ e2 (show rs.flatten.length=rs.length*4 from MRs.len e4) nv,vG,<-zL e2];rfl
  rw[hh];dsimp only;rw[pG hσ (by simp only[ae,below,nv.cl,aw7]) (by rw[dH _ _ _ (by omega),ht])]
  exact⟨_,rfl,m0 rs e3 e4⟩
def aft(H:Aa C PK)(j:JV)(O:St)(hσ:Ok O):∃v,ai C vz [j.av] O=some (v,O)/\M V0 (.tup [.agg [.int .i64,.int .i64,.slx Rl],.int .i64]) v:=by
 have hn:hand false [j.av] O=some ([j.av],O):=NVs.hand (.cons j.nv .nil) _;have ok2:Ok (O++[.cells j.cs FZ,.cells [.int .i64 0,.int .i64 0,.nils] FZ]):=hσ.plus (by rw[a88,show AO.below 0 (.cells j.cs FZ)=true from j.bel];rfl)
 obtain⟨vm,m1,m2⟩:=BI H.May (azs:=[j.av]) (.cons j.nv .nil) (.cons _ _ _ _ (.jv j) .nil) ok2;obtain⟨b,rfl⟩:=JA m2;have jl:=JV.len j;have jf:=JV.flat j;have jt':j.cs.take 5=j.cs:=a08 (by rw[JV.len];exact a06 _)
 have je':5<=j.cs.length:=by rw[JV.len];exact a06 _
 have m0:∀e,M V0 (.tup [.agg [.int .i64,.int .i64,.slx Rl],.int .i64]) (.tup [.agg [.int .i64 0,.int .i64 0,.sl 0 []],.int .i64 e]):=fun e=>
  .tup _ _ (.cons _ _ _ _ (.agg _ _ (.one _ _ _ _ rfl (.int _ _) (.one _ _ _ _ rfl (.int _ _) (.one _ _ _ _ rfl (.slx _ [] (by simp) (.nil _)) .nil)))) (UU e .nil))
 cases b with
 |false=>
  have ty:=fun(e:Int)=>dE hσ (vs:=[.agg [.int .i64 0,.int .i64 0,.sl 0 []],.int .i64 e]) rfl;refine⟨_,?_,m0 3⟩;unfold JV.av at*;rw[H.snapOf.go hn];simp only[Kt,m1,jl,jf,jt',je',ty,aY,aX,dA,AV.cells,AV.flat,splice,EVX,seval]
 |true=>
  obtain⟨L,o,ms,f1,f2,f3,f4⟩:=H.of _ [j.av] [j.av] _ ok2 (NVs.hand (.cons j.nv .nil) _) ok2 (.cons _ _ _ _ (.jv j) .nil);generalize hp:O++[AO.cells j.cs FZ,.cells [.int .i64 0,.int .i64 0,.nils] FZ]=O2 at*;have l2:O2.length=O.length+2:=by rw[<-hp];simp
  have lo:(((4:Nat):Int))=4:=rfl;have g0:O2[O.length]?=some (.cells j.cs FZ):=by rw[<-hp,aQ];rfl
  have lT:O2.length<=(O2++L).length:=by simp
  have kT:∀(i:Nat) (y:AO),O2[i]?=some y->(O2++L)[i]?=some y:=fun i y hy=>aA hy _;generalize hT:O2++L=T at*;have I0:SI PK O2 o T.length ms .nils (T++[.cells [.int .i64 0,.int .i64 0,.nils] FZ]):=by
   refine⟨f2.plus rfl,PK.fr f4 fun i hi=>by rw[av1 (f3 i hi).2],fun i hi=>by have:=(f3 i hi).2;rw[a04];omega,fun i hi=>(f3 i hi).1,fun hi=>by have:=(f3 _ hi).2;omega,lT,⟨0,0,by rw[fG rfl];rfl⟩,.inl rfl,fun i y hy=>aA (kT i y hy) _⟩
  have fb:∀(f:FuncId) (n:Nat),([.cells [.func (.func f) [] []] FZ]:St).all (AO.below n)=true:=fun f n=>rfl;obtain⟨Y1,p1,I1,l1⟩:=aic H O2 o _ ms _ (I0.plus _ (fb vF _)) (by rw[a04,a04];omega)
  obtain⟨Y2,p2,I2,k2⟩:=abw H O2 o _ ms _ (I1.plus _ (fb qw _)) (by simp only[a04,a07,a09]at l1⊢;omega)
  obtain⟨Y3,p3,I3,k3⟩:=abv H O2 o _ ms _ (I2.plus _ (fb qp _)) (by simp only[a04,a07,a09]at l1 k2⊢;omega)
  obtain⟨Y4,x,p4,I4,k4⟩:=aib H O2 o _ ms _ (I3.plus _ (fb vC _)) (by simp only[a04,a07,a09]at l1 k2 k3⊢;omega)
  have q1:=VE H O2 o _ (O.length+1) ms _ 0 (by omega) _ rfl _ _ p1
  have q2:=VE H O2 o _ (O.length+1) ms _ 1 (by omega) _ rfl _ _ p2
  have q3:=VE H O2 o _ (O.length+1) ms _ 2 (by omega) _ rfl _ _ p3
  have q4:=VE H O2 o _ (O.length+1) ms _ 3 (by omega) _ rfl _ _ p4
  have q5:aH C (ai C) 33 [2,4,5,15,16,17] ru [(2,.ref (O.length+1) 0),(4,.ref o 0),(5,.ref T.length 0),(15,.sl 4 JG),(16,.int .i64 4),(17,.int .i64 (3+1:Nat))] Y4=some (.exit 0,[(2,.ref (O.length+1) 0),(4,.ref o 0),(5,.ref T.length 0)],Y4):=by
   rw[aG (he:=rfl)];have h:¬((((3+1:Nat):Nat):Int)<(4:Int)):=by omega
   simp only[ru,h,EVX,seval]
  rw[q2]at q1;rw[q3]at q1;rw[q4,q5]at q1;obtain⟨w,O3,d1,d2,j1,j2,j3,j4⟩:=JI (azs:=[]) H.done I4.ok .nil I4.pk .nil;obtain⟨e,rfl⟩:=Nq d2;have I5:=I4.pick j1 j2 j3 j4;obtain⟨a,b,hs⟩:=I5.s;have hres:O3[O.length+1]?=some (.cells [.int .i64 0,.int .i64 0,.nils] FZ):=I5.keep _ _ (by rw[<-hp,dM];rfl)
  have hpre:O3.take O.length=O:=by
   apply aw5;intro i;rw[au7];split
   ·rename_i hi;have h1:O2[i]?=some O[i]:=by rw[<-hp];exact aA (a02 hi) _
    rw[I5.keep i _ h1,a02 hi]
   ·rw[aw2 (by omega)]
  have pt2:∀y:AO,(O3.set (O.length+1) y).take O.length=O:=fun y=>by rw[dH _ _ _ (by omega),hpre]
  have sr:=fun y=>bg hres y;unfold JV.av at*;rw[H.snapOf.go hn];simp only[Int.natCast_zero,at6]at q1;cases ce:(e !=0)with
  |true=>
   obtain⟨v,v1,v2⟩:=acF (n0:=O2.length) (p:=0) (os:=[]) (Y:=O3.set (O.length+1) (.cells [.int .i64 0,.int .i64 0,.nils] FZ)) hσ (by omega) 0 0 e .nils (.inl rfl) [(2,.ref (O.length+1) 0),(3,.int .i64 e)] rfl rfl (sr _) (pt2 _)
   refine⟨v,?_,v2⟩;rw[<-v1];simp only[Kt,m1,f1,adu H,q1,d1,ce,hres,g0,fG,sN,jl,jf,jt',je',hp,AV.cells,AV.flat,splice,EVX,seval]
  |false=>
   have e0:e=0:=by simpa using ce
   have mf:x.flat=true:=by
    rcases I5.meta_ with rfl|⟨q,_,rfl,_⟩<;>rfl
   have m5:aat O2.length T.length (o::ms) (O3.set (O.length+1) (.cells [.int .i64 a,.int .i64 b,x] FZ)) x:=by
    rcases I5.meta_ with hm|⟨q,rs,y1,y2,y3,y4,y5,y6,y7⟩
    ·exact .inl hm
    ·exact .inr ⟨q,rs,y1,aF y2 (by omega) _,y3,y4,y5,y6,y7⟩
   obtain⟨v,v1,v2⟩:=acF (Y:=O3.set (O.length+1) (.cells [.int .i64 a,.int .i64 b,x] FZ)) hσ (by omega) a b 0 x m5 [(2,.ref (O.length+1) 0),(3,.int .i64 0)] rfl rfl (sr _) (pt2 _)
   refine⟨v,?_,v2⟩;rw[<-v1];clear v1 v2 m5;rcases I5.meta_ with hx|⟨q,rs,hx,_⟩<;>subst hx<;>simp only[Kt,m1,f1,adu H,q1,d1,ce,hres,hs,g0,fG,sN,jl,jf,jt',je',hp,AV.cells,AV.flat,splice,EVX,seval]
def ahj {tg:Option (TypeId×Bool)} (O:St) (k:Nat) (acc cs:LU) (m:Nat) (hm:cs.length=m) (h0:0<m) (hl:acc.length+m<=70368744177664):
  rO (pile O k (.cells (ofBytes acc) FZ)) 1 1 tg (.msl (O.length+k) 0 acc.length 1) m (ofBytes cs)=some (.msl (O.length+(k+1)) 0 (acc++cs).length 1,pile O (k+1) (.cells (ofBytes (acc++cs)) FZ)):=by
 have hm0:¬m=0:=by omega
 have ht:(if none=tg then tg else none)=none:=by split<;>simp_all
 unfold rO;rw[if_neg hm0];simp only[JH];rw[if_pos ⟨trivial,by rw[aI];omega,by omega,hl⟩,adv,UH,JD,a04,hm,ht]
def agH{O:St}(h:Ok O)(k:Nat)(acc:LU)(fz:Fz):Ok (pile O k (.cells (ofBytes acc) fz)):=by
 unfold pile;refine h.app ?_;rw[aC6,a01];refine⟨?_,by simp[AO.below,jG]⟩
 rw[a90];intro x hx;obtain⟨_,rfl⟩:=List.mem_replicate.mp hx;rfl
def anH(v:Int):∃b:UInt8,IntKind.u8.wrap v=(b.toNat:Int):=by
 have h:0<=IntKind.u8.wrap v/\IntKind.u8.wrap v<256:=by rw[IntKind.wrap_u8];omega
 refine⟨UInt8.ofNat (IntKind.u8.wrap v).toNat,?_⟩;simp only[UInt8.toNat_ofNat'];omega
structure VO(C:Ctx)(PK:PkI):Prop where
 decode:Has C CS CB
 is:gu C PK Jn (.pure [.strb] .bool)
 digit:gu C PK ash (.pure [.strb,.int .i64] (.tup [.int .i64,.bool]))
def acx(H:VO C PK)(s:LU)(hs:s.length<=LB)(i:Int){O:St}(hσ:Ok O):∃(d:Int) (b:Bool),ai C ash [.str s,.int .i64 i] O=some (.tup [.int .i64 d,.bool b],O):=by
 obtain⟨v,h1,h2⟩:=BI H.digit (.cons (.str s) (.cons (.int .i64 i) .nil)) (.cons _ _ _ _ (.strb s hs) (.cons _ _ _ _ (.int _ _) .nil)) hσ;obtain⟨w,rfl,hw⟩:=ajR h2;obtain⟨x,y,rfl,hx,hy⟩:=ahP hw;obtain⟨d,rfl⟩:=Nq hx;obtain⟨b,rfl⟩:=JA hy;exact⟨d,b,h1⟩
def Uo (H:VO C PK) (s:LU) (hs:s.length<=LB) (O:St) (hσ:Ok O):∀(n i k:Nat) (acc:LU),i+2*n=s.length->acc.length+n<=s.length->
  ∃(k':Nat) (acc':LU),aH C (ai C) 50 [0,4,5] qC [(0,.str s),(4,.msl (O.length+k) 0 acc.length 1),(5,.int .i64 i)] (pile O k (.cells (ofBytes acc) FZ))=
   some (.exit 0,[(4,.msl (O.length+k') 0 acc'.length 1)],pile O k' (.cells (ofBytes acc') FZ))/\acc'.length<=s.length
 |0,i,k,acc,hi,ha=>by
  refine⟨k,acc,?_,by omega⟩
  rw[aG (he:=rfl)];have h:¬((i:Int)<(s.length:Int)):=by omega
  simp only[qC,h,bU,EVX,seval]
 |n+1,i,k,acc,hi,ha=>by
  have hs':=hs;simp only[LB]at hs';have h:((i:Int)<(s.length:Int)):=by omega
  have hw1:=wrS i (by omega)
  have hw2:IntKind.i64.wrap ((i:Int)+2)=((i+2:Nat):Int):=wrE (by omega)
  obtain⟨d1,b1,e1⟩:=acx H s hs (i:Int) (agH hσ k acc FZ);obtain⟨d2,b2,e2⟩:=acx H s hs ((i+1:Nat):Int) (agH hσ k acc FZ);have n4:¬((4:Int)<0):=by decide
  obtain⟨v,hv⟩:∃v,v=(BitVec.ofInt IntKind.i64.bits (IntKind.i64.wrap (d1*2^(min (4:Nat) IntKind.i64.bits)))|||BitVec.ofInt IntKind.i64.bits d2).toNat:=⟨_,rfl⟩;obtain⟨b,hb⟩:=anH (IntKind.i64.wrap (v:Int));have happ:∀tg,rO (pile O k (.cells (ofBytes acc) FZ)) 1 1 tg (.msl (O.length+k) 0 acc.length 1) 1 [.int .u8 b.toNat]=some (.msl (O.length+(k+1)) 0 (acc++[b]).length 1,pile O (k+1) (.cells (ofBytes (acc++[b])) FZ)):=fun tg=>ahj O k acc [b] 1 rfl (by omega) (by omega)
  obtain⟨k',acc',ih,hl⟩:=Uo H s hs O hσ n (i+2) (k+1) (acc++[b]) (by omega) (by simp;omega)
  refine⟨k',acc',?_,hl⟩;rw[aG (he:=rfl)];generalize hk:aH C (ai C) 50 [0,4,5] qC=rest at*;simp only[qC,h,hw1,hw2,e1,e2,n4,<-hv,hb,happ,ih,bU,splice,EVX,seval]
def hex_Decode(H:VO C PK)(s:LU)(hs:s.length<=LB)(O:St)(hσ:Ok O):∃(t:LU) (e:Int),ai C CS [.str s] O=some (.tup [.str t,.int .i64 e],O)/\t.length<=LB:=by
 rw[H.decode.go (NVs.hand (.cons (.str _) .nil) _)];have hs':=hs;simp only[LB]at hs';obtain⟨v,h1,h2⟩:=BI H.is (.cons (.str s) .nil) (.cons _ _ _ _ (.strb s hs) .nil) hσ;obtain⟨b,rfl⟩:=JA h2;cases b with
 |false=>exact⟨[],3,by simp only[CB,h1,aS,EVX,seval],by simp[LB]⟩
 |true=>
  have n2:¬((2:Int)=0):=by decide
  cases hr:((s.length:Int).tmod 2 !=0)with
  |true=>exact⟨[],4,by simp only[CB,h1,n2,hr,aS,EVX,seval],by simp[LB]⟩
  |false=>
   have hr':(s.length:Int).tmod 2=0:=by simpa using hr
   rw[aC9 (by omega)]at hr'
   obtain⟨k',acc',lp,hl⟩:=Uo H s hs O hσ (s.length/2) 0 0 [] (by omega) (by simp;omega)
   simp only[a09,aD4,at6]at lp;have hw:IntKind.i64.wrap ((s.length:Int).tdiv 2)=((s.length/2:Nat):Int):=by
    have:(s.length:Int).tdiv 2=((s.length/2:Nat):Int):=by rw[Int.tdiv_eq_ediv_of_nonneg (by omega)];omega
    rw[this,w64]<;>omega
   have c1:(0:Int)<=((s.length/2:Nat):Int):=by omega
   have c2:((s.length/2:Nat):Int)<=9223372036854775807:=by omega
   have c3:((s.length/2:Nat):Int)<=140737488355328:=by omega
   have c0:(0:Int)<=0:=by decide
   have hp:O++[AO.cells [] FZ]=pile O 0 (.cells (ofBytes []) FZ):=rfl;have hb:=uC acc';have ht:(ofBytes acc').take acc'.length=ofBytes acc':=a08 (by rw[aI];omega)
   have hy:tidy O.length [.str acc',.int .i64 0] (pile O k' (.cells (ofBytes acc') FZ))=O:=aai hσ rfl _ _;refine⟨acc',0,?_,by omega⟩
   simp only[CB,h1,n2,hr,hw,c0,c1,c2,c3,hp,lp,hb,ht,hy,JH,aI,aA6,Int.one_mul,aw9,au0,av2,and_self,EVX,seval]
def YG(H:VO C PK):gu C PK CS (.pure [.strb] (.tup [.strb,.int .i64])):=
 vI H.decode rfl fun azs hm=>by
  obtain⟨x,rfl,h1⟩:=YC hm;obtain⟨a,rfl,ha⟩:=xC h1;intro O hσ;obtain⟨t,e,h,ht⟩:=hex_Decode H a ha O hσ;exact⟨_,h,.tup _ _ (.cons _ _ _ _ (.strb t ht) (.cons _ _ _ _ (.int _ _) .nil))⟩
def abQ(H:Kw C)(hC:Has C iD rf):gu C PK iD (.pure [.strb] (.tup [.jv,.int .i64,.int .i64])):=
 vI hC rfl fun azs hm=>by
  obtain⟨x,rfl,h1⟩:=YC hm;obtain⟨a,rfl,ha⟩:=xC h1;intro O hσ;obtain⟨j,p,e,h⟩:=aig H hC a O hσ;exact⟨_,h,.tup _ _ (.cons _ _ _ _ (.jv j) (.cons _ _ _ _ (.int _ _) (.cons _ _ _ _ (.int _ _) .nil)))⟩
def abS(H:GU C PK):gu C PK Bg (.pure [.jv] .bool):=
 vI H.May rfl fun azs hm=>by
  obtain⟨x,rfl,h1⟩:=YC hm;obtain⟨j,rfl⟩:=ZE h1;intro O hσ;obtain⟨b,h,_⟩:=RS H j O hσ;exact⟨_,h,.bool b⟩
def YI(H:CopyHas C):gu C PK CV (.pure [.jv] .jv):=
 vI H.copy rfl fun azs hm=>by
  obtain⟨x,rfl,h1⟩:=YC hm;obtain⟨j,rfl⟩:=ZE h1;intro O hσ;exact⟨_,O7 H j O hσ,.jv j⟩
def abR(H:CopyHas C)(F:Vl C)(hC:Has C Be xO):gu C PK Be (.pure [.jv,.strb] (.tup [.jv,.bool])):=
 vI hC rfl fun azs hm=>by
  obtain⟨x,y,rfl,h1,h2⟩:=ahP hm;obtain⟨j,rfl⟩:=ZE h1;obtain⟨s,rfl,_⟩:=xC h2;intro O hσ;obtain⟨j',b,h⟩:=aiy H F hC j s O hσ;exact⟨_,h,.tup _ _ (.cons _ _ _ _ (.jv j') (.cons _ _ _ _ (.bool b) .nil))⟩
def Vd(H:NJ C)(V:GU C PK)(hC:Has C iE yC):gu C PK iE (.pure [.jv] (.tup [.strb,.int .i64])):=
 vI hC rfl fun azs hm=>by
  obtain⟨x,rfl,h1⟩:=YC hm;obtain⟨j,rfl⟩:=ZE h1;intro O hσ;obtain⟨s,e,h,hl⟩:=U1 H V j O hσ;exact⟨_,h,.tup _ _ (.cons _ _ _ _ (.strb s hl) (.cons _ _ _ _ (.int _ _) .nil))⟩
def adW(H:aav C)(hC:Has C tu wV):gu C PK tu (.pure [.slc 2 [.strb,.jv,.strb,.jv]] (.tup [.jv,.int .i64])):=
 vI hC rfl fun azs hm=>by
  obtain⟨x,rfl,h1⟩:=YC hm;obtain⟨l,rfl,h2⟩:=ajP h1;intro O hσ;cases h2 with
  |one _ _ v1 b1 _ x1 y1=>
   obtain⟨s1,rfl,l1⟩:=xC x1;cases y1 with
   |one _ _ _ _ h _ _=>exact absurd h (by decide)
   |jv _ j1 b2 y2=>
    cases y2 with
    |one _ _ v3 b3 _ x3 y3=>
     obtain⟨s2,rfl,l2⟩:=xC x3;cases y3 with
     |one _ _ _ _ h _ _=>exact absurd h (by decide)
     |jv _ j2 b4 y4=>
      cases y4;obtain⟨j,e,h⟩:=adn H [(⟨s1,l1⟩,j1),(⟨s2,l2⟩,j2)] (by simp) (by simp) O hσ
      have e1:kQ [(⟨s1,l1⟩,j1),(⟨s2,l2⟩,j2)]=.str s1::(j1.cs++.str s2::(j2.cs++[])):=by simp[kQ,elC]
      rw[e1]at h;exact⟨_,h,.tup _ _ (.cons _ _ _ _ (.jv j) (.cons _ _ _ _ (.int _ _) .nil))⟩
variable{V:Val}
def afs(H:Aa C PK):gu C PK vz (.pure [.jv] (.tup [.agg [.int .i64,.int .i64,.slx Rl],.int .i64])):=
 vI H.snapOf rfl fun azs hm=>by
  obtain⟨x,rfl,h1⟩:=YC hm;obtain⟨j,rfl⟩:=ZE h1;intro O hσ;obtain⟨v,h,k⟩:=aft H j O hσ;exact⟨v,h,k⟩
def aph{v:AV}(h:M V (.tup [.strb,.bool]) v):∃s b,v=.tup [.str s,.bool b]:=by
 cases h with
 |tup _ _ h=>
  cases h with
  |cons _ _ x b h1 h2=>
   cases h2 with
   |cons _ _ y b h3 h4=>
    cases h4;cases h1;cases h3;exact⟨_,_,rfl⟩
def aon{D:Ctx}{PK:PkI}{f:FuncId}{l args:List Sh}(h:gu D PK f (.ro l args .bool))(hc:cls args=true){cs:LA}{fz:Fz}(hcs:Ms V0 l cs)(hb:ae 0 cs=true){azs:LA}(hm:Mt V0 args azs):∃b:Bool,∀(O:St) (o:Nat),O[o]?=some (.cells cs fz)->pRo D f (.ref o 0::azs) O=some (.bool b,O):=by
 have hn:=Mt.nvs hm hc;have ok1:Ok [AO.cells cs fz]:=by
  have:Ok ([]++[AO.cells cs fz]):=af9.plus (by
   have:AO.below 0 (.cells cs fz)=true:=hb;rw[a88,this];rfl)
  exact this
 have hh:∀(Y:St) (o:Nat),hand false (.ref o 0::azs) Y=some (.ref o 0::azs,Y):=fun Y o=>by
  show(match df Y 12 (.ref o 0::azs)with|some (l,fs)=>some (l,freeze Y fs)|none=>none)=_
  rw[show df Y 12 (.ref o 0::azs)=(match asb Y (df Y 11) (.ref o 0),aT Y (df Y 11) azs with|some (v,fs),some (l,gs)=>some (v::l,fs++gs)|_,_=>none)from rfl,hn.nf,show asb Y (df Y 11) (.ref o 0)=some (.ref o 0,[])from rfl]
  rfl
 obtain⟨v,e,hv⟩:=h [.cells cs fz] 0 azs azs [.cells cs fz] cs fz ok1 (hh _ 0) ok1 rfl hcs hm;obtain⟨b,rfl⟩:=aqR hv;refine⟨b,fun O o ho=>?_⟩;simp only[pRo,hh,ho,hn.cl,hb,e,and_self,if_true,below]
end Go.Ev
namespace Go.Ev
set_option maxRecDepth 100000
variable{C:Ctx}
def Kcl(zs:LA)(sz bytes:Nat):KF:=⟨1,8,[(.tmp 2)],(.seq (.ops [o 2 (.mv (.c .nils))])
 (.seq (.seq (.ops [m 3 0,o 4 (.bin .eql 7 true (.t 3) (.c .nils))])
 (.cond (.t 4)
 (.seq (.ops [o 2 (.mv (.c .nils))])
 (.ret [2]))
 .skip))
 (.seq (.ops [o 5 (.buildSl zs 0 sz []),m 6 0,o 7 (.app false sz bytes none (.t 5) (.t 6)),m 2 7])
 (.ret [2]))))⟩
def clone_any{f:FuncId}{zs:LA}{sz bytes:Nat}(hC:Has C f (Kcl zs sz bytes))(hb:bytes<=48)(hz:0<sz)(ho:Cb zs=false)(n:Nat)(l:LA)(hl:l.length=n*sz)(h0:0<n)(hn:n<=1099511627776)(hs:l.all Vb=true)(O:St)(hσ:Ok O):ai C f [.sl n l] O=some (.sl n l,O):=by
 have ns:=adL hs;rw[hC.go (NVs.hand (.cons (.sl n ns.cl) .nil) _)];have fa:=ail hs;have h1:¬n=0:=by omega
 have nb:n*bytes<=70368744177664:=ax7 (Nat.mul_le_mul hn hb) (by decide)
 have ap:=fun Y:St=>V7 Y none (sz:=sz) (bytes:=bytes) (n:=0) (m:=n) (l:=[]) l h1 (by simp) (by rw[av2];exact nb) (by omega)
 simp only[av2,au3]at ap;have ft:l.take (n*sz)=l:=a08 (by omega)
 have nr:∀Y,df Y 11 l=some (l,[]):=fun Y=>by
  show aT Y (df Y 10) l=_;exact ns.nf _ _
 have hd:∀Y:St,hand false [.msl Y.length 0 n sz] (Y++[.cells l FZ])=some ([.sl n l],Y++[.cells l ⟨true,none⟩]):=fun Y=>by
  have hle:0+n*sz<=l.length:=by omega
  have:asb (Y++[.cells l FZ]) (df (Y++[.cells l FZ]) 11) (.msl Y.length 0 n sz)=some (.sl n l,[Y.length]):=by
   unfold asb;rw[aQ];show(if 0+n*sz<=l.length then match df _ 11 ((l.drop 0).take (n*sz))with|some (l,fs)=>some (AV.sl n l,Y.length::fs)|none=>none else none)=_
   rw[if_pos hle,au0,ft,nr]
  rw[oW,aK,this,vG];show some ([AV.sl n l],freeze (Y++[.cells l FZ]) [Y.length])=_;unfold freeze;rw[aQ];show some ([AV.sl n l],freeze ((Y++[AO.cells l FZ]).set Y.length (AO.cells l ⟨true,none⟩)) [])=_;rw[jm];rfl
 have ty:=fun L=>dE hσ (vs:=[.sl n l]) (by rw[ae,below,ns.cl];rfl) L
 have e:∀(E:As) (Y:St),look E 2=.msl O.length 0 n sz->Y=O++[AO.cells l FZ]->xu O.length [.tmp 2] (some (.ret,E,Y))=some (.sl n l,O):=fun E Y hE hτ=>by
  subst hτ;rw[uD,show aY E (O++[AO.cells l FZ]) [.tmp 2]=some [look E 2]from rfl,hE];dsimp only;rw[hd];dsimp only;rw[ty];rfl
 generalize hK:xu=eR at*;simp only[Kcl,hl,h0,ho,Cj,Nat.zero_mul,fa,ap,EVX,seval];rw[<-hK]at*;exact e _ _ rfl rfl
variable{V:Val}
structure jQ.ok(r:jQ):Prop where
 ks:zC r.ks
 rt:xM r.rt.ids
 sn:xM r.sn.ids
 tg:xM r.tg.ids
def aeQ(r:LA)(h:Ms V [.strb] r):∃s,r=sC s/\s.length<=LB:=by
 obtain⟨s,b,rfl,h0,h1⟩:=Aj h;rw[Ee h1];exact⟨s,rfl,h0⟩
def ajX{v:AV}(h:M V (.agg [.int .i64,.int .i64,.slx [.strb,.strb],.int .i64,.slx [.strb],.int .i64,.slx [.strb],.int .i64,.slx [.strb]]) v):∃r:jQ,v=.agg r.cs/\r.ok:=by
 cases h with
 |agg _ v h=>
  obtain⟨a,b,rfl,h1⟩:=xE h;obtain⟨e,b,rfl,h2⟩:=xE h1;obtain⟨k,b,rfl,l1,q1,h3⟩:=xG ajW h2;obtain⟨t1,b,rfl,h4⟩:=xE h3;obtain⟨i1,b,rfl,l2,q2,h5⟩:=xG aeQ h4;obtain⟨t2,b,rfl,h6⟩:=xE h5;obtain⟨i2,b,rfl,l3,q3,h7⟩:=xG aeQ h6;obtain⟨t3,b,rfl,h8⟩:=xE h7;obtain⟨i3,b,rfl,l4,q4,h9⟩:=xG aeQ h8;rw[Ee h9];exact⟨⟨a,e,k,⟨t1,i1⟩,⟨t2,i2⟩,⟨t3,i3⟩⟩,rfl,⟨l1,q1⟩,⟨l2,q2⟩,⟨l3,q3⟩,⟨l4,q4⟩⟩
def ae7:jQ:=⟨0,0,[],⟨0,[]⟩,⟨0,[]⟩,⟨0,[]⟩⟩
def Va(R:jQ)(e:Int):jQ:=if e=0 then R else ae7
structure RootHas(C:Ctx):Prop extends ChkTot C where
 root:Has C uY yD
 srd:∀data:LU,data.length<=LB->∃(r:AV) (e:Int),M V0 acH r/\∀Y,ai C Bc [.str data] Y=some (.tup [r,.int .i64 e],Y)
 rof:∀j:JV,∃(r:jQ) (e:Int),r.ok/\∀Y,ai C F9 [j.av] Y=some (.tup [.agg r.cs,.int .i64 e],Y)
def Yz (H:RootHas C) (h:Bool) (l:List fV) (b1:uM l=false) (data:LU) (b4:data.length<=LB):
  ∃(R:jQ) (e:Int),R.ok/\∀(O:St) (o:Nat),Ok O->O[o]?=some (Ep h l)->ai C uY [.ref o 0,.str data] O=some (.tup [.agg (Va R e).cs,.int .i64 e],O):=by
 obtain⟨r,e1,mr,q1⟩:=H.srd data b4;obtain⟨k,ps,rfl,lp⟩:=abg mr;obtain⟨R,e2,rok,q2⟩:=H.rof k;obtain⟨en,q3⟩:=H.enough h l _ R.rt.th R.rt.ids R.ks b1 rok.rt rok.ks mr;obtain⟨r0,r1,r2,r3,r4,ke,⟨⟨f0,g0,n0⟩,z0⟩,⟨⟨f1,g1,n1⟩,z1⟩,⟨⟨f2,g2,n2⟩,z2⟩,⟨⟨f3,g3,n3⟩,z3⟩,⟨⟨f4,g4,n4⟩,z4⟩⟩:=k.ones;unfold JV.av at q2;rw[ke]at q1 q2 q3;simp only[a99,au3]at q1 q3;have hn:∀(o:Nat) (Y:St),hand false [.ref o 0,.str data] Y=some ([.ref o 0,.str data],Y):=fun _ _=>rfl;have psb:below 0 (.sl ps.length (ps.flatMap pC))=true:=(yY ps).cl;have pe:AO.below 0 (.cells [r0,r1,r2,r3,r4,.sl ps.length (ps.flatMap pC)] FZ)=true:=by simp only[AO.below,ae,z0,z1,z2,z3,z4,psb,av9]
 have pr:AO.below 0 (.cells R.cs FZ)=true:=R.nvs.cl;have zn:AO.below 0 (.cells [.int .i64 0,.int .i64 0,.nils,.int .i64 0,.nils,.int .i64 0,.nils,.int .i64 0,.nils] FZ)=true:=rfl;have Rc:=R.cs_is;have zc:Va R (-1)=ae7:=if_neg (by decide)
 have refuse:∀(O:St) (e:Int) (L:St) (E:As),Ok O->look E 4=.ref O.length 0->look E 5=.int .i64 e->(∃L',L=.cells [.int .i64 0,.int .i64 0,.nils,.int .i64 0,.nils,.int .i64 0,.nils,.int .i64 0,.nils] FZ::L')->xu O.length [.cell 4 true 9,.tmp 5] (some (.ret,E,O++L))=some (.tup [.agg ae7.cs,.int .i64 e],O):=by
  intro O e L E hσ h4 h5 hL;obtain⟨L',rfl⟩:=hL;have res:aY E (O++.cells [.int .i64 0,.int .i64 0,.nils,.int .i64 0,.nils,.int .i64 0,.nils,.int .i64 0,.nils] FZ::L') [.cell 4 true 9,.tmp 5]=some [.agg [.int .i64 0,.int .i64 0,.nils,.int .i64 0,.nils,.int .i64 0,.nils,.int .i64 0,.nils],.int .i64 e]:=by
   simp only[aY,h4,h5,aQ,EVX,seval]
  have hh:hand false [.agg [.int .i64 0,.int .i64 0,.nils,.int .i64 0,.nils,.int .i64 0,.nils,.int .i64 0,.nils],.int .i64 e] (O++.cells [.int .i64 0,.int .i64 0,.nils,.int .i64 0,.nils,.int .i64 0,.nils,.int .i64 0,.nils] FZ::L')=some ([.agg ae7.cs,.int .i64 e],O++.cells [.int .i64 0,.int .i64 0,.nils,.int .i64 0,.nils,.int .i64 0,.nils,.int .i64 0,.nils] FZ::L'):=rfl;rw[EO res hh,dE hσ rfl];rfl
 by_cases c1:e1=0
 case neg=>
  have c1':(e1 !=0)=true:=by simpa using c1
  refine⟨R,e1,rok,fun O o hσ ho=>?_⟩;rw[H.root.go (hn o O),Va,if_neg c1];generalize hK:xu=eR;simp only[yD,q1,c1',f0,f1,f2,f3,f4,splice,aQ,dM,BJ,EVX,seval];rw[<-hK];exact refuse _ _ _ _ hσ rfl rfl ⟨_,rfl⟩
 subst c1;by_cases c2:e2=0
 case neg=>
  have c2':(e2 !=0)=true:=by simpa using c2
  refine⟨R,e2,rok,fun O o hσ ho=>?_⟩;rw[H.root.go (hn o O),Va,if_neg c2];rw[Rc]at q2;generalize hK:xu=eR;simp only[yD,q1,q2,c2',f0,f1,f2,f3,f4,splice,aQ,dM,BJ,EVX,seval];rw[<-hK];exact refuse _ _ _ _ hσ rfl rfl ⟨_,rfl⟩
 subst c2;rw[Rc]at q2;rw[show aC R.rt.th R.rt.ids=[.int .i64 R.rt.th,.sl R.rt.ids.length (R.rt.ids.flatMap sC)]from rfl]at q3;cases en with
 |false=>
  refine⟨R,4,rok,fun O o hσ ho=>?_⟩;rw[H.root.go (hn o O),Va,if_neg (by decide)]
  have q4:=fun L=>q3 (O++L) o (aA ho L);generalize hK:xu=eR;simp only[yD,q1,q2,q4,f0,f1,f2,f3,f4,splice,aQ,dM,BJ,EVX,seval];rw[<-hK];exact refuse _ _ _ _ hσ rfl rfl ⟨_,rfl⟩
 |true=>
  refine⟨R,0,rok,fun O o hσ ho=>?_⟩;rw[H.root.go (hn o O),Va,if_pos rfl];have q4:=fun L=>q3 (O++L) o (aA ho L);have ty:=fun L=>dE hσ (vs:=[.agg R.cs,.int .i64 0]) (by rw[ae,below,R.nvs.cl];rfl) L
  have rn:NVs [.agg R.cs,.int .i64 0]:=.cons (.agg R.nvs) (.cons (.int _ _) .nil);generalize hK:xu=eR;simp only[yD,q1,q2,q4,f0,f1,f2,f3,f4,splice,aQ,dM,BJ,EVX,seval];rw[<-hK];refine(Vu (vs:=[.agg R.cs,.int .i64 0]) ?_ rn).trans (by rw[ty];rfl)
  rw[Rc];simp only[aY,aQ,EVX,seval]
end Go.Ev
namespace Go.Ev
set_option maxRecDepth 100000
variable{C:Ctx}
structure dO where
 name:LU
 cap:Int
 size:Int
 data:LU
def dO.res(f:dO):LA:=[.int .i64 f.cap,.int .i64 f.size,.str f.data]
def dO.ent(f:dO):AV×AV:=(.str f.name,.agg f.res)
def ab3(file:LU)(cap:Int):Option PS->dO
 |some p=>if cap<p.2.length then⟨file,cap,-2,[]⟩else⟨file,cap,p.2.length,p.2⟩
 |none=>⟨file,cap,-1,[]⟩
def xB(fs:List PS)(file:LU)(cap:Int):dO:=ab3 file cap (fs.find? fun p=>decide (p.1=file))
def Dv(Y:St)(fv:AV)(fs:List PS)(fo:Option Nat):Prop:=(fs=[]/\fo=none/\fv=.xsl 0 [])\/∃q fz,fo=some q/\fs≠[]/\fv=.msl q 0 fs.length 2/\Y[q]?=some (.cells (fs.flatMap pC) fz)
def aaz{α:Type}(Y:St)(v:AV)(sz:Nat)(c:α->LA)(xs:List α)(oo:Option Nat):Prop:=(xs=[]/\oo=none/\v=.nils)\/∃q,oo=some q/\xs≠[]/\v=.msl q 0 xs.length sz/\Y[q]?=some (.cells (xs.flatMap c) FZ)
def aoz(Y:St)(ov:AV)(F:List dO)(oo:Option Nat):Prop:=aaz Y ov 1 (fun f=>[.str f.name]) F oo
def Dv.plus{Y:St}{fv:AV}{fs:List PS}{fo:Option Nat}(h:Dv Y fv fs fo)(L:St):Dv (Y++L) fv fs fo:=by
 rcases h with h|⟨q,fz,a,b,c,d⟩
 ·exact .inl h
 ·exact .inr ⟨q,fz,a,b,c,aA d L⟩
def aeB (Y:St) (fv:AV) (fs:List PS) (fo:Option Nat) (hf:Dv Y fv fs fo) (hl:fs.length<=1000) (file:LU) (cap:Int):∀(n i:Nat) (G:St),i+n=fs.length->
  ∃G',aH C (ai C) 39 [1,2,6,12,13,14] dX [(1,.str file),(2,.int .i64 cap),(6,.ref Y.length 0),(12,fv),(13,.int .i64 fs.length),(14,.int .i64 i)] (Y++([.cells [.int .i64 0,.int .i64 0,.str []] FZ]++G))=
   some (match(fs.drop i).find? (fun p=>decide (p.1=file))with
    |some p=>(.ret,[(6,.ref Y.length 0)],Y++([.cells (ab3 file cap (some p)).res FZ]++G'))
    |none=>(.exit 0,[(2,.int .i64 cap),(6,.ref Y.length 0)],Y++([.cells [.int .i64 0,.int .i64 0,.str []] FZ]++G'))):=by
 intro n
 induction n with
 |zero=>
  intro i G hi;refine⟨G,?_⟩;rw[aG (he:=rfl),au1 (by omega)]
  have h:¬((i:Int)<(fs.length:Int)):=by omega
  simp only[dX,h,List.find?_nil,EVX,seval]
 |succ n ih=>
  intro i G hi;rcases hf with⟨rfl,_,_⟩|⟨q,fz,e1,e2,rfl,fq⟩
  ·simp at hi
  have hlt:i<fs.length:=by omega
  have fa:=lM FW (a02 hlt);have dr:fs.drop i=fs[i]::fs.drop (i+1):=as9 hlt;rw[dr];generalize fs[i]=p at*;rw[show pC p=[.str p.1,.str p.2]from rfl]at fa;simp only[a99,au3]at fa;obtain⟨G',ih⟩:=ih (i+1) (G++[.cells [.str p.1,.str p.2] FZ]) (by omega)
  have h:((i:Int)<(fs.length:Int)):=by omega
  have h3:(0:Int)<=i:=by omega
  have hw:=wrS i (by omega)
  have g6:(Y++([.cells [.int .i64 0,.int .i64 0,.str []] FZ]++G))[Y.length]?=some (.cells [.int .i64 0,.int .i64 0,.str []] FZ):=by rw[aQ];rfl
  have gs:∀y:AO,(Y++([AO.cells [.int .i64 0,.int .i64 0,.str []] FZ]++G)).set Y.length y=Y++([y]++G):=fun y=>by rw[jm];rfl
  have as1:Y++([.cells [.int .i64 0,.int .i64 0,.str []] FZ]++(G++[.cells [.str p.1,.str p.2] FZ]))=(Y++([.cells [.int .i64 0,.int .i64 0,.str []] FZ]++G))++[.cells [.str p.1,.str p.2] FZ]:=by simp
  have fT:=aA fq ([.cells [.int .i64 0,.int .i64 0,.str []] FZ]++G);rw[as1]at ih;rw[aG (he:=rfl)];generalize hk:aH C (ai C) 39 [1,2,6,12,13,14] dX=k at*;generalize hT:Y++([.cells [.int .i64 0,.int .i64 0,.str []] FZ]++G)=T at*;have g7:=fun L=>aA g6 L;have sp:=fun L y=>dJ g6 L y;by_cases c:p.1=file
  ·subst c;rw[aC5 (by simp)]
   refine⟨G++[.cells [.str p.1,.str p.2] FZ],?_⟩;by_cases c1:cap<(p.2.length:Int)
   ·simp only[dX,h,h3,hlt,fa,fT,g7,sp,c1,bU,aQ,AV.cells,AV.flat,splice,EVX,seval];rw[gs];simp[ab3,c1,dO.res]
   ·simp only[dX,h,h3,hlt,fa,fT,g7,sp,c1,bU,aQ,AV.cells,AV.flat,splice,EVX,seval];rw[gs];simp[ab3,c1,dO.res]
  ·rw[List.find?_cons_of_neg (by simpa using c)]
   refine⟨G',?_⟩;rw[<-ih];simp only[dX,h,h3,hw,hlt,fa,fT,c,aQ,AV.cells,AV.flat,splice,EVX,seval]
def X8 (hC:Has C vS qh) (Y:St) (hτ:Ok Y) (s:Nat) (nm:AV) (m ov:AV) (fv:AV) (fs:List PS) (fo:Option Nat) (hs:Y[s]?=some (.cells [nm,fv,m,ov] FZ)) (hf:Dv Y fv fs fo) (hl:fs.length<=1000) (file:LU) (cap:Int):
  ai C vS [.ref s 0,.str file,.int .i64 cap] Y=some (.agg (xB fs file cap).res,Y):=by
 have hn:hand false [.ref s 0,.str file,.int .i64 cap] Y=some ([.ref s 0,.str file,.int .i64 cap],Y):=rfl;rw[hC.go hn];obtain⟨G',lp⟩:=aeB (C:=C) Y fv fs fo hf hl file cap fs.length 0 [] (by omega)
 rw[show((0:Nat):Int)=0 from rfl,au0,au6]at lp;have hs2:=fun L=>aA hs L;have hln:bU (Y++[.cells [.int .i64 0,.int .i64 0,.str []] FZ]) 1 fv=some fs.length:=by
  rcases hf with⟨rfl,_,rfl⟩|⟨q,fz,e1,e2,rfl,fq⟩<;>rfl
 have ty:=fun(a b:Int) (c:LU)=>dE hτ (vs:=[.agg [.int .i64 a,.int .i64 b,.str c]]) rfl;unfold xB;cases hfd:fs.find? (fun p=>decide (p.1=file))with
 |some p=>
  rw[hfd]at lp;unfold dO.res at lp⊢;simp only[a99,au3]at lp;simp only[qh,hs2,hln,lp,ty,aY,aX,aQ,EVX,seval]
 |none=>
  rw[hfd]at lp;have g6:=fun L:St=>aQ Y (.cells [.int .i64 0,.int .i64 0,.str []] FZ::L);have gs:=fun(L:St) (y:AO)=>jm Y (.cells [.int .i64 0,.int .i64 0,.str []] FZ::L) y;simp only[ab3,dO.res,a99,au3]at lp⊢;simp only[qh,hs2,hln,lp,ty,aY,aX,aQ,g6,gs,AV.cells,AV.flat,splice,EVX,seval]
def KY(n:LU):∀(F:List dO) (i:Nat),(∀f,F.find? (fun f=>decide (f.name=n))=some f->∃k,nO (.str n) (F.map dO.ent) i=some (some (k,.agg f.res)))/\(F.find? (fun f=>decide (f.name=n))=none->nO (.str n) (F.map dO.ent) i=some none)
 |[],i=>⟨fun f h=>(by cases h),fun _=>rfl⟩
 |g::F,i=>by
  obtain⟨h1,h2⟩:=KY n F (i+1);have hk:nO (.str n) ((g::F).map dO.ent) i=match decide (n=g.name)with
   |true=>some (some (i,.agg g.res))
   |false=>nO (.str n) (F.map dO.ent) (i+1):=by
   rw[av3,dO.ent,nO,ZI,nK];cases decide (n=g.name)<;>rfl
  rw[hk];by_cases c:g.name=n
  ·have c':n=g.name:=c.symm;rw[aC5 (by simpa using c)]
   simp only[c',decide_true];exact⟨fun f h=>(by cases h;exact⟨i,rfl⟩),fun h=>(by cases h)⟩
  ·have c':¬n=g.name:=fun e=>c e.symm;rw[List.find?_cons_of_neg (by simpa using c)]
   simp only[c',decide_false];exact⟨h1,h2⟩
structure jE(Y:St)(nm:LU)(fs:List PS)(F:List dO)(s m:Nat)(fo oo:Option Nat):Prop where
 st:∃fv ov,Y[s]?=some (.cells [.str nm,fv,.map m,ov] FZ)/\Dv Y fv fs fo/\aoz Y ov F oo
 mp:Y[m]?=some (.map (F.map dO.ent))
 len:F.length<=1000000/\fs.length<=1000
 fs_:fo≠some s
 os:oo≠some s
 fo_:∀q,fo=some q->oo≠some q
def jE.sm{Y:St}{nm fs F s m fo oo}(h:jE Y nm fs F s m fo oo):s≠m:=fun e=>by
 obtain⟨fv,ov,h1,_⟩:=h.st;rw[e,h.mp]at h1;cases h1
def jE.fm{Y:St}{nm fs F s m fo oo}(h:jE Y nm fs F s m fo oo):fo≠some m:=fun e=>by
 obtain⟨fv,ov,_,h2,_⟩:=h.st;rcases h2 with⟨_,h2,_⟩|⟨q,fz,a,b,c,d⟩
 ·rw[e]at h2;cases h2
 ·rw[e]at a;cases a;rw[h.mp]at d;cases d
def jE.om{Y:St}{nm fs F s m fo oo}(h:jE Y nm fs F s m fo oo):oo≠some m:=fun e=>by
 obtain⟨fv,ov,_,_,h2⟩:=h.st;rcases h2 with⟨_,h2,_⟩|⟨q,a,b,c,d⟩
 ·rw[e]at h2;cases h2
 ·rw[e]at a;cases a;rw[h.mp]at d;cases d
def wH(fs:List PS)(F:List dO)(file:LU)(cap:Int):dO×List dO:=match F.find? (fun f=>decide (f.name=file))with
 |some f=>(f,F)
 |none=>(xB fs file cap,F++[xB fs file cap])
structure StoHas(C:Ctx):Prop where
 made:Has C D8 DI
 fetch:Has C vS qh
 get:Has C lL yG
def Ij(H:StoHas C){Y:St}{s:Nat}{nm fv ov:AV}{m:Nat}(hs:Y[s]?=some (.cells [nm,fv,.map m,ov] FZ)):ai C D8 [.ref s 0] Y=some (.bool true,Y):=by
 have hn:=iI s Y;rw[H.made.go hn];simp only[DI,hs,EVX,seval]
def YM (H:StoHas C) {Y:St} (hτ:Ok Y) {nm fs F s m fo oo} (h:jE Y nm fs F s m fo oo) (file:LU) (cap:Int) (hc:0<=cap/\cap<=65536) (f:dO) (hf:F.find? (fun f=>decide (f.name=file))=some f):
  ai C lL [.ref s 0,.str file,.int .i64 cap] Y=some (.tup [.str f.data,.int .i64 f.size,.int .i64 0],Y):=by
 have hn:hand false [.ref s 0,.str file,.int .i64 cap] Y=some ([.ref s 0,.str file,.int .i64 cap],Y):=rfl;obtain⟨fv,ov,hs,_,_⟩:=h.st;have hm:=h.mp;have q1:=Ij H hs;obtain⟨k,q2⟩:=(KY file F 0).1 f hf;have c1:¬cap<0:=by omega
 have c2:¬(65536:Int)<cap:=by omega
 have ty:=fun(a:LU) (b c:Int)=>dE hτ (vs:=[.str a,.int .i64 b,.int .i64 c]) rfl;rw[H.get.go hn];unfold dO.res at q2;simp only[yG,q1,q2,c1,c2,hs,hm,mapOf,ty,aQ,jm,AV.cells,AV.flat,splice,EVX,seval]
def Dn(fs:List PS)(file:LU)(cap:Int):(xB fs file cap).name=file:=by
 unfold xB ab3;split
 ·split<;>rfl
 ·rfl
def Yh{n i:Nat}{x:AO}{S:St}(vs:LA)(hi:i<n)(h:S[i]?=some x)(hb:x.below n=false):tidy n vs S=S:=by
 unfold tidy;split
 ·rfl
 ·rw[if_neg];intro hc;rw[a01,a90]at hc;have:=hc.2 x (a94 (i:=i) (by rw[au7,if_pos hi];exact h))
  rw[hb]at this;cases this
def agZ {α:Type} {Y:St} (hτ:Ok Y) {v:AV} {sz bytes:Nat} {c:α->LA} (hc:∀x,(c x).length=sz) (hb:∀x,ae 0 (c x)=true) {xs:List α} {oo:Option Nat} (h:aaz Y v sz c xs oo) (hl:(xs.length+1)*bytes<=70368744177664) (hn:xs.length+1<=70368744177664) (r:α):
  ∃S,rO Y sz bytes none v 1 (c r)=some (.msl Y.length 0 (xs.length+1) sz,S)/\S.length=Y.length+1/\S[Y.length]?=some (.cells ((xs++[r]).flatMap c) FZ)/\(∀i x,oo≠some i->Y[i]?=some x->S[i]?=some x)/\Ok S:=by
 have nb:∀l:List α,ae 0 (l.flatMap c)=true:=fun l=>fP hb l;have fl:(xs++[r]).flatMap c=xs.flatMap c++c r:=by simp
 rcases h with⟨rfl,rfl,rfl⟩|⟨q,rfl,hF,rfl,hq⟩
 ·refine⟨Y++[.cells (c r) FZ],?_,by simp,by rw[aQ,fl];rfl,fun i x _ hx=>aA hx _,hτ.plus (by simp only[a88,aw1,AO.below,hb,av9])⟩
  unfold rO;rw[if_neg (by decide)]
  simp only[a09,av2]at hl hn⊢;rw[if_pos ⟨hl,hn⟩]
 ·have hq1:=(a00.mp hq).1;refine⟨Y.set q .dead++[.cells ((xs++[r]).flatMap c) FZ],?_,by simp,by rw[fG (by simp)];rfl,fun i x hi hx=>aA (aF hx (fun e=>hi (by rw[e])) _) _,?_⟩
  ·unfold rO;rw[if_neg (by decide)]
   simp only[hq];rw[if_pos ⟨trivial,dV hc xs,hl,hn⟩,fl];simp
  ·refine Ok.plus (Ok.set2 hτ q rfl) ?_;simp only[a88,aw1,AO.below,nb,av9]
def ahy(n:Nat)(F:List dO):AO.below n (.map (F.map dO.ent))=true:=by
 have h1:ae n ((F.map dO.ent).map (·.1))=true:=by
  induction F with
  |nil=>rfl
  |cons a l ih=>rw[av3,av3,ae,ih];rfl
 have h2:ae n ((F.map dO.ent).map (·.2))=true:=by
  clear h1
  induction F with
  |nil=>rfl
  |cons a l ih=>rw[av3,av3,ae,ih];rfl
 rw[AO.below,h1,h2];rfl
def YL (H:StoHas C) {Y:St} (hτ:Ok Y) {nm fs F s m fo oo} (h:jE Y nm fs F s m fo oo) (hF:F.length<1000000) (file:LU) (cap:Int) (hc:0<=cap/\cap<=65536) (hf:F.find? (fun f=>decide (f.name=file))=none):
  ∃Y' oo',ai C lL [.ref s 0,.str file,.int .i64 cap] Y=some (.tup [.str (xB fs file cap).data,.int .i64 (xB fs file cap).size,.int .i64 0],Y')/\Ok Y'/\jE Y' nm fs (F++[xB fs file cap]) s m fo oo'/\Y.length<=Y'.length/\(∀i x,i≠s->i≠m->oo≠some i->Y[i]?=some x->Y'[i]?=some x)/\∀q,oo'=some q->Y.length<=q:=by
 have hn:hand false [.ref s 0,.str file,.int .i64 cap] Y=some ([.ref s 0,.str file,.int .i64 cap],Y):=rfl;obtain⟨fv,ov,hs,hfv,hov⟩:=h.st;have hm:=h.mp;have q1:=Ij H hs;have q2:=(KY file F 0).2 hf;have c1:¬cap<0:=by omega
 have c2:¬(65536:Int)<cap:=by omega
 have hrn:=Dn fs file cap;obtain⟨r,hr⟩:∃r,xB fs file cap=r:=⟨_,rfl⟩;rw[hr]at hrn⊢;have sl:s<Y.length:=(a00.mp hs).1;have ml:m<Y.length:=(a00.mp hm).1;have rb:AO.below 0 (.cells r.res FZ)=true:=rfl;have ok0:Ok (Y++[.cells r.res FZ]):=hτ.plus (by rw[a88,rb];rfl)
 have q3:=X8 H.fetch _ (hτ.plus (L:=[.cells [.int .i64 0,.int .i64 0,.str []] FZ]) rfl) s _ _ ov fv fs fo (aA hs _) (hfv.plus _) h.len.2 file cap;rw[hr]at q3;obtain⟨T0,hT0⟩:∃T,Y++[.cells r.res FZ]=T:=⟨_,rfl⟩;have l0:T0.length=Y.length+1:=by rw[<-hT0];simp
 have s0:T0[s]?=_:=hT0▸aA hs _;have m0:T0[m]?=_:=hT0▸aA hm _;have x0:T0[Y.length]?=some (.cells r.res FZ):=by rw[<-hT0,aQ];rfl
 rw[hT0]at ok0;have ok1:Ok (T0.set m (.map ((F++[r]).map dO.ent))):=Ok.set2 ok0 m (ahy _ _);obtain⟨T1,hT1⟩:∃T,T0.set m (.map ((F++[r]).map dO.ent))=T:=⟨_,rfl⟩;have l1:T1.length=Y.length+1:=by rw[<-hT1,a95,l0]
 have s1:T1[s]?=_:=hT1▸aF s0 h.sm _;have m1:T1[m]?=some (.map ((F++[r]).map dO.ent)):=hT1▸bg m0 _;have x1:T1[Y.length]?=some (.cells r.res FZ):=hT1▸aF x0 (by omega) _
 rw[hT1]at ok1;have hov1:aoz T1 ov F oo:=by
  rcases hov with h0|⟨q,a,b,c,d⟩
  ·exact .inl h0
  ·refine .inr ⟨q,a,b,c,?_⟩;have:T0[q]?=_:=hT0▸aA d _;exact hT1▸aF this (fun e=>h.om (by rw[a,e])) _
 obtain⟨T2,a1,l2,n2,k2,ok2⟩:=agZ (c:=fun f:dO=>[AV.str f.name]) (sz:=1) (bytes:=16) ok1 (fun _=>rfl) (fun _=>rfl) hov1 (by omega) (by omega) r
 rw[l1]at a1 l2 n2;have s2:=k2 s _ h.os s1;have m2:=k2 m _ h.om m1;have x2:=k2 Y.length _ (fun e=>by
  rcases hov with⟨_,h0,_⟩|⟨q,a,_,_,d⟩
  ·rw[h0]at e;cases e
  ·rw[a]at e;cases e;have:=(a00.mp d).1;omega) x1
 obtain⟨S,hS⟩:∃S,T2.set s (.cells [.str nm,fv,.map m,.msl (Y.length+1) 0 (F.length+1) 1] FZ)=S:=⟨_,rfl⟩;have x3:S[Y.length]?=some (.cells r.res FZ):=hS▸aF x2 (by omega) _
 have s3:S[s]?=some (.cells [.str nm,fv,.map m,.msl (Y.length+1) 0 (F.length+1) 1] FZ):=hS▸bg s2 _;have m3:S[m]?=some (.map ((F++[r]).map dO.ent)):=hS▸aF m2 (fun e=>h.sm e.symm) _;have n3:S[Y.length+1]?=some (.cells ((F++[r]).flatMap fun f=>[.str f.name]) FZ):=hS▸aF n2 (by omega) _
 have old:∀i x,i≠s->i≠m->oo≠some i->Y[i]?=some x->S[i]?=some x:=fun i x h1 h2 h3 hx=>by
  have a0:T0[i]?=some x:=hT0▸aA hx _;have a1:T1[i]?=some x:=hT1▸aF a0 h2 _;exact hS▸aF (k2 i x h3 a1) h1 _
 have ty:=fun vs:LA=>Yh (n:=Y.length) vs sl s3 (by simp[AO.below,ae,below])
 have e0:(F++[r]).map dO.ent=F.map dO.ent++[(.str file,.agg r.res)]:=by rw[List.map_append,<-hrn];rfl
 refine⟨S,some (Y.length+1),?_,?_,?_,?_,old,fun q e=>by cases e;omega⟩
 ·rw[H.get.go hn];rw[hrn]at a1;have hT1':T0.set m (.map (F.map dO.ent++[(.str file,.agg r.res)]))=T1:=by rw[<-e0];exact hT1
  unfold dO.res at q3 hT0 x0 x3 hT1';have z0:=fun L:St=>aQ Y (.cells [.int .i64 0,.int .i64 0,.str []] FZ::L);have z1:=fun(L:St) (y:AO)=>jm Y (.cells [.int .i64 0,.int .i64 0,.str []] FZ::L) y;simp only[yG,q1,q2,q3,c1,c2,hs,hm,s0,m0,x0,s1,s2,hT0,hT1',hS,a1,x3,mapOf,ty,z0,z1,AV.cells,AV.flat,splice,EVX,seval]
 ·have:=Ok.set2 ok2 s (x:=.cells [.str nm,fv,.map m,.msl (Y.length+1) 0 (F.length+1) 1] FZ) (by
   have fb:below T2.length fv=true:=by
    rcases hfv with⟨_,_,rfl⟩|⟨q,fz,_,_,rfl,d⟩
    ·rfl
    ·have:=(a00.mp d).1;simp only[below,decide_eq_true_eq];omega
   have h1:m<T2.length:=by omega
   have h2:Y.length+1<T2.length:=by omega
   simp[AO.below,ae,below,fb,h1,h2])
  rwa[hS]at this
 ·refine⟨⟨fv,_,s3,?_,.inr ⟨Y.length+1,rfl,by simp,by simp,n3⟩⟩,m3,⟨by simp;omega,h.len.2⟩,h.fs_,fun e=>by cases e;omega,fun q e e'=>?_⟩
  ·rcases hfv with h0|⟨q,fz,a,b,c,d⟩
   ·exact .inl h0
   ·exact .inr ⟨q,fz,a,b,c,old q _ (fun e=>h.fs_ (by rw[a,e])) (fun e=>h.fm (by rw[a,e])) (h.fo_ q a) d⟩
  ·cases e';rcases hfv with⟨_,h0,_⟩|⟨q,fz,a,b,c,d⟩
   ·rw[h0]at e;cases e
   ·rw[a]at e;cases e;have:=(a00.mp d).1;omega
 ·rw[<-hS,a95];omega
def vT(nm:LU)(f:dO):LA:=[.str nm,.str f.name,.int .i64 f.cap,.int .i64 f.size]
def Uniq(F:List dO):Prop:=∀f∈F,F.find? (fun g=>decide (g.name=f.name))=some f
structure TelHas(C:Ctx):Prop extends StoHas C where
 told:Has C D7 DF
 fetched:Has C zx zt
def afx (H:TelHas C) {Y:St} (hτ:Ok Y) {s m:Nat} {fv ov:AV} {nm:LU} {F:List dO} (hs:Y[s]?=some (.cells [.str nm,fv,.map m,ov] FZ)) (hm:Y[m]?=some (.map (F.map dO.ent))) (f:dO) (hf:F.find? (fun g=>decide (g.name=f.name))=some f):
  ai C D7 [.ref s 0,.str f.name] Y=some (.tup [.agg (vT nm f),.bool true],Y):=by
 have hn:hand false [.ref s 0,.str f.name] Y=some ([.ref s 0,.str f.name],Y):=rfl;obtain⟨k,q2⟩:=(KY f.name F 0).1 f hf;have hs2:=fun L=>aA hs L;have hm2:=fun L=>aA hm L;have ty:=fun(a b:LU) (c d:Int) (e:Bool)=>dE hτ (vs:=[.agg [.str a,.str b,.int .i64 c,.int .i64 d],.bool e]) rfl;have z0:=fun L:St=>aQ Y (.cells [.str [],.str [],.int .i64 0,.int .i64 0] FZ::L);have z1:=fun(L:St) (y:AO)=>jm Y (.cells [.str [],.str [],.int .i64 0,.int .i64 0] FZ::L) y;have q1:=fun L:St=>Ij H.toStoHas (Y:=Y++L) (aA hs L);rw[H.told.go hn];unfold dO.res at q2;unfold vT;simp only[DF,q1,q2,hs2,hm2,mapOf,ty,z0,z1,dM,BJ,aY,aX,AV.cells,AV.flat,splice,EVX,seval]
def ab4 (H:TelHas C) (n0:Nat) (s m:Nat) (hs0:s<n0) (hm0:m<n0) (fv ov:AV) (nm:LU) (F:List dO) (oo:Option Nat) (ho0:∀q,oo=some q->q<n0) (hu:Uniq F) (hF:F.length<=1000000):∀(n i:Nat) (acc:AV) (ao:Option Nat) (T:St),i+n=F.length->Ok T->n0<=T.length->T[s]?=some (.cells [.str nm,fv,.map m,ov] FZ)->T[m]?=some (.map (F.map dO.ent))->aoz T ov F oo->aaz T acc 4 (vT nm) (F.take i) ao->(∀q,ao=some q->n0<=q)->
  ∃(acc':AV) (ao':Option Nat) (T':St),aH C (ai C) 33 [0,3,14,15,16] gy [(0,.ref s 0),(3,acc),(14,ov),(15,.int .i64 F.length),(16,.int .i64 i)] T=some (.exit 0,[(3,acc')],T')/\Ok T'/\aaz T' acc' 4 (vT nm) F ao'/\(∀q,ao'=some q->n0<=q)/\n0<=T'.length/\∀k,k<n0->T'[k]?=T[k]?:=by
 intro n
 induction n with
 |zero=>
  intro i acc ao T hi hT hl hs hm ho hr ha;rw[aG (he:=rfl)];have h:¬((i:Int)<(F.length:Int)):=by omega
  refine⟨acc,ao,T,by simp only[gy,h,EVX,seval],hT,?_,ha,hl,fun _ _=>rfl⟩
  rwa[a08 (by omega)]at hr
 |succ n ih=>
  intro i acc ao T hi hT hl hs hm ho hr ha;have hlt:i<F.length:=by omega
  have ho':=ho;rcases ho with⟨rfl,_,_⟩|⟨q,e1,e2,rfl,hq⟩
  ·simp at hlt
  have hfm:F[i]∈F:=az1 hlt;have q1:=afx H hT hs hm F[i] (hu _ hfm);have fa:=lM (f:=fun f:dO=>[AV.str f.name]) (k:=1) (fun _=>rfl) (a02 hlt);have fl:=dV (f:=fun f:dO=>[AV.str f.name]) (k:=1) (fun _=>rfl) F;have tk:F.take (i+1)=F.take i++[F[i]]:=ay7 hlt;generalize F[i]=f at*;have okX:Ok (T++[.cells (vT nm f) FZ]):=hT.plus rfl;have hrX:aaz (T++[.cells (vT nm f) FZ]) acc 4 (vT nm) (F.take i) ao:=by
   rcases hr with h|⟨p,a,b,c,d⟩
   ·exact .inl h
   ·exact .inr ⟨p,a,b,c,aA d _⟩
  have tl:(F.take i).length=i:=by rw[ay6];omega
  obtain⟨S,a1,l1,n1,k1,ok1⟩:=agZ (c:=vT nm) (sz:=4) (bytes:=48) okX (fun _=>rfl) (fun _=>rfl) hrX (by omega) (by omega) f
  rw[<-tk]at n1;have keep:∀k,k<n0->S[k]?=T[k]?:=fun k hk=>by
   have:T[k]?=some T[k]:=a02 (by omega)
   rw[this];exact k1 k _ (fun e=>by have:=ha k e;omega) (aA this _)
  have lX:(T++[AO.cells (vT nm f) FZ]).length=T.length+1:=by simp
  rw[lX]at a1 l1 n1;rw[tl]at a1;obtain⟨acc',ao',T',x,h1,h2,h3,h4,h5⟩:=ih (i+1) (.msl (T.length+1) 0 (i+1) 4) (some (T.length+1)) S (by omega) ok1 (by omega) (by rw[keep s hs0];exact hs) (by rw[keep m hm0];exact hm) (.inr ⟨q,e1,e2,rfl,by rw[keep q (ho0 q e1)];exact hq⟩) (.inr ⟨_,rfl,by intro e;rw[e]at tk;simp at tk,by rw[ay6];congr 1;omega,n1⟩) (fun k e=>by cases e;omega)
  refine⟨acc',ao',T',?_,h1,h2,h3,h4,fun k hk=>by rw[h5 k hk,keep k hk]⟩
  rw[<-x,aG (he:=rfl)];generalize hk:aH C (ai C) 33 [0,3,14,15,16] gy=K at*;have h:((i:Int)<(F.length:Int)):=by omega
  have i0:(0:Int)<=i:=by omega
  have hw:=wrS i (by omega)
  simp only[aw9,a99,au3]at fa fl;have z0:=aQ T (.cells [.str [],.str [],.int .i64 0,.int .i64 0] FZ::[]);have z1:=fun y:AO=>jm T (.cells [.str [],.str [],.int .i64 0,.int .i64 0] FZ::[]) y;have z2:=aQ T (.cells (vT nm f) FZ::[]);unfold vT at q1 a1 z2;simp only[gy,h,i0,hw,hlt,fa,hq,q1,a1,z0,z1,z2,AV.cells,AV.flat,splice,EVX,seval]
def ajv(nm:LU)(F:List dO):(F.flatMap (vT nm)).length=F.length*4:=dV (f:=vT nm) (k:=4) (fun _=>rfl) F
def acM(nm:LU):∀F:List dO,NVs (F.flatMap (vT nm))
 |[]=>.nil
 |_::F=>by
  rw[ay1];exact .cons (.str _) (.cons (.str _) (.cons (.int _ _) (.cons (.int _ _) (acM nm F))))
def aju(nm:LU)(F:List dO):ae 0 (F.flatMap (vT nm))=true:=fP (fun _=>rfl) F
def YJ (H:TelHas C) {Y:St} (hτ:Ok Y) {nm fs F s m fo oo} (h:jE Y nm fs F s m fo oo) (hu:Uniq F):
  ai C zx [.ref s 0] Y=some (.sl F.length (F.flatMap (vT nm)),Y):=by
 have hn:=iI s Y;obtain⟨fv,ov,hs,hfv,hov⟩:=h.st;have hm:=h.mp;have q1:=Ij H.toStoHas hs;have sl:s<Y.length:=(a00.mp hs).1;have ml:m<Y.length:=(a00.mp hm).1;have ol:∀q,oo=some q->q<Y.length:=by
  rcases hov with⟨_,rfl,_⟩|⟨q,rfl,_,_,d⟩
  ·exact fun q e=>by cases e
  ·exact fun q' e=>by cases e;exact(a00.mp d).1
 have hln:bU Y 1 ov=some F.length:=by
  rcases hov with⟨rfl,_,rfl⟩|⟨q,_,_,rfl,d⟩
  ·rfl
  ·rfl
 obtain⟨v,ao,T,lp,h1,h2,h3,h4,h5⟩:=ab4 H Y.length s m sl ml fv ov nm F oo ol hu h.len.1 F.length 0 .nils none Y (by omega) hτ (a06 _) hs hm hov (.inl ⟨by simp,rfl,rfl⟩) (fun q e=>by cases e)
 rw[show((0:Nat):Int)=0 from rfl]at lp;have tk:T.take Y.length=Y:=by
  refine aw5 fun k=>?_;rw[au7];split
  ·next c=>exact h5 k c
  ·next c=>exact(aw2 (by omega)).symm
 rw[H.fetched.go hn];have hb:ae 0 [AV.sl F.length (F.flatMap (vT nm))]=true:=by rw[ae,below,aju];rfl
 obtain⟨T2,hd,tk2⟩:∃T2,hand false [v] T=some ([.sl F.length (F.flatMap (vT nm))],T2)/\T2.take Y.length=Y:=by
  rcases h2 with⟨rfl,rfl,rfl⟩|⟨q,rfl,e2,rfl,e4⟩
  ·exact⟨T,rfl,tk⟩
  ·have:=h3 q rfl;refine⟨T.set q (.cells (F.flatMap (vT nm)) ⟨true,none⟩),?_,by rw[dH _ _ _ (by omega),tk]⟩
   rw[oW,aK,OJ e4 (ajv nm F) (acM nm F),vG,<-zL e4];rfl
 have ty:=pG (vs:=[.sl F.length (F.flatMap (vT nm))]) hτ hb tk2;generalize hK:xu=eR;simp only[zt,q1,hs,hln,lp,EVX,seval];rw[<-hK,EO (vs:=[v]) rfl hd,ty];rfl
def nameB(b:UInt8):Bool:=(97<=b.toNat&&b.toNat<=122)||(65<=b.toNat&&b.toNat<=90)||(48<=b.toNat&&b.toNat<=57)||b.toNat==46||b.toNat==95||b.toNat==45
def QV(hC:Has C lC kW)(b:UInt8)(O:St):ai C lC [.int .u8 b.toNat] O=some (.bool (nameB b),O):=by
 rw[hC.go (NVs.hand (.cons (.int _ _) .nil) _)];simp only[kW,EVX,seval];repeat' (first|rw[amv]|rw[amu]|rw[arb]|rw[ara]);split<;>(try simp only[*,EVX,seval])
 all_goals (simp only[decide_eq_true_eq,decide_eq_false_iff_not,beq_iff_eq,beq_eq_false_iff_ne,ne_eq]at*;rw[a05,av6,AV.bool.injEq,aB7];simp[nameB];omega)
def JC (ha:Has C lC kW) (s:LU) (hs:s.length<=64) (O:St):∀(n i:Nat),i+n=s.length->
  aH C (ai C) 27 [0,17,18] pM [(0,.str s),(17,.int .i64 s.length),(18,.int .i64 i)] O=
   if(s.drop i).all nameB then some (.exit 0,[],O)else some (.ret,[(2,.bool false)],O)
 |0,i,hi=>by
  rw[aG (he:=rfl)];have h:¬((i:Int)<(s.length:Int)):=by omega
  have h':s.drop i=[]:=au1 (by omega)
  simp only[pM,h,h',EVX,seval]
 |n+1,i,hi=>by
  rw[aG (he:=rfl)];generalize hk:aH C (ai C) 27 [0,17,18] pM=k;have h:((i:Int)<(s.length:Int)):=by omega
  have h2:i<s.length:=by omega
  have hb:s[i]?=some s[i]:=a02 h2;have h':s.drop i=s[i]::s.drop (i+1):=as9 h2;have hw:=wrS i (by omega)
  have h3:(0:Int)<=i:=by omega
  cases hx:nameB s[i]
  ·simp only[pM,h,h',h3,hb,hx,ay5,QV ha,EVX,seval]
  ·simp only[pM,h,h',h3,hb,hw,hx,aw6,QV ha,EVX,seval];rw[<-hk,JC ha s hs O n (i+1) (by omega)]
def role(s:LU):Bool:=!s.isEmpty&&s.length<=64&&s.head? !=some 46&&s.all nameB
def LC(hC:Has C xU uo)(ha:Has C lC kW)(s:LU)(O:St):ai C xU [.str s] O=some (.bool (role s),O):=by
 rw[hC.go (NVs.hand (.cons (.str _) .nil) _)];cases s with
 |nil=>
  simp only[uo,EVX,seval];rfl
 |cons b l=>
  have h0:(b::l)≠[]:=by simp
  have hb:(b::l)[0]?=some b:=rfl;have hr:role (b::l)=((b::l).length<=64&&b.toNat !=46&&(b::l).all nameB):=by
   have:(b.toNat=46)↔(b=46):=by rw[<-UInt8.toNat_inj];rfl
   have e:(b==46)=(b.toNat==46):=by rw[aB7];simp[this]
   simp[role,bne,e]
  rw[hr];have lp:=fun hl=>JC ha (b::l) hl O (b::l).length 0 (by omega)
  generalize b::l=s at*;simp only[uo,h0,EVX,seval];by_cases hl:s.length<=64
  ·have hl':¬(64:Int)<(s.length:Int):=by omega
   have lp:=lp hl;simp only[au0,at6]at lp;simp only[hl',hb,EVX,seval];rw[aji];split<;>rename_i h5<;>simp only[beq_iff_eq]at h5
   ·have:(b.toNat !=46)=false:=by simp;omega
    simp only[this,Bool.and_false,ay5,EVX,seval]
   ·have:(b.toNat !=46)=true:=by simp;omega
    simp only[this,hl,aw6,lp,EVX,seval];cases s.all nameB<;>simp only[EVX,seval]
  ·have hl':(64:Int)<(s.length:Int):=by omega
   simp only[hl',hl,ay5,EVX,seval]
def iJ:LU:=[46,106,115,111,110]
def Ul(s:LU):AV:=if role s then .tup [.str (s++iJ),.int .i64 0]else .tup [.str [],.int .i64 3]
def al7{s:LU}(h:role s=true):s.length<=64:=by simp[role]at h;exact h.1.1.2
def Lu(hC:Has C uI um)(hr:Has C xU uo)(ha:Has C lC kW)(s:LU)(O:St):ai C uI [.str s] O=some (Ul s,O):=by
 rw[hC.go (NVs.hand (.cons (.str _) .nil) _)];unfold Ul;cases h:role s
 ·simp only[um,LC hr ha,h,EVX,seval]
 ·have hb:rQ .add s [46,106,115,111,110]=some (.str (s++iJ)):=aoT (by have:=al7 h;simp;omega)
  simp only[um,LC hr ha,h,hb,EVX,seval]
def okD(fs:List PS):Bool:=fs.all fun p=>decide (p.2.length<=65536)
def af6(nm:LU)(fs:List PS):Int:=if role nm=false then 3 else if 256<fs.length then 5 else if okD fs then 0 else 5
def akE (Y:St) (nm:LU) (fv:AV) (fs:List PS) (fo:Option Nat) (hf:Dv Y fv fs fo) (hl:fs.length<=256):∀(n i:Nat) (G:St),i+n=fs.length->G.all (AO.below 0)=true->
  ∃G',G'.all (AO.below 0)=true/\aH C (ai C) 31 [0,1,14,15,16] pO [(0,.str nm),(1,fv),(14,fv),(15,.int .i64 fs.length),(16,.int .i64 i)] (Y++G)=
   some (if okD (fs.drop i)then(.exit 0,[(0,.str nm),(1,fv)],Y++G')else(.ret,[(4,.nilp),(5,.int .i64 5)],Y++G')):=by
 intro n
 induction n with
 |zero=>
  intro i G hi hG;refine⟨G,hG,?_⟩;rw[aG (he:=rfl),au1 (by omega)]
  have h:¬((i:Int)<(fs.length:Int)):=by omega
  simp only[pO,h,okD,aw1,EVX,seval]
 |succ n ih=>
  intro i G hi hG;rcases hf with⟨rfl,_,_⟩|⟨q,fz,e1,e2,rfl,fq⟩
  ·simp at hi
  have hlt:i<fs.length:=by omega
  have fa:=lM FW (a02 hlt);have dr:fs.drop i=fs[i]::fs.drop (i+1):=as9 hlt;rw[dr];generalize fs[i]=p at*;rw[show pC p=[.str p.1,.str p.2]from rfl]at fa;simp only[a99,au3]at fa;have hG1:(G++[AO.cells [.str p.1,.str p.2] FZ]).all (AO.below 0)=true:=by rw[aC6,hG];rfl
  obtain⟨G',gb,ih⟩:=ih (i+1) (G++[.cells [.str p.1,.str p.2] FZ]) (by omega) hG1
  have h:((i:Int)<(fs.length:Int)):=by omega
  have h3:(0:Int)<=i:=by omega
  have hw:=wrS i (by omega)
  have fT:=aA fq G;have as1:Y++(G++[.cells [.str p.1,.str p.2] FZ])=(Y++G)++[.cells [.str p.1,.str p.2] FZ]:=by simp
  rw[as1]at ih;rw[aG (he:=rfl)];generalize hk:aH C (ai C) 31 [0,1,14,15,16] pO=k at*;generalize hT:Y++G=T at*;by_cases c:p.2.length<=65536
  ·have c':¬(65536:Int)<(p.2.length:Int):=by omega
   refine⟨G',gb,?_⟩;have:okD (p::fs.drop (i+1))=okD (fs.drop (i+1)):=by simp[okD,c]
   rw[this,<-ih];simp only[pO,h,h3,hw,hlt,fa,fT,c',bU,aQ,jm,AV.cells,AV.flat,splice,EVX,seval]
  ·have c':(65536:Int)<(p.2.length:Int):=by omega
   refine⟨G++[.cells [.str p.1,.str p.2] FZ],hG1,?_⟩;have:okD (p::fs.drop (i+1))=false:=by simp[okD,c]
   rw[this,as1];simp only[pO,h,h3,hlt,fa,fT,c',bU,aQ,jm,AV.cells,AV.flat,splice,EVX,seval]
def agM(fs:List PS):(fs.flatMap pC).all AV.flat=true:=by
 rw[List.all_flatMap,a90];exact fun _ _=>rfl
def acu (hC:Pe C fZ fU) {Y:St} (hτ:Ok Y) {fv:AV} {fs:List PS} {fo:Option Nat} (hf:Dv Y fv fs fo) (hl:fs.length<=1000):
  ∃fv' fo' L,ai C fZ [fv] Y=some (fv',Y++L)/\Ok (Y++L)/\Dv (Y++L) fv' fs fo'/\∀q,fo'=some q->Y.length<=q:=by
 rcases hf with⟨rfl,_,rfl⟩|⟨q,fz,e1,e2,rfl,fq⟩
 ·refine⟨.xsl 0 [],none,[],?_,by simpa using hτ,.inl ⟨rfl,rfl,rfl⟩,fun q e=>by cases e⟩
  rw[hC.go];have a0:rO Y 2 32 none (.xsl 0 []) 0 []=some (.xsl 0 [],Y):=rfl;simp only[fU,a0,qG,aY,au6,EVX,seval]
 ·refine⟨.msl Y.length 0 fs.length 2,some Y.length,[.cells (fs.flatMap pC) FZ],?_,hτ.plus (by rw[a88,aw1,AO.below,fP (fun _=>rfl)];rfl),.inr ⟨Y.length,_,rfl,e2,rfl,by rw[aQ];rfl⟩,fun q e=>by cases e;omega⟩
  have h1:¬fs.length=0:=fun e=>e2 (List.length_eq_zero_iff.mp e);have fl:=dV FW fs;have ap:=fun Y:St=>V7 Y none (sz:=2) (bytes:=32) (n:=0) (m:=fs.length) (l:=[]) (fs.flatMap pC) h1 rfl (by omega) (by omega)
  simp only[av2,au3]at ap;have fa:=agM fs;have tf:(fs.flatMap pC).take (fs.length*2)=fs.flatMap pC:=by rw[<-fl,aD6]
  have ty:tidy Y.length [.msl Y.length 0 fs.length 2] (Y++[.cells (fs.flatMap pC) FZ])=Y++[.cells (fs.flatMap pC) FZ]:=qX (by simp[ae,below]) _
  rw[hC.go];simp only[fU,fq,fl,fa,tf,ap,ty,qG,aY,EVX,seval]
def jE.sl{Y:St}{nm fs F s m fo oo}(h:jE Y nm fs F s m fo oo):s<Y.length:=by
 obtain⟨fv',ov,hs,_⟩:=h.st;exact(a00.mp hs).1
def jE.ml{Y:St}{nm fs F s m fo oo}(h:jE Y nm fs F s m fo oo):m<Y.length:=(a00.mp h.mp).1
def aaz.plus{α:Type}{Y:St}{v:AV}{sz:Nat}{c:α->LA}{xs:List α}{oo:Option Nat}(h:aaz Y v sz c xs oo)(L:St):aaz (Y++L) v sz c xs oo:=by
 rcases h with h|⟨q,a,b,e,d⟩
 ·exact .inl h
 ·exact .inr ⟨q,a,b,e,aA d L⟩
def jE.plus{Y:St}{nm fs F s m fo oo}(h:jE Y nm fs F s m fo oo)(L:St):jE (Y++L) nm fs F s m fo oo:=by
 obtain⟨fv,ov,hs,hf,hv⟩:=h.st;exact⟨⟨fv,ov,aA hs L,hf.plus L,aaz.plus hv L⟩,aA h.mp L,h.len,h.fs_,h.os,h.fo_⟩
structure NewHas(C:Ctx):Prop extends TelHas C where
 allowed:Has C lC kW
 nrole:Has C xU uo
 clone:Pe C fZ fU
 new:Pe C EU Aq
def ait (H:NewHas C) {Y:St} (hτ:Ok Y) (nm:LU) {fv:AV} {fs:List PS} {fo:Option Nat} (hf:Dv Y fv fs fo) (hl:fs.length<=1000):
  (af6 nm fs≠0/\ai C EU [.str nm,fv] Y=some (.tup [.nilp,.int .i64 (af6 nm fs)],Y))\/
  (af6 nm fs=0/\∃s m fo' L,ai C EU [.str nm,fv] Y=some (.tup [.ref s 0,.int .i64 0],Y++L)/\Ok (Y++L)/\jE (Y++L) nm fs [] s m fo' none/\Y.length<=s/\Y.length<=m/\∀q,fo'=some q->Y.length<=q):=by
 have hln:bU Y 1 fv=some fs.length:=by
  rcases hf with⟨rfl,_,rfl⟩|⟨q,fz,e1,e2,rfl,fq⟩<;>rfl
 have nr:=fun Y=>LC H.nrole H.allowed nm Y;have ty:=fun L=>fun e:Int=>dE hτ (vs:=[.nilp,.int .i64 e]) rfl L;unfold af6;rw[H.new.go];cases hr:role nm
 ·left;rw[hr]at nr;have t0:=zW Y;rw[if_pos rfl];refine⟨by decide,?_⟩
  simp only[Aq,nr,t0,qG,aY,EVX,seval]
 ·rw[hr]at nr;rw[if_neg (by decide)]
  by_cases c:256<fs.length
  ·left;have t0:=zW Y;have c':(256:Int)<(fs.length:Int):=by omega
   rw[if_pos c];refine⟨by decide,?_⟩
   simp only[Aq,nr,hln,c',t0,qG,aY,EVX,seval]
  ·rw[if_neg c];have c':¬(256:Int)<(fs.length:Int):=by omega
   obtain⟨G',gb,lp⟩:=akE (C:=C) Y nm fv fs fo hf (by omega) fs.length 0 [] (by omega) rfl
   rw[show((0:Nat):Int)=0 from rfl,au0,au6]at lp;cases hd:okD fs
   ·left;rw[if_neg (by decide)]
    rw[hd,if_neg (by decide)]at lp
    refine⟨by decide,?_⟩
    simp only[Aq,nr,hln,c',lp,ty,qG,aY,EVX,seval]
   ·right;rw[if_pos rfl];rw[hd,if_pos rfl]at lp;refine⟨rfl,?_⟩;have ok1:Ok (Y++G'):=hτ.plus gb;obtain⟨fv',fo',L,a1,a2,a3,a4⟩:=acu (C:=C) H.clone ok1 (hf.plus G') hl;obtain⟨T,hT⟩:∃T,Y++G'++L=T:=⟨_,rfl⟩;have tl:T.length=Y.length+G'.length+L.length:=by rw[<-hT];simp;omega
    rw[hT]at a1 a2 a3;simp only[a04]at a4;have fc:fv'.cells=[fv']:=by
     rcases a3 with⟨_,_,rfl⟩|⟨q,fz,_,_,rfl,d⟩<;>rfl
    have fb2:below (T.length+1+1) fv'=true:=by
     rcases a3 with⟨_,_,rfl⟩|⟨q,fz,_,_,rfl,d⟩
     ·rfl
     ·have:=(a00.mp d).1;simp only[below,decide_eq_true_eq];omega
    have ok2:Ok ((T++[.map []])++[.cells [.str nm,fv',.map T.length,.nils] FZ]):=by
     have:Ok (T++[.map []]):=a2.plus rfl;refine RF this ?_;simp[AO.below,ae,below,fb2];omega
    have ty2:tidy Y.length [.ref (T.length+1) 0,.int .i64 0] (T++[.map [],.cells [.str nm,fv',.map T.length,.nils] FZ])=T++[.map [],.cells [.str nm,fv',.map T.length,.nils] FZ]:=qX (by simp[ae,below];omega) _
    have e1:T++[.map [],.cells [.str nm,fv',.map T.length,.nils] FZ]=Y++(G'++L++[.map [],.cells [.str nm,fv',.map T.length,.nils] FZ]):=by rw[<-hT];simp
    refine⟨T.length+1,T.length,fo',G'++L++[.map [],.cells [.str nm,fv',.map T.length,.nils] FZ],?_,by rw[<-e1];simpa using ok2,?_,by omega,by omega,fun q e=>by have:=a4 q e;omega⟩
    ·rw[<-e1];simp only[Aq,nr,hln,c',lp,a1,fc,splice,ty2,qG,aY,EVX,seval]
    ·rw[<-e1];have fq:∀q,fo'=some q->q<T.length:=fun q e=>by
      rcases a3 with⟨_,h0,_⟩|⟨q',fz,h0,_,_,d⟩
      ·rw[h0]at e;cases e
      ·rw[h0]at e;cases e;exact(a00.mp d).1
     refine⟨⟨fv',.nils,by simp,a3.plus _,.inl ⟨rfl,rfl,rfl⟩⟩,by simp,⟨by simp,hl⟩,fun e=>?_,(fun e=>nomatch e),(fun q e e'=>nomatch e')⟩
     have:=fq _ e;omega
def U6(n:Int):Bool:=decide (0<=n)&&decide (n<=65536)
def adE(hC:Has C FQ vY)(n:Int)(Y:St):ai C FQ [.int .i64 n] Y=some (.bool (U6 n),Y):=by
 have hn:hand false [.int .i64 n] Y=some ([.int .i64 n],Y):=rfl;rw[hC.go hn];unfold U6;by_cases c:0<=n
 ·by_cases d:n<=65536
  ·simp only[vY,c,d,EVX,seval]
  ·simp only[vY,c,d,EVX,seval]
 ·simp only[vY,c,EVX,seval];rfl
def Cm(s:Nat)(R:jQ)(o:Nat)(now rc sc:Int):LA:=.ref s 0::(R.cs++[.ref o 0,.int .i64 now,.int .i64 rc,.int .i64 sc])
structure bP(Y:St)(h:Bool)(l:List fV)(R:jQ)(now rc sc:Int)(nm:LU)(fs:List PS)(F:List dO)(r s m o:Nat)(fo oo:Option Nat):Prop where
 rp:Y[r]?=some (.cells (Cm s R o now rc sc) FZ)
 ver:Y[o]?=some (Ep h l)
 st:jE Y nm fs F s m fo oo
 rs:r≠s
 rm:r≠m
 ro:oo≠some r
 vs:o≠s
 vm:o≠m
 vo:oo≠some o
 caps:U6 rc=true/\U6 sc=true
def wL(nm:LU)(fs:List PS)(rc sc:Int)(e:Int):Int:=if af6 nm fs≠0 then af6 nm fs else if(U6 rc&&U6 sc)=false then 1 else e
structure RNewHas(C:Ctx):Prop extends NewHas C,RootHas C where
 mayCap:Has C FQ vY
 rnew:Pe C Ht zD
def afW(n:Nat):∀(a b:LA),ae n a=true->ae n (a++b)=ae n b
 |[],_,_=>rfl
 |x::a,b,h=>by
  rw[ae,a01]at h;rw[a99,ae,h.1,afW n a b h.2,aw6]
def adD (H:RNewHas C) (h:Bool) (l:List fV) (R:jQ) (e:Int) (data:LU)
  (hR:∀(O:St) (o:Nat),Ok O->O[o]?=some (Ep h l)->ai C uY [.ref o 0,.str data] O=some (.tup [.agg (Va R e).cs,.int .i64 e],O))
  {Y:St} (hτ:Ok Y) (o:Nat) (ho:Y[o]?=some (Ep h l)) (nm:LU) {fv:AV} {fs:List PS} {fo:Option Nat} (hf:Dv Y fv fs fo) (hl:fs.length<=1000) (now b0 b1 rc sc:Int):
  (wL nm fs rc sc e≠0/\ai C Ht [.agg [.str nm,.str data,fv],.ref o 0,.int .i64 now,.agg [.int .i64 b0,.int .i64 b1,.int .i64 rc,.int .i64 sc]] Y=some (.tup [.nilp,.int .i64 (wL nm fs rc sc e)],Y))\/
  (wL nm fs rc sc e=0/\∃r s m fo' L,ai C Ht [.agg [.str nm,.str data,fv],.ref o 0,.int .i64 now,.agg [.int .i64 b0,.int .i64 b1,.int .i64 rc,.int .i64 sc]] Y=some (.tup [.ref r 0,.int .i64 0],Y++L)/\Ok (Y++L)/\bP (Y++L) h l R now rc sc nm fs [] r s m o fo' none/\Y.length<=r/\Y.length<=s/\Y.length<=m/\∀q,fo'=some q->Y.length<=q):=by
 have fb:below Y.length fv=true:=by
  rcases hf with⟨_,_,rfl⟩|⟨q,fz,_,_,rfl,d⟩
  ·rfl
  ·have:=(a00.mp d).1;simp only[below,decide_eq_true_eq];omega
 have ok1:Ok (Y++[.cells [.str nm,.str data,fv] FZ,.cells [.int .i64 b0,.int .i64 b1,.int .i64 rc,.int .i64 sc] FZ]):=RF hτ (by
  have:below (Y.length+2) fv=true:=below_mono (by omega) _ fb
  simp[AO.below,ae,below,this])
 have ty:=fun(L:St) (e:Int)=>dE hτ (vs:=[.nilp,.int .i64 e]) rfl L;have mc:=fun n Y=>adE H.mayCap n Y;have N:=ait H.toNewHas ok1 nm (hf.plus _) hl;unfold wL;rw[H.rnew.go];rcases N with⟨n1,n2⟩|⟨n1,s,m,fo',L,n2,ok2,n3,n4,n5,n6⟩
 ·left;rw[if_pos n1];refine⟨n1,?_⟩;have c1:(af6 nm fs !=0)=true:=by simpa using n1
  simp only[zD,n2,c1,ty,qG,aY,AV.cells,EVX,seval]
 ·rw[if_neg (by rw[n1];decide)]
  have n2':=n2;rw[n1]at*;obtain⟨T,hT⟩:∃T,(Y++[.cells [.str nm,.str data,fv] FZ,.cells [.int .i64 b0,.int .i64 b1,.int .i64 rc,.int .i64 sc] FZ])++L=T:=⟨_,rfl⟩;rw[hT]at n2 ok2 n3;have hT2:T=Y++([.cells [.str nm,.str data,fv] FZ,.cells [.int .i64 b0,.int .i64 b1,.int .i64 rc,.int .i64 sc] FZ]++L):=by rw[<-hT,au2]
  have x4:T[Y.length]?=some (.cells [.str nm,.str data,fv] FZ):=by rw[hT2,aQ];rfl
  have x7:T[Y.length+1]?=some (.cells [.int .i64 b0,.int .i64 b1,.int .i64 rc,.int .i64 sc] FZ):=by rw[hT2,dM];rfl
  have oT:T[o]?=some (Ep h l):=by rw[hT2];exact aA ho _
  have tyT:=fun(L':St) (e:Int)=>ty ([.cells [.str nm,.str data,fv] FZ,.cells [.int .i64 b0,.int .i64 b1,.int .i64 rc,.int .i64 sc] FZ]++L++L') e;simp only[<-au2,hT]at tyT;have tyT0:=tyT [];rw[au6]at tyT0;cases cm:U6 rc&&U6 sc
  ·left;rw[if_pos rfl];refine⟨by decide,?_⟩
   cases c1:U6 rc
   ·simp only[zD,n2,mc,c1,x7,tyT0,qG,aY,AV.cells,EVX,seval]
   ·rw[c1,aw6]at cm;simp only[zD,n2,mc,c1,cm,x7,tyT0,qG,aY,AV.cells,EVX,seval]
  ·rw[if_neg (by decide)]
   rw[a01]at cm;have cr:=hR T o ok2 oT;by_cases ce:e=0
   ·right;refine⟨ce,?_⟩;subst ce;rw[Va,if_pos rfl]at cr;have Rc:=R.cs_is;have rb:ae 0 R.cs=true:=R.nvs.cl;have rp:Cm s R o now rc sc=[.ref s 0,.int .i64 R.ver,.int .i64 R.exp,.sl R.ks.length (R.ks.flatMap pC),.int .i64 R.rt.th,.sl R.rt.ids.length (R.rt.ids.flatMap sC),.int .i64 R.sn.th,.sl R.sn.ids.length (R.sn.ids.flatMap sC),.int .i64 R.tg.th,.sl R.tg.ids.length (R.tg.ids.flatMap sC),.ref o 0,.int .i64 now,.int .i64 rc,.int .i64 sc]:=rfl;have sT:s<T.length:=by obtain⟨fv',ov,hs,_⟩:=n3.st;exact(a00.mp hs).1
    have oT':o<T.length:=(a00.mp oT).1;have tl:Y.length+2<=T.length:=by rw[hT2];simp
    simp only[a04,a07,a09]at n4 n5 n6;have rpb:ae (T.length+2) (Cm s R o now rc sc)=true:=by
     unfold Cm;have h1:s<T.length+2:=by omega
     have h2:o<T.length+2:=by omega
     have h3:=aO (a98 (T.length+2)) _ rb;rw[ae,afW _ _ _ h3];simp[ae,below,h1,h2]
    have ok3:Ok (T++[.cells R.cs FZ,.cells (Cm s R o now rc sc) FZ]):=RF ok2 (by
     have h3:=aO (a98 (T.length+2)) _ rb;simp only[a07,a09,a88,aw1,AO.below,h3,rpb,av9])
    have ty3:tidy Y.length [.ref (T.length+1) 0,.int .i64 0] (T++[.cells R.cs FZ,.cells (Cm s R o now rc sc) FZ])=T++[.cells R.cs FZ,.cells (Cm s R o now rc sc) FZ]:=qX (by simp[ae,below];omega) _
    have e1:T++[.cells R.cs FZ,.cells (Cm s R o now rc sc) FZ]=Y++([.cells [.str nm,.str data,fv] FZ,.cells [.int .i64 b0,.int .i64 b1,.int .i64 rc,.int .i64 sc] FZ]++L++[.cells R.cs FZ,.cells (Cm s R o now rc sc) FZ]):=by rw[hT2];simp
    have y7:=fun L=>aA x7 L;refine⟨T.length+1,s,m,fo',_,?_,by rw[<-e1];exact ok3,?_,by omega,by omega,by omega,fun q e=>by have:=n6 q e;omega⟩
    ·rw[<-e1];rw[Rc]at cr ty3⊢;rw[rp]at ty3⊢;simp only[zD,n2,mc,cm.1,cm.2,cr,x4,x7,y7,ty3,qG,aY,splice,AV.cells,AV.flat,EVX,seval]
    ·rw[<-e1];have ol:o<Y.length:=(a00.mp ho).1;exact⟨by rw[dM];rfl,aA oT _,n3.plus _,by omega,by have:=n3.ml;omega,by simp,by omega,by omega,by simp,cm⟩
   ·left;refine⟨ce,?_⟩;have ce':(e !=0)=true:=by simpa using ce
    rw[Va,if_neg ce]at cr;have zc:ae7.cs=[.int .i64 0,.int .i64 0,.sl 0 [],.int .i64 0,.sl 0 [],.int .i64 0,.sl 0 [],.int .i64 0,.sl 0 []]:=rfl;rw[zc]at cr;simp only[zD,n2,mc,cm.1,cm.2,cr,ce',x4,x7,tyT,qG,aY,splice,AV.cells,AV.flat,EVX,seval]
structure ul where
 nm:LU
 data:LU
 fs:List PS
 h:Bool
 l:List fV
 now:Int
 b0:Int
 b1:Int
 rc:Int
 sc:Int
def ul.cs(c:ul):LA:=[.str c.nm,.str c.data,.sl c.fs.length (c.fs.flatMap pC),.bool c.h,O9 c.l,.int .i64 c.now,.int .i64 c.b0,.int .i64 c.b1,.int .i64 c.rc,.int .i64 c.sc]
theorem ul.nvs(c:ul):NVs c.cs:=.cons (.str _) (.cons (.str _) (.cons (yY _) (.cons (.bool _) (.cons (ac7 _) (.cons (.int _ _) (.cons (.int _ _) (.cons (.int _ _) (.cons (.int _ _) (.cons (.int _ _) .nil)))))))))
structure MadeHas(C:Ctx):Prop extends RNewHas C where
 jud:aee C
 ver:Has C yQ rM
 made28:Has C dG nI
def afC (H:MadeHas C) (c:ul) (hl:c.l.length<=60) (O:St):
  ai C yQ [.agg c.cs] O=some (.ref (O.length+1) 0,O++[.cells c.cs FZ,Ep c.h c.l]):=by
 have tk:∀Y,tidy O.length [.ref (O.length+1) 0] Y=Y:=fun Y=>qX (by simp[ae,below]) Y
 have e1:=fun Y=>amK H.jud Y;have e2:=fun Y=>alO H.jud c.l hl Y;rw[H.ver.go (NVs.hand (.cons (.agg c.nvs) .nil) _)];unfold ul.cs Ep;unfold O9 at*;cases c.h
 ·simp only[rM,e2,tk,AV.cells,EVX,seval]
 ·simp only[rM,e1,tk,AV.cells,EVX,seval]
def X5:LU:=[115,112,111,105,108,116]
def afv(l:LA)(i:Nat)(cs:LA)(h:i+cs.length<=l.length):(splice l i cs).length=l.length:=by
 unfold splice;simp;omega
def PG{N:Nat}:∀(k:Nat) {l:LA},ae N l=true->ae N (l.take k)=true
 |0,_,_=>by rw[aD9];rfl
 |_+1,[],_=>rfl
 |k+1,x::l,h=>by
  rw[ae,a01]at h;rw[aD7,ae,h.1,PG k h.2];rfl
def Lt (p:Nat) (nm data:AV) (fv:AV) (N:Nat) (qo:Option Nat) (hp:qo≠some p) (rv ev:AV) (hN:N<=1000):∀(n i:Nat) (T:St),i+n=N->Ok T->T[p]?=some (.cells [nm,data,fv] FZ)->
  (N=0/\fv=.xsl 0 [])\/(∃q l,qo=some q/\fv=.msl q 0 N 2/\l.length=N*2/\ae 0 l=true/\T[q]?=some (.cells l FZ))->
  ∃T',aH C (ai C) 41 [4,5,6,7] jb [(4,.ref p 0),(5,rv),(6,ev),(7,.int .i64 i)] T=some (.exit 0,[(5,rv),(6,ev)],T')/\T'.length=T.length/\Ok T'/\∀k,qo≠some k->T'[k]?=T[k]?:=by
 intro n
 induction n with
 |zero=>
  intro i T hi hT h1 h2;have hln:bU T 1 fv=some N:=by
   rcases h2 with⟨rfl,rfl⟩|⟨q,l,_,rfl,_⟩<;>rfl
  refine⟨T,?_,rfl,hT,fun _ _=>rfl⟩;rw[aG (he:=rfl)];have h:¬((i:Int)<(N:Int)):=by omega
  simp only[jb,h1,hln,h,EVX,seval]
 |succ n ih=>
  intro i T hi hT h1 h2;rcases h2 with⟨h2,_⟩|⟨q,l,rfl,rfl,h3,h4,h5⟩
  ·omega
  have hpq:q≠p:=fun e=>hp (by rw[e])
  have bl:ae 0 (splice l (i*2) [.str X5,.str X5])=true:=uB _ _ (uB _ _ (PG _ h4) rfl) (EF _ h4);obtain⟨T',a,b,c,d⟩:=ih (i+1) (T.set q (.cells (splice l (i*2) [.str X5,.str X5]) FZ)) (by omega) (Ok.set2 hT q (by rw[AO.below];exact aO (a98 _) _ bl)) (aF h1 (fun e=>hpq e.symm) _) (.inr ⟨q,_,rfl,rfl,by rw[afv _ _ _ (by simp;omega),h3],bl,bg h5 _⟩)
  refine⟨T',?_,by rw[b,a95],c,fun k hk=>by rw[d k hk,aA5 (fun e=>hk (by rw[e]))]⟩
  rw[<-a,aG (he:=rfl)];generalize hk:aH C (ai C) 41 [4,5,6,7] jb=k;have h:((i:Int)<(N:Int)):=by omega
  have i0:(0:Int)<=i:=by omega
  have hw:=wrS i (by omega)
  have hlt:i<N:=by omega
  have hl2:i*2+2<=l.length:=by omega
  simp only[jb,h1,h5,h,i0,hw,hlt,hl2,bU,X5,AV.cells,AV.flat,EVX,seval]
end Go.Ev
