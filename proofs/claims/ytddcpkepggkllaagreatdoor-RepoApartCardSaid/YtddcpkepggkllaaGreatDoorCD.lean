/- Code. No conditions. -/
import Derived.Test.YtddcpkepggkllaaGreatDoorCC
import Derived.Test.YtddcpkepggkllaaGreatDoorCB
import Derived.Test.YtddcpkepggkllaaGreatDoorEC
set_option linter.unusedVariables false
set_option linter.unusedSimpArgs false
set_option linter.defProp false
namespace Go.Ev
set_option maxRecDepth 100000
variable{C:Ctx}{PK:PkI}
def PB(Q:Prop)(v:AV):Prop:=∃b:Bool,v=.bool b/\(b=true->Q)
def PB.no{Q:Prop}:PB Q (.bool false):=⟨false,rfl,fun h=>by cases h⟩
def PB.yes{Q:Prop}(h:Q):PB Q (.bool true):=⟨true,rfl,fun _=>h⟩
structure IR(C:Ctx)(PK:PkI):Prop where
 proper:Has C KY aQ
 written:Has C JS DK
 may:Has C Vb oN
 May:Has C Du UY
 valid:iF C PK Dq (.pure [.strb] .bool)
 ascending:iF C PK qP (.pure [.slx [.strb]] .bool)
def ZH(H:IR C PK)(s:LU)(O:St)(hσ:Ok O):∃b:Bool,aj C JS [.str s] O=some (.bool b,O)/\(b=true->s.length<=4096):=by
 rw[H.written.go (NVs.hand (.cons (.str _) .nil) _)];by_cases h:(s.length:Int)<=4096
 ·obtain⟨v,h1,h2⟩:=DU H.valid (.cons (.str s) .nil) (.cons _ _ _ _ (.strb s (by simp only[LB];omega)) .nil) hσ
  obtain⟨b,rfl⟩:=Lm h2;exact⟨b,by simp only[DK,h,h1,bu,EVX,seval],fun _=>by omega⟩
 ·exact⟨false,by simp only[DK,h,bu,EVX,seval],fun hf=>by cases hf⟩
def Zo(ns:List LU)(i:Nat)(h:i<ns.length):(ns.map AV.str).drop i=.str ns[i]::(ns.map AV.str).drop (i+1):=by
 rw[au1 (l:=ns.map AV.str) (by simpa using h),List.getElem_map]
def VE (H:IR C PK) (ns:List LU) (hn:ns.length<=8192) (O:St) (hσ:Ok O):∀(n i:Nat),i+n=ns.length->
  (aH C (aj C) 99 [89,90,91] gX [(89,.sl ns.length (ns.map .str)),(90,.int .i64 ns.length),(91,.int .i64 i)] O=some (.exit 1,[],O)/\∀x∈ns.drop i,x.length<=4096)\/
  aH C (aj C) 99 [89,90,91] gX [(89,.sl ns.length (ns.map .str)),(90,.int .i64 ns.length),(91,.int .i64 i)] O=some (.ret,[(2,.bool false)],O)
 |0,i,hi=>by
  left;refine⟨?_,by rw[aD0 (by omega)];simp⟩
  rw[aB (he:=rfl)];have h:¬((i:Int)<(ns.length:Int)):=by omega
  simp only[gX,h,EVX,seval]
 |n+1,i,hi=>by
  have h:((i:Int)<(ns.length:Int)):=by omega
  have h2:i<ns.length:=by omega
  have h3:(0:Int)<=i:=by omega
  have hw:=wrS i (by omega)
  have sl:(ns.map AV.str).length=ns.length:=by simp
  have dr:=Zo ns i h2;have dn:ns.drop i=ns[i]::ns.drop (i+1):=au1 h2;generalize ns[i]=x at dr dn;obtain⟨b,e,hb⟩:=ZH H x O hσ;have ih:=VE H ns hn O hσ n (i+1) (by omega)
  cases b with
  |false=>
   right;rw[aB (he:=rfl)];simp only[gX,h,h2,h3,sl,dr,e,EVX,seval]
  |true=>
   rcases ih with⟨ih,hq⟩|ih
   ·left;refine⟨?_,fun y hy=>?_⟩
    ·rw[aB (he:=rfl)];generalize hk:aH C (aj C) 99 [89,90,91] gX=rest at*;simp only[gX,h,h2,h3,hw,sl,dr,e,ih,EVX,seval]
    grind
   ·right;rw[aB (he:=rfl)];generalize hk:aH C (aj C) 99 [89,90,91] gX=rest at*;simp only[gX,h,h2,h3,hw,sl,dr,e,ih,EVX,seval]
def abR(k:Int)(t:LU)(ns:List LU)(is:List JV):Prop:=t.length<=4096/\(∀x∈ns,x.length<=4096)/\(k≠4->k≠5->is=[])
set_option maxHeartbeats 4000000 in
def ajM(H:IR C PK)(k n:Int)(t:LU)(ns:List LU)(is:List JV)(h1:ns.length<=is.length)(h3:k=5->is.length<=ns.length)(h2:is.length<=8192)(h4:StB t ns)(O:St)(hσ:Ok O):∃v,aj C KY [(JV.mk k n t ns is h1 h3 h2 h4).av] O=some (v,O)/\PB (abR k t ns is) v:=by
 rw[H.proper.go (NVs.hand (.cons (JV.nv _) .nil) _)];have ty:=fun(q:Bool)=>bY hσ (vs:=[.bool q]) rfl;have ca:(JV.mk k n t ns is h1 h3 h2 h4).av=.agg [.int .u8 k,.int .i64 n,.str t,.sl ns.length (ns.map .str),.sl is.length (aN is)]:=by unfold JV.av;rw[JV.mk_cs]
 have nt:∀{r:Option (AV×St)},r=some (.bool false,O)->∃v,r=some (v,O)/\PB (abR k t ns is) v:=fun h=>⟨_,h,PB.no⟩;have yt:∀{r:Option (AV×St)},r=some (.bool true,O)->abR k t ns is->∃v,r=some (v,O)/\PB (abR k t ns is) v:=fun h g=>⟨_,h,PB.yes g⟩
 let B:Int->AO:=fun k=>.cells [.int .u8 k,.int .i64 n,.str t,.sl ns.length (ns.map .str),.sl is.length (aN is)] FZ
 have okB:∀k,Ok (O++[.cells [.int .u8 k,.int .i64 n,.str t,.sl ns.length (ns.map .str),.sl is.length (aN is)] FZ]):=fun k=>Mc hσ (by simp[AO.below,ai,Ev.below,aP (au3 _) _ (qY ns),aP (au3 _) _ (iY is)])
 have tB:t=[]->t.length<=4096:=fun h=>by rw[h];simp
 have nB:¬(ns.length:Int)>0->ns=[]:=fun h=>av1 (by omega)
 have nD:¬(is.length:Int)>0->is=[]:=fun h=>av1 (by omega)
 have sl:(ns.map AV.str).length=ns.length:=by simp
 by_cases hk:k=1
 ·subst hk;cases hT:decide (t=[])with
  |false=>exact nt (by simp only[aQ,ca,hT,AV.cells,aw2,lZ,ty,EVX,seval])
  |true=>
  have ht:t=[]:=by simpa using hT
  by_cases hC:(ns.length:Int)>0
  ·exact nt (by simp only[aQ,ca,hT,hC,aY,AV.cells,decide_true,aw9,aw2,lZ,ty,EVX,seval])
  have hns:=nB hC;by_cases hD:(is.length:Int)>0
  ·exact nt (by simp only[aQ,ca,hT,hC,hD,aY,AV.cells,decide_true,decide_false,aw9,aw2,lZ,ty,EVX,seval])
  cases h0:(n==0)with
  |true=>exact yt (by simp only[aQ,ca,hT,hC,hD,h0,aY,AV.cells,decide_false,aw9,aw2,lZ,ty,EVX,seval]) ⟨tB ht,by rw[hns];simp,fun _ _=>nD hD⟩
  |false=>
  cases h1':(n==1)with
  |true=>exact yt (by simp only[aQ,ca,hT,hC,hD,h0,h1',aY,AV.cells,decide_false,aw9,aw2,lZ,ty,EVX,seval]) ⟨tB ht,by rw[hns];simp,fun _ _=>nD hD⟩
  |false=>exact nt (by simp only[aQ,ca,hT,hC,hD,h0,h1',aY,AV.cells,decide_false,aw9,aw2,lZ,ty,EVX,seval])
 by_cases hk:k=2
 ·subst hk;cases hT:decide (t=[])with
  |false=>exact nt (by simp only[aQ,ca,hT,AV.cells,aw2,lZ,ty,EVX,seval])
  |true=>
  have ht:t=[]:=by simpa using hT
  by_cases hC:(ns.length:Int)>0
  ·exact nt (by simp only[aQ,ca,hT,hC,aY,AV.cells,decide_true,aw9,aw2,lZ,ty,EVX,seval])
  have hns:=nB hC;by_cases hD:(is.length:Int)>0
  ·exact nt (by simp only[aQ,ca,hT,hC,hD,aY,AV.cells,decide_true,decide_false,aw9,aw2,lZ,ty,EVX,seval])
  exact yt (by simp only[aQ,ca,hT,hC,hD,aY,AV.cells,decide_false,aw9,aw2,lZ,ty,EVX,seval]) ⟨tB ht,by rw[hns];simp,fun _ _=>nD hD⟩
 by_cases hk:k=3
 ·subst hk;cases hN:(n !=0)with
  |true=>exact nt (by simp only[aQ,ca,hN,AV.cells,aw9,ty,EVX,seval])
  |false=>
  by_cases hC:(ns.length:Int)>0
  ·exact nt (by simp only[aQ,ca,hN,hC,aY,AV.cells,decide_true,aw9,aw2,ty,EVX,seval])
  have hns:=nB hC;by_cases hD:(is.length:Int)>0
  ·exact nt (by simp only[aQ,ca,hN,hC,hD,aY,AV.cells,decide_true,decide_false,aw2,ty,EVX,seval])
  obtain⟨bw,ew,hw⟩:=ZH H t _ (okB 3);cases bw with
  |true=>exact yt (by simp only[aQ,ca,hN,hC,hD,ew,aY,AV.cells,decide_false,aw2,ty,EVX,seval]) ⟨hw rfl,by rw[hns];simp,fun _ _=>nD hD⟩
  |false=>exact nt (by simp only[aQ,ca,hN,hC,hD,ew,aY,AV.cells,decide_false,aw2,ty,EVX,seval])
 by_cases hk:k=4
 ·subst hk;cases hN:(n !=0)with
  |true=>exact nt (by simp only[aQ,ca,hN,AV.cells,aw9,ty,EVX,seval])
  |false=>
  cases hT:decide (t=[])with
  |false=>exact nt (by simp only[aQ,ca,hN,hT,AV.cells,aw2,lZ,ty,EVX,seval])
  |true=>
  have ht:t=[]:=by simpa using hT
  by_cases hC:(ns.length:Int)>0
  ·exact nt (by simp only[aQ,ca,hN,hT,hC,aY,AV.cells,decide_true,aw9,aw2,lZ,ty,EVX,seval])
  have hns:=nB hC;exact yt (by simp only[aQ,ca,hN,hT,hC,aY,AV.cells,decide_false,aw9,aw2,lZ,ty,EVX,seval]) ⟨tB ht,by rw[hns];simp,fun h _=>absurd rfl h⟩
 by_cases hk:k=5
 ·subst hk;cases hN:(n !=0)with
  |true=>exact nt (by simp only[aQ,ca,hN,AV.cells,aw9,ty,EVX,seval])
  |false=>
  cases hT:decide (t=[])with
  |false=>exact nt (by simp only[aQ,ca,hN,hT,AV.cells,aw2,lZ,ty,EVX,seval])
  |true=>
  have ht:t=[]:=by simpa using hT
  cases hL:((ns.length:Int) !=is.length)with
  |true=>grind
  |false=>
  obtain⟨va,ea,hva⟩:=DU H.ascending (.cons (.sl ns.length (qY ns)) .nil) (.cons _ _ _ _ (by
   obtain⟨rs,r1,r2,r3⟩:=Y7 (V:=V0) ns h4.ns
   grind [LS,M]) .nil) (okB 5)
  obtain⟨ba,rfl⟩:=Lm hva;cases ba with
  |false=>exact nt (by simp only[aQ,ca,hN,hT,hL,ea,aY,AV.cells,aw9,aw2,lZ,ty,EVX,seval])
  |true=>
  have lp:=VE H ns (by omega) _ (okB 5) ns.length 0 (by omega)
  simp only[a97,au7]at lp;rcases lp with⟨lp,hq⟩|lp
  ·exact yt (by simp only[aQ,ca,hN,hT,hL,ea,lp,aY,AV.cells,aw9,aw2,lZ,ty,EVX,seval]) ⟨tB ht,hq,fun _ h=>absurd rfl h⟩
  ·exact nt (by simp only[aQ,ca,hN,hT,hL,ea,lp,aY,AV.cells,aw9,aw2,lZ,ty,EVX,seval])
 have k1:(k !=1)=true:=by simpa using‹¬k=1›
 have q1:(k==1)=false:=by simpa using‹¬k=1›
 have k2:(k !=2)=true:=by simpa using‹¬k=2›
 have q2:(k==2)=false:=by simpa using‹¬k=2›
 have k3:(k !=3)=true:=by simpa using‹¬k=3›
 have q3:(k==3)=false:=by simpa using‹¬k=3›
 have k4:(k !=4)=true:=by simpa using‹¬k=4›
 have q4:(k==4)=false:=by simpa using‹¬k=4›
 have k5:(k !=5)=true:=by simpa using‹¬k=5›
 have q5:(k==5)=false:=by simpa using‹¬k=5›
 cases hN:(n !=0)with
 |true=>exact nt (by simp only[aQ,ca,k1,k2,hN,AV.cells,aw9,ty,EVX,seval])
 |false=>
 cases hT:decide (t=[])with
 |false=>exact nt (by simp only[aQ,ca,k1,k2,k3,hN,hT,AV.cells,aw2,lZ,ty,EVX,seval])
 |true=>
 by_cases hC:(ns.length:Int)>0
 ·exact nt (by simp only[aQ,ca,k1,k2,k3,k5,hN,hT,hC,aY,AV.cells,decide_true,aw9,aw2,lZ,ty,EVX,seval])
 by_cases hD:(is.length:Int)>0
 ·exact nt (by simp only[aQ,ca,k1,k2,k3,k4,k5,hN,hT,hC,hD,aY,AV.cells,decide_true,decide_false,aw9,aw2,lZ,ty,EVX,seval])
 exact nt (by simp only[aQ,ca,k1,k2,k3,k4,k5,q1,q2,q3,q4,q5,hN,hT,hC,hD,aY,AV.cells,decide_false,aw9,aw2,lZ,ty,EVX,seval])
mutual
def JW.cnt:JW->Nat
 |.mk _ _ _ _ is=>Oh is+1
def Oh:List JW->Nat
 |[]=>0
 |j::l=>j.cnt+Oh l
end
mutual
def JW.Good:JW->Prop
 |.mk k n t ns is=>(t.length<=4096/\(∀x∈ns,x.length<=4096)/\(k≠4->k≠5->is=[]))/\Yg is
def Yg:List JW->Prop
 |[]=>True
 |j::l=>j.Good/\Yg l
end
def AX(L:Int):AO:=.cells [.int .i64 L] FZ
def aq3(C:Ctx)(j:JV):Prop:=∀(nested L:Int) (O:St) (o:Nat),Ok O->0<=L->L<=8192->O[o]?=some (AX L)->∃(b:Bool) (L':Int),aj C Vb [j.av,.int .i64 nested,.ref o 0] O=some (.bool b,O.set o (AX L'))/\(b=true->0<=L'/\(j.w.cnt:Int)+L'<=L/\j.w.Good)
def aev (is:List JV) (hn:is.length<=8192) (IH:∀j∈is,aq3 C j) (nested:Int) (o:Nat) (O:St) (ho:o<O.length):∀(n i:Nat),i+n=is.length->∀(L:Int) (Y:St),Ok Y->0<=L->L<=8192->O.length<=Y.length->Y.take O.length=O.set o (AX L)->
  ∃(L':Int) (Y':St),Y'.take O.length=O.set o (AX L')/\
  ((aH C (aj C) 47 [1,2,34,35,36] kJ [(1,.int .i64 nested),(2,.ref o 0),(34,.sl is.length (aN is)),(35,.int .i64 is.length),(36,.int .i64 i)] Y=some (.exit 0,[],Y')/\0<=L'/\(Oh ((is.drop i).map (·.w)):Int)+L'<=L/\Yg ((is.drop i).map (·.w)))\/
   aH C (aj C) 47 [1,2,34,35,36] kJ [(1,.int .i64 nested),(2,.ref o 0),(34,.sl is.length (aN is)),(35,.int .i64 is.length),(36,.int .i64 i)] Y=some (.ret,[(6,.bool false)],Y'))
 |0,i,hi,L,Y,hτ,h0,h8,hl,ht=>by
  refine⟨L,Y,ht,.inl ⟨?_,h0,?_,?_⟩⟩
  ·rw[aB (he:=rfl)];have h:¬((i:Int)<(is.length:Int)):=by omega
   simp only[kJ,h,EVX,seval]
  ·rw[aD0 (by omega)]
   simp[Oh]
  ·rw[aD0 (by omega)]
   trivial
 |n+1,i,hi,L,Y,hτ,h0,h8,hl,ht=>by
  have h:((i:Int)<(is.length:Int)):=by omega
  have h2:i<is.length:=by omega
  have w2:=wrS i (by omega)
  have p2:(0:Int)<=(i:Int):=by omega
  have d2:=zQ is i h2;have sl:=kY is;have hj:is[i]∈is:=ax1 h2;have dn:is.drop i=is[i]::is.drop (i+1):=au1 h2;generalize is[i]=j at*;generalize aN (is.drop (i+1))=R at*;have jl:=JV.len j;have jf:=JV.flat j;have jt:(j.cs++R).take 5=j.cs:=by rw[<-jl];simp
  have je:5<=(j.cs++R).length:=by simp[jl]
  have jt':j.cs.take 5=j.cs:=a08 (by rw[JV.len];exact a06 _)
  have je':5<=j.cs.length:=by rw[JV.len];exact a06 _
  have sp:∀a b c d e:AV,splice [a,b,c,d,e] 0 j.cs=j.cs:=fun a b c d e=>by simp[splice,jl]
  have ok1:Ok (Y++[.cells j.cs FZ]):=hτ.plus (by rw[a07,show AO.below 0 (.cells j.cs FZ)=true from j.bel];rfl)
  have hL:Y[o]?=some (AX L):=by
   have:(Y.take O.length)[o]?=some (AX L):=by rw[ht];simp[ho]
   rw[au8]at this;rwa[if_pos ho]at this
  obtain⟨b,L',q,hq⟩:=IH j hj (IntKind.i64.wrap (nested-1)) L _ o ok1 h0 h8 (aA hL _);rw[dV hL]at q;have t2:(Y.set o (AX L')++[AO.cells j.cs FZ]:St).take O.length=O.set o (AX L'):=by
   rw[tV _ _ _ (by simpa using hl),List.take_set,ht,ay3]
  have g1:=fun L=>gQ (rfl:Y.length=_) L;have s1:=fun L y=>uU (rfl:Y.length=_) L y;unfold JV.av at q;cases b with
  |false=>
   refine⟨L',_,t2,.inr ?_⟩;rw[aB (he:=rfl)];simp only[kJ,h,h2,p2,d2,sl,q,g1,s1,jl,jf,jt,je,jt',sp,a95,AV.cells,EVX,seval]
  |true=>
   obtain⟨q1,q2,q3⟩:=hq rfl;obtain⟨L2,Y',e1,e2⟩:=aev is hn IH nested o O ho n (i+1) (by omega) L' _ ((hτ.set o rfl).plus (by rw[a07,show AO.below 0 (.cells j.cs FZ)=true from j.bel];rfl)) q1 (by omega) (by simp;omega) t2
   refine⟨L2,Y',e1,?_⟩;have hs:∀r,aH C (aj C) 47 [1,2,34,35,36] kJ [(1,.int .i64 nested),(2,.ref o 0),(34,.sl is.length (aN is)),(35,.int .i64 is.length),(36,.int .i64 (i+1:Nat))] (Y.set o (AX L')++[AO.cells j.cs FZ])=r->aH C (aj C) 47 [1,2,34,35,36] kJ [(1,.int .i64 nested),(2,.ref o 0),(34,.sl is.length (aN is)),(35,.int .i64 is.length),(36,.int .i64 i)] Y=r:=fun r e=>by
    rw[aB (he:=rfl)];generalize hk:aH C (aj C) 47 [1,2,34,35,36] kJ=kk at*;simp only[kJ,h,h2,w2,p2,d2,sl,q,g1,s1,e,jl,jf,jt,je,jt',sp,a95,AV.cells,EVX,seval]
   rcases e2 with⟨e2,e3,e4,e5⟩|e2
   ·refine .inl ⟨hs _ e2,e3,?_,?_⟩
    ·rw[dn,av9,Oh];omega
    ·rw[dn,av9];exact⟨q3,e5⟩
   ·exact .inr (hs _ e2)
def JV.mk_lt(k n:Int)(t:LU)(ns:List LU)(is:List JV)(h1:ns.length<=is.length)(h3:k=5->is.length<=ns.length)(h2:is.length<=8192)(h4:StB t ns)(x:JV)(hx:x∈is):SizeOf.sizeOf x.w<SizeOf.sizeOf (JV.mk k n t ns is h1 h3 h2 h4).w:=by
 show SizeOf.sizeOf x.w<SizeOf.sizeOf (JW.mk k n t ns (is.map (·.w)));have:SizeOf.sizeOf x.w<SizeOf.sizeOf (is.map (·.w)):=List.sizeOf_lt_of_mem (List.mem_map_of_mem hx);simp;omega
def TK(H:IR C PK):∀(m:Nat) (j:JV),SizeOf.sizeOf j.w<m->aq3 C j
 |0,j,hm=>absurd hm (by omega)
 |m+1,j,hm=>by
  intro nested L O o hσ h0 h8 hL;obtain⟨k,n,t,ns,is,h1,h3,h2,h4,rfl⟩:=j.ex;have IH:∀x∈is,aq3 C x:=fun x hx=>TK H m x (by have:=JV.mk_lt k n t ns is h1 h3 h2 h4 x hx;omega)
  have ho:o<O.length:=(a00.mp hL).1;have w1:IntKind.i64.wrap (L-1)=L-1:=wrE (by omega)
  have hn:hand false [(JV.mk k n t ns is h1 h3 h2 h4).av,.int .i64 nested,.ref o 0] O=some ([(JV.mk k n t ns is h1 h3 h2 h4).av,.int .i64 nested,.ref o 0],O):=by
   rw[oK,aO,(JV.nv _).nf,aO,aO];rfl
  have okp:Ok (O.set o (AX (L-1))++[.cells (JV.mk k n t ns is h1 h3 h2 h4).cs FZ]):=(hσ.set o rfl).plus (by rw[a07,show AO.below 0 (.cells (JV.mk k n t ns is h1 h3 h2 h4).cs FZ)=true from JV.bel _];rfl)
  obtain⟨v,pe,pb⟩:=ajM H k n t ns is h1 h3 h2 h4 _ okp;have ty:=fun(q:Bool) L' L=>Me hσ o (x:=AX L') rfl [.bool q] rfl L;have ca:(JV.mk k n t ns is h1 h3 h2 h4).av=.agg [.int .u8 k,.int .i64 n,.str t,.sl ns.length (ns.map .str),.sl is.length (aN is)]:=by unfold JV.av;rw[JV.mk_cs]
  have gl:=fun L' L=>aA (bC hL (AX L')) L;have g0:=fun L=>aA hL L;have p0:=fun L y=>dV hL L y;have tk:=fun(q:Bool) S L' (h:List.take O.length S=O.set o (AX L'))=>BZ (vs:=[.bool q]) hσ (x:=AX L') rfl rfl h;have lp:=aev is h2 IH nested o O ho is.length 0 (by omega) (L-1)
  rw[JV.mk_cs]at okp;rw[ca,JV.mk_cs]at pe;rw[ca]at hn;rw[ca,H.may.go hn];have tp:(O.set o (AX (L-1))++[AO.cells [.int .u8 k,.int .i64 n,.str t,.sl ns.length (ns.map .str),.sl is.length (aN is)] FZ]:St).take O.length=O.set o (AX (L-1)):=by
   rw[av8 (by simp),a08 (by simp)]
  dsimp only[AX]at*;by_cases hz:L-1<0
  ·exact⟨false,L-1,by simp only[oN,hz,w1,g0,p0,gl,ty,AV.cells,AV.flat,splice,EVX,seval],fun h=>by cases h⟩
  obtain⟨b,rfl,hb⟩:=pb;cases b with
  |false=>exact⟨false,L-1,by simp only[oN,hz,pe,w1,g0,p0,gl,ty,AV.cells,AV.flat,splice,mO,EVX,seval],fun h=>by cases h⟩
  |true=>
  obtain⟨b1,b2,b3⟩:=hb rfl;have gd:∀(c:Nat),Yg (is.map (·.w))->Oh (is.map (·.w))=c->(JV.mk k n t ns is h1 h3 h2 h4).w.cnt=c+1/\(JV.mk k n t ns is h1 h3 h2 h4).w.Good:=fun c hg hc=>by
   refine⟨?_,⟨b1,b2,fun x y=>?_⟩,hg⟩
   ·show Oh (is.map (·.w))+1=_;rw[hc]
   ·rw[b3 x y];rfl
  have fin:k≠4->k≠5->0<=L-1/\((JV.mk k n t ns is h1 h3 h2 h4).w.cnt:Int)+(L-1)<=L/\(JV.mk k n t ns is h1 h3 h2 h4).w.Good:=fun x y=>by
   obtain⟨e1,e2⟩:=gd 0 (by rw[b3 x y];trivial) (by rw[b3 x y];rfl)
   rw[e1];exact⟨by omega,by omega,e2⟩
  by_cases k4:k=4
  ·subst k4;cases hN:(nested==0)with
   |true=>exact⟨false,L-1,by simp only[oN,hz,pe,hN,w1,g0,p0,gl,ty,AV.cells,AV.flat,splice,mO,EVX,seval],fun h=>by cases h⟩
   |false=>
   obtain⟨L2,Y',t',q⟩:=lp _ okp (by omega) (by omega) (by simp) tp
   simp only[a97,au7]at q;rcases q with⟨q,q1,q2,q3⟩|q
   ·have tq:=tk true _ _ t';obtain⟨e1,e2⟩:=gd _ q3 rfl;refine⟨true,L2,by simp only[oN,hz,pe,hN,q,tq,w1,g0,p0,gl,AV.cells,AV.flat,splice,mO,EVX,seval],fun _=>⟨q1,by rw[e1];omega,e2⟩⟩
   ·have tq:=tk false _ _ t';exact⟨false,L2,by simp only[oN,hz,pe,hN,q,tq,w1,g0,p0,gl,AV.cells,AV.flat,splice,mO,EVX,seval],fun h=>by cases h⟩
  by_cases k5:k=5
  ·subst k5;cases hN:(nested==0)with
   |true=>exact⟨false,L-1,by simp only[oN,hz,pe,hN,w1,g0,p0,gl,ty,AV.cells,AV.flat,splice,mO,EVX,seval],fun h=>by cases h⟩
   |false=>
   obtain⟨L2,Y',t',q⟩:=lp _ okp (by omega) (by omega) (by simp) tp
   simp only[a97,au7]at q;rcases q with⟨q,q1,q2,q3⟩|q
   ·have tq:=tk true _ _ t';obtain⟨e1,e2⟩:=gd _ q3 rfl;refine⟨true,L2,by simp only[oN,hz,pe,hN,q,tq,w1,g0,p0,gl,AV.cells,AV.flat,splice,mO,EVX,seval],fun _=>⟨q1,by rw[e1];omega,e2⟩⟩
   ·have tq:=tk false _ _ t';exact⟨false,L2,by simp only[oN,hz,pe,hN,q,tq,w1,g0,p0,gl,AV.cells,AV.flat,splice,mO,EVX,seval],fun h=>by cases h⟩
  have n4:(k !=4)=true:=by simpa using k4
  have n5:(k !=5)=true:=by simpa using k5
  exact⟨true,L-1,by simp only[oN,hz,pe,n4,n5,w1,g0,p0,gl,ty,AV.cells,AV.flat,splice,mO,EVX,seval],fun _=>fin k4 k5⟩
def TJ(H:IR C PK)(j:JV)(O:St)(hσ:Ok O):∃b:Bool,aj C Du [j.av] O=some (.bool b,O)/\(b=true->j.w.cnt<=8192/\j.w.Good):=by
 have ok1:Ok (O++[.cells j.cs FZ,AX 8192]):=hσ.plus (by rw[a07,show AO.below 0 (.cells j.cs FZ)=true from j.bel];rfl)
 obtain⟨b,L',q,hq⟩:=TK H _ j (Nat.lt_succ_self _) 12 8192 _ (O.length+1) ok1 (by omega) (by omega) (by rw[bI];rfl)
 refine⟨b,?_,fun h=>?_⟩
 ·have hn:hand false [j.av] O=some ([j.av],O):=NVs.hand (.cons j.nv .nil) _;have ty:=fun(q:Bool)=>bY hσ (vs:=[.bool q]) rfl;have jl:=JV.len j;have jt':j.cs.take 5=j.cs:=a08 (by rw[JV.len];exact a06 _)
  have je':5<=j.cs.length:=by rw[JV.len];exact a06 _
  unfold JV.av at*;dsimp only[AX]at*;rw[H.May.go hn];simp only[UY,q,jl,jt',ty,AV.cells,splice,EVX,seval]
 ·obtain⟨h1,h2,h3⟩:=hq h;exact⟨by omega,h3⟩
def bT:Fz:=⟨false,some (235,true)⟩
def uT:Fz:=⟨false,some (5,false)⟩
structure BldHas(C:Ctx):Prop where
 copy0:∀(O:St) (o:Nat) (b:AV),O[o]?=some (.cells [.nilp,b] bT)->aj C kw [.ref o 0] O=some (.undef,O.set o (.cells [.ref o 0,b] bT))
 copy1:∀(O:St) (o:Nat) (b:AV),O[o]?=some (.cells [.ref o 0,b] bT)->aj C kw [.ref o 0] O=some (.undef,O)
 str0:∀(O:St) (o:Nat) (p:AV),O[o]?=some (.cells [p,.nils] bT)->aj C jq [.ref o 0] O=some (.str [],O)
 str1:∀(O:St) (o q:Nat) (p:AV) (w:LU),O[o]?=some (.cells [p,.msl q 0 w.length 1] bT)->O[q]?=some (.cells (ofBytes w) uT)->w≠[]->w.length<=1099511627776->aj C jq [.ref o 0] O=some (.str w,O.set q .dead)
 wstr:Has C uo mW
 wbyte:Has C iE vU
def Bk(Y:St)(o:Nat)(w:LU)(qo:Option Nat):Prop:=∃p b,Y[o]?=some (.cells [p,b] bT)/\(p=.nilp\/p=.ref o 0)/\((qo=none/\w=[]/\b=.nils)\/∃q,qo=some q/\q≠o/\w≠[]/\b=.msl q 0 w.length 1/\Y[q]?=some (.cells (ofBytes w) uT))
structure TrB(o:Nat)(Y:St)(qo:Option Nat)(Y':St)(qo':Option Nat):Prop where
 ok:Ok Y'
 len:Y.length<=Y'.length
 old:∀i x,i≠o->qo≠some i->Y[i]?=some x->Y'[i]?=some x
 q:∀i,qo'=some i->qo=some i\/Y.length<=i
def TrB.refl{o:Nat}{Y:St}{qo:Option Nat}(h:Ok Y):TrB o Y qo Y qo:=⟨h,a06 _,fun _ _ _ _ h=>h,fun _ h=>.inl h⟩
def TrB.trans{o:Nat}{Y Y1 Y2:St}{qo q1 q2:Option Nat}(h:TrB o Y qo Y1 q1)(k:TrB o Y1 q1 Y2 q2):TrB o Y qo Y2 q2 where
 ok:=k.ok
 len:=ax8 h.len k.len
 old:=fun i x hi hq hx=>k.old i x hi (fun e=>by
  rcases h.q i e with e|e
  ·exact hq e
  ·have:=(a00.mp hx).1;omega) (h.old i x hi hq hx)
 q:=fun i e=>by
  rcases k.q i e with e|e
  ·exact h.q i e
  ·have:=h.len;exact .inr (by omega)
def TrB.plus{o:Nat}{Y:St}{qo:Option Nat}(h:Ok Y){L:St}(hL:L.all (AO.below (Y.length+L.length))=true):TrB o Y qo (Y++L) qo:=⟨h.app hL,by simp,fun _ _ _ _ hx=>aA hx L,fun _ e=>.inl e⟩
def Bk.plus{o:Nat}{Y:St}{qo:Option Nat}{w:LU}(h:Bk Y o w qo)(L:St):Bk (Y++L) o w qo:=by
 obtain⟨p,b,h1,h2,h3⟩:=h;refine⟨p,b,aA h1 L,h2,?_⟩;rcases h3 with h3|⟨q,e1,e2,e3,e4,e5⟩
 ·exact .inl h3
 ·exact .inr ⟨q,e1,e2,e3,e4,aA e5 L⟩
def Bk.lt{o:Nat}{Y:St}{qo:Option Nat}{w:LU}(h:Bk Y o w qo):o<Y.length:=by
 obtain⟨p,b,h1,h2,h3⟩:=h;exact(a00.mp h1).1
def Bk.qlt{o:Nat}{Y:St}{qo:Option Nat}{w:LU}(h:Bk Y o w qo){i:Nat}(e:qo=some i):i<Y.length:=by
 obtain⟨p,b,h1,h2,h3⟩:=h;rcases h3 with⟨h3,_⟩|⟨q,e1,e2,e3,e4,e5⟩
 ·rw[h3]at e;cases e
 ·rw[e1]at e;cases e;exact(a00.mp e5).1
def WY{o:Nat}{Y S:St}{qo qo':Option Nat}{w:LU}(vs:LA)(ho:o<Y.length)(h:TrB o Y qo S qo')(b:Bk S o w qo'):TrB o Y qo (tidy Y.length vs S) qo'/\Bk (tidy Y.length vs S) o w qo':=by
 unfold tidy;split
 ·exact⟨h,b⟩
 split
 ·rename_i hc;rw[a02]at hc;have hl:(S.take Y.length).length=Y.length:=by
   have:=h.len;simp;omega
  have hg:∀i,i<Y.length->(S.take Y.length)[i]?=S[i]?:=fun i hi=>by rw[au8,if_pos hi]
  obtain⟨p,c,h1,h2,h3⟩:=b;refine⟨⟨?_,by rw[hl];exact a06 _,fun i x hi hq hx=>?_,h.q⟩,p,c,by rw[hg _ ho];exact h1,h2,?_⟩
  ·unfold Ok;rw[hl];exact hc.2
  ·rw[hg _ (a00.mp hx).1];exact h.old i x hi hq hx
  ·rcases h3 with h3|⟨q,e1,e2,e3,e4,e5⟩
   ·exact .inl h3
   ·refine .inr ⟨q,e1,e2,e3,e4,?_⟩;have hb:=a94.mp hc.2 (.cells [p,c] bT) (a88 (by rw[hg _ ho];exact h1))
    have:q<Y.length:=by
     rw[e4]at hb;simp only[AO.below,ai,below,a02,decide_eq_true_eq]at hb;exact hb.2.1
    rw[hg _ this];exact e5
 ·exact⟨h,b⟩
def aht(H:BldHas C){o:Nat}{Y:St}{w:LU}{qo:Option Nat}(hτ:Ok Y)(hb:Bk Y o w qo):∃b Y1,aj C kw [.ref o 0] Y=some (.undef,Y1)/\Y1[o]?=some (.cells [.ref o 0,b] bT)/\Y1.length=Y.length/\Ok Y1/\(∀i x,i≠o->Y[i]?=some x->Y1[i]?=some x)/\((qo=none/\w=[]/\b=.nils)\/∃q,qo=some q/\q≠o/\w≠[]/\b=.msl q 0 w.length 1/\Y1[q]?=some (.cells (ofBytes w) uT)):=by
 have ho:=hb.lt;obtain⟨p,b,h1,h2,h3⟩:=hb;rcases h2 with rfl|rfl
 ·refine⟨b,_,H.copy0 Y o b h1,bC h1 _,by simp,?_,fun i x hi hx=>aI hx hi _,?_⟩
  ·refine hτ.set2 o ?_;have:=a94.mp hτ _ (a88 h1);simp only[AO.below,ai,below,ax3,a02,decide_eq_true_eq]at this⊢;exact⟨ho,this.2⟩
  grind
 grind [BldHas]
def akv {o:Nat} {Y:St} {w cs:LU} {b:AV} {qo:Option Nat} (hτ:Ok Y) (h0:Y[o]?=some (.cells [.ref o 0,b] bT)) (h3:(qo=none/\w=[]/\b=.nils)\/∃q,qo=some q/\q≠o/\w≠[]/\b=.msl q 0 w.length 1/\Y[q]?=some (.cells (ofBytes w) uT)) (hc:cs≠[]) (hl:w.length+cs.length<=1099511627776):
  ∃S:St,tY Y 1 1 (some (5,false)) b cs.length (ofBytes cs)=some (.msl Y.length 0 (w++cs).length 1,S++[.cells (ofBytes (w++cs)) uT])/\S.length=Y.length/\S[o]?=some (.cells [.ref o 0,b] bT)/\(∀i x,qo≠some i->Y[i]?=some x->S[i]?=some x)/\Ok S:=by
 have hm:¬cs.length=0:=fun e=>hc (av1 e);rcases h3 with⟨rfl,rfl,rfl⟩|⟨q,rfl,e2,e3,rfl,e5⟩
 ·refine⟨Y,?_,rfl,h0,fun _ _ _ h=>h,hτ⟩;rw[IU _ _ (ofBytes cs) hm (by simp at hl;omega) (by simp at hl;omega)]
  rfl
 ·refine⟨Y.set q .dead,?_,by simp,aI h0 (fun e=>e2 e.symm) _,fun i x hi hx=>aI hx (fun e=>hi (by rw[e])) _,hτ.set2 q rfl⟩
  unfold tY;rw[if_neg hm];simp only[e5];rw[if_pos ⟨trivial,by rw[aK];omega,by omega,by omega⟩,Lt,a04]
  rfl
def IE (H:BldHas C) {o:Nat} {Y:St} {w:LU} {qo:Option Nat} (s:LU) (hτ:Ok Y) (hb:Bk Y o w qo) (hl:w.length+s.length<=1099511627776):
  ∃Y' qo',aj C uo [.ref o 0,.str s] Y=some (.tup [.int .i64 s.length,.nilIface],Y')/\Bk Y' o (w++s) qo'/\TrB o Y qo Y' qo':=by
 have ho:=hb.lt;obtain⟨b,Y1,c1,c2,c3,c4,c5,c6⟩:=aht H hτ hb;have hn:hand false [.ref o 0,.str s] Y=some ([.ref o 0,.str s],Y):=rfl;rw[H.wstr.go hn];by_cases hs:s=[]
 ·subst hs;have an:tY Y1 1 1 (some (5,false)) b 0 []=some (b,Y1):=by
   rcases c6 with⟨_,_,rfl⟩|⟨q,_,_,_,rfl,_⟩<;>rfl
  have ty:=BX Y1 [.int .i64 0,.nilIface];rw[c3]at ty;have ss:=set_self c2;have fb:b.flat=true:=by rcases c6 with⟨_,_,rfl⟩|⟨q,_,_,_,rfl,_⟩<;>rfl
  refine⟨Y1,qo,?_,?_,c4,by rw[c3];exact a06 _,fun i x hi _ hx=>c5 i x hi hx,fun i e=>.inl e⟩
  ·dsimp only[bT]at*;rcases c6 with⟨_,_,rfl⟩|⟨q,_,_,_,rfl,_⟩<;>simp only[mW,c1,c2,an,ty,ss,splice,ofBytes,List.map_nil,a90,AV.flat,AV.cells,EVX,seval]
  ·rw[au6];exact⟨_,b,c2,.inr rfl,c6⟩
 ·obtain⟨S,a1,a2,a3,a4,a5⟩:=akv c4 c2 c6 hs hl;have fl:=xC s;rw[c3]at a1;have sp:=fun L y=>dV a3 L y;have sg:=fun L=>aA a3 L;have okS:Ok (S.set o (.cells [.ref o 0,.msl Y.length 0 (w++s).length 1] bT)++[.cells (ofBytes (w++s)) uT]):=by
   have:=(Ok.app a5 (l:=[.cells (ofBytes (w++s)) uT]) (by simp[AO.below,kU])).set2 o (x:=.cells [.ref o 0,.msl Y.length 0 (w++s).length 1] bT) (by
    simp only[AO.below,ai,below,ax3,a02,decide_eq_true_eq,a04,a09,a90];omega)
   rwa[sp]at this
  have bkS:Bk (S.set o (.cells [.ref o 0,.msl Y.length 0 (w++s).length 1] bT)++[.cells (ofBytes (w++s)) uT]) o (w++s) (some Y.length):=by
   refine⟨_,_,aA (bC a3 _) _,.inr rfl,.inr ⟨_,rfl,by omega,by simp[hs],rfl,?_⟩⟩
   rw[gQ (by simp[a2,c3])];rfl
  have trS:TrB o Y qo (S.set o (.cells [.ref o 0,.msl Y.length 0 (w++s).length 1] bT)++[.cells (ofBytes (w++s)) uT]) (some Y.length):=by
   refine⟨okS,by simp[a2,c3],fun i x hi hq hx=>aA (aI (a4 i x hq (c5 i x hi hx)) hi _) _,fun i e=>.inr ?_⟩
   cases e;exact a06 _
  obtain⟨t1,t2⟩:=WY [.int .i64 s.length,.nilIface] ho trS bkS;refine⟨_,_,?_,t2,t1⟩;dsimp only[bT,uT]at*;simp only[mW,c1,c2,a1,sp,sg,fl,splice,AV.flat,AV.cells,EVX,seval]
def xJ (H:BldHas C) {o:Nat} {Y:St} {w:LU} {qo:Option Nat} (c:UInt8) (hτ:Ok Y) (hb:Bk Y o w qo) (hl:w.length+1<=1099511627776):
  ∃Y' qo',aj C iE [.ref o 0,.int .u8 c.toNat] Y=some (.nilIface,Y')/\Bk Y' o (w++[c]) qo'/\TrB o Y qo Y' qo':=by
 have ho:=hb.lt;obtain⟨b,Y1,c1,c2,c3,c4,c5,c6⟩:=aht H hτ hb;have hn:hand false [.ref o 0,.int .u8 c.toNat] Y=some ([.ref o 0,.int .u8 c.toNat],Y):=rfl;rw[H.wbyte.go hn];obtain⟨S,a1,a2,a3,a4,a5⟩:=akv (cs:=[c]) c4 c2 c6 (by simp) hl
 rw[c3]at a1;have sp:=fun L y=>dV a3 L y;have sg:=fun L=>aA a3 L;have okS:Ok (S.set o (.cells [.ref o 0,.msl Y.length 0 (w++[c]).length 1] bT)++[.cells (ofBytes (w++[c])) uT]):=by
  have:=(Ok.app a5 (l:=[.cells (ofBytes (w++[c])) uT]) (by simp[AO.below,kU])).set2 o (x:=.cells [.ref o 0,.msl Y.length 0 (w++[c]).length 1] bT) (by
   simp only[AO.below,ai,below,ax3,a02,decide_eq_true_eq,a04,a09,a90];omega)
  rwa[sp]at this
 have bkS:Bk (S.set o (.cells [.ref o 0,.msl Y.length 0 (w++[c]).length 1] bT)++[.cells (ofBytes (w++[c])) uT]) o (w++[c]) (some Y.length):=by
  refine⟨_,_,aA (bC a3 _) _,.inr rfl,.inr ⟨_,rfl,by omega,by simp,rfl,?_⟩⟩
  rw[gQ (by simp[a2,c3])];rfl
 have trS:TrB o Y qo (S.set o (.cells [.ref o 0,.msl Y.length 0 (w++[c]).length 1] bT)++[.cells (ofBytes (w++[c])) uT]) (some Y.length):=by
  refine⟨okS,by simp[a2,c3],fun i x hi hq hx=>aA (aI (a4 i x hq (c5 i x hi hx)) hi _) _,fun i e=>.inr ?_⟩
  cases e;exact a06 _
 obtain⟨t1,t2⟩:=WY [.nilIface] ho trS bkS;refine⟨_,_,?_,t2,t1⟩;have o1:ofBytes [c]=[.int .u8 c.toNat]:=rfl;have l1:[c].length=1:=rfl;dsimp only[bT,uT]at*;rw[o1,l1]at a1;simp only[vU,c1,c2,a1,sp,sg,splice,AV.flat,AV.cells,EVX,seval]
structure O7(C:Ctx):Prop extends BldHas C where
 quote:∀s:LU,s.length<=4096->∀O,Ok O->∃(q:LU) (e:Int),aj C Hq [.str s] O=some (.tup [.str q,.int .i64 e],O)/\q.length<=65536
 num:∀n O,Ok O->∃s:LU,aj C Pz [.int .i64 n] O=some (.str s,O)/\s.length<=64
 enc:Has C jk Af
 enc1:Has C wY H6
 enc2:Has C sN jM
def adU (H:O7 C) {o:Nat} {Y:St} {w:LU} {qo:Option Nat} (s:LU) (hs:s.length<=4096) (hτ:Ok Y) (hb:Bk Y o w qo) (hl:w.length+65536<=1099511627776):
  ∃Y' w' qo',aj C wY [.str s,.ref o 0] Y=some (bK [],Y')/\Bk Y' o w' qo'/\TrB o Y qo Y' qo'/\w'.length<=w.length+65536:=by
 obtain⟨q,e,q1,q2⟩:=H.quote s hs Y hτ;obtain⟨S,q',r1,r2,r3⟩:=IE H.toBldHas q hτ hb (by omega)
 have hn:hand false [.str s,.ref o 0] Y=some ([.str s,.ref o 0],Y):=rfl;obtain⟨t1,t2⟩:=WY [] hb.lt r3 r2;refine⟨_,_,q',?_,t2,t1,by rw[a04];omega⟩
 rw[H.enc1.go hn];simp only[H6,q1,r1,EVX,seval]
structure WE(o a b:Nat)(Y:St)(qo:Option Nat):Prop where
 na:a≠o
 nb:b≠o
 qa:qo≠some a
 qb:qo≠some b
 ca:Y[a]?=some (.cells [.func (.func wY) [] [.ref o 0]] FZ)
 cb:Y[b]?=some (.cells [.func (.func sN) [] [.ref o 0,.ref a 0,.ref b 0]] FZ)
def TrB.qn{o i:Nat}{Y Y':St}{qo qo':Option Nat}(t:TrB o Y qo Y' qo')(hi:i<Y.length)(h:qo≠some i):qo'≠some i:=fun e=>by
 grind [TrB]
def WE.step{o a b:Nat}{Y Y':St}{qo qo':Option Nat}(h:WE o a b Y qo)(t:TrB o Y qo Y' qo'):WE o a b Y' qo':=
 ⟨h.na,h.nb,t.qn (a00.mp h.ca).1 h.qa,t.qn (a00.mp h.cb).1 h.qb,t.old _ _ h.na h.qa h.ca,t.old _ _ h.nb h.qb h.cb⟩
def anH(C:Ctx)(j:JV):Prop:=∀(o a b:Nat) (Y:St) (w:LU) (qo:Option Nat),Ok Y->Bk Y o w qo->WE o a b Y qo->j.w.Good->w.length+j.w.cnt*131076<=1099511627776+65538->
 ∃Y' w' qo',aj C sN [j.av,.ref o 0,.ref a 0,.ref b 0] Y=some (bK [],Y')/\Bk Y' o w' qo'/\TrB o Y qo Y' qo'/\w'.length+65538<=w.length+j.w.cnt*131076
def ahB:∀j:JW,1<=j.cnt
 |.mk _ _ _ _ is=>by
  show 1<=Oh is+1;omega
def adT (H:O7 C) (is:List JV) (hn:is.length<=8192) (IH:∀j∈is,anH C j) (o a b:Nat):∀(n i:Nat),i+n=is.length->∀(Y:St) (w:LU) (qo:Option Nat),Ok Y->Bk Y o w qo->WE o a b Y qo->Yg ((is.drop i).map (·.w))->w.length+Oh ((is.drop i).map (·.w))*131076<=1099511627776->
  ∃Y' w' qo',aH C (aj C) 76 [1,3,34,35,36] iK [(1,.ref o 0),(3,.ref b 0),(34,.sl is.length (aN is)),(35,.int .i64 is.length),(36,.int .i64 i)] Y=some (.exit 1,[(1,.ref o 0)],Y')/\Bk Y' o w' qo'/\TrB o Y qo Y' qo'/\w'.length<=w.length+Oh ((is.drop i).map (·.w))*131076
 |0,i,hi,Y,w,qo,hτ,hb,hw,hg,hl=>by
  refine⟨Y,w,qo,?_,hb,.refl hτ,by omega⟩
  rw[aB (he:=rfl)];have h:¬((i:Int)<(is.length:Int)):=by omega
  simp only[iK,h,EVX,seval]
 |n+1,i,hi,Y,w,qo,hτ,hb,hw,hg,hl=>by
  have h:((i:Int)<(is.length:Int)):=by omega
  have h2:i<is.length:=by omega
  have w2:=wrS i (by omega)
  have p2:(0:Int)<=(i:Int):=by omega
  have d2:=zQ is i h2;have sl:=kY is;have hj:is[i]∈is:=ax1 h2;have dn:is.drop i=is[i]::is.drop (i+1):=au1 h2;generalize is[i]=j at*;generalize aN (is.drop (i+1))=R at*;rw[dn,av9]at hg hl⊢;obtain⟨g1,g2⟩:=hg;rw[Oh]at hl⊢;have cp:=ahB j.w;have jl:=JV.len j;have jf:=JV.flat j;have jt:(j.cs++R).take 5=j.cs:=by rw[<-jl];simp
  have je:5<=(j.cs++R).length:=by simp[jl]
  have jt':j.cs.take 5=j.cs:=a08 (by rw[JV.len];exact a06 _)
  have je':5<=j.cs.length:=by rw[JV.len];exact a06 _
  have sp:∀a b c d e:AV,splice [a,b,c,d,e] 0 j.cs=j.cs:=fun a b c d e=>by simp[splice,jl]
  have hL:([.cells j.cs FZ]:St).all (AO.below (Y.length+1))=true:=by
   simp only[a07,aw0,ax3,AO.below];exact aP (au3 _) _ j.bel
  have tr1:=TrB.plus (o:=o) (qo:=qo) hτ hL;have bk1:=hb.plus [.cells j.cs FZ];have we1:=hw.step tr1;have bx1:(Y++[AO.cells j.cs FZ]:St)[Y.length]?=some (.cells j.cs FZ):=by rw[gQ rfl];rfl
  have s1:=fun L y=>uU (rfl:Y.length=_) L y;have ne:Y.length≠o:=by have:=hb.lt;omega
  have nq:qo≠some Y.length:=fun e=>by have:=hb.qlt e;omega
  have key:∃Y2 w2 q2,(if 0<(i:Int)then aj C iE [.ref o 0,.int .u8 44] (Y++[AO.cells j.cs FZ])=some (.nilIface,Y2)else Y2=Y++[AO.cells j.cs FZ])/\Bk Y2 o w2 q2/\TrB o (Y++[AO.cells j.cs FZ]) qo Y2 q2/\w2.length<=w.length+1:=by
   split
   ·obtain⟨Y2,q2,e1,e2,e3⟩:=xJ H.toBldHas 44 tr1.ok bk1 (by omega)
    exact⟨Y2,_,q2,e1,e2,e3,by simp⟩
   ·exact⟨_,w,qo,rfl,bk1,.refl tr1.ok,by omega⟩
  obtain⟨Y2,w2',q2,k1,k2,k3,k4⟩:=key;have we2:=we1.step k3;have bx2:=k3.old _ _ ne nq bx1;obtain⟨Y3,w3,q3,e1,e2,e3,e4⟩:=IH j hj o a b Y2 w2' q2 k3.ok k2 we2 g1 (by omega)
  have we3:=we2.step e3;obtain⟨Y4,w4,q4,f1,f2,f3,f4⟩:=adT H is hn IH o a b n (i+1) (by omega) Y3 w3 q3 e3.ok e2 we3 g2 (by omega)
  refine⟨Y4,w4,q4,?_,f2,((tr1.trans k3).trans e3).trans f3,by omega⟩
  have cb:=we2.cb;unfold JV.av at e1;rw[aB (he:=rfl)];generalize hk:aH C (aj C) 76 [1,3,34,35,36] iK=kk at*;by_cases hz:0<(i:Int)
  ·rw[if_pos hz]at k1;simp only[iK,h,h2,w2,p2,d2,sl,hz,k1,e1,f1,cb,bx2,s1,jl,jf,jt,je,jt',sp,jZ,a95,AV.cells,EVX,seval]
  ·rw[if_neg hz]at k1;subst k1;simp only[iK,h,h2,w2,p2,d2,sl,hz,e1,f1,cb,bx1,s1,jl,jf,jt,je,jt',sp,jZ,a95,AV.cells,EVX,seval]
def ahI (H:O7 C) (is:List JV) (ns:List LU) (hns:ns.length=is.length) (hnb:∀x∈ns,x.length<=4096) (hn:is.length<=8192) (IH:∀j∈is,anH C j) (c0 c1 c2:AV) (o a b v0:Nat) (hv:v0≠o):∀(n i:Nat),i+n=is.length->∀(Y:St) (w:LU) (qo:Option Nat),Ok Y->Bk Y o w qo->WE o a b Y qo->qo≠some v0->Y[v0]?=some (.cells [c0,c1,c2,.sl ns.length (ns.map .str),.sl is.length (aN is)] FZ)->Yg ((is.drop i).map (·.w))->w.length+Oh ((is.drop i).map (·.w))*131076<=1099511627776->
  ∃Y' w' qo',aH C (aj C) 76 [1,2,3,4,53,54,55] jI [(1,.ref o 0),(2,.ref a 0),(3,.ref b 0),(4,.ref v0 0),(53,.sl is.length (aN is)),(54,.int .i64 is.length),(55,.int .i64 i)] Y=some (.exit 3,[(1,.ref o 0)],Y')/\Bk Y' o w' qo'/\TrB o Y qo Y' qo'/\w'.length<=w.length+Oh ((is.drop i).map (·.w))*131076
 |0,i,hi,Y,w,qo,hτ,hb,hw,_,_,hg,hl=>by
  refine⟨Y,w,qo,?_,hb,.refl hτ,by omega⟩
  rw[aB (he:=rfl)];have h:¬((i:Int)<(is.length:Int)):=by omega
  simp only[jI,h,EVX,seval]
 |n+1,i,hi,Y,w,qo,hτ,hb,hw,qv,hv0,hg,hl=>by
  have h:((i:Int)<(is.length:Int)):=by omega
  have h2:i<is.length:=by omega
  have h2n:i<ns.length:=by omega
  have w2:=wrS i (by omega)
  have p2:(0:Int)<=(i:Int):=by omega
  have d2:=zQ is i h2;have dr:=Zo ns i h2n;have sl:=kY is;have sn:(ns.map AV.str).length=ns.length:=by simp
  have hj:is[i]∈is:=ax1 h2;have hx:ns[i].length<=4096:=hnb _ (ax1 h2n);have dn:is.drop i=is[i]::is.drop (i+1):=au1 h2;generalize is[i]=j at*;generalize ns[i]=x at*;generalize hR:aN (is.drop (i+1))=R at*;rw[dn,av9]at hg hl⊢;obtain⟨g1,g2⟩:=hg;rw[Oh]at hl⊢;have cp:=ahB j.w;have jl:=JV.len j;have jf:=JV.flat j;have jt:(j.cs++R).take 5=j.cs:=by rw[<-jl];simp
  have je:5<=(j.cs++R).length:=by simp[jl]
  have jt':j.cs.take 5=j.cs:=a08 (by rw[JV.len];exact a06 _)
  have je':5<=j.cs.length:=by rw[JV.len];exact a06 _
  have sp:∀a b c d e:AV,splice [a,b,c,d,e] 0 j.cs=j.cs:=fun a b c d e=>by simp[splice,jl]
  have hL:([.cells j.cs FZ]:St).all (AO.below (Y.length+1))=true:=by
   simp only[a07,aw0,ax3,AO.below];exact aP (au3 _) _ j.bel
  have tr1:=TrB.plus (o:=o) (qo:=qo) hτ hL;have bk1:=hb.plus [.cells j.cs FZ];have we1:=hw.step tr1;have bx1:(Y++[AO.cells j.cs FZ]:St)[Y.length]?=some (.cells j.cs FZ):=by rw[gQ rfl];rfl
  have s1:=fun L y=>uU (rfl:Y.length=_) L y;have ne:Y.length≠o:=by have:=hb.lt;omega
  have nq:qo≠some Y.length:=fun e=>by have:=hb.qlt e;omega
  have vl:v0<Y.length:=(a00.mp hv0).1;have key:∃Y2 w2 q2,(if 0<(i:Int)then aj C iE [.ref o 0,.int .u8 44] (Y++[AO.cells j.cs FZ])=some (.nilIface,Y2)else Y2=Y++[AO.cells j.cs FZ])/\Bk Y2 o w2 q2/\TrB o (Y++[AO.cells j.cs FZ]) qo Y2 q2/\w2.length<=w.length+1:=by
   split
   ·obtain⟨Y2,q2,e1,e2,e3⟩:=xJ H.toBldHas 44 tr1.ok bk1 (by omega)
    exact⟨Y2,_,q2,e1,e2,e3,by simp⟩
   ·exact⟨_,w,qo,rfl,bk1,.refl tr1.ok,by omega⟩
  obtain⟨Y2,w2',q2,k1,k2,k3,k4⟩:=key;have we2:=we1.step k3;obtain⟨Y3,w3,q3,t1,t2,t3,t4⟩:=adU H x hx k3.ok k2 (by omega)
  have we3:=we2.step t3;obtain⟨Y4,q4,u1,u2,u3⟩:=xJ H.toBldHas 58 t3.ok t2 (by omega)
  have we4:=we3.step u3;have T4:=(k3.trans t3).trans u3;have bx4:=T4.old _ _ ne nq bx1;have v2:=k3.old _ _ hv qv (tr1.old _ _ hv qv hv0);have qv4:=T4.qn (by simp;omega) qv
  have v4:=T4.old _ _ hv qv (tr1.old _ _ hv qv hv0);obtain⟨Y5,w5,q5,e1,e2,e3,e4⟩:=IH j hj o a b Y4 _ q4 u3.ok u2 we4 g1 (by rw[a04,a09,a90];omega)
  rw[a04,a09,a90]at e4;have we5:=we4.step e3;have v5:=e3.old _ _ hv qv4 v4;have qv5:=e3.qn (a00.mp v4).1 qv4;obtain⟨Y6,w6,q6,f1,f2,f3,f4⟩:=ahI H is ns hns hnb hn IH c0 c1 c2 o a b v0 hv n (i+1) (by omega) Y5 w5 q5 e3.ok e2 we5 qv5 v5 g2 (by omega)
  refine⟨Y6,w6,q6,?_,f2,((tr1.trans T4).trans e3).trans f3,by omega⟩
  have ca:=we2.ca;have cb:=we4.cb;have q58:((58:UInt8).toNat:Int)=58:=rfl;rw[q58]at u1;unfold JV.av at e1;rw[aB (he:=rfl)];generalize hk:aH C (aj C) 76 [1,2,3,4,53,54,55] jI=kk at*;by_cases hz:0<(i:Int)
  ·rw[if_pos hz]at k1;simp only[jI,h,h2,h2n,w2,p2,d2,dr,sl,sn,hz,k1,t1,u1,e1,f1,ca,cb,bx4,v2,s1,jl,jf,jt,je,jt',sp,jZ,a95,AV.cells,EVX,seval]
  ·rw[if_neg hz]at k1;subst k1;simp only[jI,h,h2,h2n,w2,p2,d2,dr,sl,sn,hz,t1,u1,e1,f1,ca,cb,bx4,v2,s1,jl,jf,jt,je,jt',sp,jZ,a95,AV.cells,EVX,seval]
set_option maxHeartbeats 1000000 in
def aaq(H:O7 C):∀(m:Nat) (j:JV),SizeOf.sizeOf j.w<m->anH C j
 |0,j,hm=>absurd hm (by omega)
 |m+1,j,hm=>by
  intro o a b Y w qo hτ hb hw hg hl;obtain⟨k,n,t,ns,is,h1,h3,h2,h4,rfl⟩:=j.ex;have IH:∀x∈is,anH C x:=fun x hx=>aaq H m x (by have:=JV.mk_lt k n t ns is h1 h3 h2 h4 x hx;omega)
  have ho:=hb.lt;have hn:hand false [(JV.mk k n t ns is h1 h3 h2 h4).av,.ref o 0,.ref a 0,.ref b 0] Y=some ([(JV.mk k n t ns is h1 h3 h2 h4).av,.ref o 0,.ref a 0,.ref b 0],Y):=by
   rw[oK,aO,(JV.nv _).nf,aO,aO,aO];rfl
  have ca:(JV.mk k n t ns is h1 h3 h2 h4).av=.agg [.int .u8 k,.int .i64 n,.str t,.sl ns.length (ns.map .str),.sl is.length (aN is)]:=by unfold JV.av;rw[JV.mk_cs]
  obtain⟨⟨g1,g2,g3⟩,g4⟩:(t.length<=4096/\(∀x∈ns,x.length<=4096)/\(k≠4->k≠5->is.map (fun x:JV=>x.w)=[]))/\Yg (is.map fun x:JV=>x.w):=hg;have ct:(JV.mk k n t ns is h1 h3 h2 h4).w.cnt=Oh (is.map (·.w))+1:=rfl;rw[ct]at hl⊢;have hL:([.cells [.int .u8 k,.int .i64 n,.str t,.sl ns.length (ns.map .str),.sl is.length (aN is)] FZ]:St).all (AO.below (Y.length+1))=true:=by
   have:=aP (au3 (Y.length+1)) _ (JV.bel (JV.mk k n t ns is h1 h3 h2 h4));rw[JV.mk_cs]at this;simp only[a07,aw0,ax3,AO.below];exact this
  have tr1:=TrB.plus (o:=o) (qo:=qo) hτ hL;have bk1:=hb.plus [.cells [.int .u8 k,.int .i64 n,.str t,.sl ns.length (ns.map .str),.sl is.length (aN is)] FZ];have we1:=hw.step tr1;have bx:(Y++[AO.cells [.int .u8 k,.int .i64 n,.str t,.sl ns.length (ns.map .str),.sl is.length (aN is)] FZ]:St)[Y.length]?=some (.cells [.int .u8 k,.int .i64 n,.str t,.sl ns.length (ns.map .str),.sl is.length (aN is)] FZ):=by rw[gQ rfl];rfl
  have s1:=fun L y=>uU (rfl:Y.length=_) L y;have ne:Y.length≠o:=by omega
  have nq:qo≠some Y.length:=fun e=>by have:=hb.qlt e;omega
  have gv:=we1.ca;suffices hh:∃(S:St) (w':LU) (q':Option Nat),Bk S o w' q'/\TrB o (Y++[.cells [.int .u8 k,.int .i64 n,.str t,.sl ns.length (ns.map .str),.sl is.length (aN is)] FZ]) qo S q'/\w'.length+65538<=w.length+(Oh (is.map fun x:JV=>x.w)+1)*131076/\aj C sN [(JV.mk k n t ns is h1 h3 h2 h4).av,.ref o 0,.ref a 0,.ref b 0] Y=some (bK [],tidy Y.length [] S) by
   obtain⟨S,w',q',x1,x2,x3,x4⟩:=hh;obtain⟨y1,y2⟩:=WY [] ho (tr1.trans x2) x1;exact⟨_,_,_,x4,y2,y1,x3⟩
  rw[ca]at hn⊢;rw[H.enc2.go hn];by_cases k1:k=1
  ·subst k1;cases hN:(n==1)with
   |true=>
    obtain⟨S,q',r1,r2,r3⟩:=IE H.toBldHas [116,114,117,101] tr1.ok bk1 (by simp;omega)
    exact⟨S,_,q',r2,r3,by simp;omega,by simp only[jM,hN,r1,bx,AV.cells,EVX,seval]⟩
   |false=>
    obtain⟨S,q',r1,r2,r3⟩:=IE H.toBldHas [102,97,108,115,101] tr1.ok bk1 (by simp;omega)
    exact⟨S,_,q',r2,r3,by simp;omega,by simp only[jM,hN,r1,bx,AV.cells,EVX,seval]⟩
  by_cases k2:k=2
  ·subst k2;obtain⟨x,x1,x2⟩:=H.num n _ tr1.ok;obtain⟨S,q',r1,r2,r3⟩:=IE H.toBldHas x tr1.ok bk1 (by omega)
   exact⟨S,_,q',r2,r3,by simp;omega,by simp only[jM,x1,r1,bx,AV.cells,EVX,seval]⟩
  by_cases k3:k=3
  ·subst k3;obtain⟨S,w',q',r1,r2,r3,r4⟩:=adU H t g1 tr1.ok bk1 (by omega)
   exact⟨S,w',q',r2,r3,by omega,by simp only[jM,r1,gv,bx,jZ,AV.cells,a81,EVX,seval]⟩
  by_cases k4:k=4
  ·subst k4;obtain⟨S1,q1,r1,r2,r3⟩:=xJ H.toBldHas 91 tr1.ok bk1 (by omega)
   obtain⟨S2,w2,q2,e1,e2,e3,e4⟩:=adT H is h2 IH o a b is.length 0 (by omega) S1 _ q1 r3.ok r2 (we1.step r3) g4 (by grind)
   obtain⟨S3,q3,f1,f2,f3⟩:=xJ H.toBldHas 93 e3.ok e2 (by grind)
   rw[a04,a09,a90,au7]at e4;have bx1:=r3.old _ _ ne nq bx;rw[show(((91:UInt8).toNat:Nat):Int)=91 from rfl]at r1;rw[show(((93:UInt8).toNat:Nat):Int)=93 from rfl]at f1;simp only[a97]at e1;exact⟨S3,_,q3,f2,(r3.trans e3).trans f3,by grind,by simp only[jM,r1,e1,f1,bx1,bx,AV.cells,aY,EVX,seval]⟩
  by_cases k5:k=5
  ·subst k5;have h5:=h3 rfl;obtain⟨S1,q1,r1,r2,r3⟩:=xJ H.toBldHas 123 tr1.ok bk1 (by omega)
   have bx1:=r3.old _ _ ne nq bx;obtain⟨S2,w2,q2,e1,e2,e3,e4⟩:=ahI H is ns (by omega) g2 h2 IH _ _ _ o a b Y.length ne is.length 0 (by omega) S1 _ q1 r3.ok r2 (we1.step r3) (r3.qn (by simp) nq) bx1 g4 (by grind)
   rw[a04,a09,a90,au7]at e4;obtain⟨S3,q3,f1,f2,f3⟩:=xJ H.toBldHas 125 e3.ok e2 (by omega)
   rw[show(((123:UInt8).toNat:Nat):Int)=123 from rfl]at r1;rw[show(((125:UInt8).toNat:Nat):Int)=125 from rfl]at f1;simp only[a97]at e1;exact⟨S3,_,q3,f2,(r3.trans e3).trans f3,by grind,by simp only[jM,r1,e1,f1,bx1,bx,AV.cells,aY,EVX,seval]⟩
  have n1:(k==1)=false:=by simpa using k1
  have n2:(k==2)=false:=by simpa using k2
  have n3:(k==3)=false:=by simpa using k3
  have n4:(k==4)=false:=by simpa using k4
  have n5:(k==5)=false:=by simpa using k5
  exact⟨_,w,qo,bk1,.refl tr1.ok,by omega,by simp only[jM,n1,n2,n3,n4,n5,bx,AV.cells,EVX,seval]⟩
def TrB.take{o n:Nat}{O Y S:St}{q':Option Nat}(h:TrB o Y none S q')(hn:n=O.length)(ht:Y.take n=O)(ho:n<=o):S.take n=O:=by
 subst hn;apply aw7
 grind [TrB]
def VY(H:O7 C)(V:IR C PK)(j:JV)(O:St)(hσ:Ok O):∃(s:LU) (e:Int),aj C jk [j.av] O=some (.tup [.str s,.int .i64 e],O)/\s.length<=LB:=by
 have hn:hand false [j.av] O=some ([j.av],O):=NVs.hand (.cons j.nv .nil) _;have ok1:Ok (O++[.cells j.cs FZ]):=hσ.plus (by rw[a07,show AO.below 0 (.cells j.cs FZ)=true from j.bel];rfl)
 obtain⟨b,m1,m2⟩:=TJ V j _ ok1;have ty:=fun(s:LU) (e:Int)=>bY hσ (vs:=[.str s,.int .i64 e]) rfl;have jl:=JV.len j;have jt':j.cs.take 5=j.cs:=a08 (by rw[JV.len];exact a06 _)
 have je':5<=j.cs.length:=by rw[JV.len];exact a06 _
 cases b with
 |false=>
  refine⟨[],3,?_,lb0⟩;unfold JV.av at*;rw[H.enc.go hn];simp only[Af,m1,jl,jt',ty,AV.cells,EVX,seval]
 |true=>
  obtain⟨c1,c2⟩:=m2 rfl
  let B:St:=[.cells j.cs FZ,.cells [.nilp,.nils] bT,.cells [.func (.func wY) [] [.ref (O.length+1) 0]] FZ,.cells [.func (.func sN) [] [.ref (O.length+1) 0,.ref (O.length+2) 0,.ref (O.length+3) 0]] FZ]
  have okB:Ok (O++B):=hσ.app (by
   have:=aP (au3 (O.length+4)) _ j.bel;simp[B,AO.below,ai,below,this])
  have bk:Bk (O++B) (O.length+1) [] none:=⟨.nilp,.nils,by rw[bI];rfl,.inl rfl,.inl ⟨rfl,rfl,rfl⟩⟩
  have we:WE (O.length+1) (O.length+2) (O.length+3) (O++B) none:=⟨by omega,by omega,by simp,by simp,by rw[bI];rfl,by rw[bI];rfl⟩
  obtain⟨S,w,q',e1,e2,e3,e4⟩:=aaq H _ j (Nat.lt_succ_self _) (O.length+1) (O.length+2) (O.length+3) _ [] none okB bk we c2 (by simp only[a90];omega)
  simp only[a90]at e4;have tk:S.take O.length=O:=e3.take rfl (by simp) (by omega)
  have fin:∃S',aj C jq [.ref (O.length+1) 0] S=some (.str w,S')/\S'.take O.length=O:=by
   obtain⟨p,c,x1,x2,x3⟩:=e2;rcases x3 with⟨_,rfl,rfl⟩|⟨q,x3,x4,x5,rfl,x6⟩
   ·exact⟨S,H.str0 _ _ _ x1,tk⟩
   ·refine⟨_,H.str1 _ _ _ _ _ x1 x6 x5 (by omega),?_⟩
    rcases e3.q q x3 with h|h
    ·cases h
    ·have lB:(O++B).length=O.length+4:=by simp[B]
     rw[dS _ _ _ (by omega),tk]
  obtain⟨S',s1,s2⟩:=fin;have tq:=qZ (vs:=[.str w,.int .i64 0]) hσ rfl s2;refine⟨w,0,?_,by simp only[LB];omega⟩
  dsimp only[B,bT]at e1;unfold JV.av at*;rw[H.enc.go hn];simp only[Af,m1,e1,s1,tq,jl,jt',jZ,AV.cells,AV.flat,splice,EVX,seval]
structure abS(C:Ctx):Prop extends CopyHas C where
 clone:∀xs:List EL,xs≠[]->xs.length<=8192->∀O,Ok O->aj C fA [.sl xs.length (mM xs)] O=some (.msl O.length 0 xs.length 6,O++[.cells (mM xs) FZ])
 srt:Wv C lF Gy
 of:Has C vw yO
def Bf(Y:St)(lo n sz:Nat)(l:LA)(x:AV):Prop:=(n=0/\x=.nils)\/(0<n/\∃q,x=.msl q 0 n sz/\Y[q]?=some (.cells l FZ)/\lo<=q)
def Bf.same{Y:St}{lo n sz:Nat}{l:LA}{x:AV}(h:Bf Y lo n sz l x):same x x=true:=by
 rcases h with⟨_,rfl⟩|⟨_,q,rfl,_⟩
 ·rfl
 ·exact af4 ..
theorem Bf.flat{Y:St}{lo n sz:Nat}{l:LA}{x:AV}(h:Bf Y lo n sz l x):x.flat=true:=by
 rcases h with⟨_,rfl⟩|⟨_,q,rfl,_⟩<;>rfl
theorem Bf.mono{Y Y':St}{lo n sz:Nat}{l:LA}{x:AV}(h:Bf Y lo n sz l x)(k:∀q w,lo<=q->x=.msl q 0 n sz->Y[q]?=some w->Y'[q]?=some w):Bf Y' lo n sz l x:=by
 rcases h with h|⟨h0,q,e,h1,h2⟩
 ·exact .inl h
 ·exact .inr ⟨h0,q,e,k q _ h2 e h1,h2⟩
def akp {Y:St} {lo n sz bytes:Nat} {l:LA} {x:AV} (cs:LA) (h:Bf Y lo n sz l x) (hl:l.length=n*sz) (hb:(n+1)*bytes<=70368744177664) (hn:n+1<=70368744177664) (hok:Ok Y):
  ∃S:St,tY Y sz bytes none x 1 cs=some (.msl Y.length 0 (n+1) sz,S++[.cells (l++cs) FZ])/\S.length=Y.length/\(∀i w,x≠ .msl i 0 n sz\/i<lo->Y[i]?=some w->S[i]?=some w)/\Ok S:=by
 rcases h with⟨rfl,rfl⟩|⟨h0,q,rfl,h1,h2⟩
 ·refine⟨Y,?_,rfl,fun _ _ _ h=>h,hok⟩
  grind [IU]
 ·refine⟨Y.set q .dead,?_,by simp,fun i w hi h=>aI h (by
   grind) _,hok.set2 _ rfl⟩
  exact TY cs h1 (by omega) hl hb hn
structure OI(O:St)(xs:List EL)(i:Nat)(x1 x2:AV)(Y:St):Prop where
 ok:Ok Y
 res:Y[O.length]?=some qX
 row:Y[O.length+1]?=some (.cells (mM xs) FZ)
 v:Y[O.length+2]?=some (.cells [.int .u8 5,.int .i64 0,.str [],x1,x2] FZ)
 a1:Bf Y (O.length+3) i 1 (pX (xs.take i)) x1
 a2:Bf Y (O.length+3) i 5 (Bg (xs.take i)) x2
 ne:∀q,x1=.msl q 0 i 1->x2≠ .msl q 0 i 5
 pre:Y.take O.length=O
theorem ak2(xs:List EL):ai 0 (pX xs)=true:=by
 have:=qY (xs.map fun x=>x.1.1);rwa[List.map_map]at this
def aba (H:abS C) (O:St) (xs:List EL) (hN:xs.length<=8192):∀(n i:Nat),i+n=xs.length->∀(x1 x2:AV) (Y:St),OI O xs i x1 x2 Y->
  (∃x1' x2' Y',aH C (aj C) 51 [2,4,5,13,14,15] dG [(2,.ref O.length 0),(4,.msl (O.length+1) 0 xs.length 6),(5,.ref (O.length+2) 0),(13,.msl (O.length+1) 0 xs.length 6),(14,.int .i64 xs.length),(15,.int .i64 i)] Y=some (.exit 0,[(2,.ref O.length 0),(5,.ref (O.length+2) 0)],Y')/\OI O xs xs.length x1' x2' Y')\/
  (∃Y',aH C (aj C) 51 [2,4,5,13,14,15] dG [(2,.ref O.length 0),(4,.msl (O.length+1) 0 xs.length 6),(5,.ref (O.length+2) 0),(13,.msl (O.length+1) 0 xs.length 6),(14,.int .i64 xs.length),(15,.int .i64 i)] Y=some (.ret,[(2,.ref O.length 0),(3,.int .i64 7)],Y')/\Y'[O.length]?=some qX/\Y'.take O.length=O)
 |0,i,hi,x1,x2,Y,I=>by
  have h:¬((i:Int)<(xs.length:Int)):=by omega
  refine .inl ⟨x1,x2,Y,?_,by grind⟩
  rw[aB (he:=rfl)];simp only[dG,h,EVX,seval]
 |n+1,i,hi,x1,x2,Y,I=>by
  obtain⟨hok,hres,hrow,hv,ha1,ha2,hne,hpre⟩:=I;have li:i<xs.length:=by omega
  have h:((i:Int)<(xs.length:Int)):=by omega
  have pi:(0:Int)<=(i:Int):=by omega
  have hw:=wrS i (by omega)
  have di:=Nl xs i li;have ht:xs.take (i+1)=xs.take i++[xs[i]]:=by rw[aw5 li]
  have lt:(xs.take i).length=i:=by simp;omega
  have lna:=PR (xs.take i);have lva:=UR (xs.take i);rw[lt]at lna lva;have ca:∀l,AV.cells (.agg l)=l:=fun _=>rfl;have nl:O.length+2<Y.length:=(a00.mp hv).1;have hprev:0<i->∃(y:EL),(mM xs).drop ((i-1)*6)=elC y++(mM (xs.drop i)):=fun h0=>by
   grind [Nl]
  generalize hm:xs[i]=x at*;have okb:Ok (Y++[.cells (elC x) FZ]):=hok.plus (by grind [AO.below,WH])
  have r0:=fun L=>aA hrow L;have b0:=fun L=>aA hv L;have c0:=fun L=>aA hres L;have cp0:=fun L y=>dV hres L y;have g1:=fun L=>gQ (rfl:Y.length=_) L;have s1:=fun L y=>uU (rfl:Y.length=_) L y;have eh:(elC x).head? =some (.str x.1.1):=rfl;have et:(elC x).drop 1=x.2.cs:=rfl;have ek:x.2.cs.take 5=x.2.cs:=a08 (by rw[JV.len];exact a06 _)
  have el:5<=x.2.cs.length:=by rw[JV.len];exact a06 _
  have jl:=JV.len x.2;have jf:=JV.flat x.2;have nx1:x1≠ .msl Y.length 0 i 1:=fun e=>by
   rcases ha1 with⟨_,e'⟩|⟨_,q,e',h1,_⟩
   ·rw[e']at e;cases e
   grind
  have q2l:∀q,x2=.msl q 0 i 5->q<Y.length:=fun q e=>by
   rcases ha2 with⟨_,e'⟩|⟨_,q',e',h1,_⟩
   ·rw[e']at e;cases e
   grind
  obtain⟨S1,n1,n2,n3,n4⟩:=akp (bytes:=16) [.str x.1.1] (ha1.mono fun q w hq e hw=>aA hw [AO.cells (elC x) FZ]) (by rw[lna,av7]) (by omega) (by omega) okb
  rw[<-Vw,a04,a09,a90]at n1;rw[a04,a09,a90]at n2;simp only[av5]at n1 n2;have v1:=n3 _ _ (.inr (by omega)) (b0 [AO.cells (elC x) FZ])
  have r1:=n3 _ _ (.inr (by omega)) (r0 [AO.cells (elC x) FZ])
  have c1:=n3 _ _ (.inr (by omega)) (c0 [AO.cells (elC x) FZ])
  have x1b:=n3 Y.length _ (.inl nx1) (by rw[g1];rfl)
  have bv1:=fun L=>aA v1 L;have pv1:=fun L y=>dV v1 L y;have gv2:=fun L=>aA (bC v1 (.cells [.int .u8 5,.int .i64 0,.str [],.msl (Y.length+1) 0 (i+1) 1,x2] FZ)) L;have gx2:=fun L=>aA (aI x1b (show Y.length≠O.length+2 by omega) (.cells [.int .u8 5,.int .i64 0,.str [],.msl (Y.length+1) 0 (i+1) 1,x2] FZ)) L
  have ok2:Ok (S1.set (O.length+2) (.cells [.int .u8 5,.int .i64 0,.str [],.msl (Y.length+1) 0 (i+1) 1,x2] FZ)++[AO.cells (pX (xs.take i++[x])) FZ]):=by
   have:=(n4.plus (L:=[AO.cells (pX (xs.take i++[x])) FZ]) (by
    grind [AO.below,ak2])).set2 (O.length+2) (x:=(.cells [.int .u8 5,.int .i64 0,.str [],.msl (Y.length+1) 0 (i+1) 1,x2] FZ)) (by
    have h2:below (Y.length+1+1) x2=true:=by
     have:=a94.mp hok _ (a88 hv);simp only[AO.below,ai,below,ax3,a02]at this;exact below_mono (by omega) x2 this.2.2.2.2
    simp only[AO.below,ai,below,ax3,ax2,a02,decide_eq_true_eq,a04,a09,a90,n2];exact⟨by omega,h2⟩)
   rwa[pv1]at this
  have L2:(S1.set (O.length+2) (.cells [.int .u8 5,.int .i64 0,.str [],.msl (Y.length+1) 0 (i+1) 1,x2] FZ)).length=Y.length+1:=by rw[a96,n2]
  have ha2':Bf (S1.set (O.length+2) (.cells [.int .u8 5,.int .i64 0,.str [],.msl (Y.length+1) 0 (i+1) 1,x2] FZ)++[AO.cells (pX (xs.take i++[x])) FZ]) (O.length+3) i 5 (Bg (xs.take i)) x2:=ha2.mono fun q w hq e hw=>aA (aI (n3 q w (.inl fun e'=>hne q e' e) (aA hw _)) (by omega) _) _
  have cpy:=Qg H.toCopyHas x.2 _ ok2;have sx:=ha2.same;obtain⟨S3,m1,m2,m3,m4⟩:=akp (bytes:=80) x.2.cs ha2' lva (by omega) (by omega) ok2
  rw[<-ZE,a04,L2,a09,a90]at m1;rw[a04,L2,a09,a90]at m2;simp only[av5,aC4,Nat.reduceAdd]at m1 m2;have v3:=m3 _ _ (.inr (by omega)) (gv2 [AO.cells (pX (xs.take i++[x])) FZ])
  have r3:=m3 _ _ (.inr (by omega)) (aA (aI r1 (show O.length+1≠O.length+2 by omega) (.cells [.int .u8 5,.int .i64 0,.str [],.msl (Y.length+1) 0 (i+1) 1,x2] FZ)) [AO.cells (pX (xs.take i++[x])) FZ])
  have c3:=m3 _ _ (.inr (by omega)) (aA (aI c1 (show O.length≠O.length+2 by omega) (.cells [.int .u8 5,.int .i64 0,.str [],.msl (Y.length+1) 0 (i+1) 1,x2] FZ)) [AO.cells (pX (xs.take i++[x])) FZ])
  have nm3:=m3 (Y.length+1) (AO.cells (pX (xs.take i++[x])) FZ) (.inl fun e=>by have:=q2l _ e;omega) (by rw[gQ L2];rfl)
  have bv3:=fun L=>aA v3 L;have pv3:=fun L y=>dV v3 L y;have tk3:S3.take O.length=O:=by
   apply aw7;intro k;rw[au8];split
   ·rename_i hk;have h1:(Y.take O.length)[k]?=some O[k]:=by rw[hpre];exact a01 hk
    rw[au8,if_pos hk]at h1;rw[m3 k _ (.inr (by omega)) (aA (aI (n3 k _ (.inr (by omega)) (aA h1 _)) (by omega) _) _),a01 hk]
   ·rw[aw8 (by omega)]
  have ok4:Ok (S3.set (O.length+2) (.cells [.int .u8 5,.int .i64 0,.str [],.msl (Y.length+1) 0 (i+1) 1,.msl (Y.length+2) 0 (i+1) 5] FZ)++[AO.cells (Bg (xs.take i++[x])) FZ]):=by
   have:=(m4.plus (L:=[AO.cells (Bg (xs.take i++[x])) FZ]) (by
    grind [AO.below,Bg,iY])).set2 (O.length+2) (x:=(.cells [.int .u8 5,.int .i64 0,.str [],.msl (Y.length+1) 0 (i+1) 1,.msl (Y.length+2) 0 (i+1) 5] FZ)) (by
    simp only[AO.below,ai,below,ax3,ax2,a02,decide_eq_true_eq,a04,a09,a90,m2];omega)
   rwa[pv3]at this
  have I2:OI O xs (i+1) (.msl (Y.length+1) 0 (i+1) 1) (.msl (Y.length+2) 0 (i+1) 5) (S3.set (O.length+2) (.cells [.int .u8 5,.int .i64 0,.str [],.msl (Y.length+1) 0 (i+1) 1,.msl (Y.length+2) 0 (i+1) 5] FZ)++[AO.cells (Bg (xs.take i++[x])) FZ]):=by
   rw[<-ht]at nm3⊢;refine⟨by rw[ht];exact ok4,aA (aI c3 (by omega) _) _,aA (aI r3 (by omega) _) _,aA (bC v3 _) _,.inr ⟨by omega,_,rfl,aA (aI nm3 (by omega) _) _,by omega⟩,.inr ⟨by omega,_,rfl,?_,by omega⟩,fun q e1 e2=>(by injection e1;injection e2;omega),?_⟩
   ·rw[gQ (by rw[a96,m2])];rfl
   grind [dS]
  have rcv:=aba H O xs hN n (i+1) (by omega) _ _ _ I2
  have go:∀r,aH C (aj C) 51 [2,4,5,13,14,15] dG [(2,.ref O.length 0),(4,.msl (O.length+1) 0 xs.length 6),(5,.ref (O.length+2) 0),(13,.msl (O.length+1) 0 xs.length 6),(14,.int .i64 xs.length),(15,.int .i64 (i+1:Nat))] (S3.set (O.length+2) (.cells [.int .u8 5,.int .i64 0,.str [],.msl (Y.length+1) 0 (i+1) 1,.msl (Y.length+2) 0 (i+1) 5] FZ)++[AO.cells (Bg (xs.take i++[x])) FZ])=r->
    (aH C (aj C) 51 [2,4,5,13,14,15] dG [(2,.ref O.length 0),(4,.msl (O.length+1) 0 xs.length 6),(5,.ref (O.length+2) 0),(13,.msl (O.length+1) 0 xs.length 6),(14,.int .i64 xs.length),(15,.int .i64 i)] Y=r\/∃Y',aH C (aj C) 51 [2,4,5,13,14,15] dG [(2,.ref O.length 0),(4,.msl (O.length+1) 0 xs.length 6),(5,.ref (O.length+2) 0),(13,.msl (O.length+1) 0 xs.length 6),(14,.int .i64 xs.length),(15,.int .i64 i)] Y=some (.ret,[(2,.ref O.length 0),(3,.int .i64 7)],Y')/\Y'[O.length]?=some qX/\Y'.take O.length=O):=fun r e=>by
   have cpy':=cpy;unfold JV.av at cpy';rw[aB (he:=rfl)];generalize hk:aH C (aj C) 51 [2,4,5,13,14,15] dG=kk at*;by_cases hz:(i:Int)>0
   ·obtain⟨y,dy⟩:=hprev (by omega)
    have w1:IntKind.i64.wrap ((i:Int)-1)=((i-1:Nat):Int):=wrE (by omega)
    have l1:i-1<xs.length:=by omega
    have p1:(0:Int)<=((i-1:Nat):Int):=by omega
    have hy:∀R,(elC y++R).head? =some (.str y.1.1):=fun _=>rfl;cases hd:decide (y.1.1=x.1.1)with
    |true=>
     refine .inr ⟨Y.set O.length qX++[AO.cells (elC x) FZ],?_,aA (bC hres _) _,by rw[tV _ _ _ (by simp;omega),dS _ _ _ (a06 _),hpre]⟩
     dsimp only[qX]at*;simp only[hz,dy,w1,l1,p1,hy,hd,c0,cp0,dG,h,li,pi,di,hrow,r0,g1,s1,eh,ca,KO,qh,Az,splice,a95,a04,Nat.le_add_right,EVX,seval]
    |false=>
     refine .inl ?_;simp only[hz,dy,w1,l1,p1,hy,hd,dG,h,li,pi,hw,di,hrow,r0,b0,g1,s1,eh,et,ek,jl,jf,n1,bv1,pv1,gv2,gx2,cpy',sx,m1,bv3,pv3,e,ca,KO,qh,Az,splice,a95,a04,Nat.le_add_right,EVX,seval]
   ·refine .inl ?_;simp only[hz,dG,h,li,pi,hw,di,hrow,b0,g1,s1,eh,et,ek,jl,jf,n1,bv1,pv1,gv2,gx2,cpy',sx,m1,bv3,pv3,e,ca,KO,qh,Az,splice,a95,a04,Nat.le_add_right,EVX,seval]
  rcases rcv with⟨x1',x2',Y',e1,e2⟩|⟨Y',e1,e2⟩
  ·rcases go _ e1 with e|e
   ·exact .inl ⟨x1',x2',Y',e,e2⟩
   ·exact .inr e
  ·rcases go _ e1 with e|e
   ·exact .inr ⟨Y',e,e2⟩
   ·exact .inr e
def aeD(H:abS C)(xs:List EL)(h1:xs≠[])(hN:xs.length<=8192)(O:St)(hσ:Ok O):∃(j:JV) (e:Int),aj C vw [.sl xs.length (mM xs)] O=some (.tup [j.av,.int .i64 e],O):=by
 have hn:hand false [.sl xs.length (mM xs)] O=some ([.sl xs.length (mM xs)],O):=NVs.hand (.cons (.sl _ (XO xs)) .nil) _;have cl:=H.clone xs h1 hN (O++[qX]) (hσ.plus rfl);have bx:∀ys:List EL,AO.below 0 (.cells (mM ys) FZ)=true:=XO;obtain⟨ys,y1,y2⟩:=H.srt (O++[qX,.cells (mM xs) FZ]) (hσ.plus (by rw[a07,a07,bx];rfl)) (O.length+1) (by simp) none xs.length (by omega) xs rfl
 unfold row at y2;rw[wU,wU]at y2;dsimp only[List.set,anZ]at y2;have I0:OI O ys 0 .nils .nils (O++[qX,.cells (mM ys) FZ,.cells [.int .u8 5,.int .i64 0,.str [],.nils,.nils] FZ]):=by
  refine⟨hσ.plus (by rw[a07,a07,bx];rfl),by rw[aJ];rfl,by rw[bI];rfl,by rw[bI];rfl,.inl ⟨rfl,rfl⟩,.inl ⟨rfl,rfl⟩,fun q e=>(by cases e),by simp⟩
 have lp:=aba H O ys (by omega) ys.length 0 (by omega) _ _ _ I0
 rw[y1]at lp;have sd:O.set O.length .dead=O:=List.set_eq_of_length_le (a06 _);have st3:∀a b c:AO,(O++[a,b,c]:St)[O.length+2]?=some c:=fun a b c=>by rw[bI];rfl
 have fin:∃(j:JV) (e:Int) (x:RX),aH C (aj C) 51 [2,4,5,13,14,15] dG [(2,.ref O.length 0),(4,.msl (O.length+1) 0 xs.length 6),(5,.ref (O.length+2) 0),(13,.msl (O.length+1) 0 xs.length 6),(14,.int .i64 xs.length),(15,.int .i64 0)] (O++[qX,.cells (mM ys) FZ,.cells [.int .u8 5,.int .i64 0,.str [],.nils,.nils] FZ])=x/\
   ((x=some (.ret,[(2,.ref O.length 0),(3,.int .i64 7)],(match x with|some (_,_,Y)=>Y|none=>[]))/\∀E,look E 2=.ref O.length 0->look E 3=.int .i64 7->xP O.length [.cell 2 true 5,.tmp 3] (some (.ret,E,(match x with|some (_,_,Y)=>Y|none=>[])))=some (.tup [j.av,.int .i64 e],O))\/
    ∃Y' c,x=some (.exit 0,[(2,.ref O.length 0),(5,.ref (O.length+2) 0)],Y')/\Y'[O.length]?=some qX/\Y'[O.length+2]?=some (.cells c FZ)/\c.length=5/\c.all AV.flat=true/\∀E,look E 2=.ref O.length 0->look E 3=.int .i64 0->xP O.length [.cell 2 true 5,.tmp 3] (some (.ret,E,Y'.set O.length (.cells c FZ)))=some (.tup [j.av,.int .i64 e],O)):=by
  simp only[a97]at lp;rcases lp with⟨x1,x2,Y',l1,l2⟩|⟨Y',l1,l2,l3⟩
  ·obtain⟨hok,hres,hrow,hv,ha1,ha2,hne,hpre⟩:=l2;have hp:¬xs.length=0:=fun e=>h1 (av1 e);rcases ha1 with⟨e,_⟩|⟨_,q1,rfl,a1,a2⟩
   ·omega
   rcases ha2 with⟨e,_⟩|⟨_,q2,rfl,b1,b2⟩
   ·omega
   rw[a08 (by omega)]at a1 b1
   refine⟨aoy ys (by omega),0,_,l1,.inr ⟨Y',_,rfl,hres,hv,rfl,rfl,fun E h2 h3=>?_⟩⟩
   have:=ahJ (Y:=Y'.set O.length (.cells [.int .u8 5,.int .i64 0,.str [],.msl q1 0 xs.length 1,.msl q2 0 xs.length 5] FZ)) (o:=O.length) (x:=.dead) hσ rfl 0 E h2 h3 (by rw[dS _ _ _ (a06 _),hpre,sd]) ys (by omega) q1 q2 (by rw[y1];exact bC hres _) (aI a1 (by omega) _) (aI b1 (by omega) _) (by omega) (by omega) (fun e=>hne q1 rfl (by rw[e]))
   rwa[sd]at this
  ·refine⟨JV.zero,7,_,l1,.inl ⟨rfl,fun E h2 h3=>?_⟩⟩;have:=KP (Y:=Y') (o:=O.length) (x:=.dead) hσ rfl 7 E h2 h3 (by rw[l3,sd]) l2
   rwa[sd]at this
 obtain⟨j,e,x,f1,f2⟩:=fin;refine⟨j,e,?_⟩;rw[H.of.go hn];generalize hE:xP=eR at*;rcases f2 with⟨f2,f3⟩|⟨Y',c,f2,g1,g2,g3,g4,f3⟩
 ·generalize(match x with|some (_,_,Y)=>Y|none=>[])=Y' at*
  rw[f2]at f1;have f4:=f3 [(2,.ref O.length 0),(3,.int .i64 7)] rfl rfl;unfold qX at*;simp only[yO,cl,y2,f1,f4,st3,splice,AV.cells,AV.flat,EVX,seval]
 ·rw[f2]at f1;have t5:c.take 5=c:=a08 (by omega)
  have sp:∀a b d e f:AV,splice [a,b,d,e,f] 0 c=c:=fun a b d e f=>by simp[splice,g3]
  unfold qX at*;simp only[yO,cl,y2,f1,st3,g1,g2,g3,g4,t5,sp,AV.cells,AV.flat,EVX,seval];refine f3 _ ?_ ?_<;>rfl
def Td:List Sh:=[.strb,.int .i64,.int .i64,.slx [.strb,.strb]]
structure Ce(C:Ctx)(PK:PkI):Prop where
 text:iF C PK JP (.pk [.strb] .strb)
 num:iF C PK KX (.pk [.strb,.int .i64,.int .i64] (.int .i64))
 obj:iF C PK Gx (.pk [.strb,.int .i64] .jv)
 fail:iF C PK JO (.pk [.int .i64] (.tup []))
 done:iF C PK JM (.pk [] (.int .i64))
 of:iF C PK aaA (.pof [.jv])
 pin:iF C PK Rf (.pure [.strb,.jv] (.tup [.agg Td,.int .i64]))
 when:iF C PK Dv (.pure [.strb] (.tup [.int .i64,.int .i64]))
 May:iF C PK Du (.pure [.jv] .bool)
 parts:Has C Rh Qk
 pType:Has C xA BH
 pVersion:Has C rZ D9
 pExpires:Has C rY D8
 pMeta:Has C xy BG
 snapOf:Has C xw MJ
def LH{f:FuncId}{args:List Sh}{res:Sh}(h:iF C PK f (.pk args res)){O:St}{o:Nat}{ms:List Nat}{azs:LA}(hσ:Ok O)(hn:NVs azs)(hp:PK.ok O o ms)(hm:Mt V0 args azs):∃v O2,aj C f (.ref o 0::azs) O=some (v,O2)/\M V0 res v/\Ok O2/\O2.length=O.length/\(∀i,i∉o::ms->O2[i]?=O[i]?)/\PK.ok O2 o ms:=
 h O o ms azs azs O hσ (by rw[oK,aO,hn.nf];rfl) hσ hp hm
def abP(n0 p:Nat)(os:List Nat)(Y:St)(x:AV):Prop:=x=.nils\/∃q rs,x=.msl q 0 rs.length 4/\Y[q]?=some (.cells rs.flatten FZ)/\rs.length<=LS/\MRs V0 Td rs/\q∉os/\q≠p/\n0<=q
structure SI(PK:PkI)(O0:St)(o p:Nat)(ms:List Nat)(x:AV)(Y:St):Prop where
 ok:Ok Y
 pk:PK.ok Y o ms
 lt:∀i∈o::ms,i<Y.length
 ge:∀i∈o::ms,O0.length<=i
 np:p∉o::ms
 gp:O0.length<=p
 s:∃a b,Y[p]?=some (.cells [.int .i64 a,.int .i64 b,x] FZ)
 meta_:abP O0.length p (o::ms) Y x
 keep:∀(i:Nat) (y:AO),O0[i]?=some y->Y[i]?=some y
def SI.pl{O0:St}{o p:Nat}{ms:List Nat}{x:AV}{Y:St}(h:SI PK O0 o p ms x Y):p<Y.length:=by
 grind [SI]
def SI.pick{O0:St}{o p:Nat}{ms:List Nat}{x:AV}{Y Y2:St}(h:SI PK O0 o p ms x Y)(h1:Ok Y2)(h2:Y2.length=Y.length)(h3:∀i,i∉o::ms->Y2[i]?=Y[i]?)(h4:PK.ok Y2 o ms):SI PK O0 o p ms x Y2:=by
 obtain⟨a,b,hs⟩:=h.s;refine⟨h1,h4,fun i hi=>by rw[h2];exact h.lt i hi,h.ge,h.np,h.gp,⟨a,b,by rw[h3 _ h.np];exact hs⟩,?_,fun i y hy=>?_⟩
 ·rcases h.meta_ with hm|⟨q,rs,e1,e2,e3,e4,e5,e6,e7⟩
  ·exact .inl hm
  ·exact .inr ⟨q,rs,e1,by rw[h3 _ e5];exact e2,e3,e4,e5,e6,e7⟩
 grind [SI]
def SI.plus{O0:St}{o p:Nat}{ms:List Nat}{x:AV}{Y:St}(h:SI PK O0 o p ms x Y)(L:St)(hL:L.all (AO.below (Y.length+L.length))=true):SI PK O0 o p ms x (Y++L):=by
 obtain⟨a,b,hs⟩:=h.s;refine⟨h.ok.app hL,PK.fr h.pk fun i hi=>by rw[av4 (h.lt i hi)],fun i hi=>by rw[a04];have:=h.lt i hi;omega,h.ge,h.np,h.gp,⟨a,b,aA hs L⟩,?_,fun i y hy=>aA (h.keep i y hy) L⟩
 rcases h.meta_ with hm|⟨q,rs,e1,e2,e3,e4,e5,e6,e7⟩
 ·exact .inl hm
 ·exact .inr ⟨q,rs,e1,aA e2 L,e3,e4,e5,e6,e7⟩
def SI.set{O0:St}{o p:Nat}{ms:List Nat}{x:AV}{Y:St}(h:SI PK O0 o p ms x Y)(a b:Int):SI PK O0 o p ms x (Y.set p (.cells [.int .i64 a,.int .i64 b,x] FZ)):=by
 obtain⟨a',b',hs⟩:=h.s;refine⟨h.ok.set2 p ?_,PK.fr h.pk fun i hi=>?_,fun i hi=>by rw[a96];exact h.lt i hi,h.ge,h.np,h.gp,⟨a,b,bC hs _⟩,?_,fun i y hy=>?_⟩
 ·have:=a94.mp h.ok _ (a88 hs);simp only[AO.below,ai,below,ax2]at this⊢;exact this
 ·grind [SI]
 ·rcases h.meta_ with hm|⟨q,rs,e1,e2,e3,e4,e5,e6,e7⟩
  ·exact .inl hm
  ·exact .inr ⟨q,rs,e1,aI e2 e6 _,e3,e4,e5,e6,e7⟩
 grind [SI]
theorem SI.tidy{O0:St}{o p n:Nat}{ms:List Nat}{x:AV}{S:St}(h:SI PK O0 o p ms x S)(vs:LA)(hn:n<=S.length)(hp:p<n)(ho:∀i∈o::ms,i<n)(h0:O0.length<=n):SI PK O0 o p ms x (Ev.tidy n vs S):=by
 unfold Ev.tidy;split
 ·exact h
 split
 ·rename_i hc;rw[a02]at hc;have hl:(S.take n).length=n:=by simp;omega
  have hg:∀i,i<n->(S.take n)[i]?=S[i]?:=fun i hi=>by rw[au8,if_pos hi]
  obtain⟨a,b,hs⟩:=h.s;refine⟨?_,PK.fr h.pk fun i hi=>hg i (ho i hi),fun i hi=>by rw[hl];exact ho i hi,h.ge,h.np,h.gp,⟨a,b,by rw[hg _ hp];exact hs⟩,?_,fun i y hy=>?_⟩
  ·unfold Ok;rw[hl];exact hc.2
  ·rcases h.meta_ with hm|⟨q,rs,e1,e2,e3,e4,e5,e6,e7⟩
   ·exact .inl hm
   ·refine .inr ⟨q,rs,e1,?_,e3,e4,e5,e6,e7⟩;have hb:=a94.mp hc.2 _ (a88 ((hg _ hp).trans hs));have:q<n:=by
     rw[e1]at hb;simp only[AO.below,ai,below,ax3,ax2,decide_eq_true_eq]at hb;exact hb
    rw[hg _ this];exact e2
  grind [SI]
 ·exact h
def as4(C:Ctx)(PK:PkI)(f:FuncId):Prop:=∀(O0:St) (o p:Nat) (ms:List Nat) (Y:St),SI PK O0 o p ms .nils Y->O0.length<=Y.length->∃Y' x,aj C f [.ref o 0,.ref p 0] Y=some (bK [],Y')/\SI PK O0 o p ms x Y'/\Y.length<=Y'.length
def akc(C:Ctx)(PK:PkI)(f:FuncId):Prop:=∀(O0:St) (o p:Nat) (ms:List Nat) (Y:St),SI PK O0 o p ms .nils Y->O0.length<=Y.length->∃Y',aj C f [.ref o 0,.ref p 0] Y=some (bK [],Y')/\SI PK O0 o p ms .nils Y'/\Y.length<=Y'.length
def UM(s:LU)(h:s.length<=LB){l:List Sh}{m:LA}(k:Mt V0 l m):Mt V0 (.strb::l) (.str s::m):=.cons _ _ _ _ (.strb s h) k
def VS(n:Int){l:List Sh}{m:LA}(k:Mt V0 l m):Mt V0 (.int .i64::l) (.int .i64 n::m):=.cons _ _ _ _ (.int _ n) k
def MC{n:Nat}{vs:LA}{S:St}(h:n<=S.length):n<=(Ev.tidy n vs S).length:=by
 grind [Ev.tidy]
end Go.Ev
namespace Go.Ev
set_option maxRecDepth 100000
variable{C:Ctx}{V:Val}
structure SnV where
 ver:Int
 exp:Int
 pins:List lH
def SnV.cs(s:SnV):LA:=[.int .i64 s.ver,.int .i64 s.exp,.sl s.pins.length (s.pins.flatMap lH.cs)]
structure SnV.ok(s:SnV):Prop where
 len:s.pins.length<=8192
 each:∀p∈s.pins,Bh p.hashes/\p.name.length<=LB
def alu(r:LA)(h:Ms V [.strb,.strb] r):∃s,r=pC s/\s.1.length<=LB/\s.2.length<=LB:=by
 obtain⟨s,b,rfl,h0,h1⟩:=CJ h;obtain⟨u,b,rfl,h3,h2⟩:=CJ h1;rw[FO h2];exact⟨(s,u),rfl,h0,h3⟩
def aol(r:LA)(h:Ms V Td r):∃p,r=lH.cs p/\Bh p.hashes/\p.name.length<=LB:=by
 obtain⟨s,b,rfl,h0,h1⟩:=CJ h;obtain⟨n,b,rfl,h2⟩:=zx h1;obtain⟨m,b,rfl,h3⟩:=zx h2;obtain⟨hs,b,rfl,hl,hb,h4⟩:=zy alu h3;rw[FO h4];exact⟨⟨s,n,m,hs⟩,rfl,⟨hl,hb⟩,h0⟩
def alx{v:AV}(h:M V (.agg [.int .i64,.int .i64,.slx Td]) v):∃s:SnV,v=.agg s.cs/\s.ok:=by
 cases h with
 |agg _ v h=>
  obtain⟨a,b,rfl,h1⟩:=zx h;obtain⟨e,b,rfl,h2⟩:=zx h1;obtain⟨l,b,rfl,l1,q1,h3⟩:=zy aol h2;rw[FO h3];exact⟨⟨a,e,l⟩,rfl,l1,q1⟩
def lH.len4(p:lH):p.cs.length=4:=rfl
theorem lH.nvs(p:lH):NVs p.cs:=.cons (.str _) (.cons (.int _ _) (.cons (.int _ _) (.cons (vJ _) .nil)))
theorem lH.bel(p:lH):ai 0 p.cs=true:=p.nvs.cl
theorem SnV.nvs(s:SnV):NVs s.cs:=.cons (.int _ _) (.cons (.int _ _) (.cons (.sl _ (fK (fun p=>p.bel) s.pins)) .nil))
structure ChkTot(C:Ctx):Prop where
 role:Qo C
 hash:∀hs:List PS,Bh hs->∃(d:LU) (b:Bool),∀Y,aj C yA [.sl hs.length (hs.flatMap pC),.str [115,104,97,50,53,54]] Y=some (.tup [.str d,.bool b],Y)
 rd:∀data:LU,data.length<=LB->∃(j:JV) (n e:Int),∀Y,aj C jc [.str data] Y=some (.tup [j.av,.int .i64 n,.int .i64 e],Y)
 sg:∀j:JV,∃(r:AV) (e:Int),M V0 adY r/\∀Y,aj C xu [j.av] Y=some (.tup [r,.int .i64 e],Y)
 tg:∀j:JV,∃(t:jK) (e:Int),t.ok/\∀Y,aj C EH [j.av] Y=some (.tup [.agg t.cs,.int .i64 e],Y)
 sn:∀j:JV,∃(s:SnV) (e:Int),s.ok/\∀Y,aj C xw [j.av] Y=some (.tup [.agg s.cs,.int .i64 e],Y)
 over:∀a b:Int,∃ov:Bool,∀Y,aj C oQ [.int .i64 a,.int .i64 b] Y=some (.bool ov,Y)
 dig:∀s:LU,s.length<=LB->∃d:LU,∀Y,aj C qO [.str s] Y=some (.str d,Y)
 enough:∀(h:Bool) (l:List iy) (r:AV) (th:Int) (ids:List LU) (ks:List PS),wO l=false->zG ids->Bh ks->M V0 adY r->∃b:Bool,∀Y o,Y[o]?=some (FY h l)->aj C jm [.ref o 0,r,.agg (aC th ids),.sl ks.length (ks.flatMap pC)] Y=some (.bool b,Y)
def inf(h:Bool)(l:List iy)(o:Nat)(th:Int)(ids:List LU)(ks:List PS)(pn:LU)(pv pl:Int)(ph:AV)(now:Int)(data:LU)(size:Int):InF:=
 ⟨.ref o 0,th,.sl ids.length (ids.flatMap sC),.sl ks.length (ks.flatMap pC),pn,pv,pl,ph,now,data,size⟩
structure kC where
 ver:Int
 exp:Int
 ks:List PS
 rt:fE
 sn:fE
 tg:fE
def kC.cs(r:kC):LA:=[.int .i64 r.ver,.int .i64 r.exp,.sl r.ks.length (r.ks.flatMap pC),.int .i64 r.rt.th,.sl r.rt.ids.length (r.rt.ids.flatMap sC),.int .i64 r.sn.th,.sl r.sn.ids.length (r.sn.ids.flatMap sC),.int .i64 r.tg.th,.sl r.tg.ids.length (r.tg.ids.flatMap sC)]
def kC.cs_is(r:kC):r.cs=[.int .i64 r.ver,.int .i64 r.exp,.sl r.ks.length (r.ks.flatMap pC),.int .i64 r.rt.th,.sl r.rt.ids.length (r.rt.ids.flatMap sC),.int .i64 r.sn.th,.sl r.sn.ids.length (r.sn.ids.flatMap sC),.int .i64 r.tg.th,.sl r.tg.ids.length (r.tg.ids.flatMap sC)]:=rfl
theorem kC.nvs(r:kC):NVs r.cs:=.cons (.int _ _) (.cons (.int _ _) (.cons (vJ _) (.cons (.int _ _) (.cons (G5 _) (.cons (.int _ _) (.cons (G5 _) (.cons (.int _ _) (.cons (G5 _) .nil))))))))
def ane (H:ChkTot C) (h:Bool) (l:List iy) (R:kC) (data:LU) (b1:wO l=false) (b2:zG R.sn.ids) (b3:Bh R.ks) (b4:data.length<=LB):
  ∃(S:SnV) (e1 e2 e3:Int) (en:Bool) (ov:Int->Bool),S.ok/\(∀now Y,aj C oQ [.int .i64 S.exp,.int .i64 now] Y=some (.bool (ov now),Y))/\∀(now size:Int) (O:St) (o:Nat),Ok O->O[o]?=some (FY h l)->
   aj C oZ [.ref o 0,.agg R.cs,.int .i64 now,.str data,.int .i64 size] O=
    some (.tup [.agg (if Tu size e1 e2 e3 en (ov now)=0 then S.cs else zSn),.int .u8 (Tu size e1 e2 e3 en (ov now))],O):=by
 obtain⟨j,n1,e1,q1⟩:=H.rd data b4;obtain⟨r,e2,mr,q2⟩:=H.sg j;obtain⟨en,q5⟩:=H.enough h l r R.sn.th R.sn.ids R.ks b1 b2 b3 mr;obtain⟨k,ps,rfl,lp⟩:=acD mr;obtain⟨S,e3,sok,q3⟩:=H.sn k;obtain⟨ov,q4⟩:=Classical.axiomOfChoice (fun now=>H.over S.exp now);obtain⟨x0,x1,x2,x3,x4,je,ox0,ox1,ox2,ox3,ox4⟩:=j.ones;obtain⟨r0,r1,r2,r3,r4,ke,or0,or1,or2,or3,or4⟩:=k.ones;unfold JV.av at q1 q2 q3;rw[je]at q1 q2;rw[ke]at q2 q3 q5;refine⟨S,e1,e2,e3,en,ov,sok,q4,fun now size O o hσ ho=>?_⟩;have hl:o<O.length:=(a00.mp ho).1;have hI:(inf h l o R.sn.th R.sn.ids R.ks [] 0 (-1) .nils now data size).ok O.length:=⟨.inr ⟨o,rfl,hl⟩,wP _ (G5 _),wP _ (vJ _),rfl⟩;exact QP H.role hσ hI ⟨rfl,rfl⟩ ⟨rfl,rfl,rfl,rfl⟩
  {x0:=x0,x1:=x1,x2:=x2,x3:=x3,x4:=x4,n1:=n1,e1:=e1,r0:=r0,r1:=r1,r2:=r2,r3:=r3,r4:=r4,r5:=.sl ps.length (ps.flatMap pC),e2:=e2,en:=en
   hx0:=ox0,hx1:=ox1,hx2:=ox2,hx3:=ox3,hx4:=ox4,hr0:=or0,hr1:=or1,hr2:=or2,hr3:=or3,hr4:=or4,hr5:=wP _ (vJ ps)
   rd:=fun Y _=>q1 Y,sg:=fun _ Y _=>q2 Y
   enough:=fun _ _ Y _ hx=>q5 Y o (hx o _ ho)
   sv:=S.ver,sx:=S.exp,s2:=.sl S.pins.length (S.pins.flatMap lH.cs),e3:=e3,ov:=ov now
   h2:=wP _ (.sl _ (fK (fun p=>p.bel) S.pins))
   sn:=fun _ _ Y _=>q3 Y,over:=fun Y _=>q4 now Y}
  (GU _ _) (GU _ _) (GU _ _) (wP _ (G5 _)) (GU _ _) (wP _ (G5 _))
end Go.Ev
namespace Go.Ev
set_option maxRecDepth 100000
variable{C:Ctx}
structure Xj(C:Ctx):Prop where
 pin:Has C Bz Bo
 snap:Has C Fe EP
 hashes:Has C jo ji
def ZZ(H:Xj C)(p:lH)(hp:Bh p.hashes)(O:St)(hσ:Ok O):aj C Bz [.agg p.cs,.agg p.cs] O=some (.bool true,O):=by
 have nv:NV (.agg p.cs):=.agg p.nvs;rw[H.pin.go (NVs.hand (.cons nv (.cons nv .nil)) _)];have hO:Ok (O++[.cells p.cs FZ,.cells p.cs FZ]):=hσ.plus (by
  have:AO.below 0 (.cells p.cs FZ)=true:=p.bel;rw[a07,this,a07,this];rfl)
 have q1:=Iy H.hashes p.hashes (by have:=hp.1;omega)
 have ty:=bY hσ (vs:=[.bool true]) rfl;unfold lH.cs at⊢;simp only[Bo,q1,ty,aJ,bI,AV.cells,a81,ax4,EVX,seval]
def YS (H:Xj C) (s:SnV) (hs:s.ok) (q:Nat):∀(m i:Nat) (Y:St),i+m=s.pins.length->Ok Y->Y[q]?=some (.cells s.cs FZ)->Y[q+1]?=some (.cells s.cs FZ)->
  aH C (aj C) 46 [2,3,5] jT [(2,.ref q 0),(3,.ref (q+1) 0),(5,.int .i64 i)] Y=some (.exit 0,[],Y)
 |0,i,Y,hi,hτ,f2,f3=>by
  rw[aB (he:=rfl)];have h:¬((i:Int)<(s.pins.length:Int)):=by omega
  unfold SnV.cs at f2;simp only[jT,h,f2,aY,EVX,seval]
 |m+1,i,Y,hi,hτ,f2,f3=>by
  have hlt:i<s.pins.length:=by omega
  have h8:=hs.len;have fa:=fB lH.len4 (a01 hlt);have hp:=(hs.each _ (ax1 hlt)).1;generalize s.pins[i]=p at*;have ih:=YS H s hs q m (i+1) Y (by omega) hτ f2 f3
  have q1:=ZZ H p hp Y hτ;rw[aB (he:=rfl)];have h:((i:Int)<(s.pins.length:Int)):=by omega
  have hw:=wrS i (by omega)
  have h3:(0:Int)<=i:=by omega
  have fl:=aU lH.len4 s.pins;unfold SnV.cs at f2 f3;have pc:p.cs=[.str p.name,.int .i64 p.version,.int .i64 p.length,.sl p.hashes.length (p.hashes.flatMap pC)]:=rfl;rw[pc]at q1 fa;generalize(s.pins.drop (i+1)).flatMap lH.cs=R at fa;generalize hF:s.pins.flatMap lH.cs=F at*;generalize hk:aH C (aj C) 46 [2,3,5] jT=k at*;simp only[a81,a99]at fa;simp only[jT,h,hlt,h3,hw,fl,fa,f2,f3,q1,ih,aY,a81,a99,ax4,aC9,EVX,seval]
def agJ(H:Xj C)(s:SnV)(hs:s.ok)(O:St)(hσ:Ok O):aj C Fe [.agg s.cs,.agg s.cs] O=some (.bool true,O):=by
 have nv:NV (.agg s.cs):=.agg s.nvs;rw[H.snap.go (NVs.hand (.cons nv (.cons nv .nil)) _)];have hO:Ok (O++[.cells s.cs FZ,.cells s.cs FZ]):=hσ.plus (by
  have:AO.below 0 (.cells s.cs FZ)=true:=s.nvs.cl;rw[a07,this,a07,this];rfl)
 have lp:=YS H s hs O.length s.pins.length 0 _ (by omega) hO (by rw[aJ];rfl) (by rw[bI];rfl)
 rw[show((0:Nat):Int)=0 from rfl]at lp;have ty:=bY hσ (vs:=[.bool true]) rfl;unfold SnV.cs at lp⊢;simp only[EP,lp,aY,ty,aJ,bI,AV.cells,a81,a99,ax4,EVX,seval]
def Ol:jK:=⟨0,0,[],⟨[],[],0,[],0,[]⟩⟩
def TM:Ol.ok:=⟨by decide,fun _ h=>(by cases h),⟨by decide,by decide,fun _ h=>(by cases h),by decide⟩⟩
def agN(T:jK)(c:Int):jK:=if c=0 then T else Ol
def aoT(T:jK)(c:Int):(if c=0 then T.cs else zTn)=(agN T c).cs:=by
 unfold agN;split<;>rfl
def aoU{T:jK}(h:T.ok)(c:Int):(agN T c).ok:=by
 unfold agN;split
 ·exact h
 ·exact TM
theorem jK.len(t:jK):t.cs.length=9:=rfl
def jK.fl(t:jK):t.cs.all AV.flat=true:=rfl
def jK.tk(t:jK):t.cs.take 9=t.cs:=rfl
def Wq:SnV:=⟨0,0,[]⟩
def agM(S:SnV)(c:Int):SnV:=if c=0 then S else Wq
def aoR(S:SnV)(c:Int):(if c=0 then S.cs else zSn)=(agM S c).cs:=by
 unfold agM;split<;>rfl
def aoS{S:SnV}(h:S.ok)(c:Int):(agM S c).ok:=by
 unfold agM;split
 ·exact h
 ·exact⟨by decide,fun _ h=>by cases h⟩
theorem SnV.len(t:SnV):t.cs.length=3:=rfl
def SnV.fl(t:SnV):t.cs.all AV.flat=true:=rfl
def SnV.tk(t:SnV):t.cs.take 3=t.cs:=rfl
variable{V:Val}
def aoY{a:AV}(h:We a=true):NV a:=by
 cases a<;>first|(cases h;done)|exact .bool _|exact .int _ _|exact .str _
def af5{l:LA}(h:l.all We=true):NVs l:=fun v hv=>aoY (a94.mp h v hv)
def abr{l:LA}(h:l.all We=true):l.all AV.flat=true:=by
 rw[a94]at*;intro v hv;have:=h v hv;cases v<;>first|(cases this;done)|rfl
def aaW:∀(l:List LU) (n:Nat),liN l n<5000->n+10*l.length<=liN l n/\∀s∈l,s.length<5000
 |[],n,h=>⟨by simp[liN],fun s hs=>by cases hs⟩
 |s::l,n,h=>by
  unfold liN at*;split at h
  ·rename_i hn;rw[if_pos hn];obtain⟨a,b⟩:=aaW l _ h;refine⟨by simp only[a09];omega,fun t ht=>?_⟩
   rcases av3.mp ht with rfl|ht
   ·omega
   ·exact b t ht
  ·omega
def ajT{th:Int}{ids:List LU}(h:Yz [⟨th,ids⟩]=false):zG ids:=by
 have h:liN ids 0<5000:=Nat.not_le.mp (of_decide_eq_false h);obtain⟨a,b⟩:=aaW ids 0 h;exact⟨by omega,fun s hs=>by have:=b s hs;simp only[LB];omega⟩
def agV{l:List PS}(h:Ut l=false):Bh l:=by
 simp only[Ut,az0,decide_eq_false_iff_not,List.any_eq_false,aep,Bool.not_eq_true]at h;refine⟨by omega,fun p hp=>?_⟩
 have:=h.2 p hp;simp only[LB];omega
def G6{l:List iy}(h:wO l=false):l.length<=8192/\∀p∈l,p.id.length<=LB/\p.sig.length<=LB/\p.dig.length<=LB:=by
 simp only[wO,az0,decide_eq_false_iff_not,List.any_eq_false,aeq,Bool.not_eq_true]at h;refine⟨by omega,fun p hp=>?_⟩
 have:=h.2 p hp;simp only[LB];omega
def aqS{th:Int}{ids:List LU}(h:zG ids):M V (.agg [.int .i64,.slx [.strb]]) (.agg (aC th ids)):=
 .agg _ _ (.one _ _ _ _ rfl (.int _ _) (.one _ _ _ _ rfl (agt ids (fun s hs=>.one _ _ _ _ rfl (.strb _ (h.2 s hs)) .nil) h.1) .nil))
def alX{l:List PS}(h:Bh l):M V (.slx [.strb,.strb]) (.sl l.length (l.flatMap pC)):=
 agt l (fun p hp=>.one _ _ _ _ rfl (.strb _ (h.2 p hp).1) (.one _ _ _ _ rfl (.strb _ (h.2 p hp).2) .nil)) h.1
def aoq{l:List iy}(h:wO l=false):M V (.slx [.strb,.strb,.strb]) (Kq l):=
 agt l (fun p hp=>.one _ _ _ _ rfl (.strb _ ((G6 h).2 p hp).1) (.one _ _ _ _ rfl (.strb _ ((G6 h).2 p hp).2.1) (.one _ _ _ _ rfl (.strb _ ((G6 h).2 p hp).2.2) .nil))) (G6 h).1
end Go.Ev
namespace Go.Ev
set_option maxRecDepth 100000
variable{C:Ctx}{PK:PkI}
def alY{V:Val}{v:AV}(h:M V .strb v):∃s,v=.str s/\s.length<=LB:=zu h
def ajJ(H:Ce C PK):akc C PK xA:=by
 intro O0 o p ms Y I hl;obtain⟨v,O2,e1,m1,k1,k2,k3,k4⟩:=LH (azs:=[.str [95,116,121,112,101]]) H.text I.ok (.cons (.str _) .nil) I.pk (UM _ (by simp[LB]) .nil)
 obtain⟨s,rfl,_⟩:=alY m1;have I2:=I.pick k1 k2 k3 k4;have hn:=Ih o p Y;rw[H.pType.go hn];cases c:decide (s=[115,110,97,112,115,104,111,116])with
 |true=>
  refine⟨_,?_,I2.tidy [] (by omega) I.pl I.lt hl,MC (by omega)⟩
  simp only[BH,e1,c,lZ,AV.cells,AV.flat,EVX,seval]
 |false=>
  obtain⟨w,O3,f1,n1,j1,j2,j3,j4⟩:=LH (azs:=[.int .i64 13]) H.fail I2.ok (.cons (.int _ _) .nil) I2.pk (VS _ .nil);refine⟨_,?_,(I2.pick j1 j2 j3 j4).tidy [] (by omega) I.pl I.lt hl,MC (by omega)⟩
  simp only[BH,e1,c,f1,lZ,AV.cells,AV.flat,EVX,seval]
def acR(H:Ce C PK):akc C PK rZ:=by
 intro O0 o p ms Y I hl;obtain⟨v,O2,e1,m1,k1,k2,k3,k4⟩:=LH (azs:=[.str [118,101,114,115,105,111,110],.int .i64 1,.int .i64 1099511627776]) H.num I.ok (.cons (.str _) (.cons (.int _ _) (.cons (.int _ _) .nil))) I.pk (UM _ (by simp[LB]) (VS _ (VS _ .nil)))
 obtain⟨n,rfl⟩:=OL m1;have I2:=I.pick k1 k2 k3 k4;obtain⟨a,b,hs⟩:=I2.s;have hn:=Ih o p Y;rw[H.pVersion.go hn];refine⟨_,?_,(I2.set n b).tidy [] (by rw[a96];omega) I.pl I.lt hl,MC (by rw[a96];omega)⟩
 simp only[D9,e1,hs,splice,AV.cells,AV.flat,EVX,seval]
def alZ{V:Val}{a b:Sh}{v:AV}(h:M V (.tup [a,b]) v):∃x y,v=.tup [x,y]/\M V a x/\M V b y:=by
 cases h with|tup _ l h=>obtain⟨x,y,rfl,h1,h2⟩:=ajm h;exact⟨x,y,rfl,h1,h2⟩
def acQ(H:Ce C PK):akc C PK rY:=by
 intro O0 o p ms Y I hl;obtain⟨v,O2,e1,m1,k1,k2,k3,k4⟩:=LH (azs:=[.str [101,120,112,105,114,101,115]]) H.text I.ok (.cons (.str _) .nil) I.pk (UM _ (by simp[LB]) .nil)
 obtain⟨s,rfl,hs⟩:=alY m1;have I2:=I.pick k1 k2 k3 k4;obtain⟨w,e2,m2⟩:=DU H.when (.cons (.str s) .nil) (UM _ hs .nil) I2.ok;obtain⟨x,y,rfl,q1,q2⟩:=alZ m2;obtain⟨n,rfl⟩:=OL q1;obtain⟨e,rfl⟩:=OL q2;obtain⟨w,O3,f1,n1,j1,j2,j3,j4⟩:=LH (azs:=[.int .i64 e]) H.fail I2.ok (.cons (.int _ _) .nil) I2.pk (VS _ .nil);have I3:=I2.pick j1 j2 j3 j4;obtain⟨a,b,hs⟩:=I3.s;have hn:=Ih o p Y;rw[H.pExpires.go hn];refine⟨_,?_,(I3.set a n).tidy [] (by rw[a96];omega) I.pl I.lt hl,MC (by rw[a96];omega)⟩
 simp only[D8,e1,e2,f1,hs,splice,AV.cells,AV.flat,EVX,seval]
def ms1{V:Val}{s:Sh}{t:List Sh}{l:LA}(hs:s.one=true)(h:Ms V (s::t) l):∃v b,l=v::b/\M V s v/\Ms V t b:=by
 cases h with
 |one _ _ v b h1 h2 h3=>exact⟨v,b,rfl,h2,h3⟩
 |jv _ j b h=>cases hs
 |jg _ _ _ j r h1 h2=>cases hs
def ajL{l:LA}(h:Ms V0 Td l):∃(s:LU) (a b:Int) (rs:List LA),l=[.str s,.int .i64 a,.int .i64 b,.sl rs.length rs.flatten]/\ai 0 rs.flatten=true:=by
 obtain⟨v1,b1,rfl,h1,k1⟩:=ms1 rfl h;obtain⟨v2,b2,rfl,h2,k2⟩:=ms1 rfl k1;obtain⟨v3,b3,rfl,h3,k3⟩:=ms1 rfl k2;obtain⟨v4,b4,rfl,h4,k4⟩:=ms1 rfl k3;cases k4;obtain⟨s,rfl,_⟩:=zu h1;obtain⟨a,rfl⟩:=OL h2;obtain⟨b,rfl⟩:=OL h3;cases h4 with
 |slx _ rs hl hr=>
  exact⟨s,a,b,rs,rfl,(MRs.nvs (by rfl) hr).cl⟩
def aa5(n0 p vb:Nat)(os:List Nat)(Y:St)(i:Nat)(x:AV):Prop:=(i=0/\x=.nils)\/(0<i/\∃q rs,x=.msl q 0 i 4/\rs.length=i/\Y[q]?=some (.cells rs.flatten FZ)/\MRs V0 Td rs/\q∉os/\q≠p/\n0<=q/\q≠vb)
def atB(PK:PkI)(O0:St)(o p:Nat)(ms:List Nat)(Y:St)(x:RX):Prop:=∃Y' x',(x=some (.exit 0,[],Y')\/x=some (.ret,[],Y'))/\SI PK O0 o p ms x' Y'/\Y.length<=Y'.length
def aa5.of{n0 p vb i:Nat}{os:List Nat}{Y:St}{x:AV}(hi:i<=8192)(h:aa5 n0 p vb os Y i x):abP n0 p os Y x:=by
 rcases h with⟨_,rfl⟩|⟨_,q,rs,rfl,e1,e2,e3,e4,e5,e6,_⟩
 ·exact .inl rfl
 ·exact .inr ⟨q,rs,by rw[e1],e2,by rw[e1];exact hi,e3,e4,e5,e6⟩
def anP {Y:St} {n0 p vb i:Nat} {os:List Nat} {x:AV} {l:LA} (h:aa5 n0 p vb os Y i x) (hl:Ms V0 Td l) (hi:i<=8192) (hok:Ok Y):
  ∃(S:St) (rs:List LA),tY Y 4 56 none x 1 l=some (.msl Y.length 0 (i+1) 4,S++[.cells rs.flatten FZ])/\rs.length=i+1/\MRs V0 Td rs/\S.length=Y.length/\(∀k y,k∈os\/k=p\/k<n0\/k=vb->Y[k]?=some y->S[k]?=some y)/\Ok S:=by
 rcases h with⟨rfl,rfl⟩|⟨h0,q,rs,rfl,e1,e2,e3,e4,e5,e6,e7⟩
 ·refine⟨Y,[l],?_,rfl,MRs.one hl,rfl,fun _ _ _ h=>h,hok⟩;rw[IU _ none l (by omega) (by omega) (by omega)]
  simp
 ·refine⟨Y.set q .dead,rs++[l],?_,by simp[e1],e3.app (MRs.one hl),by simp,fun k y hk h=>aI h (fun e=>?_) _,hok.set2 _ rfl⟩
  ·rw[TY l e2 (by omega) (by rw[MRs.len e3,e1];rfl) (by omega) (by omega)]
   simp
  ·subst e;rcases hk with hk|hk|hk|hk
   ·exact e4 hk
   ·exact e5 hk
   ·omega
   ·exact e7 hk
def ab2 (H:Ce C PK) (O0:St) (o p vb:Nat) (ms:List Nat) (c0 c1 c2:AV) (ns:List LU) (is:List JV) (hle:ns.length<=is.length) (h8:is.length<=8192) (hns:∀x∈ns,x.length<=LB) (hvp:vb≠p) (hvo:vb∉o::ms) (hv0:O0.length<=vb):∀(n i:Nat),i+n=ns.length->∀(x:AV) (Y:St),SI PK O0 o p ms x Y->aa5 O0.length p vb (o::ms) Y i x->O0.length<=Y.length->
  Y[vb]?=some (.cells [c0,c1,c2,.sl ns.length (ns.map .str),.sl is.length (aN is)] FZ)->
  atB PK O0 o p ms Y (aH C (aj C) 45 [0,1,4,12,13,14] fD [(0,.ref o 0),(1,.ref p 0),(4,.ref vb 0),(12,.sl ns.length (ns.map .str)),(13,.int .i64 ns.length),(14,.int .i64 i)] Y)
 |0,i,hi,x,Y,I,hm,hl,hv=>by
  have h:¬((i:Int)<(ns.length:Int)):=by omega
  refine⟨Y,x,.inl ?_,I,a06 _⟩;rw[aB (he:=rfl)];simp only[fD,h,EVX,seval]
 |n+1,i,hi,x,Y,I,hm,hl,hv=>by
  have h:((i:Int)<(ns.length:Int)):=by omega
  have h2:i<is.length:=by omega
  have h2n:i<ns.length:=by omega
  have w2:=wrS i (by omega)
  have p2:(0:Int)<=(i:Int):=by omega
  have d2:=zQ is i h2;have dr:=Zo ns i h2n;have sl:=kY is;have sn:(ns.map AV.str).length=ns.length:=by simp
  have hx:ns[i].length<=LB:=hns _ (ax1 h2n);generalize is[i]=j at*;generalize ns[i]=s at*;generalize aN (is.drop (i+1))=R at*;have jl:=JV.len j;have jf:=JV.flat j;have jt:(j.cs++R).take 5=j.cs:=by rw[<-jl];simp
  have je:5<=(j.cs++R).length:=by simp[jl]
  obtain⟨v,e1,m1⟩:=DU H.pin (azs:=[.str s,j.av]) (.cons (.str s) (.cons j.nv .nil)) (UM _ hx (.cons _ _ _ _ (.jv j) .nil)) I.ok;obtain⟨a,b,rfl,m2,m3⟩:=alZ m1;obtain⟨e,rfl⟩:=OL m3;cases m2 with
  |agg _ l ml=>
  obtain⟨s1,a1,b1,rs1,rfl,hb⟩:=ajL ml;have hL:([.cells [.str s1,.int .i64 a1,.int .i64 b1,.sl rs1.length rs1.flatten] FZ]:St).all (AO.below (Y.length+1))=true:=by
   simp only[a07,aw0,ax3,AO.below,ai,below,ax2];exact aP (au3 _) _ hb
  have I1:=I.plus _ hL;have g1:=fun L=>gQ (rfl:Y.length=_) L;have s1':=fun L y=>uU (rfl:Y.length=_) L y;unfold JV.av at e1;cases ce:(e !=0)with
  |true=>
   obtain⟨w,O3,f1,n1,j1,j2,j3,j4⟩:=LH (azs:=[.int .i64 e]) H.fail I1.ok (.cons (.int _ _) .nil) I1.pk (VS _ .nil);refine⟨O3,x,.inr ?_,I1.pick j1 j2 j3 j4,by rw[j2];simp⟩
   rw[aB (he:=rfl)];generalize hk:aH C (aj C) 45 [0,1,4,12,13,14] fD=kk at*;simp only[fD,h,h2,h2n,w2,p2,d2,dr,sl,sn,hv,e1,ce,f1,g1,s1',jl,jf,jt,je,splice,a95,AV.cells,AV.flat,EVX,seval]
  |false=>
   have hm1:aa5 O0.length p vb (o::ms) (Y++[AO.cells [.str s1,.int .i64 a1,.int .i64 b1,.sl rs1.length rs1.flatten] FZ]) i x:=by
    rcases hm with hm|⟨h0,q,rs,y1,y2,y3,y4,y5,y6,y7,y8⟩
    ·exact .inl hm
    ·exact .inr ⟨h0,q,rs,y1,y2,aA y3 _,y4,y5,y6,y7,y8⟩
   obtain⟨S,rs,t1,t2,t3,t4,t5,t6⟩:=anP hm1 ml (by omega) I1.ok
   rw[a04,a09,a90]at t1 t4;simp only[av5]at t1 t4;obtain⟨a0,b0,hs⟩:=I1.s;have hs2:=t5 p _ (.inr (.inl rfl)) hs;have pv:=fun L y=>dV hs2 L y;have gv:=fun L=>aA hs2 L;have pl:=I.pl;have ok3:Ok (S.set p (.cells [.int .i64 a0,.int .i64 b0,.msl (Y.length+1) 0 (i+1) 4] FZ)++[.cells rs.flatten FZ]):=by
    have:=(t6.plus (L:=[.cells rs.flatten FZ]) (by
     rw[a07,show AO.below 0 (.cells rs.flatten FZ)=true from(MRs.nvs (by rfl) t3).cl];rfl)).set2 p (x:=.cells [.int .i64 a0,.int .i64 b0,.msl (Y.length+1) 0 (i+1) 4] FZ) (by
     simp only[AO.below,ai,below,ax3,ax2,decide_eq_true_eq,a04,a09,a90,t4];omega)
    rwa[pv]at this
   have L3:(S.set p (.cells [.int .i64 a0,.int .i64 b0,.msl (Y.length+1) 0 (i+1) 4] FZ)).length=Y.length+1:=by rw[a96,t4]
   have blk:(S.set p (.cells [.int .i64 a0,.int .i64 b0,.msl (Y.length+1) 0 (i+1) 4] FZ)++[.cells rs.flatten FZ]:St)[Y.length+1]?=some (.cells rs.flatten FZ):=by rw[gQ L3];rfl
   have no:Y.length+1∉o::ms:=fun hi=>by have:=I.lt _ hi;omega
   have vl:vb<Y.length:=(a00.mp hv).1;have I3:SI PK O0 o p ms (.msl (Y.length+1) 0 (i+1) 4) (S.set p (.cells [.int .i64 a0,.int .i64 b0,.msl (Y.length+1) 0 (i+1) 4] FZ)++[.cells rs.flatten FZ]):=by
    refine⟨ok3,PK.fr I1.pk fun k hk=>?_,fun k hk=>by rw[a04,L3];have:=I.lt k hk;omega,I.ge,I.np,I.gp,⟨a0,b0,aA (bC hs2 _) _⟩,.inr ⟨_,rs,by rw[t2],blk,by rw[t2];simp only[LS];omega,t3,no,by omega,by omega⟩,fun k y hy=>?_⟩
    ·have hk2:=I1.lt k hk;have e:=a01 hk2;rw[e];exact aA (aI (t5 k _ (.inl hk) e) (fun e'=>I.np (by rw[<-e'];exact hk)) _) _
    ·have:=(a00.mp hy).1;have:=I.gp;exact aA (aI (t5 k _ (.inr (.inr (.inl (by omega)))) (I1.keep k y hy)) (by omega) _) _
   have mi3:aa5 O0.length p vb (o::ms) (S.set p (.cells [.int .i64 a0,.int .i64 b0,.msl (Y.length+1) 0 (i+1) 4] FZ)++[.cells rs.flatten FZ]) (i+1) (.msl (Y.length+1) 0 (i+1) 4):=
    .inr ⟨by omega,_,rs,rfl,t2,blk,t3,no,by omega,by omega,by omega⟩
   obtain⟨Y',x',r1,r2,r3⟩:=ab2 H O0 o p vb ms c0 c1 c2 ns is hle h8 hns hvp hvo hv0 n (i+1) (by omega) _ _ I3 mi3 (by rw[a04,L3];omega) (aA (aI (t5 vb _ (.inr (.inr (.inr rfl))) (aA hv _)) hvp _) _)
   have go:∀r,aH C (aj C) 45 [0,1,4,12,13,14] fD [(0,.ref o 0),(1,.ref p 0),(4,.ref vb 0),(12,.sl ns.length (ns.map .str)),(13,.int .i64 ns.length),(14,.int .i64 (i+1:Nat))] (S.set p (.cells [.int .i64 a0,.int .i64 b0,.msl (Y.length+1) 0 (i+1) 4] FZ)++[.cells rs.flatten FZ])=r->aH C (aj C) 45 [0,1,4,12,13,14] fD [(0,.ref o 0),(1,.ref p 0),(4,.ref vb 0),(12,.sl ns.length (ns.map .str)),(13,.int .i64 ns.length),(14,.int .i64 i)] Y=r:=fun r er=>by
    have xf:x.flat=true:=by
     rcases hm with⟨_,rfl⟩|⟨_,q,_,rfl,_⟩<;>rfl
    rw[aB (he:=rfl)];generalize hk:aH C (aj C) 45 [0,1,4,12,13,14] fD=kk at*;simp only[fD,h,h2,h2n,w2,p2,d2,dr,sl,sn,hv,e1,ce,hs,t1,pv,gv,er,xf,g1,s1',jl,jf,jt,je,splice,a95,AV.cells,AV.flat,EVX,seval]
   refine⟨Y',x',r1.imp (fun e=>go _ e) (fun e=>go _ e),r2,by rw[a04,L3]at r3;omega⟩
def ajI(H:Ce C PK):as4 C PK xy:=by
 intro O0 o p ms Y I hl;obtain⟨v,O2,e1,m1,k1,k2,k3,k4⟩:=LH (azs:=[.str [109,101,116,97],.int .i64 256]) H.obj I.ok (.cons (.str _) (.cons (.int _ _) .nil)) I.pk (UM _ (by simp[LB]) (VS _ .nil))
 have I2:=I.pick k1 k2 k3 k4;obtain⟨j,rfl⟩:=aaP m1;obtain⟨k,n,t,ns,is,h1,h3,h2,h4,rfl⟩:=j.ex;have ca:(JV.mk k n t ns is h1 h3 h2 h4).av=.agg [.int .u8 k,.int .i64 n,.str t,.sl ns.length (ns.map .str),.sl is.length (aN is)]:=by unfold JV.av;rw[JV.mk_cs]
 rw[ca]at e1;have hL:([.cells [.int .u8 k,.int .i64 n,.str t,.sl ns.length (ns.map .str),.sl is.length (aN is)] FZ]:St).all (AO.below (O2.length+1))=true:=by
  have:=aP (au3 (O2.length+1)) _ (JV.bel (JV.mk k n t ns is h1 h3 h2 h4));rw[JV.mk_cs]at this;simp only[a07,aw0,ax3,AO.below];exact this
 have I3:=I2.plus _ hL;have bx:(O2++[AO.cells [.int .u8 k,.int .i64 n,.str t,.sl ns.length (ns.map .str),.sl is.length (aN is)] FZ]:St)[O2.length]?=some (.cells [.int .u8 k,.int .i64 n,.str t,.sl ns.length (ns.map .str),.sl is.length (aN is)] FZ):=by rw[gQ rfl];rfl
 have s1:=fun L y=>uU (rfl:O2.length=_) L y;obtain⟨Y',x',r1,r2,r3⟩:=ab2 H O0 o p O2.length ms _ _ _ ns is h1 h2 h4.ns (by have:=I2.pl;omega) (fun hi=>by have:=I2.lt _ hi;omega) (by omega) ns.length 0 (by omega) .nils _ I3 (.inl ⟨rfl,rfl⟩) (by simp;omega) bx
 simp only[a04,a09,a90]at r3;have hn:=Ih o p Y;rw[H.pMeta.go hn];refine⟨_,x',?_,r2.tidy [] (by omega) I.pl I.lt hl,MC (by omega)⟩
 simp only[Int.natCast_zero,a97]at r1;rcases r1 with r1|r1
 ·simp only[BG,e1,bx,s1,r1,splice,AV.cells,AV.flat,GI,a81,EVX,seval]
 ·simp only[BG,e1,bx,s1,r1,splice,AV.cells,AV.flat,GI,a81,EVX,seval]
def LD:LA:=[.func (.func xA) [] [],.func (.func rZ) [] [],.func (.func rY) [] [],.func (.func xy) [] []]
def aeL(H:Ce C PK)(O:St):aj C Rh [] O=some (.sl 4 LD,O):=by
 rw[H.parts.go (by rfl)]
 have hh:hand false [.xsl 4 LD] O=some ([.sl 4 LD],O):=rfl;simp only[Qk,AV.cells,AV.flat,rep,EVX,seval];rfl
def WT (H:Ce C PK) (O0:St) (o p n2:Nat) (ms:List Nat) (f:FuncId) (i:Nat) (hi:i<4) (R:LA) (hd:LD.drop i=.func (.func f) [] []::R) (Y Y':St) (hp:aj C f [.ref o 0,.ref p 0] (Y++[.cells [.func (.func f) [] []] FZ])=some (bK [],Y')):
  aH C (aj C) 33 [2,4,5,15,16,17] uj [(2,.ref n2 0),(4,.ref o 0),(5,.ref p 0),(15,.sl 4 LD),(16,.int .i64 4),(17,.int .i64 i)] Y=aH C (aj C) 33 [2,4,5,15,16,17] uj [(2,.ref n2 0),(4,.ref o 0),(5,.ref p 0),(15,.sl 4 LD),(16,.int .i64 4),(17,.int .i64 (i+1:Nat))] Y':=by
 have h:((i:Int)<(4:Int)):=by omega
 have w2:=wrS i (by omega)
 have p2:(0:Int)<=(i:Int):=by omega
 have pl:LD.length=4:=rfl;have g1:=fun L=>gQ (rfl:Y.length=_) L;have s1:=fun L y=>uU (rfl:Y.length=_) L y
 conv=>lhs;rw[aB (he:=rfl)]
 generalize hk:aH C (aj C) 33 [2,4,5,15,16,17] uj=kk at*;simp only[uj,h,hi,w2,p2,pl,hd,hp,g1,s1,jZ,splice,a95,AV.cells,AV.flat,EVX,seval]
def adW {O Y:St} {p:Nat} {os:List Nat} {n0:Nat} (hσ:Ok O) (hn0:O.length<=n0) (a b e:Int) (x:AV) (hm:abP n0 p os Y x) (E:As) (h2:look E 2=.ref (O.length+1) 0) (h3:look E 3=.int .i64 e) (hl:Y[O.length+1]?=some (.cells [.int .i64 a,.int .i64 b,x] FZ)) (ht:Y.take O.length=O):
  ∃v,xP O.length [.cell 2 true 3,.tmp 3] (some (.ret,E,Y))=some (v,O)/\M V0 (.tup [.agg [.int .i64,.int .i64,.slx Td],.int .i64]) v:=by
 have m0:∀rs,rs.length<=LS->MRs V0 Td rs->M V0 (.tup [.agg [.int .i64,.int .i64,.slx Td],.int .i64]) (.tup [.agg [.int .i64 a,.int .i64 b,.sl rs.length rs.flatten],.int .i64 e]):=fun rs h1 h2=>
  .tup _ _ (.cons _ _ _ _ (.agg _ _ (.one _ _ _ _ rfl (.int _ _) (.one _ _ _ _ rfl (.int _ _) (.one _ _ _ _ rfl (.slx _ rs h1 h2) .nil)))) (VS e .nil))
 have xf:x.flat=true:=by
  rcases hm with rfl|⟨q,_,rfl,_⟩<;>rfl
 rw[wG];have hr:bg E Y [.cell 2 true 3,.tmp 3]=some [.agg [.int .i64 a,.int .i64 b,x],.int .i64 e]:=by
  simp only[bg,h2,h3,hl,pt,AV.flat,au7,a09,a90,List.take,a07,aw0,xf];rfl
 rw[hr];dsimp only;rcases hm with rfl|⟨q,rs,rfl,e2,e3,e4,e5,e6,e7⟩
 ·have hh:hand false [.agg [.int .i64 a,.int .i64 b,.nils],.int .i64 e] Y=some ([.agg [.int .i64 a,.int .i64 b,.sl 0 []],.int .i64 e],Y):=by
   rw[oK,aO,bz,aO,aO,aO,dI,vX];rfl
  rw[hh];dsimp only;rw[qZ hσ rfl ht];exact⟨_,rfl,m0 [] (by simp) (.nil _)⟩
 ·have nv:=MRs.nvs (by rfl) e4
  have hh:hand false [.agg [.int .i64 a,.int .i64 b,.msl q 0 rs.length 4],.int .i64 e] Y=some ([.agg [.int .i64 a,.int .i64 b,.sl rs.length rs.flatten],.int .i64 e],Y.set q (.cells rs.flatten ⟨true,none⟩)):=by
   rw[oK,aO,bz,aO,aO,aO,Ls e2 (show rs.flatten.length=rs.length*4 from MRs.len e4) nv,vX,<-zt e2];rfl
  rw[hh];dsimp only;rw[qZ hσ (by simp only[ai,below,nv.cl,ax3]) (by rw[dS _ _ _ (by omega),ht])]
  exact⟨_,rfl,m0 rs e3 e4⟩
def agX(H:Ce C PK)(j:JV)(O:St)(hσ:Ok O):∃v,aj C xw [j.av] O=some (v,O)/\M V0 (.tup [.agg [.int .i64,.int .i64,.slx Td],.int .i64]) v:=by
 have hn:hand false [j.av] O=some ([j.av],O):=NVs.hand (.cons j.nv .nil) _;have ok2:Ok (O++[.cells j.cs FZ,.cells [.int .i64 0,.int .i64 0,.nils] FZ]):=hσ.plus (by rw[a07,show AO.below 0 (.cells j.cs FZ)=true from j.bel];rfl)
 obtain⟨vm,m1,m2⟩:=DU H.May (azs:=[j.av]) (.cons j.nv .nil) (.cons _ _ _ _ (.jv j) .nil) ok2;obtain⟨b,rfl⟩:=Lm m2;have jl:=JV.len j;have jf:=JV.flat j;have jt':j.cs.take 5=j.cs:=a08 (by rw[JV.len];exact a06 _)
 have je':5<=j.cs.length:=by rw[JV.len];exact a06 _
 have m0:∀e,M V0 (.tup [.agg [.int .i64,.int .i64,.slx Td],.int .i64]) (.tup [.agg [.int .i64 0,.int .i64 0,.sl 0 []],.int .i64 e]):=fun e=>
  .tup _ _ (.cons _ _ _ _ (.agg _ _ (.one _ _ _ _ rfl (.int _ _) (.one _ _ _ _ rfl (.int _ _) (.one _ _ _ _ rfl (.slx _ [] (by simp) (.nil _)) .nil)))) (VS e .nil))
 cases b with
 |false=>
  have ty:=fun(e:Int)=>bY hσ (vs:=[.agg [.int .i64 0,.int .i64 0,.sl 0 []],.int .i64 e]) rfl;refine⟨_,?_,m0 3⟩;unfold JV.av at*;rw[H.snapOf.go hn];simp only[MJ,m1,jl,jf,jt',je',ty,bg,bz,dI,AV.cells,AV.flat,splice,EVX,seval]
 |true=>
  obtain⟨L,o,ms,f1,f2,f3,f4⟩:=H.of _ [j.av] [j.av] _ ok2 (NVs.hand (.cons j.nv .nil) _) ok2 (.cons _ _ _ _ (.jv j) .nil);generalize hp:O++[AO.cells j.cs FZ,.cells [.int .i64 0,.int .i64 0,.nils] FZ]=O2 at*;have l2:O2.length=O.length+2:=by rw[<-hp];simp
  have lo:(((4:Nat):Int))=4:=rfl;have g0:O2[O.length]?=some (.cells j.cs FZ):=by rw[<-hp,aJ];rfl
  have lT:O2.length<=(O2++L).length:=by simp
  have kT:∀(i:Nat) (y:AO),O2[i]?=some y->(O2++L)[i]?=some y:=fun i y hy=>aA hy _;generalize hT:O2++L=T at*;have I0:SI PK O2 o T.length ms .nils (T++[.cells [.int .i64 0,.int .i64 0,.nils] FZ]):=by
   refine⟨f2.plus rfl,PK.fr f4 fun i hi=>by rw[av4 (f3 i hi).2],fun i hi=>by have:=(f3 i hi).2;rw[a04];omega,fun i hi=>(f3 i hi).1,fun hi=>by have:=(f3 _ hi).2;omega,lT,⟨0,0,by rw[gQ rfl];rfl⟩,.inl rfl,fun i y hy=>aA (kT i y hy) _⟩
  have fb:∀(f:FuncId) (n:Nat),([.cells [.func (.func f) [] []] FZ]:St).all (AO.below n)=true:=fun f n=>rfl;obtain⟨Y1,p1,I1,l1⟩:=ajJ H O2 o _ ms _ (I0.plus _ (fb xA _)) (by rw[a04,a04];omega)
  obtain⟨Y2,p2,I2,k2⟩:=acR H O2 o _ ms _ (I1.plus _ (fb rZ _)) (by simp only[a04,a09,a90]at l1⊢;omega)
  obtain⟨Y3,p3,I3,k3⟩:=acQ H O2 o _ ms _ (I2.plus _ (fb rY _)) (by simp only[a04,a09,a90]at l1 k2⊢;omega)
  obtain⟨Y4,x,p4,I4,k4⟩:=ajI H O2 o _ ms _ (I3.plus _ (fb xy _)) (by simp only[a04,a09,a90]at l1 k2 k3⊢;omega)
  have q1:=WT H O2 o _ (O.length+1) ms _ 0 (by omega) _ rfl _ _ p1
  have q2:=WT H O2 o _ (O.length+1) ms _ 1 (by omega) _ rfl _ _ p2
  have q3:=WT H O2 o _ (O.length+1) ms _ 2 (by omega) _ rfl _ _ p3
  have q4:=WT H O2 o _ (O.length+1) ms _ 3 (by omega) _ rfl _ _ p4
  have q5:aH C (aj C) 33 [2,4,5,15,16,17] uj [(2,.ref (O.length+1) 0),(4,.ref o 0),(5,.ref T.length 0),(15,.sl 4 LD),(16,.int .i64 4),(17,.int .i64 (3+1:Nat))] Y4=some (.exit 0,[(2,.ref (O.length+1) 0),(4,.ref o 0),(5,.ref T.length 0)],Y4):=by
   rw[aB (he:=rfl)];have h:¬((((3+1:Nat):Nat):Int)<(4:Int)):=by omega
   simp only[uj,h,EVX,seval]
  rw[q2]at q1;rw[q3]at q1;rw[q4,q5]at q1;obtain⟨w,O3,d1,d2,j1,j2,j3,j4⟩:=LH (azs:=[]) H.done I4.ok .nil I4.pk .nil;obtain⟨e,rfl⟩:=OL d2;have I5:=I4.pick j1 j2 j3 j4;obtain⟨a,b,hs⟩:=I5.s;have hres:O3[O.length+1]?=some (.cells [.int .i64 0,.int .i64 0,.nils] FZ):=I5.keep _ _ (by rw[<-hp,bI];rfl)
  have hpre:O3.take O.length=O:=by
   apply aw7;intro i;rw[au8];split
   ·rename_i hi;have h1:O2[i]?=some O[i]:=by rw[<-hp];exact aA (a01 hi) _
    rw[I5.keep i _ h1,a01 hi]
   ·rw[aw8 (by omega)]
  have pt2:∀y:AO,(O3.set (O.length+1) y).take O.length=O:=fun y=>by rw[dS _ _ _ (by omega),hpre]
  have sr:=fun y=>bC hres y;unfold JV.av at*;rw[H.snapOf.go hn];simp only[Int.natCast_zero,a97]at q1;cases ce:(e !=0)with
  |true=>
   obtain⟨v,v1,v2⟩:=adW (n0:=O2.length) (p:=0) (os:=[]) (Y:=O3.set (O.length+1) (.cells [.int .i64 0,.int .i64 0,.nils] FZ)) hσ (by omega) 0 0 e .nils (.inl rfl) [(2,.ref (O.length+1) 0),(3,.int .i64 e)] rfl rfl (sr _) (pt2 _)
   refine⟨v,?_,v2⟩;rw[<-v1];simp only[MJ,m1,f1,aeL H,q1,d1,ce,hres,g0,gQ,uU,jl,jf,jt',je',hp,AV.cells,AV.flat,splice,EVX,seval]
  |false=>
   have e0:e=0:=by simpa using ce
   have mf:x.flat=true:=by
    rcases I5.meta_ with rfl|⟨q,_,rfl,_⟩<;>rfl
   have m5:abP O2.length T.length (o::ms) (O3.set (O.length+1) (.cells [.int .i64 a,.int .i64 b,x] FZ)) x:=by
    rcases I5.meta_ with hm|⟨q,rs,y1,y2,y3,y4,y5,y6,y7⟩
    ·exact .inl hm
    ·exact .inr ⟨q,rs,y1,aI y2 (by omega) _,y3,y4,y5,y6,y7⟩
   obtain⟨v,v1,v2⟩:=adW (Y:=O3.set (O.length+1) (.cells [.int .i64 a,.int .i64 b,x] FZ)) hσ (by omega) a b 0 x m5 [(2,.ref (O.length+1) 0),(3,.int .i64 0)] rfl rfl (sr _) (pt2 _)
   refine⟨v,?_,v2⟩;rw[<-v1];clear v1 v2 m5;rcases I5.meta_ with hx|⟨q,rs,hx,_⟩<;>subst hx<;>simp only[MJ,m1,f1,aeL H,q1,d1,ce,hres,hs,g0,gQ,uU,jl,jf,jt',je',hp,AV.cells,AV.flat,splice,EVX,seval]
def aiO {tg:Option (TypeId×Bool)} (O:St) (k:Nat) (acc cs:LU) (m:Nat) (hm:cs.length=m) (h0:0<m) (hl:acc.length+m<=70368744177664):
  tY (pile O k (.cells (ofBytes acc) FZ)) 1 1 tg (.msl (O.length+k) 0 acc.length 1) m (ofBytes cs)=some (.msl (O.length+(k+1)) 0 (acc++cs).length 1,pile O (k+1) (.cells (ofBytes (acc++cs)) FZ)):=by
 have hm0:¬m=0:=by omega
 have ht:(if none=tg then tg else none)=none:=by split<;>simp_all
 unfold tY;rw[if_neg hm0];simp only[LG];rw[if_pos ⟨trivial,by rw[aK];omega,by omega,hl⟩,aeM,VC,Lt,a04,hm,ht]
def aic{O:St}(h:Ok O)(k:Nat)(acc:LU)(fz:Fz):Ok (pile O k (.cells (ofBytes acc) fz)):=by
 unfold pile;refine h.app ?_;rw[aE0,a02];refine⟨?_,by simp[AO.below,kU]⟩
 rw[a94];intro x hx;obtain⟨_,rfl⟩:=List.mem_replicate.mp hx;rfl
def apb(v:Int):∃b:UInt8,IntKind.u8.wrap v=(b.toNat:Int):=by
 have h:0<=IntKind.u8.wrap v/\IntKind.u8.wrap v<256:=by rw[IntKind.wrap_u8];omega
 refine⟨UInt8.ofNat (IntKind.u8.wrap v).toNat,?_⟩;simp only[UInt8.toNat_ofNat'];omega
structure Xa(C:Ctx)(PK:PkI):Prop where
 decode:Has C Eo Eg
 is:iF C PK KT (.pure [.strb] .bool)
 digit:iF C PK ny (.pure [.strb,.int .i64] (.tup [.int .i64,.bool]))
def adO(H:Xa C PK)(s:LU)(hs:s.length<=LB)(i:Int){O:St}(hσ:Ok O):∃(d:Int) (b:Bool),aj C ny [.str s,.int .i64 i] O=some (.tup [.int .i64 d,.bool b],O):=by
 obtain⟨v,h1,h2⟩:=DU H.digit (.cons (.str s) (.cons (.int .i64 i) .nil)) (.cons _ _ _ _ (.strb s hs) (.cons _ _ _ _ (.int _ _) .nil)) hσ;obtain⟨w,rfl,hw⟩:=aln h2;obtain⟨x,y,rfl,hx,hy⟩:=ajm hw;obtain⟨d,rfl⟩:=OL hx;obtain⟨b,rfl⟩:=Lm hy;exact⟨d,b,h1⟩
def Vk (H:Xa C PK) (s:LU) (hs:s.length<=LB) (O:St) (hσ:Ok O):∀(n i k:Nat) (acc:LU),i+2*n=s.length->acc.length+n<=s.length->
  ∃(k':Nat) (acc':LU),aH C (aj C) 50 [0,4,5] sH [(0,.str s),(4,.msl (O.length+k) 0 acc.length 1),(5,.int .i64 i)] (pile O k (.cells (ofBytes acc) FZ))=
   some (.exit 0,[(4,.msl (O.length+k') 0 acc'.length 1)],pile O k' (.cells (ofBytes acc') FZ))/\acc'.length<=s.length
 |0,i,k,acc,hi,ha=>by
  refine⟨k,acc,?_,by omega⟩
  rw[aB (he:=rfl)];have h:¬((i:Int)<(s.length:Int)):=by omega
  simp only[sH,h,aY,EVX,seval]
 |n+1,i,k,acc,hi,ha=>by
  have hs':=hs;simp only[LB]at hs';have h:((i:Int)<(s.length:Int)):=by omega
  have hw1:=wrS i (by omega)
  have hw2:IntKind.i64.wrap ((i:Int)+2)=((i+2:Nat):Int):=wrE (by omega)
  obtain⟨d1,b1,e1⟩:=adO H s hs (i:Int) (aic hσ k acc FZ);obtain⟨d2,b2,e2⟩:=adO H s hs ((i+1:Nat):Int) (aic hσ k acc FZ);have n4:¬((4:Int)<0):=by decide
  obtain⟨v,hv⟩:∃v,v=(BitVec.ofInt IntKind.i64.bits (IntKind.i64.wrap (d1*2^(min (4:Nat) IntKind.i64.bits)))|||BitVec.ofInt IntKind.i64.bits d2).toNat:=⟨_,rfl⟩;obtain⟨b,hb⟩:=apb (IntKind.i64.wrap (v:Int));have happ:∀tg,tY (pile O k (.cells (ofBytes acc) FZ)) 1 1 tg (.msl (O.length+k) 0 acc.length 1) 1 [.int .u8 b.toNat]=some (.msl (O.length+(k+1)) 0 (acc++[b]).length 1,pile O (k+1) (.cells (ofBytes (acc++[b])) FZ)):=fun tg=>aiO O k acc [b] 1 rfl (by omega) (by omega)
  obtain⟨k',acc',ih,hl⟩:=Vk H s hs O hσ n (i+2) (k+1) (acc++[b]) (by omega) (by simp;omega)
  refine⟨k',acc',?_,hl⟩;rw[aB (he:=rfl)];generalize hk:aH C (aj C) 50 [0,4,5] sH=rest at*;simp only[sH,h,hw1,hw2,e1,e2,n4,<-hv,hb,happ,ih,aY,splice,EVX,seval]
def hex_Decode(H:Xa C PK)(s:LU)(hs:s.length<=LB)(O:St)(hσ:Ok O):∃(t:LU) (e:Int),aj C Eo [.str s] O=some (.tup [.str t,.int .i64 e],O)/\t.length<=LB:=by
 rw[H.decode.go (NVs.hand (.cons (.str _) .nil) _)];have hs':=hs;simp only[LB]at hs';obtain⟨v,h1,h2⟩:=DU H.is (.cons (.str s) .nil) (.cons _ _ _ _ (.strb s hs) .nil) hσ;obtain⟨b,rfl⟩:=Lm h2;cases b with
 |false=>exact⟨[],3,by simp only[Eg,h1,bu,EVX,seval],by simp[LB]⟩
 |true=>
  have n2:¬((2:Int)=0):=by decide
  cases hr:((s.length:Int).tmod 2 !=0)with
  |true=>exact⟨[],4,by simp only[Eg,h1,n2,hr,bu,EVX,seval],by simp[LB]⟩
  |false=>
   have hr':(s.length:Int).tmod 2=0:=by simpa using hr
   rw[aD2 (by omega)]at hr'
   obtain⟨k',acc',lp,hl⟩:=Vk H s hs O hσ (s.length/2) 0 0 [] (by omega) (by simp;omega)
   simp only[a90,aD6,a97]at lp;have hw:IntKind.i64.wrap ((s.length:Int).tdiv 2)=((s.length/2:Nat):Int):=by
    have:(s.length:Int).tdiv 2=((s.length/2:Nat):Int):=by rw[Int.tdiv_eq_ediv_of_nonneg (by omega)];omega
    rw[this,w64]<;>omega
   have c1:(0:Int)<=((s.length/2:Nat):Int):=by omega
   have c2:((s.length/2:Nat):Int)<=9223372036854775807:=by omega
   have c3:((s.length/2:Nat):Int)<=140737488355328:=by omega
   have c0:(0:Int)<=0:=by decide
   have hp:O++[AO.cells [] FZ]=pile O 0 (.cells (ofBytes []) FZ):=rfl;have hb:=wF acc';have ht:(ofBytes acc').take acc'.length=ofBytes acc':=a08 (by rw[aK];omega)
   have hy:tidy O.length [.str acc',.int .i64 0] (pile O k' (.cells (ofBytes acc') FZ))=O:=abA hσ rfl _ _;refine⟨acc',0,?_,by omega⟩
   simp only[Eg,h1,n2,hr,hw,c0,c1,c2,c3,hp,lp,hb,ht,hy,LG,aK,aB1,Int.one_mul,av7,au7,av5,and_self,EVX,seval]
def Z5(H:Xa C PK):iF C PK Eo (.pure [.strb] (.tup [.strb,.int .i64])):=
 xG H.decode rfl fun azs hm=>by
  obtain⟨x,rfl,h1⟩:=ZW hm;obtain⟨a,rfl,ha⟩:=zu h1;intro O hσ;obtain⟨t,e,h,ht⟩:=hex_Decode H a ha O hσ;exact⟨_,h,.tup _ _ (.cons _ _ _ _ (.strb t ht) (.cons _ _ _ _ (.int _ _) .nil))⟩
def ad8(H:ML C)(hC:Has C jc uh):iF C PK jc (.pure [.strb] (.tup [.jv,.int .i64,.int .i64])):=
 xG hC rfl fun azs hm=>by
  obtain⟨x,rfl,h1⟩:=ZW hm;obtain⟨a,rfl,ha⟩:=zu h1;intro O hσ;obtain⟨j,p,e,h⟩:=ajO H hC a O hσ;exact⟨_,h,.tup _ _ (.cons _ _ _ _ (.jv j) (.cons _ _ _ _ (.int _ _) (.cons _ _ _ _ (.int _ _) .nil)))⟩
def ada(H:IR C PK):iF C PK Du (.pure [.jv] .bool):=
 xG H.May rfl fun azs hm=>by
  obtain⟨x,rfl,h1⟩:=ZW hm;obtain⟨j,rfl⟩:=aaP h1;intro O hσ;obtain⟨b,h,_⟩:=TJ H j O hσ;exact⟨_,h,.bool b⟩
def Z8(H:CopyHas C):iF C PK Es (.pure [.jv] .jv):=
 xG H.copy rfl fun azs hm=>by
  obtain⟨x,rfl,h1⟩:=ZW hm;obtain⟨j,rfl⟩:=aaP h1;intro O hσ;exact⟨_,Qg H j O hσ,.jv j⟩
def ad9(H:CopyHas C)(F:Wu C)(hC:Has C Dt zJ):iF C PK Dt (.pure [.jv,.strb] (.tup [.jv,.bool])):=
 xG hC rfl fun azs hm=>by
  obtain⟨x,y,rfl,h1,h2⟩:=ajm hm;obtain⟨j,rfl⟩:=aaP h1;obtain⟨s,rfl,_⟩:=zu h2;intro O hσ;obtain⟨j',b,h⟩:=ak5 H F hC j s O hσ;exact⟨_,h,.tup _ _ (.cons _ _ _ _ (.jv j') (.cons _ _ _ _ (.bool b) .nil))⟩
def Wh(H:O7 C)(V:IR C PK)(hC:Has C jk Af):iF C PK jk (.pure [.jv] (.tup [.strb,.int .i64])):=
 xG hC rfl fun azs hm=>by
  obtain⟨x,rfl,h1⟩:=ZW hm;obtain⟨j,rfl⟩:=aaP h1;intro O hσ;obtain⟨s,e,h,hl⟩:=VY H V j O hσ;exact⟨_,h,.tup _ _ (.cons _ _ _ _ (.strb s hl) (.cons _ _ _ _ (.int _ _) .nil))⟩
def aff(H:abS C)(hC:Has C vw yO):iF C PK vw (.pure [.slc 2 [.strb,.jv,.strb,.jv]] (.tup [.jv,.int .i64])):=
 xG hC rfl fun azs hm=>by
  obtain⟨x,rfl,h1⟩:=ZW hm;obtain⟨l,rfl,h2⟩:=alk h1;intro O hσ;cases h2 with
  |one _ _ v1 b1 _ x1 y1=>
   obtain⟨s1,rfl,l1⟩:=zu x1;cases y1 with
   |one _ _ _ _ h _ _=>exact absurd h (by decide)
   |jv _ j1 b2 y2=>
    cases y2 with
    |one _ _ v3 b3 _ x3 y3=>
     obtain⟨s2,rfl,l2⟩:=zu x3;cases y3 with
     |one _ _ _ _ h _ _=>exact absurd h (by decide)
     |jv _ j2 b4 y4=>
      cases y4;obtain⟨j,e,h⟩:=aeD H [(⟨s1,l1⟩,j1),(⟨s2,l2⟩,j2)] (by simp) (by simp) O hσ
      have e1:mM [(⟨s1,l1⟩,j1),(⟨s2,l2⟩,j2)]=.str s1::(j1.cs++.str s2::(j2.cs++[])):=by simp[mM,elC]
      rw[e1]at h;exact⟨_,h,.tup _ _ (.cons _ _ _ _ (.jv j) (.cons _ _ _ _ (.int _ _) .nil))⟩
variable{V:Val}
def agW(H:Ce C PK):iF C PK xw (.pure [.jv] (.tup [.agg [.int .i64,.int .i64,.slx Td],.int .i64])):=
 xG H.snapOf rfl fun azs hm=>by
  obtain⟨x,rfl,h1⟩:=ZW hm;obtain⟨j,rfl⟩:=aaP h1;intro O hσ;obtain⟨v,h,k⟩:=agX H j O hσ;exact⟨v,h,k⟩
def aqK{v:AV}(h:M V (.tup [.strb,.bool]) v):∃s b,v=.tup [.str s,.bool b]:=by
 cases h with
 |tup _ _ h=>
  cases h with
  |cons _ _ x b h1 h2=>
   cases h2 with
   |cons _ _ y b h3 h4=>
    cases h4;cases h1;cases h3;exact⟨_,_,rfl⟩
def apS{D:Ctx}{PK:PkI}{f:FuncId}{l args:List Sh}(h:iF D PK f (.ro l args .bool))(hc:cls args=true){cs:LA}{fz:Fz}(hcs:Ms V0 l cs)(hb:ai 0 cs=true){azs:LA}(hm:Mt V0 args azs):∃b:Bool,∀(O:St) (o:Nat),O[o]?=some (.cells cs fz)->pRo D f (.ref o 0::azs) O=some (.bool b,O):=by
 have hn:=Mt.nvs hm hc;have ok1:Ok [AO.cells cs fz]:=by
  have:Ok ([]++[AO.cells cs fz]):=agx.plus (by
   have:AO.below 0 (.cells cs fz)=true:=hb;rw[a07,this];rfl)
  exact this
 have hh:∀(Y:St) (o:Nat),hand false (.ref o 0::azs) Y=some (.ref o 0::azs,Y):=fun Y o=>by
  show(match dE Y 12 (.ref o 0::azs)with|some (l,fs)=>some (l,freeze Y fs)|none=>none)=_
  rw[show dE Y 12 (.ref o 0::azs)=(match bF Y (dE Y 11) (.ref o 0),aV Y (dE Y 11) azs with|some (v,fs),some (l,gs)=>some (v::l,fs++gs)|_,_=>none)from rfl,hn.nf,show bF Y (dE Y 11) (.ref o 0)=some (.ref o 0,[])from rfl]
  rfl
 obtain⟨v,e,hv⟩:=h [.cells cs fz] 0 azs azs [.cells cs fz] cs fz ok1 (hh _ 0) ok1 rfl hcs hm;obtain⟨b,rfl⟩:=asu hv;refine⟨b,fun O o ho=>?_⟩;simp only[pRo,hh,ho,hn.cl,hb,e,and_self,if_true,below]
end Go.Ev
namespace Go.Ev
set_option maxRecDepth 100000
variable{C:Ctx}{V:Val}
structure kC.ok(r:kC):Prop where
 ks:Bh r.ks
 rt:zG r.rt.ids
 sn:zG r.sn.ids
 tg:zG r.tg.ids
def agf(r:LA)(h:Ms V [.strb] r):∃s,r=sC s/\s.length<=LB:=by
 obtain⟨s,b,rfl,h0,h1⟩:=CJ h;rw[FO h1];exact⟨s,rfl,h0⟩
def alv{v:AV}(h:M V (.agg [.int .i64,.int .i64,.slx [.strb,.strb],.int .i64,.slx [.strb],.int .i64,.slx [.strb],.int .i64,.slx [.strb]]) v):∃r:kC,v=.agg r.cs/\r.ok:=by
 cases h with
 |agg _ v h=>
  obtain⟨a,b,rfl,h1⟩:=zx h;obtain⟨e,b,rfl,h2⟩:=zx h1;obtain⟨k,b,rfl,l1,q1,h3⟩:=zy alu h2;obtain⟨t1,b,rfl,h4⟩:=zx h3;obtain⟨i1,b,rfl,l2,q2,h5⟩:=zy agf h4;obtain⟨t2,b,rfl,h6⟩:=zx h5;obtain⟨i2,b,rfl,l3,q3,h7⟩:=zy agf h6;obtain⟨t3,b,rfl,h8⟩:=zx h7;obtain⟨i3,b,rfl,l4,q4,h9⟩:=zy agf h8;rw[FO h9];exact⟨⟨a,e,k,⟨t1,i1⟩,⟨t2,i2⟩,⟨t3,i3⟩⟩,rfl,⟨l1,q1⟩,⟨l2,q2⟩,⟨l3,q3⟩,⟨l4,q4⟩⟩
def afs:kC:=⟨0,0,[],⟨0,[]⟩,⟨0,[]⟩,⟨0,[]⟩⟩
def V9(R:kC)(e:Int):kC:=if e=0 then R else afs
structure RootHas(C:Ctx):Prop extends ChkTot C where
 root:Has C wZ Ah
 srd:∀data:LU,data.length<=LB->∃(r:AV) (e:Int),M V0 adY r/\∀Y,aj C Dp [.str data] Y=some (.tup [r,.int .i64 e],Y)
 rof:∀j:JV,∃(r:kC) (e:Int),r.ok/\∀Y,aj C Ic [j.av] Y=some (.tup [.agg r.cs,.int .i64 e],Y)
def ZT (H:RootHas C) (h:Bool) (l:List iy) (b1:wO l=false) (data:LU) (b4:data.length<=LB):
  ∃(R:kC) (e:Int),R.ok/\∀(O:St) (o:Nat),Ok O->O[o]?=some (FY h l)->aj C wZ [.ref o 0,.str data] O=some (.tup [.agg (V9 R e).cs,.int .i64 e],O):=by
 obtain⟨r,e1,mr,q1⟩:=H.srd data b4;obtain⟨k,ps,rfl,lp⟩:=acD mr;obtain⟨R,e2,rok,q2⟩:=H.rof k;obtain⟨en,q3⟩:=H.enough h l _ R.rt.th R.rt.ids R.ks b1 rok.rt rok.ks mr;obtain⟨r0,r1,r2,r3,r4,ke,⟨⟨f0,g0,n0⟩,z0⟩,⟨⟨f1,g1,n1⟩,z1⟩,⟨⟨f2,g2,n2⟩,z2⟩,⟨⟨f3,g3,n3⟩,z3⟩,⟨⟨f4,g4,n4⟩,z4⟩⟩:=k.ones;unfold JV.av at q2;rw[ke]at q1 q2 q3;simp only[a81,a99]at q1 q3;have hn:∀(o:Nat) (Y:St),hand false [.ref o 0,.str data] Y=some ([.ref o 0,.str data],Y):=fun _ _=>rfl;have psb:below 0 (.sl ps.length (ps.flatMap pC))=true:=(vJ ps).cl;have pe:AO.below 0 (.cells [r0,r1,r2,r3,r4,.sl ps.length (ps.flatMap pC)] FZ)=true:=by simp only[AO.below,ai,z0,z1,z2,z3,z4,psb,av6]
 have pr:AO.below 0 (.cells R.cs FZ)=true:=R.nvs.cl;have zn:AO.below 0 (.cells [.int .i64 0,.int .i64 0,.nils,.int .i64 0,.nils,.int .i64 0,.nils,.int .i64 0,.nils] FZ)=true:=rfl;have Rc:=R.cs_is;have zc:V9 R (-1)=afs:=if_neg (by decide)
 have refuse:∀(O:St) (e:Int) (L:St) (E:As),Ok O->look E 4=.ref O.length 0->look E 5=.int .i64 e->(∃L',L=.cells [.int .i64 0,.int .i64 0,.nils,.int .i64 0,.nils,.int .i64 0,.nils,.int .i64 0,.nils] FZ::L')->xP O.length [.cell 4 true 9,.tmp 5] (some (.ret,E,O++L))=some (.tup [.agg afs.cs,.int .i64 e],O):=by
  intro O e L E hσ h4 h5 hL;obtain⟨L',rfl⟩:=hL;have res:bg E (O++.cells [.int .i64 0,.int .i64 0,.nils,.int .i64 0,.nils,.int .i64 0,.nils,.int .i64 0,.nils] FZ::L') [.cell 4 true 9,.tmp 5]=some [.agg [.int .i64 0,.int .i64 0,.nils,.int .i64 0,.nils,.int .i64 0,.nils,.int .i64 0,.nils],.int .i64 e]:=by
   simp only[bg,h4,h5,aJ,EVX,seval]
  have hh:hand false [.agg [.int .i64 0,.int .i64 0,.nils,.int .i64 0,.nils,.int .i64 0,.nils,.int .i64 0,.nils],.int .i64 e] (O++.cells [.int .i64 0,.int .i64 0,.nils,.int .i64 0,.nils,.int .i64 0,.nils,.int .i64 0,.nils] FZ::L')=some ([.agg afs.cs,.int .i64 e],O++.cells [.int .i64 0,.int .i64 0,.nils,.int .i64 0,.nils,.int .i64 0,.nils,.int .i64 0,.nils] FZ::L'):=rfl;rw[Gv res hh,bY hσ rfl];rfl
 by_cases c1:e1=0
 case neg=>
  have c1':(e1 !=0)=true:=by simpa using c1
  refine⟨R,e1,rok,fun O o hσ ho=>?_⟩;rw[H.root.go (hn o O),V9,if_neg c1];generalize hK:xP=eR;simp only[Ah,q1,c1',f0,f1,f2,f3,f4,splice,aJ,bI,wU,EVX,seval];rw[<-hK];exact refuse _ _ _ _ hσ rfl rfl ⟨_,rfl⟩
 subst c1;by_cases c2:e2=0
 case neg=>
  have c2':(e2 !=0)=true:=by simpa using c2
  refine⟨R,e2,rok,fun O o hσ ho=>?_⟩;rw[H.root.go (hn o O),V9,if_neg c2];rw[Rc]at q2;generalize hK:xP=eR;simp only[Ah,q1,q2,c2',f0,f1,f2,f3,f4,splice,aJ,bI,wU,EVX,seval];rw[<-hK];exact refuse _ _ _ _ hσ rfl rfl ⟨_,rfl⟩
 subst c2;rw[Rc]at q2;rw[show aC R.rt.th R.rt.ids=[.int .i64 R.rt.th,.sl R.rt.ids.length (R.rt.ids.flatMap sC)]from rfl]at q3;cases en with
 |false=>
  refine⟨R,4,rok,fun O o hσ ho=>?_⟩;rw[H.root.go (hn o O),V9,if_neg (by decide)]
  have q4:=fun L=>q3 (O++L) o (aA ho L);generalize hK:xP=eR;simp only[Ah,q1,q2,q4,f0,f1,f2,f3,f4,splice,aJ,bI,wU,EVX,seval];rw[<-hK];exact refuse _ _ _ _ hσ rfl rfl ⟨_,rfl⟩
 |true=>
  refine⟨R,0,rok,fun O o hσ ho=>?_⟩;rw[H.root.go (hn o O),V9,if_pos rfl];have q4:=fun L=>q3 (O++L) o (aA ho L);have ty:=fun L=>bY hσ (vs:=[.agg R.cs,.int .i64 0]) (by rw[ai,below,R.nvs.cl];rfl) L
  have rn:NVs [.agg R.cs,.int .i64 0]:=.cons (.agg R.nvs) (.cons (.int _ _) .nil);generalize hK:xP=eR;simp only[Ah,q1,q2,q4,f0,f1,f2,f3,f4,splice,aJ,bI,wU,EVX,seval];rw[<-hK];refine(Np (vs:=[.agg R.cs,.int .i64 0]) ?_ rn).trans (by rw[ty];rfl)
  rw[Rc];simp only[bg,aJ,EVX,seval]
end Go.Ev
namespace Go.Ev
set_option maxRecDepth 100000
variable{C:Ctx}
structure cO where
 name:LU
 cap:Int
 size:Int
 data:LU
def cO.res(f:cO):LA:=[.int .i64 f.cap,.int .i64 f.size,.str f.data]
def cO.ent(f:cO):AV×AV:=(.str f.name,.agg f.res)
def ae4(file:LU)(cap:Int):Option PS->cO
 |some p=>if cap<p.2.length then⟨file,cap,-2,[]⟩else⟨file,cap,p.2.length,p.2⟩
 |none=>⟨file,cap,-1,[]⟩
def Hw(fs:List PS)(file:LU)(cap:Int):cO:=ae4 file cap (fs.find? fun p=>decide (p.1=file))
def DJ(Y:St)(fv:AV)(fs:List PS)(fo:Option Nat):Prop:=(fs=[]/\fo=none/\fv=.xsl 0 [])\/∃q fz,fo=some q/\fs≠[]/\fv=.msl q 0 fs.length 2/\Y[q]?=some (.cells (fs.flatMap pC) fz)
def TV{α:Type}(Y:St)(v:AV)(sz:Nat)(c:α->LA)(xs:List α)(oo:Option Nat):Prop:=(xs=[]/\oo=none/\v=.nils)\/∃q,oo=some q/\xs≠[]/\v=.msl q 0 xs.length sz/\Y[q]?=some (.cells (xs.flatMap c) FZ)
def adt(Y:St)(ov:AV)(F:List cO)(oo:Option Nat):Prop:=TV Y ov 1 (fun f=>[.str f.name]) F oo
def DJ.plus{Y:St}{fv:AV}{fs:List PS}{fo:Option Nat}(h:DJ Y fv fs fo)(L:St):DJ (Y++L) fv fs fo:=by
 rcases h with h|⟨q,fz,a,b,c,d⟩
 ·exact .inl h
 ·exact .inr ⟨q,fz,a,b,c,aA d L⟩
def ag0 (Y:St) (fv:AV) (fs:List PS) (fo:Option Nat) (hf:DJ Y fv fs fo) (hl:fs.length<=1000) (file:LU) (cap:Int):∀(n i:Nat) (G:St),i+n=fs.length->
  ∃G',aH C (aj C) 39 [1,2,6,12,13,14] fG [(1,.str file),(2,.int .i64 cap),(6,.ref Y.length 0),(12,fv),(13,.int .i64 fs.length),(14,.int .i64 i)] (Y++([.cells [.int .i64 0,.int .i64 0,.str []] FZ]++G))=
   some (match(fs.drop i).find? (fun p=>decide (p.1=file))with
    |some p=>(.ret,[(6,.ref Y.length 0)],Y++([.cells (ae4 file cap (some p)).res FZ]++G'))
    |none=>(.exit 0,[(2,.int .i64 cap),(6,.ref Y.length 0)],Y++([.cells [.int .i64 0,.int .i64 0,.str []] FZ]++G'))):=by
 intro n
 induction n with
 |zero=>
  intro i G hi;refine⟨G,?_⟩;rw[aB (he:=rfl),au5 (by omega)]
  have h:¬((i:Int)<(fs.length:Int)):=by omega
  simp only[fG,h,List.find?_nil,EVX,seval]
 |succ n ih=>
  intro i G hi;rcases hf with⟨rfl,_,_⟩|⟨q,fz,e1,e2,rfl,fq⟩
  ·simp at hi
  have hlt:i<fs.length:=by omega
  have fa:=fB tJ (a01 hlt);have dr:fs.drop i=fs[i]::fs.drop (i+1):=au1 hlt;rw[dr];generalize fs[i]=p at*;rw[show pC p=[.str p.1,.str p.2]from rfl]at fa;simp only[a81,a99]at fa;obtain⟨G',ih⟩:=ih (i+1) (G++[.cells [.str p.1,.str p.2] FZ]) (by omega)
  have h:((i:Int)<(fs.length:Int)):=by omega
  have h3:(0:Int)<=i:=by omega
  have hw:=wrS i (by omega)
  have g6:(Y++([.cells [.int .i64 0,.int .i64 0,.str []] FZ]++G))[Y.length]?=some (.cells [.int .i64 0,.int .i64 0,.str []] FZ):=by rw[aJ];rfl
  have gs:∀y:AO,(Y++([AO.cells [.int .i64 0,.int .i64 0,.str []] FZ]++G)).set Y.length y=Y++([y]++G):=fun y=>by rw[iJ];rfl
  have as1:Y++([.cells [.int .i64 0,.int .i64 0,.str []] FZ]++(G++[.cells [.str p.1,.str p.2] FZ]))=(Y++([.cells [.int .i64 0,.int .i64 0,.str []] FZ]++G))++[.cells [.str p.1,.str p.2] FZ]:=by simp
  have fT:=aA fq ([.cells [.int .i64 0,.int .i64 0,.str []] FZ]++G);rw[as1]at ih;rw[aB (he:=rfl)];generalize hk:aH C (aj C) 39 [1,2,6,12,13,14] fG=k at*;generalize hT:Y++([.cells [.int .i64 0,.int .i64 0,.str []] FZ]++G)=T at*;have g7:=fun L=>aA g6 L;have sp:=fun L y=>dV g6 L y;by_cases c:p.1=file
  ·subst c;rw[List.find?_cons_of_pos (by simp)]
   refine⟨G++[.cells [.str p.1,.str p.2] FZ],?_⟩;by_cases c1:cap<(p.2.length:Int)
   ·simp only[fG,h,h3,hlt,fa,fT,g7,sp,c1,aY,aJ,AV.cells,AV.flat,splice,EVX,seval];rw[gs];simp[ae4,c1,cO.res]
   ·simp only[fG,h,h3,hlt,fa,fT,g7,sp,c1,aY,aJ,AV.cells,AV.flat,splice,EVX,seval];rw[gs];simp[ae4,c1,cO.res]
  ·rw[List.find?_cons_of_neg (by simpa using c)]
   refine⟨G',?_⟩;rw[<-ih];simp only[fG,h,h3,hw,hlt,fa,fT,c,aJ,AV.cells,AV.flat,splice,EVX,seval]
def Zn (hC:Has C xX rU) (Y:St) (hτ:Ok Y) (s:Nat) (nm:AV) (m ov:AV) (fv:AV) (fs:List PS) (fo:Option Nat) (hs:Y[s]?=some (.cells [nm,fv,m,ov] FZ)) (hf:DJ Y fv fs fo) (hl:fs.length<=1000) (file:LU) (cap:Int):
  aj C xX [.ref s 0,.str file,.int .i64 cap] Y=some (.agg (Hw fs file cap).res,Y):=by
 have hn:hand false [.ref s 0,.str file,.int .i64 cap] Y=some ([.ref s 0,.str file,.int .i64 cap],Y):=rfl;rw[hC.go hn];obtain⟨G',lp⟩:=ag0 (C:=C) Y fv fs fo hf hl file cap fs.length 0 [] (by omega)
 rw[show((0:Nat):Int)=0 from rfl,au7,au6]at lp;have hs2:=fun L=>aA hs L;have hln:aY (Y++[.cells [.int .i64 0,.int .i64 0,.str []] FZ]) 1 fv=some fs.length:=by
  rcases hf with⟨rfl,_,rfl⟩|⟨q,fz,e1,e2,rfl,fq⟩<;>rfl
 have ty:=fun(a b:Int) (c:LU)=>bY hτ (vs:=[.agg [.int .i64 a,.int .i64 b,.str c]]) rfl;unfold Hw;cases hfd:fs.find? (fun p=>decide (p.1=file))with
 |some p=>
  rw[hfd]at lp;unfold cO.res at lp⊢;simp only[a81,a99]at lp;simp only[rU,hs2,hln,lp,ty,bg,bz,aJ,EVX,seval]
 |none=>
  rw[hfd]at lp;have g6:=fun L:St=>aJ Y (.cells [.int .i64 0,.int .i64 0,.str []] FZ::L);have gs:=fun(L:St) (y:AO)=>iJ Y (.cells [.int .i64 0,.int .i64 0,.str []] FZ::L) y;simp only[ae4,cO.res,a81,a99]at lp⊢;simp only[rU,hs2,hln,lp,ty,bg,bz,aJ,g6,gs,AV.cells,AV.flat,splice,EVX,seval]
def Nv(n:LU):∀(F:List cO) (i:Nat),(∀f,F.find? (fun f=>decide (f.name=n))=some f->∃k,pR (.str n) (F.map cO.ent) i=some (some (k,.agg f.res)))/\(F.find? (fun f=>decide (f.name=n))=none->pR (.str n) (F.map cO.ent) i=some none)
 |[],i=>⟨fun f h=>(by cases h),fun _=>rfl⟩
 |g::F,i=>by
  obtain⟨h1,h2⟩:=Nv n F (i+1);have hk:pR (.str n) ((g::F).map cO.ent) i=match decide (n=g.name)with
   |true=>some (some (i,.agg g.res))
   |false=>pR (.str n) (F.map cO.ent) (i+1):=by
   rw[av9,cO.ent,pR,aaS,mg];cases decide (n=g.name)<;>rfl
  rw[hk];by_cases c:g.name=n
  ·have c':n=g.name:=c.symm;rw[List.find?_cons_of_pos (by simpa using c)]
   simp only[c',decide_true];exact⟨fun f h=>(by cases h;exact⟨i,rfl⟩),fun h=>(by cases h)⟩
  ·have c':¬n=g.name:=fun e=>c e.symm;rw[List.find?_cons_of_neg (by simpa using c)]
   simp only[c',decide_false];exact⟨h1,h2⟩
structure iZ(Y:St)(nm:LU)(fs:List PS)(F:List cO)(s m:Nat)(fo oo:Option Nat):Prop where
 st:∃fv ov,Y[s]?=some (.cells [.str nm,fv,.map m,ov] FZ)/\DJ Y fv fs fo/\adt Y ov F oo
 mp:Y[m]?=some (.map (F.map cO.ent))
 len:F.length<=1000000/\fs.length<=1000
 fs_:fo≠some s
 os:oo≠some s
 fo_:∀q,fo=some q->oo≠some q
def iZ.sm{Y:St}{nm fs F s m fo oo}(h:iZ Y nm fs F s m fo oo):s≠m:=fun e=>by
 obtain⟨fv,ov,h1,_⟩:=h.st;rw[e,h.mp]at h1;cases h1
def iZ.fm{Y:St}{nm fs F s m fo oo}(h:iZ Y nm fs F s m fo oo):fo≠some m:=fun e=>by
 obtain⟨fv,ov,_,h2,_⟩:=h.st;rcases h2 with⟨_,h2,_⟩|⟨q,fz,a,b,c,d⟩
 ·rw[e]at h2;cases h2
 ·rw[e]at a;cases a;rw[h.mp]at d;cases d
def iZ.om{Y:St}{nm fs F s m fo oo}(h:iZ Y nm fs F s m fo oo):oo≠some m:=fun e=>by
 obtain⟨fv,ov,_,_,h2⟩:=h.st;rcases h2 with⟨_,h2,_⟩|⟨q,a,b,c,d⟩
 ·rw[e]at h2;cases h2
 ·rw[e]at a;cases a;rw[h.mp]at d;cases d
def xB(fs:List PS)(F:List cO)(file:LU)(cap:Int):cO×List cO:=match F.find? (fun f=>decide (f.name=file))with
 |some f=>(f,F)
 |none=>(Hw fs file cap,F++[Hw fs file cap])
structure StoHas(C:Ctx):Prop where
 made:Has C uO uC
 fetch:Has C xX rU
 get:Has C nN Ak
def JD(H:StoHas C){Y:St}{s:Nat}{nm fv ov:AV}{m:Nat}(hs:Y[s]?=some (.cells [nm,fv,.map m,ov] FZ)):aj C uO [.ref s 0] Y=some (.bool true,Y):=by
 have hn:=gJ s Y;rw[H.made.go hn];simp only[uC,hs,EVX,seval]
def aa2 (H:StoHas C) {Y:St} (hτ:Ok Y) {nm fs F s m fo oo} (h:iZ Y nm fs F s m fo oo) (file:LU) (cap:Int) (hc:0<=cap/\cap<=65536) (f:cO) (hf:F.find? (fun f=>decide (f.name=file))=some f):
  aj C nN [.ref s 0,.str file,.int .i64 cap] Y=some (.tup [.str f.data,.int .i64 f.size,.int .i64 0],Y):=by
 have hn:hand false [.ref s 0,.str file,.int .i64 cap] Y=some ([.ref s 0,.str file,.int .i64 cap],Y):=rfl;obtain⟨fv,ov,hs,_,_⟩:=h.st;have hm:=h.mp;have q1:=JD H hs;obtain⟨k,q2⟩:=(Nv file F 0).1 f hf;have c1:¬cap<0:=by omega
 have c2:¬(65536:Int)<cap:=by omega
 have ty:=fun(a:LU) (b c:Int)=>bY hτ (vs:=[.str a,.int .i64 b,.int .i64 c]) rfl;rw[H.get.go hn];unfold cO.res at q2;simp only[Ak,q1,q2,c1,c2,hs,hm,mapOf,ty,aJ,iJ,AV.cells,AV.flat,splice,EVX,seval]
def Nu(fs:List PS)(file:LU)(cap:Int):(Hw fs file cap).name=file:=by
 unfold Hw ae4;split
 ·split<;>rfl
 ·rfl
theorem Zy{n i:Nat}{x:AO}{S:St}(vs:LA)(hi:i<n)(h:S[i]?=some x)(hb:x.below n=false):tidy n vs S=S:=by
 unfold tidy;split
 ·rfl
 ·rw[if_neg];intro hc;rw[a02,a94]at hc;have:=hc.2 x (a88 (i:=i) (by rw[au8,if_pos hi];exact h))
  rw[hb]at this;cases this
def acV {α:Type} {Y:St} (hτ:Ok Y) {v:AV} {sz bytes:Nat} {c:α->LA} (hc:∀x,(c x).length=sz) (hb:∀x,ai 0 (c x)=true) {xs:List α} {oo:Option Nat} (h:TV Y v sz c xs oo) (hl:(xs.length+1)*bytes<=70368744177664) (hn:xs.length+1<=70368744177664) (r:α):
  ∃S,tY Y sz bytes none v 1 (c r)=some (.msl Y.length 0 (xs.length+1) sz,S)/\S.length=Y.length+1/\S[Y.length]?=some (.cells ((xs++[r]).flatMap c) FZ)/\(∀i x,oo≠some i->Y[i]?=some x->S[i]?=some x)/\Ok S:=by
 have nb:∀l:List α,ai 0 (l.flatMap c)=true:=fun l=>fK hb l;have fl:(xs++[r]).flatMap c=xs.flatMap c++c r:=by simp
 rcases h with⟨rfl,rfl,rfl⟩|⟨q,rfl,hF,rfl,hq⟩
 ·refine⟨Y++[.cells (c r) FZ],?_,by simp,by rw[aJ,fl];rfl,fun i x _ hx=>aA hx _,hτ.plus (by simp only[a07,aw0,AO.below,hb,av6])⟩
  unfold tY
  grind
 ·have hq1:=(a00.mp hq).1;refine⟨Y.set q .dead++[.cells ((xs++[r]).flatMap c) FZ],?_,by simp,by rw[gQ (by simp)];rfl,fun i x hi hx=>aA (aI hx (fun e=>hi (by rw[e])) _) _,?_⟩
  ·unfold tY;rw[if_neg (by decide)]
   simp only[hq];rw[if_pos ⟨trivial,aU hc xs,hl,hn⟩,fl];simp
  ·refine Ok.plus (Ok.set2 hτ q rfl) ?_;simp only[a07,aw0,AO.below,nb,av6]
def aas(n:Nat)(F:List cO):AO.below n (.map (F.map cO.ent))=true:=by
 have h1:ai n ((F.map cO.ent).map (·.1))=true:=by
  induction F with
  |nil=>rfl
  |cons a l ih=>rw[av9,av9,ai,ih];rfl
 have h2:ai n ((F.map cO.ent).map (·.2))=true:=by
  clear h1
  induction F with
  |nil=>rfl
  |cons a l ih=>rw[av9,av9,ai,ih];rfl
 rw[AO.below,h1,h2];rfl
def aa1 (H:StoHas C) {Y:St} (hτ:Ok Y) {nm fs F s m fo oo} (h:iZ Y nm fs F s m fo oo) (hF:F.length<1000000) (file:LU) (cap:Int) (hc:0<=cap/\cap<=65536) (hf:F.find? (fun f=>decide (f.name=file))=none):
  ∃Y' oo',aj C nN [.ref s 0,.str file,.int .i64 cap] Y=some (.tup [.str (Hw fs file cap).data,.int .i64 (Hw fs file cap).size,.int .i64 0],Y')/\Ok Y'/\iZ Y' nm fs (F++[Hw fs file cap]) s m fo oo'/\Y.length<=Y'.length/\(∀i x,i≠s->i≠m->oo≠some i->Y[i]?=some x->Y'[i]?=some x)/\∀q,oo'=some q->Y.length<=q:=by
 have hn:hand false [.ref s 0,.str file,.int .i64 cap] Y=some ([.ref s 0,.str file,.int .i64 cap],Y):=rfl;obtain⟨fv,ov,hs,hfv,hov⟩:=h.st;have hm:=h.mp;have q1:=JD H hs;have q2:=(Nv file F 0).2 hf;have c1:¬cap<0:=by omega
 have c2:¬(65536:Int)<cap:=by omega
 have hrn:=Nu fs file cap;obtain⟨r,hr⟩:∃r,Hw fs file cap=r:=⟨_,rfl⟩;rw[hr]at hrn⊢;have sl:s<Y.length:=(a00.mp hs).1;have ml:m<Y.length:=(a00.mp hm).1;have rb:AO.below 0 (.cells r.res FZ)=true:=rfl;have ok0:Ok (Y++[.cells r.res FZ]):=hτ.plus (by rw[a07,rb];rfl)
 have q3:=Zn H.fetch _ (hτ.plus (L:=[.cells [.int .i64 0,.int .i64 0,.str []] FZ]) rfl) s _ _ ov fv fs fo (aA hs _) (hfv.plus _) h.len.2 file cap;rw[hr]at q3;obtain⟨T0,hT0⟩:∃T,Y++[.cells r.res FZ]=T:=⟨_,rfl⟩;have l0:T0.length=Y.length+1:=by rw[<-hT0];simp
 have s0:T0[s]?=_:=hT0▸aA hs _;have m0:T0[m]?=_:=hT0▸aA hm _;have x0:T0[Y.length]?=some (.cells r.res FZ):=by rw[<-hT0,aJ];rfl
 rw[hT0]at ok0;have ok1:Ok (T0.set m (.map ((F++[r]).map cO.ent))):=Ok.set2 ok0 m (aas _ _);obtain⟨T1,hT1⟩:∃T,T0.set m (.map ((F++[r]).map cO.ent))=T:=⟨_,rfl⟩;have l1:T1.length=Y.length+1:=by rw[<-hT1,a96,l0]
 have s1:T1[s]?=_:=hT1▸aI s0 h.sm _;have m1:T1[m]?=some (.map ((F++[r]).map cO.ent)):=hT1▸bC m0 _;have x1:T1[Y.length]?=some (.cells r.res FZ):=hT1▸aI x0 (by omega) _
 rw[hT1]at ok1;have hov1:adt T1 ov F oo:=by
  rcases hov with h0|⟨q,a,b,c,d⟩
  ·exact .inl h0
  ·refine .inr ⟨q,a,b,c,?_⟩
   grind
 obtain⟨T2,a1,l2,n2,k2,ok2⟩:=acV (c:=fun f:cO=>[AV.str f.name]) (sz:=1) (bytes:=16) ok1 (fun _=>rfl) (fun _=>rfl) hov1 (by omega) (by omega) r
 rw[l1]at a1 l2 n2;have s2:=k2 s _ h.os s1;have m2:=k2 m _ h.om m1;have x2:=k2 Y.length _ (fun e=>by
  rcases hov with⟨_,h0,_⟩|⟨q,a,_,_,d⟩
  ·rw[h0]at e;cases e
  grind) x1
 obtain⟨S,hS⟩:∃S,T2.set s (.cells [.str nm,fv,.map m,.msl (Y.length+1) 0 (F.length+1) 1] FZ)=S:=⟨_,rfl⟩;have x3:S[Y.length]?=some (.cells r.res FZ):=hS▸aI x2 (by omega) _
 have s3:S[s]?=some (.cells [.str nm,fv,.map m,.msl (Y.length+1) 0 (F.length+1) 1] FZ):=hS▸bC s2 _;have m3:S[m]?=some (.map ((F++[r]).map cO.ent)):=hS▸aI m2 (fun e=>h.sm e.symm) _;have n3:S[Y.length+1]?=some (.cells ((F++[r]).flatMap fun f=>[.str f.name]) FZ):=hS▸aI n2 (by omega) _
 have old:∀i x,i≠s->i≠m->oo≠some i->Y[i]?=some x->S[i]?=some x:=fun i x h1 h2 h3 hx=>by
  grind
 have ty:=fun vs:LA=>Zy (n:=Y.length) vs sl s3 (by simp[AO.below,ai,below])
 have e0:(F++[r]).map cO.ent=F.map cO.ent++[(.str file,.agg r.res)]:=by rw[List.map_append,<-hrn];rfl
 refine⟨S,some (Y.length+1),?_,?_,?_,?_,old,fun q e=>by cases e;omega⟩
 ·rw[H.get.go hn];rw[hrn]at a1;have hT1':T0.set m (.map (F.map cO.ent++[(.str file,.agg r.res)]))=T1:=by rw[<-e0];exact hT1
  unfold cO.res at q3 hT0 x0 x3 hT1';have z0:=fun L:St=>aJ Y (.cells [.int .i64 0,.int .i64 0,.str []] FZ::L);have z1:=fun(L:St) (y:AO)=>iJ Y (.cells [.int .i64 0,.int .i64 0,.str []] FZ::L) y;simp only[Ak,q1,q2,q3,c1,c2,hs,hm,s0,m0,x0,s1,s2,hT0,hT1',hS,a1,x3,mapOf,ty,z0,z1,AV.cells,AV.flat,splice,EVX,seval]
 ·have:=Ok.set2 ok2 s (x:=.cells [.str nm,fv,.map m,.msl (Y.length+1) 0 (F.length+1) 1] FZ) (by
   have fb:below T2.length fv=true:=by
    rcases hfv with⟨_,_,rfl⟩|⟨q,fz,_,_,rfl,d⟩
    ·rfl
    ·have:=(a00.mp d).1;simp only[below,decide_eq_true_eq];omega
   have h1:m<T2.length:=by omega
   have h2:Y.length+1<T2.length:=by omega
   simp[AO.below,ai,below,fb,h1,h2])
  rwa[hS]at this
 ·refine⟨⟨fv,_,s3,?_,.inr ⟨Y.length+1,rfl,by simp,by simp,n3⟩⟩,m3,⟨by simp;omega,h.len.2⟩,h.fs_,fun e=>by cases e;omega,fun q e e'=>?_⟩
  ·rcases hfv with h0|⟨q,fz,a,b,c,d⟩
   ·exact .inl h0
   ·exact .inr ⟨q,fz,a,b,c,old q _ (fun e=>h.fs_ (by rw[a,e])) (fun e=>h.fm (by rw[a,e])) (h.fo_ q a) d⟩
  ·cases e';rcases hfv with⟨_,h0,_⟩|⟨q,fz,a,b,c,d⟩
   ·rw[h0]at e;cases e
   grind
 ·rw[<-hS,a96];omega
def mD(nm:LU)(f:cO):LA:=[.str nm,.str f.name,.int .i64 f.cap,.int .i64 f.size]
def Uniq(F:List cO):Prop:=∀f∈F,F.find? (fun g=>decide (g.name=f.name))=some f
structure TelHas(C:Ctx):Prop extends StoHas C where
 told:Has C FH EX
 fetched:Has C BA Bq
def ah2 (H:TelHas C) {Y:St} (hτ:Ok Y) {s m:Nat} {fv ov:AV} {nm:LU} {F:List cO} (hs:Y[s]?=some (.cells [.str nm,fv,.map m,ov] FZ)) (hm:Y[m]?=some (.map (F.map cO.ent))) (f:cO) (hf:F.find? (fun g=>decide (g.name=f.name))=some f):
  aj C FH [.ref s 0,.str f.name] Y=some (.tup [.agg (mD nm f),.bool true],Y):=by
 have hn:hand false [.ref s 0,.str f.name] Y=some ([.ref s 0,.str f.name],Y):=rfl;obtain⟨k,q2⟩:=(Nv f.name F 0).1 f hf;have hs2:=fun L=>aA hs L;have hm2:=fun L=>aA hm L;have ty:=fun(a b:LU) (c d:Int) (e:Bool)=>bY hτ (vs:=[.agg [.str a,.str b,.int .i64 c,.int .i64 d],.bool e]) rfl;have z0:=fun L:St=>aJ Y (.cells [.str [],.str [],.int .i64 0,.int .i64 0] FZ::L);have z1:=fun(L:St) (y:AO)=>iJ Y (.cells [.str [],.str [],.int .i64 0,.int .i64 0] FZ::L) y;have q1:=fun L:St=>JD H.toStoHas (Y:=Y++L) (aA hs L);rw[H.told.go hn];unfold cO.res at q2;unfold mD;simp only[EX,q1,q2,hs2,hm2,mapOf,ty,z0,z1,bI,wU,bg,bz,AV.cells,AV.flat,splice,EVX,seval]
def acr (H:TelHas C) (n0:Nat) (s m:Nat) (hs0:s<n0) (hm0:m<n0) (fv ov:AV) (nm:LU) (F:List cO) (oo:Option Nat) (ho0:∀q,oo=some q->q<n0) (hu:Uniq F) (hF:F.length<=1000000):∀(n i:Nat) (acc:AV) (ao:Option Nat) (T:St),i+n=F.length->Ok T->n0<=T.length->T[s]?=some (.cells [.str nm,fv,.map m,ov] FZ)->T[m]?=some (.map (F.map cO.ent))->adt T ov F oo->TV T acc 4 (mD nm) (F.take i) ao->(∀q,ao=some q->n0<=q)->
  ∃(acc':AV) (ao':Option Nat) (T':St),aH C (aj C) 33 [0,3,14,15,16] iH [(0,.ref s 0),(3,acc),(14,ov),(15,.int .i64 F.length),(16,.int .i64 i)] T=some (.exit 0,[(3,acc')],T')/\Ok T'/\TV T' acc' 4 (mD nm) F ao'/\(∀q,ao'=some q->n0<=q)/\n0<=T'.length/\∀k,k<n0->T'[k]?=T[k]?:=by
 intro n
 induction n with
 |zero=>
  intro i acc ao T hi hT hl hs hm ho hr ha;rw[aB (he:=rfl)];have h:¬((i:Int)<(F.length:Int)):=by omega
  refine⟨acc,ao,T,by simp only[iH,h,EVX,seval],hT,?_,ha,hl,fun _ _=>rfl⟩
  rwa[a08 (by omega)]at hr
 |succ n ih=>
  intro i acc ao T hi hT hl hs hm ho hr ha;have hlt:i<F.length:=by omega
  have ho':=ho;rcases ho with⟨rfl,_,_⟩|⟨q,e1,e2,rfl,hq⟩
  ·simp at hlt
  have hfm:F[i]∈F:=ax1 hlt;have q1:=ah2 H hT hs hm F[i] (hu _ hfm);have fa:=fB (f:=fun f:cO=>[AV.str f.name]) (k:=1) (fun _=>rfl) (a01 hlt);have fl:=aU (f:=fun f:cO=>[AV.str f.name]) (k:=1) (fun _=>rfl) F;have tk:F.take (i+1)=F.take i++[F[i]]:=aw5 hlt;generalize F[i]=f at*;have okX:Ok (T++[.cells (mD nm f) FZ]):=hT.plus rfl;have hrX:TV (T++[.cells (mD nm f) FZ]) acc 4 (mD nm) (F.take i) ao:=by
   rcases hr with h|⟨p,a,b,c,d⟩
   ·exact .inl h
   ·exact .inr ⟨p,a,b,c,aA d _⟩
  have tl:(F.take i).length=i:=by rw[az2];omega
  obtain⟨S,a1,l1,n1,k1,ok1⟩:=acV (c:=mD nm) (sz:=4) (bytes:=48) okX (fun _=>rfl) (fun _=>rfl) hrX (by omega) (by omega) f
  rw[<-tk]at n1;have keep:∀k,k<n0->S[k]?=T[k]?:=fun k hk=>by
   grind
  have lX:(T++[AO.cells (mD nm f) FZ]).length=T.length+1:=by simp
  rw[lX]at a1 l1 n1;rw[tl]at a1;obtain⟨acc',ao',T',x,h1,h2,h3,h4,h5⟩:=ih (i+1) (.msl (T.length+1) 0 (i+1) 4) (some (T.length+1)) S (by omega) ok1 (by omega) (by rw[keep s hs0];exact hs) (by rw[keep m hm0];exact hm) (.inr ⟨q,e1,e2,rfl,by rw[keep q (ho0 q e1)];exact hq⟩) (.inr ⟨_,rfl,by intro e;rw[e]at tk;simp at tk,by rw[az2];congr 1;omega,n1⟩) (fun k e=>by cases e;omega)
  refine⟨acc',ao',T',?_,h1,h2,h3,h4,fun k hk=>by rw[h5 k hk,keep k hk]⟩
  rw[<-x,aB (he:=rfl)];generalize hk:aH C (aj C) 33 [0,3,14,15,16] iH=K at*;have h:((i:Int)<(F.length:Int)):=by omega
  have i0:(0:Int)<=i:=by omega
  have hw:=wrS i (by omega)
  simp only[av7,a81,a99]at fa fl;have z0:=aJ T (.cells [.str [],.str [],.int .i64 0,.int .i64 0] FZ::[]);have z1:=fun y:AO=>iJ T (.cells [.str [],.str [],.int .i64 0,.int .i64 0] FZ::[]) y;have z2:=aJ T (.cells (mD nm f) FZ::[]);unfold mD at q1 a1 z2;simp only[iH,h,i0,hw,hlt,fa,hq,q1,a1,z0,z1,z2,AV.cells,AV.flat,splice,EVX,seval]
def al0(nm:LU)(F:List cO):(F.flatMap (mD nm)).length=F.length*4:=aU (f:=mD nm) (k:=4) (fun _=>rfl) F
def ae3(nm:LU):∀F:List cO,NVs (F.flatMap (mD nm))
 |[]=>.nil
 |_::F=>by
  rw[ay2];exact .cons (.str _) (.cons (.str _) (.cons (.int _ _) (.cons (.int _ _) (ae3 nm F))))
def akZ(nm:LU)(F:List cO):ai 0 (F.flatMap (mD nm))=true:=fK (fun _=>rfl) F
def Z9 (H:TelHas C) {Y:St} (hτ:Ok Y) {nm fs F s m fo oo} (h:iZ Y nm fs F s m fo oo) (hu:Uniq F):
  aj C BA [.ref s 0] Y=some (.sl F.length (F.flatMap (mD nm)),Y):=by
 have hn:=gJ s Y;obtain⟨fv,ov,hs,hfv,hov⟩:=h.st;have hm:=h.mp;have q1:=JD H.toStoHas hs;have sl:s<Y.length:=(a00.mp hs).1;have ml:m<Y.length:=(a00.mp hm).1;have ol:∀q,oo=some q->q<Y.length:=by
  rcases hov with⟨_,rfl,_⟩|⟨q,rfl,_,_,d⟩
  ·exact fun q e=>by cases e
  grind
 have hln:aY Y 1 ov=some F.length:=by
  rcases hov with⟨rfl,_,rfl⟩|⟨q,_,_,rfl,d⟩
  ·rfl
  ·rfl
 obtain⟨v,ao,T,lp,h1,h2,h3,h4,h5⟩:=acr H Y.length s m sl ml fv ov nm F oo ol hu h.len.1 F.length 0 .nils none Y (by omega) hτ (a06 _) hs hm hov (.inl ⟨by simp,rfl,rfl⟩) (fun q e=>by cases e)
 rw[show((0:Nat):Int)=0 from rfl]at lp;have tk:T.take Y.length=Y:=by
  refine aw7 fun k=>?_
  grind
 rw[H.fetched.go hn];have hb:ai 0 [AV.sl F.length (F.flatMap (mD nm))]=true:=by rw[ai,below,akZ];rfl
 obtain⟨T2,hd,tk2⟩:∃T2,hand false [v] T=some ([.sl F.length (F.flatMap (mD nm))],T2)/\T2.take Y.length=Y:=by
  rcases h2 with⟨rfl,rfl,rfl⟩|⟨q,rfl,e2,rfl,e4⟩
  ·exact⟨T,rfl,tk⟩
  ·have:=h3 q rfl;refine⟨T.set q (.cells (F.flatMap (mD nm)) ⟨true,none⟩),?_,by rw[dS _ _ _ (by omega),tk]⟩
   rw[oK,aO,Ls e4 (al0 nm F) (ae3 nm F),vX,<-zt e4];rfl
 have ty:=qZ (vs:=[.sl F.length (F.flatMap (mD nm))]) hτ hb tk2;generalize hK:xP=eR;simp only[Bq,q1,hs,hln,lp,EVX,seval];rw[<-hK,Gv (vs:=[v]) rfl hd,ty];rfl
def nameB(b:UInt8):Bool:=(97<=b.toNat&&b.toNat<=122)||(65<=b.toNat&&b.toNat<=90)||(48<=b.toNat&&b.toNat<=57)||b.toNat==46||b.toNat==95||b.toNat==45
def SL(hC:Has C pO pG)(b:UInt8)(O:St):aj C pO [.int .u8 b.toNat] O=some (.bool (nameB b),O):=by
 rw[hC.go (NVs.hand (.cons (.int _ _) .nil) _)];simp only[pG,EVX,seval];repeat' (first|rw[ao2]|rw[ao1]|rw[asN]|rw[asM]);split<;>(try simp only[*,EVX,seval])
 all_goals (simp only[decide_eq_true_eq,decide_eq_false_iff_not,beq_iff_eq,beq_eq_false_iff_ne,ne_eq]at*;rw[a05,aw3,AV.bool.injEq,aC2];simp[nameB];omega)
def Lr (ha:Has C pO pG) (s:LU) (hs:s.length<=64) (O:St):∀(n i:Nat),i+n=s.length->
  aH C (aj C) 27 [0,17,18] ru [(0,.str s),(17,.int .i64 s.length),(18,.int .i64 i)] O=
   if(s.drop i).all nameB then some (.exit 0,[],O)else some (.ret,[(2,.bool false)],O)
 |0,i,hi=>by
  rw[aB (he:=rfl)];have h:¬((i:Int)<(s.length:Int)):=by omega
  have h':s.drop i=[]:=au5 (by omega)
  simp only[ru,h,h',EVX,seval]
 |n+1,i,hi=>by
  rw[aB (he:=rfl)];generalize hk:aH C (aj C) 27 [0,17,18] ru=k;have h:((i:Int)<(s.length:Int)):=by omega
  have h2:i<s.length:=by omega
  have hb:s[i]?=some s[i]:=a01 h2;have h':s.drop i=s[i]::s.drop (i+1):=au1 h2;have hw:=wrS i (by omega)
  have h3:(0:Int)<=i:=by omega
  cases hx:nameB s[i]
  ·simp only[ru,h,h',h3,hb,hx,aB0,SL ha,EVX,seval]
  ·simp only[ru,h,h',h3,hb,hw,hx,ax2,SL ha,EVX,seval];rw[<-hk,Lr ha s hs O n (i+1) (by omega)]
def role(s:LU):Bool:=!s.isEmpty&&s.length<=64&&s.head? !=some 46&&s.all nameB
def Ux(hC:Has C Dl zI)(ha:Has C pO pG)(s:LU)(O:St):aj C Dl [.str s] O=some (.bool (role s),O):=by
 rw[hC.go (NVs.hand (.cons (.str _) .nil) _)];cases s with
 |nil=>
  simp only[zI,EVX,seval];rfl
 |cons b l=>
  have h0:(b::l)≠[]:=by simp
  have hb:(b::l)[0]?=some b:=rfl;have hr:role (b::l)=((b::l).length<=64&&b.toNat !=46&&(b::l).all nameB):=by
   have:(b.toNat=46)↔(b=46):=by rw[<-UInt8.toNat_inj];rfl
   have e:(b==46)=(b.toNat==46):=by rw[aC2];simp[this]
   simp[role,bne,e]
  rw[hr];have lp:=fun hl=>Lr ha (b::l) hl O (b::l).length 0 (by omega)
  generalize b::l=s at*;simp only[zI,h0,EVX,seval];by_cases hl:s.length<=64
  ·have hl':¬(64:Int)<(s.length:Int):=by omega
   have lp:=lp hl;simp only[au7,a97]at lp;simp only[hl',hb,EVX,seval];rw[akO];split<;>rename_i h5<;>simp only[beq_iff_eq]at h5
   ·have:(b.toNat !=46)=false:=by simp;omega
    simp only[this,Bool.and_false,aB0,EVX,seval]
   ·have:(b.toNat !=46)=true:=by simp;omega
    simp only[this,hl,ax2,lp,EVX,seval];cases s.all nameB<;>simp only[EVX,seval]
  ·have hl':(64:Int)<(s.length:Int):=by omega
   simp only[hl',hl,aB0,EVX,seval]
def vF:LU:=[46,106,115,111,110]
def Vf(s:LU):AV:=if role s then .tup [.str (s++vF),.int .i64 0]else .tup [.str [],.int .i64 3]
def amH{s:LU}(h:role s=true):s.length<=64:=by simp[role]at h;exact h.1.1.2
def NM(hC:Has C wK vZ)(hr:Has C Dl zI)(ha:Has C pO pG)(s:LU)(O:St):aj C wK [.str s] O=some (Vf s,O):=by
 rw[hC.go (NVs.hand (.cons (.str _) .nil) _)];unfold Vf;cases h:role s
 ·simp only[vZ,Ux hr ha,h,EVX,seval]
 ·have hb:uD .add s [46,106,115,111,110]=some (.str (s++vF)):=aqm (by have:=amH h;simp;omega)
  simp only[vZ,Ux hr ha,h,hb,EVX,seval]
def okD(fs:List PS):Bool:=fs.all fun p=>decide (p.2.length<=65536)
def aey(nm:LU)(fs:List PS):Int:=if role nm=false then 3 else if 256<fs.length then 5 else if okD fs then 0 else 5
def amb (Y:St) (nm:LU) (fv:AV) (fs:List PS) (fo:Option Nat) (hf:DJ Y fv fs fo) (hl:fs.length<=256):∀(n i:Nat) (G:St),i+n=fs.length->G.all (AO.below 0)=true->
  ∃G',G'.all (AO.below 0)=true/\aH C (aj C) 31 [0,1,14,15,16] ry [(0,.str nm),(1,fv),(14,fv),(15,.int .i64 fs.length),(16,.int .i64 i)] (Y++G)=
   some (if okD (fs.drop i)then(.exit 0,[(0,.str nm),(1,fv)],Y++G')else(.ret,[(4,.nilp),(5,.int .i64 5)],Y++G')):=by
 intro n
 induction n with
 |zero=>
  intro i G hi hG;refine⟨G,hG,?_⟩;rw[aB (he:=rfl),au5 (by omega)]
  have h:¬((i:Int)<(fs.length:Int)):=by omega
  simp only[ry,h,okD,aw0,EVX,seval]
 |succ n ih=>
  intro i G hi hG;rcases hf with⟨rfl,_,_⟩|⟨q,fz,e1,e2,rfl,fq⟩
  ·simp at hi
  have hlt:i<fs.length:=by omega
  have fa:=fB tJ (a01 hlt);have dr:fs.drop i=fs[i]::fs.drop (i+1):=au1 hlt;rw[dr];generalize fs[i]=p at*;rw[show pC p=[.str p.1,.str p.2]from rfl]at fa;simp only[a81,a99]at fa;have hG1:(G++[AO.cells [.str p.1,.str p.2] FZ]).all (AO.below 0)=true:=by rw[aE0,hG];rfl
  obtain⟨G',gb,ih⟩:=ih (i+1) (G++[.cells [.str p.1,.str p.2] FZ]) (by omega) hG1
  have h:((i:Int)<(fs.length:Int)):=by omega
  have h3:(0:Int)<=i:=by omega
  have hw:=wrS i (by omega)
  have fT:=aA fq G;have as1:Y++(G++[.cells [.str p.1,.str p.2] FZ])=(Y++G)++[.cells [.str p.1,.str p.2] FZ]:=by simp
  rw[as1]at ih;rw[aB (he:=rfl)];generalize hk:aH C (aj C) 31 [0,1,14,15,16] ry=k at*;generalize hT:Y++G=T at*;by_cases c:p.2.length<=65536
  ·have c':¬(65536:Int)<(p.2.length:Int):=by omega
   refine⟨G',gb,?_⟩;have:okD (p::fs.drop (i+1))=okD (fs.drop (i+1)):=by simp[okD,c]
   rw[this,<-ih];simp only[ry,h,h3,hw,hlt,fa,fT,c',aY,aJ,iJ,AV.cells,AV.flat,splice,EVX,seval]
  ·have c':(65536:Int)<(p.2.length:Int):=by omega
   refine⟨G++[.cells [.str p.1,.str p.2] FZ],hG1,?_⟩;have:okD (p::fs.drop (i+1))=false:=by simp[okD,c]
   rw[this,as1];simp only[ry,h,h3,hlt,fa,fT,c',aY,aJ,iJ,AV.cells,AV.flat,splice,EVX,seval]
def aih(fs:List PS):(fs.flatMap pC).all AV.flat=true:=by
 rw[List.all_flatMap,a94];exact fun _ _=>rfl
def U6 (hC:Kt C eY eP) {Y:St} (hτ:Ok Y) {fv:AV} {fs:List PS} {fo:Option Nat} (hf:DJ Y fv fs fo) (hl:fs.length<=1000):
  ∃fv' fo' L,aj C eY [fv] Y=some (fv',Y++L)/\Ok (Y++L)/\DJ (Y++L) fv' fs fo'/\∀q,fo'=some q->Y.length<=q:=by
 rcases hf with⟨rfl,_,rfl⟩|⟨q,fz,e1,e2,rfl,fq⟩
 ·refine⟨.xsl 0 [],none,[],?_,by simpa using hτ,.inl ⟨rfl,rfl,rfl⟩,fun q e=>by cases e⟩
  rw[hC.go];have a0:tY Y 2 32 none (.xsl 0 []) 0 []=some (.xsl 0 [],Y):=rfl;simp only[eP,a0,pK,bg,au6,EVX,seval]
 ·refine⟨.msl Y.length 0 fs.length 2,some Y.length,[.cells (fs.flatMap pC) FZ],?_,hτ.plus (by rw[a07,aw0,AO.below,fK (fun _=>rfl)];rfl),.inr ⟨Y.length,_,rfl,e2,rfl,by rw[aJ];rfl⟩,fun q e=>by cases e;omega⟩
  have h1:¬fs.length=0:=fun e=>e2 (aC5.mp e);have fl:=aU tJ fs;have ap:=fun Y:St=>TZ Y none (sz:=2) (bytes:=32) (n:=0) (m:=fs.length) (l:=[]) (fs.flatMap pC) h1 rfl (by omega) (by omega)
  simp only[av5,a99]at ap;have fa:=aih fs;have tf:(fs.flatMap pC).take (fs.length*2)=fs.flatMap pC:=by rw[<-fl,aD9]
  have ty:tidy Y.length [.msl Y.length 0 fs.length 2] (Y++[.cells (fs.flatMap pC) FZ])=Y++[.cells (fs.flatMap pC) FZ]:=nO (by simp[ai,below]) _
  rw[hC.go];simp only[eP,fq,fl,fa,tf,ap,ty,pK,bg,EVX,seval]
def iZ.sl{Y:St}{nm fs F s m fo oo}(h:iZ Y nm fs F s m fo oo):s<Y.length:=by
 obtain⟨fv',ov,hs,_⟩:=h.st;exact(a00.mp hs).1
def iZ.ml{Y:St}{nm fs F s m fo oo}(h:iZ Y nm fs F s m fo oo):m<Y.length:=(a00.mp h.mp).1
def TV.plus{α:Type}{Y:St}{v:AV}{sz:Nat}{c:α->LA}{xs:List α}{oo:Option Nat}(h:TV Y v sz c xs oo)(L:St):TV (Y++L) v sz c xs oo:=by
 rcases h with h|⟨q,a,b,e,d⟩
 ·exact .inl h
 ·exact .inr ⟨q,a,b,e,aA d L⟩
def iZ.plus{Y:St}{nm fs F s m fo oo}(h:iZ Y nm fs F s m fo oo)(L:St):iZ (Y++L) nm fs F s m fo oo:=by
 obtain⟨fv,ov,hs,hf,hv⟩:=h.st;exact⟨⟨fv,ov,aA hs L,hf.plus L,TV.plus hv L⟩,aA h.mp L,h.len,h.fs_,h.os,h.fo_⟩
structure NewHas(C:Ctx):Prop extends TelHas C where
 allowed:Has C pO pG
 nrole:Has C Dl zI
 clone:Kt C eY eP
 new:Kt C GG CU
def ak0 (H:NewHas C) {Y:St} (hτ:Ok Y) (nm:LU) {fv:AV} {fs:List PS} {fo:Option Nat} (hf:DJ Y fv fs fo) (hl:fs.length<=1000):
  (aey nm fs≠0/\aj C GG [.str nm,fv] Y=some (.tup [.nilp,.int .i64 (aey nm fs)],Y))\/
  (aey nm fs=0/\∃s m fo' L,aj C GG [.str nm,fv] Y=some (.tup [.ref s 0,.int .i64 0],Y++L)/\Ok (Y++L)/\iZ (Y++L) nm fs [] s m fo' none/\Y.length<=s/\Y.length<=m/\∀q,fo'=some q->Y.length<=q):=by
 have hln:aY Y 1 fv=some fs.length:=by
  rcases hf with⟨rfl,_,rfl⟩|⟨q,fz,e1,e2,rfl,fq⟩<;>rfl
 have nr:=fun Y=>Ux H.nrole H.allowed nm Y;have ty:=fun L=>fun e:Int=>bY hτ (vs:=[.nilp,.int .i64 e]) rfl L;unfold aey;rw[H.new.go];cases hr:role nm
 ·left;rw[hr]at nr;have t0:=BX Y;rw[if_pos rfl];refine⟨by decide,?_⟩
  simp only[CU,nr,t0,pK,bg,EVX,seval]
 ·rw[hr]at nr;rw[if_neg (by decide)]
  by_cases c:256<fs.length
  ·left;have t0:=BX Y;have c':(256:Int)<(fs.length:Int):=by omega
   rw[if_pos c];refine⟨by decide,?_⟩
   simp only[CU,nr,hln,c',t0,pK,bg,EVX,seval]
  ·rw[if_neg c];have c':¬(256:Int)<(fs.length:Int):=by omega
   obtain⟨G',gb,lp⟩:=amb (C:=C) Y nm fv fs fo hf (by omega) fs.length 0 [] (by omega) rfl
   rw[show((0:Nat):Int)=0 from rfl,au7,au6]at lp;cases hd:okD fs
   ·left;rw[if_neg (by decide)]
    rw[hd,if_neg (by decide)]at lp
    refine⟨by decide,?_⟩
    simp only[CU,nr,hln,c',lp,ty,pK,bg,EVX,seval]
   ·right;rw[if_pos rfl];rw[hd,if_pos rfl]at lp;refine⟨rfl,?_⟩;have ok1:Ok (Y++G'):=hτ.plus gb;obtain⟨fv',fo',L,a1,a2,a3,a4⟩:=U6 (C:=C) H.clone ok1 (hf.plus G') hl;obtain⟨T,hT⟩:∃T,Y++G'++L=T:=⟨_,rfl⟩;have tl:T.length=Y.length+G'.length+L.length:=by rw[<-hT];simp;omega
    rw[hT]at a1 a2 a3;simp only[a04]at a4;have fc:fv'.cells=[fv']:=by
     rcases a3 with⟨_,_,rfl⟩|⟨q,fz,_,_,rfl,d⟩<;>rfl
    have fb2:below (T.length+1+1) fv'=true:=by
     rcases a3 with⟨_,_,rfl⟩|⟨q,fz,_,_,rfl,d⟩
     ·rfl
     ·have:=(a00.mp d).1;simp only[below,decide_eq_true_eq];omega
    have ok2:Ok ((T++[.map []])++[.cells [.str nm,fv',.map T.length,.nils] FZ]):=by
     have:Ok (T++[.map []]):=a2.plus rfl;refine Mc this ?_;simp[AO.below,ai,below,fb2];omega
    have ty2:tidy Y.length [.ref (T.length+1) 0,.int .i64 0] (T++[.map [],.cells [.str nm,fv',.map T.length,.nils] FZ])=T++[.map [],.cells [.str nm,fv',.map T.length,.nils] FZ]:=nO (by simp[ai,below];omega) _
    have e1:T++[.map [],.cells [.str nm,fv',.map T.length,.nils] FZ]=Y++(G'++L++[.map [],.cells [.str nm,fv',.map T.length,.nils] FZ]):=by rw[<-hT];simp
    refine⟨T.length+1,T.length,fo',G'++L++[.map [],.cells [.str nm,fv',.map T.length,.nils] FZ],?_,by rw[<-e1];simpa using ok2,?_,by omega,by omega,fun q e=>by have:=a4 q e;omega⟩
    ·rw[<-e1];simp only[CU,nr,hln,c',lp,a1,fc,splice,ty2,pK,bg,EVX,seval]
    ·rw[<-e1];have fq:∀q,fo'=some q->q<T.length:=fun q e=>by
      rcases a3 with⟨_,h0,_⟩|⟨q',fz,h0,_,_,d⟩
      ·rw[h0]at e;cases e
      ·rw[h0]at e;cases e;exact(a00.mp d).1
     refine⟨⟨fv',.nils,by simp,a3.plus _,.inl ⟨rfl,rfl,rfl⟩⟩,by simp,⟨by simp,hl⟩,fun e=>?_,(fun e=>nomatch e),(fun q e e'=>nomatch e')⟩
     have:=fq _ e;omega
def YE(n:Int):Bool:=decide (0<=n)&&decide (n<=65536)
def aeW(hC:Has C Hr yj)(n:Int)(Y:St):aj C Hr [.int .i64 n] Y=some (.bool (YE n),Y):=by
 have hn:hand false [.int .i64 n] Y=some ([.int .i64 n],Y):=rfl;rw[hC.go hn];unfold YE;by_cases c:0<=n
 ·by_cases d:n<=65536
  ·simp only[yj,c,d,EVX,seval]
  ·simp only[yj,c,d,EVX,seval]
 ·simp only[yj,c,EVX,seval];rfl
def nH(s:Nat)(R:kC)(o:Nat)(now rc sc:Int):LA:=.ref s 0::(R.cs++[.ref o 0,.int .i64 now,.int .i64 rc,.int .i64 sc])
structure bG(Y:St)(h:Bool)(l:List iy)(R:kC)(now rc sc:Int)(nm:LU)(fs:List PS)(F:List cO)(r s m o:Nat)(fo oo:Option Nat):Prop where
 rp:Y[r]?=some (.cells (nH s R o now rc sc) FZ)
 ver:Y[o]?=some (FY h l)
 st:iZ Y nm fs F s m fo oo
 rs:r≠s
 rm:r≠m
 ro:oo≠some r
 vs:o≠s
 vm:o≠m
 vo:oo≠some o
 caps:YE rc=true/\YE sc=true
def vH(nm:LU)(fs:List PS)(rc sc:Int)(e:Int):Int:=if aey nm fs≠0 then aey nm fs else if(YE rc&&YE sc)=false then 1 else e
structure RNewHas(C:Ctx):Prop extends NewHas C,RootHas C where
 mayCap:Has C Hr yj
 rnew:Kt C Jl BF
def acd(n:Nat):∀(a b:LA),ai n a=true->ai n (a++b)=ai n b
 |[],_,_=>rfl
 |x::a,b,h=>by
  rw[ai,a02]at h;rw[a81,ai,h.1,acd n a b h.2,ax2]
def aeV (H:RNewHas C) (h:Bool) (l:List iy) (R:kC) (e:Int) (data:LU)
  (hR:∀(O:St) (o:Nat),Ok O->O[o]?=some (FY h l)->aj C wZ [.ref o 0,.str data] O=some (.tup [.agg (V9 R e).cs,.int .i64 e],O))
  {Y:St} (hτ:Ok Y) (o:Nat) (ho:Y[o]?=some (FY h l)) (nm:LU) {fv:AV} {fs:List PS} {fo:Option Nat} (hf:DJ Y fv fs fo) (hl:fs.length<=1000) (now b0 b1 rc sc:Int):
  (vH nm fs rc sc e≠0/\aj C Jl [.agg [.str nm,.str data,fv],.ref o 0,.int .i64 now,.agg [.int .i64 b0,.int .i64 b1,.int .i64 rc,.int .i64 sc]] Y=some (.tup [.nilp,.int .i64 (vH nm fs rc sc e)],Y))\/
  (vH nm fs rc sc e=0/\∃r s m fo' L,aj C Jl [.agg [.str nm,.str data,fv],.ref o 0,.int .i64 now,.agg [.int .i64 b0,.int .i64 b1,.int .i64 rc,.int .i64 sc]] Y=some (.tup [.ref r 0,.int .i64 0],Y++L)/\Ok (Y++L)/\bG (Y++L) h l R now rc sc nm fs [] r s m o fo' none/\Y.length<=r/\Y.length<=s/\Y.length<=m/\∀q,fo'=some q->Y.length<=q):=by
 have fb:below Y.length fv=true:=by
  rcases hf with⟨_,_,rfl⟩|⟨q,fz,_,_,rfl,d⟩
  ·rfl
  ·have:=(a00.mp d).1;simp only[below,decide_eq_true_eq];omega
 have ok1:Ok (Y++[.cells [.str nm,.str data,fv] FZ,.cells [.int .i64 b0,.int .i64 b1,.int .i64 rc,.int .i64 sc] FZ]):=Mc hτ (by
  have:below (Y.length+2) fv=true:=below_mono (by omega) _ fb
  simp[AO.below,ai,below,this])
 have ty:=fun(L:St) (e:Int)=>bY hτ (vs:=[.nilp,.int .i64 e]) rfl L;have mc:=fun n Y=>aeW H.mayCap n Y;have N:=ak0 H.toNewHas ok1 nm (hf.plus _) hl;unfold vH;rw[H.rnew.go];rcases N with⟨n1,n2⟩|⟨n1,s,m,fo',L,n2,ok2,n3,n4,n5,n6⟩
 ·left;rw[if_pos n1];refine⟨n1,?_⟩;have c1:(aey nm fs !=0)=true:=by simpa using n1
  simp only[BF,n2,c1,ty,pK,bg,AV.cells,EVX,seval]
 ·rw[if_neg (by rw[n1];decide)]
  have n2':=n2;rw[n1]at*;obtain⟨T,hT⟩:∃T,(Y++[.cells [.str nm,.str data,fv] FZ,.cells [.int .i64 b0,.int .i64 b1,.int .i64 rc,.int .i64 sc] FZ])++L=T:=⟨_,rfl⟩;rw[hT]at n2 ok2 n3;have hT2:T=Y++([.cells [.str nm,.str data,fv] FZ,.cells [.int .i64 b0,.int .i64 b1,.int .i64 rc,.int .i64 sc] FZ]++L):=by rw[<-hT,au4]
  have x4:T[Y.length]?=some (.cells [.str nm,.str data,fv] FZ):=by rw[hT2,aJ];rfl
  have x7:T[Y.length+1]?=some (.cells [.int .i64 b0,.int .i64 b1,.int .i64 rc,.int .i64 sc] FZ):=by rw[hT2,bI];rfl
  have oT:T[o]?=some (FY h l):=by rw[hT2];exact aA ho _
  have tyT:=fun(L':St) (e:Int)=>ty ([.cells [.str nm,.str data,fv] FZ,.cells [.int .i64 b0,.int .i64 b1,.int .i64 rc,.int .i64 sc] FZ]++L++L') e;simp only[<-au4,hT]at tyT;have tyT0:=tyT [];rw[au6]at tyT0;cases cm:YE rc&&YE sc
  ·left;rw[if_pos rfl];refine⟨by decide,?_⟩
   cases c1:YE rc
   ·simp only[BF,n2,mc,c1,x7,tyT0,pK,bg,AV.cells,EVX,seval]
   ·rw[c1,ax2]at cm;simp only[BF,n2,mc,c1,cm,x7,tyT0,pK,bg,AV.cells,EVX,seval]
  ·rw[if_neg (by decide)]
   rw[a02]at cm;have cr:=hR T o ok2 oT;by_cases ce:e=0
   ·right;refine⟨ce,?_⟩;subst ce;rw[V9,if_pos rfl]at cr;have Rc:=R.cs_is;have rb:ai 0 R.cs=true:=R.nvs.cl;have rp:nH s R o now rc sc=[.ref s 0,.int .i64 R.ver,.int .i64 R.exp,.sl R.ks.length (R.ks.flatMap pC),.int .i64 R.rt.th,.sl R.rt.ids.length (R.rt.ids.flatMap sC),.int .i64 R.sn.th,.sl R.sn.ids.length (R.sn.ids.flatMap sC),.int .i64 R.tg.th,.sl R.tg.ids.length (R.tg.ids.flatMap sC),.ref o 0,.int .i64 now,.int .i64 rc,.int .i64 sc]:=rfl;have sT:s<T.length:=by grind [iZ]
    have oT':o<T.length:=(a00.mp oT).1;have tl:Y.length+2<=T.length:=by rw[hT2];simp
    simp only[a04,a09,a90]at n4 n5 n6;have rpb:ai (T.length+2) (nH s R o now rc sc)=true:=by
     unfold nH;have h1:s<T.length+2:=by omega
     have h2:o<T.length+2:=by omega
     have h3:=aP (au3 (T.length+2)) _ rb;rw[ai,acd _ _ _ h3];simp[ai,below,h1,h2]
    have ok3:Ok (T++[.cells R.cs FZ,.cells (nH s R o now rc sc) FZ]):=Mc ok2 (by
     have h3:=aP (au3 (T.length+2)) _ rb;simp only[a09,a90,a07,aw0,AO.below,h3,rpb,av6])
    have ty3:tidy Y.length [.ref (T.length+1) 0,.int .i64 0] (T++[.cells R.cs FZ,.cells (nH s R o now rc sc) FZ])=T++[.cells R.cs FZ,.cells (nH s R o now rc sc) FZ]:=nO (by simp[ai,below];omega) _
    have e1:T++[.cells R.cs FZ,.cells (nH s R o now rc sc) FZ]=Y++([.cells [.str nm,.str data,fv] FZ,.cells [.int .i64 b0,.int .i64 b1,.int .i64 rc,.int .i64 sc] FZ]++L++[.cells R.cs FZ,.cells (nH s R o now rc sc) FZ]):=by rw[hT2];simp
    have y7:=fun L=>aA x7 L;refine⟨T.length+1,s,m,fo',_,?_,by rw[<-e1];exact ok3,?_,by omega,by omega,by omega,fun q e=>by have:=n6 q e;omega⟩
    ·rw[<-e1];rw[Rc]at cr ty3⊢;rw[rp]at ty3⊢;simp only[BF,n2,mc,cm.1,cm.2,cr,x4,x7,y7,ty3,pK,bg,splice,AV.cells,AV.flat,EVX,seval]
    ·rw[<-e1];have ol:o<Y.length:=(a00.mp ho).1;exact⟨by rw[bI];rfl,aA oT _,n3.plus _,by omega,by have:=n3.ml;omega,by simp,by omega,by omega,by simp,cm⟩
   ·left;refine⟨ce,?_⟩;have ce':(e !=0)=true:=by simpa using ce
    rw[V9,if_neg ce]at cr;have zc:afs.cs=[.int .i64 0,.int .i64 0,.sl 0 [],.int .i64 0,.sl 0 [],.int .i64 0,.sl 0 [],.int .i64 0,.sl 0 []]:=rfl;rw[zc]at cr;simp only[BF,n2,mc,cm.1,cm.2,cr,ce',x4,x7,tyT,pK,bg,splice,AV.cells,AV.flat,EVX,seval]
structure jH where
 nm:LU
 data:LU
 fs:List PS
 h:Bool
 l:List iy
 now:Int
 b0:Int
 b1:Int
 rc:Int
 sc:Int
def jH.cs(c:jH):LA:=[.str c.nm,.str c.data,.sl c.fs.length (c.fs.flatMap pC),.bool c.h,Kq c.l,.int .i64 c.now,.int .i64 c.b0,.int .i64 c.b1,.int .i64 c.rc,.int .i64 c.sc]
theorem jH.nvs(c:jH):NVs c.cs:=.cons (.str _) (.cons (.str _) (.cons (vJ _) (.cons (.bool _) (.cons (TL _) (.cons (.int _ _) (.cons (.int _ _) (.cons (.int _ _) (.cons (.int _ _) (.cons (.int _ _) .nil)))))))))
structure MadeHas(C:Ctx):Prop extends RNewHas C where
 jud:afz C
 ver:Has C AC uA
 made28:Has C df o8
def ah7 (H:MadeHas C) (c:jH) (hl:c.l.length<=60) (O:St):
  aj C AC [.agg c.cs] O=some (.ref (O.length+1) 0,O++[.cells c.cs FZ,FY c.h c.l]):=by
 have tk:∀Y,tidy O.length [.ref (O.length+1) 0] Y=Y:=fun Y=>nO (by simp[ai,below]) Y
 have e1:=fun Y=>aoi H.jud Y;have e2:=fun Y=>anm H.jud c.l hl Y;rw[H.ver.go (NVs.hand (.cons (.agg c.nvs) .nil) _)];unfold jH.cs FY;unfold Kq at*;cases c.h
 ·simp only[uA,e2,tk,AV.cells,EVX,seval]
 ·simp only[uA,e1,tk,AV.cells,EVX,seval]
def Zk:LU:=[115,112,111,105,108,116]
def agZ(l:LA)(i:Nat)(cs:LA)(h:i+cs.length<=l.length):(splice l i cs).length=l.length:=by
 unfold splice;simp;omega
def Qv{N:Nat}:∀(k:Nat) {l:LA},ai N l=true->ai N (l.take k)=true
 |0,_,_=>by rw[aC9];rfl
 |_+1,[],_=>rfl
 |k+1,x::l,h=>by
  rw[ai,a02]at h;rw[ax4,ai,h.1,Qv k h.2];rfl
def NL (p:Nat) (nm data:AV) (fv:AV) (N:Nat) (qo:Option Nat) (hp:qo≠some p) (rv ev:AV) (hN:N<=1000):∀(n i:Nat) (T:St),i+n=N->Ok T->T[p]?=some (.cells [nm,data,fv] FZ)->
  (N=0/\fv=.xsl 0 [])\/(∃q l,qo=some q/\fv=.msl q 0 N 2/\l.length=N*2/\ai 0 l=true/\T[q]?=some (.cells l FZ))->
  ∃T',aH C (aj C) 41 [4,5,6,7] jP [(4,.ref p 0),(5,rv),(6,ev),(7,.int .i64 i)] T=some (.exit 0,[(5,rv),(6,ev)],T')/\T'.length=T.length/\Ok T'/\∀k,qo≠some k->T'[k]?=T[k]?:=by
 intro n
 induction n with
 |zero=>
  intro i T hi hT h1 h2;have hln:aY T 1 fv=some N:=by
   rcases h2 with⟨rfl,rfl⟩|⟨q,l,_,rfl,_⟩<;>rfl
  refine⟨T,?_,rfl,hT,fun _ _=>rfl⟩;rw[aB (he:=rfl)];have h:¬((i:Int)<(N:Int)):=by omega
  simp only[jP,h1,hln,h,EVX,seval]
 |succ n ih=>
  intro i T hi hT h1 h2;rcases h2 with⟨h2,_⟩|⟨q,l,rfl,rfl,h3,h4,h5⟩
  ·omega
  have hpq:q≠p:=fun e=>hp (by rw[e])
  have bl:ai 0 (splice l (i*2) [.str Zk,.str Zk])=true:=wE _ _ (wE _ _ (Qv _ h4) rfl) (Gl _ h4);obtain⟨T',a,b,c,d⟩:=ih (i+1) (T.set q (.cells (splice l (i*2) [.str Zk,.str Zk]) FZ)) (by omega) (Ok.set2 hT q (by rw[AO.below];exact aP (au3 _) _ bl)) (aI h1 (fun e=>hpq e.symm) _) (.inr ⟨q,_,rfl,rfl,by rw[agZ _ _ _ (by simp;omega),h3],bl,bC h5 _⟩)
  refine⟨T',?_,by rw[b,a96],c,fun k hk=>by rw[d k hk,ay0 (fun e=>hk (by rw[e]))]⟩
  rw[<-a,aB (he:=rfl)];generalize hk:aH C (aj C) 41 [4,5,6,7] jP=k;have h:((i:Int)<(N:Int)):=by omega
  have i0:(0:Int)<=i:=by omega
  have hw:=wrS i (by omega)
  have hlt:i<N:=by omega
  have hl2:i*2+2<=l.length:=by omega
  simp only[jP,h1,h5,h,i0,hw,hlt,hl2,aY,Zk,AV.cells,AV.flat,EVX,seval]
theorem iZ.keep{Y S:St}{nm fs F s m fo oo}(h:iZ Y nm fs F s m fo oo)(hs:S[s]?=Y[s]?)(hm:S[m]?=Y[m]?)(hf:∀q,fo=some q->S[q]?=Y[q]?)(ho:∀q,oo=some q->S[q]?=Y[q]?):iZ S nm fs F s m fo oo:=by
 obtain⟨fv,ov,a,b,c⟩:=h.st;refine⟨⟨fv,ov,by rw[hs];exact a,?_,?_⟩,by rw[hm];exact h.mp,h.len,h.fs_,h.os,h.fo_⟩
 ·rcases b with b|⟨q,fz,b1,b2,b3,b4⟩
  ·exact .inl b
  ·exact .inr ⟨q,fz,b1,b2,b3,by rw[hf q b1];exact b4⟩
 ·rcases c with c|⟨q,b1,b2,b3,b4⟩
  ·exact .inl c
  ·exact .inr ⟨q,b1,b2,b3,by rw[ho q b1];exact b4⟩
theorem bG.keep{Y S:St}{h l R now rc sc nm fs F r s m o fo oo}(a:bG Y h l R now rc sc nm fs F r s m o fo oo)(hr:S[r]?=Y[r]?)(ho:S[o]?=Y[o]?)(hs:S[s]?=Y[s]?)(hm:S[m]?=Y[m]?)(hf:∀q,fo=some q->S[q]?=Y[q]?)(hoo:∀q,oo=some q->S[q]?=Y[q]?):bG S h l R now rc sc nm fs F r s m o fo oo:=
 ⟨by rw[hr];exact a.rp,by rw[ho];exact a.ver,a.st.keep hs hm hf hoo,a.rs,a.rm,a.ro,a.vs,a.vm,a.vo,a.caps⟩
def apj(C:Ctx)(c:jH)(R:kC)(e:Int)(Y:St):Prop:=
 (vH c.nm c.fs c.rc c.sc e≠0/\aj C df [.agg c.cs] Y=some (.tup [.nilp,.int .i64 (vH c.nm c.fs c.rc c.sc e)],Y))\/
 (vH c.nm c.fs c.rc c.sc e=0/\∃r s m o fo' T,aj C df [.agg c.cs] Y=some (.tup [.ref r 0,.int .i64 0],T)/\Ok T/\bG T c.h c.l R c.now c.rc c.sc c.nm c.fs [] r s m o fo' none/\Y.length<=r/\Y.length<=s/\Y.length<=m/\Y.length<=o/\(∀q,fo'=some q->Y.length<=q)/\T.take Y.length=Y)
def aos (H:MadeHas C) (c:jH) (hl:c.l.length<=60) (hfs:c.fs.length<=1000) (R:kC) (e:Int)
  (hR:∀(O:St) (o:Nat),Ok O->O[o]?=some (FY c.h c.l)->aj C wZ [.ref o 0,.str c.data] O=some (.tup [.agg (V9 R e).cs,.int .i64 e],O))
  {Y:St} (hτ:Ok Y):apj C c R e Y:=by
 unfold apj;have cb:AO.below 0 (.cells c.cs FZ)=true:=c.nvs.cl;have vb:AO.below 0 (FY c.h c.l)=true:=by
  unfold FY;cases c.h
  ·have:=ZF c.l;simp[adh,AO.below,ai,below,this]
  ·rfl
 have a0:=fun Y:St=>show tY Y 2 32 none (.xsl 0 []) 0 []=some (.xsl 0 [],Y)from rfl;have V:=fun O=>ah7 H c hl O;rw[H.made28.go (NVs.hand (.cons (.agg c.nvs) .nil) _)];by_cases n0:c.fs=[]
 ·have ok2:Ok (Y++[.cells c.cs FZ,.cells [.str c.nm,.str c.data,.xsl 0 []] FZ,.cells c.cs FZ,FY c.h c.l]):=hτ.plus (by simp only[a07,aw0,cb,vb];rfl)
  have N:=aeV H.toRNewHas c.h c.l R e c.data hR ok2 (Y.length+3) (by rw[bI];rfl) c.nm (fv:=.xsl 0 []) (fs:=c.fs) (fo:=none) (.inl ⟨n0,rfl,rfl⟩) hfs c.now c.b0 c.b1 c.rc c.sc
  have ce:c.cs=[.str c.nm,.str c.data,.sl 0 [],.bool c.h,Kq c.l,.int .i64 c.now,.int .i64 c.b0,.int .i64 c.b1,.int .i64 c.rc,.int .i64 c.sc]:=by rw[jH.cs,n0];rfl
  rcases N with⟨m1,m2⟩|⟨m1,r,s,m,fo',L,m2,ok3,m3,m4,m5,m6,m7⟩
  ·left;refine⟨m1,?_⟩;have lp:=NL (C:=C) (Y.length+1) (.str c.nm) (.str c.data) (.xsl 0 []) 0 none (fun e=>nomatch e) .nilp (.int .i64 (vH c.nm c.fs c.rc c.sc e)) (by omega) 0 0 _ rfl ok2 (by rw[bI];rfl) (.inl ⟨rfl,rfl⟩)
   obtain⟨T',q1,q2,q3,q4⟩:=lp;rw[show((0:Nat):Int)=0 from rfl]at q1;have tk:T'.take Y.length=Y:=by
    refine aw7 fun k=>?_
    grind
   rw[ce]at m2 V q1⊢;unfold Kq at*;have ty:=qZ (vs:=[.nilp,.int .i64 (vH c.nm c.fs c.rc c.sc e)]) hτ rfl tk;simp only[o8,V,m2,a0,vS,q1,ty,AV.cells,AV.flat,splice,EVX,seval]
  ·right;refine⟨m1,?_⟩;simp only[a04,a09,a90]at m4 m5 m6 m7;have lp:=NL (C:=C) (Y.length+1) (.str c.nm) (.str c.data) (.xsl 0 []) 0 none (fun e=>nomatch e) (.ref r 0) (.int .i64 0) (by omega) 0 0 _ rfl ok3 (aA (by rw[bI];rfl) _) (.inl ⟨rfl,rfl⟩)
   obtain⟨T',q1,q2,q3,q4⟩:=lp;rw[show((0:Nat):Int)=0 from rfl]at q1;have tk:T'.take Y.length=Y:=by
    refine aw7 fun k=>?_
    grind
   refine⟨r,s,m,Y.length+3,fo',T',?_,q3,m3.keep (q4 _ (fun e=>nomatch e)) (q4 _ (fun e=>nomatch e)) (q4 _ (fun e=>nomatch e)) (q4 _ (fun e=>nomatch e)) (fun q _=>q4 q (fun e=>nomatch e)) (fun q e=>nomatch e),by omega,by omega,by omega,by omega,fun q e=>by have:=m7 q e;omega,tk⟩
   have nb:¬r<Y.length:=by omega
   have ty:tidy Y.length [.ref r 0,.int .i64 0] T'=T':=nO (by simp[ai,below,nb]) _
   rw[ce]at m2 V q1⊢;unfold Kq at*;simp only[au4,a81,a99]at q1;simp only[o8,V,m2,a0,vS,q1,ty,AV.cells,AV.flat,splice,EVX,seval]
 ·have fl:=aU tJ c.fs;have h1:¬c.fs.length=0:=fun e=>n0 (aC5.mp e);have ap:=fun Y:St=>TZ Y none (sz:=2) (bytes:=32) (n:=0) (m:=c.fs.length) (l:=[]) (c.fs.flatMap pC) h1 rfl (by omega) (by omega)
  simp only[av5,a99]at ap;have fa:=aih c.fs;have tf:(c.fs.flatMap pC).take (c.fs.length*2)=c.fs.flatMap pC:=by rw[<-fl,aD9]
  have ok2:Ok (Y++[.cells c.cs FZ,.cells [.str c.nm,.str c.data,.msl (Y.length+2) 0 c.fs.length 2] FZ,.cells (c.fs.flatMap pC) FZ,.cells c.cs FZ,FY c.h c.l]):=Mc hτ (by
   have h1:=AO.below_mono (au3 (Y.length+5)) _ cb;have h2:=AO.below_mono (au3 (Y.length+5)) _ vb;have h3:AO.below (Y.length+5) (.cells (c.fs.flatMap pC) FZ)=true:=by rw[AO.below];exact aP (au3 _) _ (fK (fun _=>rfl) _)
   have h4:AO.below (Y.length+5) (.cells [.str c.nm,.str c.data,.msl (Y.length+2) 0 c.fs.length 2] FZ)=true:=by simp[AO.below,ai,below]
   simp_all)
  have N:=aeV H.toRNewHas c.h c.l R e c.data hR ok2 (Y.length+4) (by rw[bI];rfl) c.nm (fv:=.msl (Y.length+2) 0 c.fs.length 2) (fs:=c.fs) (fo:=some (Y.length+2)) (.inr ⟨Y.length+2,_,rfl,n0,rfl,by rw[bI];rfl⟩) hfs c.now c.b0 c.b1 c.rc c.sc
  have ce:c.cs=[.str c.nm,.str c.data,.sl c.fs.length (c.fs.flatMap pC),.bool c.h,Kq c.l,.int .i64 c.now,.int .i64 c.b0,.int .i64 c.b1,.int .i64 c.rc,.int .i64 c.sc]:=rfl;rcases N with⟨m1,m2⟩|⟨m1,r,s,m,fo',L,m2,ok3,m3,m4,m5,m6,m7⟩
  ·left;refine⟨m1,?_⟩;have lp:=NL (C:=C) (Y.length+1) (.str c.nm) (.str c.data) (.msl (Y.length+2) 0 c.fs.length 2) c.fs.length (some (Y.length+2)) (by simp) .nilp (.int .i64 (vH c.nm c.fs c.rc c.sc e)) hfs c.fs.length 0 _ (by omega) ok2 (by rw[bI];rfl) (.inr ⟨Y.length+2,_,rfl,rfl,fl,fK (fun _=>rfl) _,by rw[bI];rfl⟩)
   obtain⟨T',q1,q2,q3,q4⟩:=lp;rw[show((0:Nat):Int)=0 from rfl]at q1;have tk:T'.take Y.length=Y:=by
    refine aw7 fun k=>?_
    grind
   rw[ce]at m2 V q1⊢;unfold Kq at*;have ty:=qZ (vs:=[.nilp,.int .i64 (vH c.nm c.fs c.rc c.sc e)]) hτ rfl tk;simp only[o8,V,m2,fl,fa,ap,vS,q1,ty,AV.cells,AV.flat,splice,EVX,seval]
  ·right;refine⟨m1,?_⟩;simp only[a04,a09,a90]at m4 m5 m6 m7;have lp:=NL (C:=C) (Y.length+1) (.str c.nm) (.str c.data) (.msl (Y.length+2) 0 c.fs.length 2) c.fs.length (some (Y.length+2)) (by simp) (.ref r 0) (.int .i64 0) hfs c.fs.length 0 _ (by omega) ok3 (aA (by rw[bI];rfl) _) (.inr ⟨Y.length+2,_,rfl,rfl,fl,fK (fun _=>rfl) _,aA (by rw[bI];rfl) _⟩)
   obtain⟨T',q1,q2,q3,q4⟩:=lp;rw[show((0:Nat):Int)=0 from rfl]at q1;have tk:T'.take Y.length=Y:=by
    refine aw7 fun k=>?_
    grind
   refine⟨r,s,m,Y.length+4,fo',T',?_,q3,m3.keep (q4 _ (by simp;omega)) (q4 _ (by simp)) (q4 _ (by simp;omega)) (q4 _ (by simp;omega)) (fun q e=>q4 q (by have:=m7 q e;simp;omega)) (fun q e=>nomatch e),by omega,by omega,by omega,by omega,fun q e=>by have:=m7 q e;omega,tk⟩
   have nb:¬r<Y.length:=by omega
   have ty:tidy Y.length [.ref r 0,.int .i64 0] T'=T':=nO (by simp[ai,below,nb]) _
   rw[ce]at m2 V q1⊢;unfold Kq at*;simp only[au4,a81,a99]at q1;simp only[o8,V,m2,fl,fa,ap,vS,q1,ty,AV.cells,AV.flat,splice,EVX,seval]
end Go.Ev
