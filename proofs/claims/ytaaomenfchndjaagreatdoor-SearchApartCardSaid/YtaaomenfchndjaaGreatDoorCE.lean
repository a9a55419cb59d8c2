/- Code. No conditions. -/
import Derived.Test.YtaaomenfchndjaaGreatDoorCD
set_option linter.unusedVariables false
set_option linter.unusedSimpArgs false
set_option linter.defProp false
set_option maxHeartbeats 4000000
set_option maxRecDepth 1000000
open _root_ renaming Int→P,rfl→w8,List→X,Nat→I,if_neg→j6,if_pos→j7,decide_eq_true_eq→j8,Option→j9,absurd→X2,decide_eq_false→Z2,Bool→L,bne_self_eq_false→Z3,decide_eq_true→Z6,congrArg→D,decide_eq_false_iff_not→Y,trivial→s,and_self→K5
open Option renaming isSome_some→w9,map_none→b
open Go.Ev.AO renaming below→k9
open Go.Ev renaming splice→j0,EVX→W,ofBytes→B,below→Z0,KsA→a,a90→R,mapOf→K0,a08→K1,Has→T,hand→K3,a05→K4,a97→w,SnV→E,pile→y,NVs→t,tidy→K7,LsA→h
open Decidable renaming decide→X1
open Go.IntKind renaming wrap_i64→N,wrap_u32→j,wrap_u8→H,signed→c,wrap→g,bits→i
open List renaming countP_cons→k,flatMap_append→v,any_append→e,take_append_drop→K2,mapIdx_cons→f,take_left'→K6,range→d
open Classical renaming axiomOfChoice→Z1
open BitVec renaming ofInt→Q
namespace Go.Ev
open Option renaming some→J, none→U
open List renaming length→z
open Go.IntKind renaming i64→r
open Bool renaming false→eF, true→eT
variable{C C1:Ctx}
structure Rp where
 h:Bool
 l:List iH
 R:jR
 aw:Int
 rc:Int
 sc:Int
 nm:LU
 fs:List PS
 F:List aQ
 r:Nat
 s:Nat
 m:Nat
 o:Nat
 fo:Option Nat
 oo:Option Nat
def Rp.az(p:Rp)(S:St):Prop:=bH S p.h p.l p.R p.aw p.rc p.sc p.nm p.fs p.F p.r p.s p.m p.o p.fo p.oo
def Rp.b9(p:Rp)(i:I):Prop:=i=p.r\/i=p.s\/i=p.m\/i=p.o\/p.fo=J i\/p.oo=J i
def Rp.to(p:Rp)(F:X aQ)(oo:j9 I):Rp:={p with F:=F,oo:=oo}
def Rp.lt{p:Rp}{S:St}(a:p.az S){i:I}(h:p.b9 i):i<z S:=by
 have k:=bH.lt a;rcases h with rfl|rfl|rfl|rfl|e|e;·exact k.r
 ·exact k.s
 ·exact k.m
 ·exact k.o
 ·exact k.fo _ e
 ·exact k.oo _ e
def Rp.bB{p:Rp}{S T:St}(a:p.az S)(h:∀i x,p.b9 i->S[i]?=J x->T[i]?=J x):p.az T:=bH.bB a λi x hi e=>h i x hi e
def Rp.eD{p:Rp}{S:St}(a:p.az S)(L:St):p.az (S++L):=bH.eD a L
structure Stp(S S':St)(p p':Rp):Prop where
 ok:Ok S'
 az:p'.az S'
 dt:S.length<=S'.length
 bp:∀i x,¬p.b9 i->S[i]?=some x->S'[i]?=some x
 eM:∀i,p'.b9 i->p.b9 i\/S.length<=i
def Req.o5{S S':St}{p:Rp}{d:X aQ}{a:j9 I}(q:Req S S' p.s p.m p.F d p.oo a)(b:(p.to d a).az S'):Stp S S' p (p.to d a):=
 ⟨q.ok,b,q.dt,λi x h e=>q.bp i x (λc=>h (by simp[Rp.b9,c])) (λc=>h (by simp[Rp.b9,c])) (λc=>h (by simp[Rp.b9,c])) e,λi h=>by
  rcases h with e|e|e|e|e|e;·exact .inl (.inl e)
  ·exact .inl (.inr (.inl e))
  ·exact .inl (.inr (.inr (.inl e)))
  ·exact .inl (.inr (.inr (.inr (.inl e))))
  ·exact .inl (.inr (.inr (.inr (.inr (.inl e)))))
  ·rcases q.eM i e with e|e;·exact .inl (.inr (.inr (.inr (.inr (.inr e)))))
   ·exact .inr e⟩
structure Rp.bN(C1:Ctx)(K:Dz)(p:Rp):Prop where
 bV:CaseOk C1 p.h p.l p.R p.aw K p.fs
 cH:EH p.fs p.F
 dd:UA p.F
def Rp.of(p:Rp)(c:kZ)(R:jR):Prop:=p.h=c.h/\p.l=c.l/\p.R=R/\p.aw=c.aw/\p.rc=c.rc/\p.sc=c.sc/\p.nm=c.nm/\p.fs=c.fs
def att:UA []:=.nil
def XZ{S S':St}{n:I}(b:n<=z S)(h:∀i x,i<n->S[i]?=J x->S'[i]?=J x):S'.take n=S.take n:=by
 refine aD6 λk=>?_;rw[aE3,aE3];split;·next a=>have e:S[k]?=J S[k]:=a01 (by omega);rw[e];exact h k _ a e
 ·rfl
def Stp.bR{S S':St}{p c:Rp}(q:Stp S S' p c){n:I}(a:n<=z S)(h:∀i,p.b9 i->n<=i):S'.take n=S.take n:=
 XZ a λi x hi e=>q.bp i x (λb=>by have:=h i b;omega) e
end Go.Ev
namespace Go.Ev
open Option renaming some→J, none→U
open List renaming length→z
open Go.IntKind renaming i64→r
open Bool renaming false→eF, true→eT
variable{C:Ctx}
structure IB where
 S:LU->SnV
 s1:LU->Int
 s2:LU->Int
 s3:LU->Int
 pr:LU->Bool
 T:LU->dV
 t1:LU->Int
 t2:LU->Int
 t3:LU->Int
 pu:LU->mP->List PS->Bool
 od:LU->List PS->Bool
def IB.sc(b:IB)(now:P)(d:LU)(z:P):P:=XT z (b.s1 d) (b.s2 d) (b.s3 d) (b.pr d) (X1 ((b.S d).bx<=now))
def IB.rc(b:IB)(now:P)(p:oZ)(a:mP)(ks:X PS)(d:LU)(z:P):P:=roleC z p.I d.length (b.od d p.aM) (b.t1 d) (b.t2 d) (b.t3 d) (b.pu d a ks) (b.T d).bU p.cy (X1 ((b.T d).bx<=now))
def IB.K(b:IB)(now:P):Dz:=⟨λd z=>(al3 (b.S d) (b.sc now d z),b.sc now d z),λp a ks d z=>(agH (b.T d) (b.rc now p a ks d z),b.rc now p a ks d z)⟩
def OG(d:T C qM zL)(a b:P)(O:St):ai C qM [.cQ r a,.cQ r b] O=J (.cW (X1 (a<=b)),O):=by
 rw[d.go (NVs.E (.cV (.cQ _ _) (.cV (.cQ _ _) .db)) _)];by_cases c:a<=b;·simp only[zL,c,W,seval]
 ·simp only[zL,c,W,seval]
def asa {Q:dV->Prop} (S:∀j:JV,∃(t:dV) (e:Int),(t.ok/\Q t)/\∀Y,ai C qc [j.av] Y=J (.de [.cX t.B,.cQ r e],Y)) (H:ChkTot C) (X:Has C qM zL) (h:Bool) (l:List iH) (b1:xA l=eF) (data:LU) (L:z data<=LB):
  ∃(T:dV) (e1 e2 e3:Int) (en:mP->List PS->Bool) (od:List PS->Bool),(T.ok/\Q T)/\∀(p:oZ) (a:mP) (ks:List PS) (now size:Int) (O:St) (o:Nat),DC p.aM->uQ a.V->DC ks->Ok O->O[o]?=J (TD h l)->
   ai C D6 [.da o 0,.cX p.B,.cX a.B,.sl (z ks) (ks.flatMap pC),.cQ r now,.cU data,.cQ r size] O=
    J (.de [.cX (agH T (roleC size p.I (z data) (od p.aM) e1 e2 e3 (en a ks) T.bU p.cy (X1 (T.bx<=now)))).B,.cQ .u8 (roleC size p.I (z data) (od p.aM) e1 e2 e3 (en a ks) T.bU p.cy (X1 (T.bx<=now)))],O):=by
 obtain⟨j,n1,e1,q1⟩:=H.rd data L;obtain⟨co,e2,R,q2⟩:=H.sg j;have K:∀a:mP×List PS,∃en:Bool,uQ a.1.V->DC a.2->∀Y o,Y[o]?=J (TD h l)->ai C lC [.da o 0,co,.cX (aC a.1.th a.1.V),.sl (z a.2) (a.2.flatMap pC)] Y=J (.cW en,Y):=λa=>by
  by_cases c:uQ a.1.V/\DC a.2;·obtain⟨en,q⟩:=H.cN h l co a.1.th a.1.V a.2 b1 c.1 c.2 R;exact⟨en,λ_ _=>q⟩
  ·exact⟨eF,λV W=>X2 ⟨V,W⟩ c⟩
 obtain⟨en,q5⟩:=Z1 K;obtain⟨k,I,rfl,lp⟩:=agf R;obtain⟨T,e3,tok,q3⟩:=S k;obtain⟨D,q6⟩:=H.ei data L;obtain⟨x0,x1,x2,x3,x4,je,y,A,B,E,G⟩:=j.h0;obtain⟨r0,r1,r2,r3,r4,ke,s,u,v,w,x⟩:=k.h0;unfold JV.av at q1 q2 q3;rw[je]at q1 q2;rw[ke]at q2 q3 q5;have n:∀hs:List PS,∃b:Bool,DC hs->∀(Y:St) (o:Nat) (F:jC),Ok Y->Y[o]?=J (.cP F.B FZ)->F.ph=.sl (z hs) (hs.flatMap pC)->F.am=data->ai C jB [.da o 0] Y=J (.cW b,Y):=λhs=>by
  by_cases c:DC hs
  case neg=>exact⟨eF,λh=>X2 h c⟩
  by_cases M:z hs=0;·have:hs=[]:=aB7 M;subst this;exact⟨eF,λ_ Y o F f i g N=>YA H.bS.toChkHas f i [] g⟩
  ·obtain⟨d,b,q⟩:=H.m3 hs c;exact⟨_,λ_ Y o F f i g N=>acr H.bS.toChkHas f i (z hs) _ g M (by rw[g];exact q Y) (by rw[N];exact q6 Y)⟩
 obtain⟨od,qo⟩:=Z1 n;refine⟨T,e1,e2,e3,λa ks=>en (a,ks),od,tok,λp a ks now size O o hh Z hk m P=>?_⟩;have hl:o<z O:=(a00.mp P).1;have hI:(inf h l o a.th a.V ks p.C p.cy p.I (.sl (z p.aM) (p.aM.flatMap pC)) now data size).ok (z O):=⟨.inr ⟨o,w8,hl⟩,Ad _ (pG a.V),Ad _ (rV ks),(Ad _ (rV p.aM)).b0⟩;rw[<-avb];exact ads H.bS m hI (Ad _ (rV p.aM)) ⟨w8,w8⟩
  {x0:=x0,x1:=x1,x2:=x2,x3:=x3,x4:=x4,n1:=n1,e1:=e1,r0:=r0,r1:=r1,r2:=r2,r3:=r3,r4:=r4,r5:=.sl (z I) (I.flatMap pC),e2:=e2,en:=en (a,ks)
   jj:=y,jl:=A,jr:=B,js:=E,jt:=G,ky:=s,kB:=u,kI:=v,kN:=w,kO:=x,kS:=Ad _ (rV I)
   rd:=λY _=>q1 Y,sg:=λ_ Y _=>q2 Y
   cN:=λ_ _ Y _ hx=>q5 (a,ks) Z hk Y o (hx o _ P)
   tv:=T.bU,tx:=T.bx,t2:=.sl (z T.bi) (T.bi.flatMap TgV.B),t3:=.sl (z T.bv.al) (T.bv.al.flatMap pC),t4:=.sl (z T.bv.O) (T.bv.O.flatMap RoV.B),t5:=.cQ r T.bv.cf,t6:=.sl (z T.bv.V) (T.bv.V.flatMap sC),t7:=.cQ r T.bv.cp,t8:=.cU T.bv.bR,e3:=e3,ov:=X1 (T.bx<=now),od:=od p.aM
   h2:=Ad _ (.sl _ (dP (λco=>co.aL) T.bi)),h3:=Ad _ (rV _),h4:=Ad _ (.sl _ (ZU T.bv.O)),h5:=KT _ _,h6:=Ad _ (pG _),h7:=KT _ _,h8:=amR _
   tg:=λ_ _ Y _=>q3 Y,gS:=λY _=>OG X _ _ Y,m8:=qo p.aM hh}
def asY (H:ChkTot C) (g:T C qM zL) (h:L) (l:X iH) (R:jR) (data:LU) (b1:xA l=eF) (c:uQ R.sn.V) (d:DC R.ks) (f:z data<=LB):
  ∃(S:E) (e1 e2 e3:P) (en:L),S.ok/\∀(now size:P) (O:St) (o:I),Ok O->O[o]?=J (TD h l)->
   ai C tX [.da o 0,.cX R.B,.cQ r now,.cU data,.cQ r size] O=
    J (.de [.cX (al3 S (XT size e1 e2 e3 en (X1 (S.bx<=now)))).B,.cQ .u8 (XT size e1 e2 e3 en (X1 (S.bx<=now)))],O):=by
 obtain⟨S,e1,e2,e3,en,ov,b,q,j⟩:=asZ H h l R data b1 c d f;have e:∀now,ov now=X1 (S.bx<=now):=λnow=>by have:=(q now []).symm.trans (OG g _ _ _);simpa using this
 refine⟨S,e1,e2,e3,en,b,λnow size O o a i=>?_⟩;rw[<-av7,<-e];exact j now size O o a i
def adT{Q:dV->Prop}(A:Q EE)(u:∀j:JV,∃(t:dV) (e:P),(t.ok/\Q t)/\∀Y,ai C qc [j.av] Y=J (.de [.cX t.B,.cQ r e],Y))(H:ChkTot C)(s:Has C qM zL)(h:L)(l:X iH)(b1:xA l=eF)(R:jR)(v:uQ R.sn.V)(w:DC R.ks):∃b:IB,(∀d,Q (b.T d))/\∀now,F6 C h l R now (b.K now):=by
 have sx:∀d:LU,∃x:E×P×P×P×L,d.length<=LB->x.1.ok/\∀(now size:P) (O:St) (o:Nat),Ok O->O[o]?=J (TD h l)->
   ai C tX [.da o 0,.cX R.B,.cQ r now,.cU d,.cQ r size] O=
    J (.de [.cX (al3 x.1 (XT size x.2.1 x.2.2.1 x.2.2.2.1 x.2.2.2.2 (X1 (x.1.bx<=now)))).B,.cQ .u8 (XT size x.2.1 x.2.2.1 x.2.2.2.1 x.2.2.2.2 (X1 (x.1.bx<=now)))],O):=λd=>by
  by_cases c:d.length<=LB;·obtain⟨S,e1,e2,e3,en,q⟩:=asY H s h l R d b1 v w c;exact⟨(S,e1,e2,e3,en),λ_=>q⟩
  ·exact⟨(atK,0,0,0,eF),λh=>X2 h c⟩
 have tx:∀d:LU,∃x:dV×P×P×P×(mP->X PS->L)×(X PS->L),Q x.1/\(d.length<=LB->x.1.ok/\∀(p:oZ) (a:mP) (ks:X PS) (now size:P) (O:St) (o:Nat),DC p.aM->uQ a.V->DC ks->Ok O->O[o]?=J (TD h l)->
   ai C D6 [.da o 0,.cX p.B,.cX a.B,.sl ks.length (ks.flatMap pC),.cQ r now,.cU d,.cQ r size] O=
    J (.de [.cX (agH x.1 (roleC size p.I d.length (x.2.2.2.2.2 p.aM) x.2.1 x.2.2.1 x.2.2.2.1 (x.2.2.2.2.1 a ks) x.1.bU p.cy (X1 (x.1.bx<=now)))).B,.cQ .u8 (roleC size p.I d.length (x.2.2.2.2.2 p.aM) x.2.1 x.2.2.1 x.2.2.2.1 (x.2.2.2.2.1 a ks) x.1.bU p.cy (X1 (x.1.bx<=now)))],O)):=λd=>by
  by_cases c:d.length<=LB;·obtain⟨T,e1,e2,e3,en,od,⟨q,D⟩,B⟩:=asa u H s h l b1 d c;exact⟨(T,e1,e2,e3,en,od),D,λ_=>⟨q,B⟩⟩
  ·exact⟨(EE,0,0,0,λ_ _=>eF,λ_=>eF),A,λh=>X2 h c⟩
 obtain⟨f,hf⟩:=Z1 sx;obtain⟨g,m⟩:=Z1 tx;refine⟨⟨λd=>(f d).1,λd=>(f d).2.1,λd=>(f d).2.2.1,λd=>(f d).2.2.2.1,λd=>(f d).2.2.2.2,λd=>(g d).1,λd=>(g d).2.1,λd=>(g d).2.2.1,λd=>(g d).2.2.2.1,λd=>(g d).2.2.2.2.1,λd=>(g d).2.2.2.2.2⟩,λd=>(m d).1,λnow=>⟨λd z i=>?_,λd z O o i k n=>?_,λd z e=>?_,λp a ks d z e=>?_,λp a ks d z i=>?_,λp a ks d z O o y h2 h3 i k n=>?_⟩⟩;·exact av8 (hf d i).1 _
 ·exact(hf d i).2 now z O o k n
 ·exact j6 e
 ·exact j6 e
 ·exact avc ((m d).2 i).1 _
 ·exact((m d).2 i).2 p a ks now z O o y h2 h3 k n
def apA(H:ChkTot C)(f:T C qM zL)(h:L)(l:X iH)(b1:xA l=eF)(R:jR)(c:uQ R.sn.V)(d:DC R.ks):∃b:IB,∀now,F6 C h l R now (b.K now):=
 let⟨b,_,k⟩:=adT (Q:=λ_=>True) s (λj=>let⟨t,e,a,q⟩:=H.tg j;⟨t,e,⟨a,s⟩,q⟩) H f h l b1 R c d
 ⟨b,k⟩
variable{V:Val}
def avk{a:AV}(h:YM a=eT):NV a:=by cases a<;>first|(cases h;done)|exact .cW _|exact .cQ _ _|exact .cU _
def aj9{l:LA}(h:l.all YM=eT):t l:=λv hv=>avk (aB0.mp h v hv)
def af6{l:LA}(h:l.all YM=eT):l.all AV.Q=eT:=by rw[aB0]at*;intro v hv;have:=h v hv;cases v<;>first|(cases this;done)|rfl
def La{l:X iH}(h:xA l=eF):z l<=8192/\∀p∈l,z p.id<=LB/\z p.j0<=LB/\z p.ei<=LB:=by simp only[xA,aH5,Y,List.any_eq_false,ain,Bool.not_eq_true]at h;grind [LB]
def axB{th:P}{ids:X LU}(h:uQ ids):M V (.cX [.cQ r,.ew [.df]]) (.cX (aC th ids)):=
 .cX _ _ (.ef _ _ _ _ w8 (.cQ _ _) (.ef _ _ _ _ w8 (aci ids (λs hs=>.ef _ _ _ _ w8 (.df _ (h.2 s hs)) .db) h.1) .db))
def ari{l:X PS}(h:DC l):M V (.ew [.df,.df]) (.sl (z l) (l.flatMap pC)):=
 aci l (λp a=>.ef _ _ _ _ w8 (.df _ (h.2 p a).1) (.ef _ _ _ _ w8 (.df _ (h.2 p a).2) .db)) h.1
def auH{l:X iH}(h:xA l=eF):M V (.ew [.df,.df,.df]) (TB l):=
 aci l (λp a=>.ef _ _ _ _ w8 (.df _ ((La h).2 p a).1) (.ef _ _ _ _ w8 (.df _ ((La h).2 p a).2.1) (.ef _ _ _ _ w8 (.df _ ((La h).2 p a).2.2) .db))) (La h).1
end Go.Ev
namespace Go.Ev
open Option renaming some→J, none→U
open List renaming length→z
open Go.IntKind renaming i64→r
open Bool renaming false→eF, true→eT
variable{C C1:Ctx}
def QL{S O:St}{n i:I}(h:S.take n=O)(hi:i<z O):S[i]?=O[i]?:=by grind
structure adK(C1:Ctx)(bv:IB)(c:kZ)(R:jR)(Y T:St)(p:Rp):Prop where
 ok:Ok T
 az:p.az T
 of:p.of c R
 F:p.F=[]
 ah:∀i,p.b9 i->Y.length<=i
 bR:T.take Y.length=Y
 bN:p.bN C1 (bv.K c.aw)
theorem adK.dt{C1 a c R Y T p}(h:adK C1 a c R Y T p):z Y<=z T:=by grind [adK]
def Stp.ax{S:St}{p:Rp}(b:Ok S)(a:p.az S):Stp S S p p:=⟨b,a,a09 _,λ_ _ _ h=>h,λ_ h=>.inl h⟩
def Stp.N{S T a:St}{p q d:Rp}(s:Stp S T p q)(t:Stp T a q d):Stp S a p d:=
 ⟨t.ok,t.az,aF2 s.dt t.dt,λi x h e=>t.bp i x (λb=>by
  grind [Stp]) (s.bp i x h e),λi h=>by
  grind [Stp]⟩
theorem Stp.ac{S T:St}{p q:Rp}(s:Stp S T p q){L:St}(a:Ok (T++L)):Stp S (T++L) p q:=
 ⟨a,(s.az).eD L,by have:=s.dt;simp;omega,λi x h e=>aj (s.bp i x h e) L,s.eM⟩
def apd(p q:Rp):Prop:=∀i,p.b9 i->¬q.b9 i
def apd.py{p q:Rp}(h:apd p q):apd q p:=λi a b=>h i b a
def Stp.pm{S S':St}{p c q:Rp}(s:Stp S S' p c)(a:q.az S)(d:apd p q):q.az S'/\apd c q:=
 ⟨a.bB λi x h e=>s.bp i x (λb=>d i b h) e,λi h b=>by
  rcases s.eM i h with e|e;·exact d i e b
  ·have:=Rp.lt a b;omega⟩
end Go.Ev
namespace Go.Ev
open Option renaming some→J, none→U
open List renaming length→z
open Go.IntKind renaming i64→r
open Bool renaming false→eF, true→eT
noncomputable section
def bD:KC:=(.mk ?k:h 10 [] 0).1
attribute [local irreducible] bD
def yI:KF:=(.mk ?k:a 10 [bD]).1
def Ap:KF:=(.mk ?k:a 30 []).1
def pM:KF:=(.mk ?k:a 32 []).1
def oG:KC:=(.mk ?k:h 34 [] 0).1
attribute [local irreducible] oG
def FO:KF:=(.mk ?k:a 34 [oG]).1
def OJ:KF:=(.mk ?k:a 65 []).1
end
variable{C C1:Ctx}
structure gI where
 C:LU
 ak:mP
 b5:Bool
def gI.B(s:gI):LA:=[.cU s.C,.cQ r s.ak.th,.sl (z s.ak.V) (s.ak.V.flatMap sC),.cW s.b5]
theorem gI.dt(s:gI):z s.B=4:=w8
theorem gI.aL(s:gI):ae 0 s.B=eT:=by simp only[gI.B,ae,Z0,OC];rfl
structure WtV where
 C:LU
 L:Int
 ak:mP
 al:List PS
 cm:Option (Nat×Nat)
def WtV.fn(w:WtV):AV:=match w.cm with|U=>.dv (.func oz) [] []|J (a,b)=>.dv (.func rF) [] [.da a 0,.da b 0]
def WtV.B(w:WtV):LA:=[.cU w.C,.cQ r w.L,w.fn]
theorem WtV.dt(w:WtV):z w.B=3:=w8
def WOk(S:St)(oo:j9 I)(w:WtV):Prop:=∀a b,w.cm=J (a,b)->oo≠J a/\oo≠J b/\uQ w.ak.V/\DC w.al/\(∃t,S[a]?=J (.cP (gI.B ⟨w.C,w.ak,t⟩) FZ))/\∃d:Hw,S[b]?=J (.cP d.B FZ)/\d.al=w.al
def WOk.bB{S T:St}{oo j:j9 I}{w:WtV}(h:WOk S oo w)(g:∀i,i<z S->oo≠J i->j≠J i)(f:∀i x,oo≠J i->S[i]?=J x->T[i]?=J x):WOk T j w:=λa b e=>by obtain⟨c,h2,h3,h4,⟨t,h5⟩,d,h6,h7⟩:=h a b e;exact⟨g a (a00.mp h5).1 c,g b (a00.mp h6).1 h2,h3,h4,⟨t,f a _ c h5⟩,d,f b _ h2 h6,h7⟩
structure Py(S:St)(lv:AV)(ws:List WtV)(oo:Option Nat):Prop where
 az:(ws=[]/\oo=none/\lv=.cY)\/∃q l,oo=some q/\lv=.dj q 0 ws.length 3/\S[q]?=some (.cP l FZ)/\ws.length*3<=l.length/\l.take (ws.length*3)=ws.flatMap WtV.B
 cS:∀w∈ws,WOk S oo w
theorem WtV.aL{S:St}{oo:j9 I}{w:WtV}(h:WOk S oo w):ae (z S) w.B=eT:=by
 unfold WtV.B WtV.fn;cases e:w.cm with
 |none=>rfl|some x=>obtain⟨a,b⟩:=x;obtain⟨_,_,_,_,⟨t,h5⟩,d,h6,_⟩:=h a b e;have c:=(a00.mp h5).1;have h2:=(a00.mp h6).1;simp[ae,Z0,c,h2]
def afl{S:St}{oo:j9 I}:∀{ws:X WtV},(∀w∈ws,WOk S oo w)->ae (z S) (ws.flatMap WtV.B)=eT|[],_=>w8|w::ws,h=>by rw[aF0,Rj _ _ _ (WtV.aL (h w (by simp))),afl λx a=>h x (by simp[a])]
def Py.lt{S:St}{lv:AV}{ws:X WtV}{oo:j9 I}(h:Py S lv ws oo){q:I}(e:oo=J q):q<z S:=by
 rcases h.az with⟨_,h,_⟩|⟨a,l,h,_,h2,_⟩;·rw[h]at e;cases e
 ·rw[h]at e;cases e;exact(a00.mp h2).1
def Py.bB{S T:St}{lv:AV}{ws:X WtV}{oo:j9 I}(h:Py S lv ws oo)(f:∀i x,(oo=J i\/∃w∈ws,∃a b,w.cm=J (a,b)/\(i=a\/i=b))->S[i]?=J x->T[i]?=J x):Py T lv ws oo:=by
 refine⟨?_,λw g a b e=>?_⟩
 ·rcases h.az with h|⟨q,l,e,c,h2,h3⟩;·exact .inl h
  ·exact .inr ⟨q,l,e,c,f q _ (.inl e) h2,h3⟩
 ·obtain⟨c,h2,h3,h4,⟨t,h5⟩,d,h6,h7⟩:=h.cS w g a b e;exact⟨c,h2,h3,h4,⟨t,f a _ (.inr ⟨w,g,a,b,e,.inl w8⟩) h5⟩,d,f b _ (.inr ⟨w,g,a,b,e,.inr w8⟩) h6,h7⟩
def auG {S:St} (g:Ok S) {lv:AV} {ws:X WtV} {oo:j9 I} (h:Py S lv ws oo) {w:WtV} (k:WOk S oo w) (o:z ws<100000000):
  ∃S',uD S 3 32 U lv 1 w.B=J (.dj (z S) 0 (z ws+1) 3,S')/\z S'=z S+1/\Ok S'/\Py S' (.dj (z S) 0 (z ws+1) 3) (ws++[w]) (J (z S))/\∀i x,oo≠J i->S[i]?=J x->S'[i]?=J x:=by
 have b1:=afl h.cS;have d:=WtV.aL k;have m:ae (z S+1) ((ws++[w]).flatMap WtV.B)=eT:=aP (aM0 _) _ (by rw[v,Rj _ _ _ b1];simpa using d);have fl:(ws++[w]).flatMap WtV.B=ws.flatMap WtV.B++w.B:=by simp
 have fn:z ((ws++[w]).flatMap WtV.B)=(z ws+1)*3:=by rw[bz WtV.dt];simp
 have fin:∀S',z S'=z S+1->S'[z S]?=J (.cP ((ws++[w]).flatMap WtV.B) FZ)->(∀i x,oo≠J i->S[i]?=J x->S'[i]?=J x)->Py S' (.dj (z S) 0 (z ws+1) 3) (ws++[w]) (J (z S)):=λS' f h2 h3=>
  ⟨.inr ⟨z S,_,w8,by simp,h2,by rw[fn];simp,by rw[a98 (by rw[fn];simp)]⟩,λx a=>by
   have b:WOk S oo x:=by
    rcases aE4.mp a with a|a;·exact h.cS x a
    ·rw[aC7.mp a];exact k
   exact b.bB (λi hi _ e=>by cases e;omega) h3⟩
 rcases h.az with⟨rfl,rfl,rfl⟩|⟨q,l,rfl,rfl,j,f,h2⟩;·refine⟨S++[.cP w.B FZ],w8,by simp,g.cv (by rw[k9];exact aP (aM0 _) _ d),fin _ (by simp) (by rw[aA];simp) λi x _ e=>aj e _,λi x _ e=>aj e _⟩
 ·have n:=(a00.mp j).1;have keep:∀i x,J q≠J i->S[i]?=J x->(S.set q .em++[.cP (l.take (z ws*3)++w.B) FZ])[i]?=J x:=λi x hi e=>aj (aH e (λe=>hi (by rw[e])) _) _;rw[h2,<-fl]at keep;refine⟨S.set q .em++[.cP ((ws++[w]).flatMap WtV.B) FZ],?_,by simp,(Ok.bd g q w8).cv (by rw[a99,k9];exact m),fin _ (by simp) (by rw[aU (by simp)];rfl) keep,keep⟩;unfold uD;rw[j6 (by decide)];simp only[j];by_cases c:z l=z ws*3;·have e:l=ws.flatMap WtV.B:=(by rw[<-h2,<-c,aK8]);rw[j7 ⟨s,c,by omega,by omega⟩,fl,<-e];simp
  ·rw[j6 (λh=>c h.2.1),j7 ⟨s,s,f,by omega,by omega⟩,h2,fl];simp
structure SrcHas(C C1:Ctx):Prop where
 ku:aaK C C1
 ef:Has C rF OJ
 iN:Pn C LK FO
 hM:Has C xm Ap
 eI:Has C Ff pM
def atB (H:SrcHas C C1) {K:Dz} {p:Rp} (g:p.bN C1 K) {O:St} (j:Ok O) (a:p.az O) (v:z p.F+1<1000000) {oo:j9 Nat} {w:WtV} {x y:Nat} (A:w.cm=J (x,y)) (F:WOk O oo w):
  ∃S k,ai C rF [.da p.r 0,.da x 0,.da y 0] O=J (.de [.cX (dS K p.fs p.rc p.sc w.C w.ak w.al p.F).1.1.B,.cQ .u8 (dS K p.fs p.rc p.sc w.C w.ak w.al p.F).1.2],S)/\bH S p.h p.l p.R p.aw p.rc p.sc p.nm p.fs (dS K p.fs p.rc p.sc w.C w.ak w.al p.F).2 p.r p.s p.m p.o p.fo k/\Req O S p.s p.m p.F (dS K p.fs p.rc p.sc w.C w.ak w.al p.F).2 p.oo k:=by
 have E:K3 eF [.da p.r 0,.da x 0,.da y 0] O=J ([.da p.r 0,.da x 0,.da y 0],O):=w8;have l:Ok (O++[.cP [.cQ r 0,.cQ r 0,.cY,.cY,.cY,.cQ r 0,.cY,.cQ r 0,.cU []] FZ]):=j.H w8;obtain⟨_,_,hi,D,⟨t,G⟩,d,I,B⟩:=F x y A;obtain⟨S,k,q1,b,q⟩:=alI H.ku g.bV g.cH l (a.eD _) v w.C w.ak w.al hi D;generalize dS K p.fs p.rc p.sc w.C w.ak w.al p.F=M at*;obtain⟨⟨tv,c⟩,F1⟩:=M;dsimp only at*;have x0:S[z O]?=J _:=q.eR a 0 w8;have o:=VN tv;have m:Ok (S.set (z O) (.cP tv.B FZ)):=Ok.bd q.ok _ (AO.Y (a97 _) _ o);obtain⟨s,t1,t2,t3⟩:=q.k6 j a b m (by simp) (λi x e hi=>aH e (by simp at hi;omega) _) [.cX tv.B,.cQ .u8 c] (by rw[ae,Z0];rw[k9]at o;rw[o];rfl);refine⟨s,k,?_,t2,t3⟩;have h:=λL=>aj G L;have f:=λL=>aj I L;unfold gI.B at h;unfold Hw.B at f;rw[B]at f;have N:w.ak.B=[.cQ r w.ak.th,.sl (z w.ak.V) (w.ak.V.flatMap sC)]:=w8;rw[N]at q1;have n:j0 [.cQ r 0,.cQ r 0,.cY,.cY,.cY,.cQ r 0,.cY,.cQ r 0,.cU []] 0 tv.B=tv.B:=w8;have sg:=bF x0 (.cP tv.B FZ);have nvs:NVs [.cX tv.B,.cQ .u8 c]:=.cV (.cX tv.af) (.cV (.cQ _ _) .db);rw[H.ef.go E];generalize u:iF=P;simp only[OJ,q1,h,f,x0,n,dV.dt,dV.fl,AV.cP,W,seval];rw[<-u];refine(Ia (vs:=[.cX tv.B,.cQ .u8 c]) ?_ nvs).trans (by rw[t1];rfl);simp only[aZ,sg,dV.dt,dV.tk,W,seval]
structure Wp where
 C:LU
 L:Int
 ak:mP
 al:List PS
 tg:Bool
def WtV.p(w:WtV):Wp:=⟨w.C,w.L,w.ak,w.al,w.cm.isNone⟩
def gI.w(depth:P)(keys:X PS)(s:gI):Wp:=⟨s.C,depth,s.ak,keys,eF⟩
def afk (f:List gI) (hs:∀s∈f,uQ s.ak.V) (X:f.length<=8192) (b:Nat) (d:Hw) (M:DC d.al) (depth:Int) (n0:Nat) (hb:n0<=b):∀(j:Nat) (i:Int) (lv:AV) (ws:List WtV) (oo:j9 Nat) (T:St),n0<=T.length->i=(j:Int)-1->j<=f.length->Ok T->T[b]?=J (.cP d.B FZ)->oo≠J b->Py T lv ws oo->ws.length+j<100000000->
  ∃(p:AV) (k:List WtV) (g:j9 Nat) (t:St),aG C (ai C) 50 [0,3,5,9,11] oG [(0,lv),(3,.cQ r depth),(5,.da b 0),(9,.sl f.length (f.flatMap gI.B)),(11,.cQ r i)] T=J (.dq 0,[(0,p)],t)/\
   Ok t/\Py t p k g/\k.map WtV.p=ws.map WtV.p++(f.take j).reverse.map (gI.w depth d.al)/\T.length<=t.length/\(∀i x,oo≠J i->T[i]?=J x->t[i]?=J x)/\(∀q,g=J q->(j=0/\oo=J q)\/T.length<=q)/\(0<j->g≠U)/\∀w∈k,w∈ws\/∃a b,w.cm=J (a,b)/\n0<=a/\n0<=b
 |0,i,lv,ws,oo,T,y,hi,hj,E,m,u,B,Y=>by refine⟨lv,ws,oo,T,?_,E,B,by simp,a09 _,λ_ _ _ h=>h,λq e=>.inl ⟨w8,e⟩,λh=>X2 h (Nat.lt_irrefl _),λw h=>.inl h⟩;rw[aB (he:=w8)];have h:¬((0:Int)<=i):=(by omega);simp only[oG,h,EVX,seval]
 |j+1,i,lv,ws,oo,T,y,hi,hj,E,m,u,B,Y=>by
  have F:i=(j:Int):=(by omega);subst F;have h:((0:Int)<=(j:Int)):=(by omega);have n:j<f.length:=(by omega);have Q:f[j]?=J f[j]:=a01 n;have W:uQ f[j].ak.V:=hs _ (aD5 n);have wr:IntKind.i64.wrap ((j:Int)-1)=(j:Int)-1:=wrE (by omega);have fl:=bz gI.dt f;have fd:=iy gI.dt Q;have tk:f.take (j+1)=f.take j++[f[j]]:=aG0 n;generalize f[j]=s at*;obtain⟨w,o⟩:∃w:WtV,w=⟨s.C,depth,s.ak,d.al,J (T.length,b)⟩:=⟨_,w8⟩;have O:w.B=[.cU s.C,.cQ r depth,.dv (.func rF) [] [.da T.length 0,.da b 0]]:=by rw[o];rfl
  have bl:=(a00.mp m).1;have b1:k9 (T.length+2) (.cP s.B FZ)=eT:=AO.Y (a97 _) _ (by rw[k9];exact s.aL);have P:k9 (T.length+2) (.cP w.B FZ)=eT:=by have:b<T.length+2:=(by omega);rw[O];simp[k9,ae,Z0,this]
  have I:Ok (T++[.cP s.B FZ,.cP w.B FZ]):=QJ E (by simp[b1,P]);have D:Py (T++[.cP s.B FZ,.cP w.B FZ]) lv ws oo:=B.bB λi x _ e=>aj e _;have H:WOk (T++[.cP s.B FZ,.cP w.B FZ]) oo w:=λa b' e=>by rw[o]at e⊢;cases e;exact⟨λe=>by have:=B.lt e;omega,u,W,M,⟨s.b5,by rw[aA];rfl⟩,d,aj m _,w8⟩
  obtain⟨S,a1,l1,K,LS,Z⟩:=auG I D H (by omega);have lT:(T++[AO.cP s.B FZ,.cP w.B FZ]).length=T.length+2:=(by simp);rw[lT]at a1 l1 LS;have N:∀i x,oo≠J i->T[i]?=J x->S[i]?=J x:=λi x G e=>Z i x G (aj e _);obtain⟨p,k,g,t,r1,r2,r3,r4,r5,r6,r7,r8,r9⟩:=afk f hs X b d M depth n0 hb j ((j:Int)-1) _ (ws++[w]) (J (T.length+2)) S (by omega) w8 (by omega) K (N b _ u m) (λe=>by cases e;omega) LS (by simp;omega);refine⟨p,k,g,t,?_,r2,r3,by rw[r4,tk];simp[WtV.p,gI.w,o],by omega,λi x G e=>r6 i x (λR=>by cases R;have:=(a00.mp e).1;omega) (N i x G e),λq e=>.inr ?_,λ_=>?_,λv hv=>?_⟩;·rw[<-r1,aB (he:=w8)];generalize hk:aG C (ai C) 50 [0,3,5,9,11] oG=kk;have sc:s.B=[.cU s.C,.cQ r s.ak.th,.sl s.ak.V.length (s.ak.V.flatMap sC),.cW s.b5]:=w8;rw[sc]at fd a1;rw[O]at a1;have z:=λL=>aA T (.cP [.cU s.C,.cQ r s.ak.th,.sl s.ak.V.length (s.ak.V.flatMap sC),.cW s.b5] FZ::L);simp only[oG,h,n,wr,fl,fd,a1,z,DU,Es,lJ,aA,aS,aI,cZ,bC,AV.cP,AV.Q,j0,EVX,seval]
  ·rcases r7 q e with⟨_,e⟩|e;·cases e;omega
   ·omega
  ·by_cases c:0<j;·exact r8 c
   ·intro e;rcases r3.az with⟨A,_⟩|⟨q,l,A,_⟩;·have:=congrArg List.length r4;rw[A]at this;simp at this
    ·rw[e]at A;cases A
  ·rcases r9 v hv with h|h
   ·rcases aE4.mp h with h|h;·exact .inl h
    ·refine .inr ⟨T.length,b,by rw[aC7.mp h,o],y,hb⟩
   ·exact .inr h
def lastT(a:X gI):L:=match a.getLast? with|J s=>s.b5|U=>eF
def QQ(ws:X Wp)(a:X gI)(keys:X PS)(depth:P):X Wp:=(if lastT a then[]else ws)++a.reverse.map (gI.w depth keys)
def avO (H:SrcHas C C1) (path:LU) (d:Hw) (hd:DC d.al) (c:List gI) (hs:∀s∈c,uQ s.ak.V) (hn:z c<=8192) (Z:∀O,Ok O->ai C jM [.cX d.B,.cU path] O=J (.sl (z c) (c.flatMap gI.B),O)) (depth:Int) {S:St} (I:Ok S) {lv:AV} {ws:List WtV} {oo:j9 Nat} (v:Py S lv ws oo) (hw:z ws<90000000):
  ∃(j:AV) (o:List WtV) (m:j9 Nat) (S':St),ai C LK [lv,.cX d.B,.cU path,.cQ r depth] S=J (j,S')/\Ok S'/\Py S' j o m/\o.map WtV.p=QQ (ws.map WtV.p) c d.al depth/\z S<=z S'/\(∀i x,oo≠J i->S[i]?=J x->S'[i]?=J x)/\(∀q,m=J q->oo=J q\/z S<=q)/\∀w∈o,w∈ws\/∃a b,w.cm=J (a,b)/\z S<=a/\z S<=b:=by
 have Y:k9 0 (.cP d.B FZ)=eT:=d.aL;have y:Ok (S++[.cP d.B FZ]):=I.H (by rw[K1,Y];rfl);have g:=Z _ y;have B:d.B=[.sl (z d.al) (d.al.flatMap pC),.sl (z d.O) (d.O.flatMap RoV.B),.cQ r d.cf,tC d.V,.cQ r d.cp,.cU d.bR]:=w8;have F:Py (S++[.cP d.B FZ]) lv ws oo:=v.bB λi x _ e=>aj e _;have lS:z (S++[AO.cP d.B FZ])=z S+1:=by simp
 have K:oo≠J (z S):=λe=>by have:=v.lt e;omega
 have xb:(S++[AO.cP d.B FZ])[z S]?=J (.cP d.B FZ):=by rw[aA];rfl
 by_cases P:c=[]
 ·subst P;refine⟨lv,ws,oo,S,?_,I,v,by simp[QQ,lastT],a09 _,λ_ _ _ h=>h,λq e=>.inl e,λw h=>.inl h⟩;have N:aG C (ai C) 50 [0,3,5,9,11] oG [(0,lv),(3,.cQ r depth),(5,.da (z S) 0),(9,.sl 0 []),(11,.cQ r (-1))] (S++[.cP d.B FZ])=J (.dq 0,[(0,lv)],S++[.cP d.B FZ]):=by rw[aB (he:=w8)];simp only[oG,EVX,seval]
  have lb:ae (z S) [lv]=eT:=by
   rcases v.az with⟨_,_,rfl⟩|⟨q,l,e,rfl,_⟩;·rfl
   ·have:=v.lt e;simp[ae,Z0,this]
  have A:=ED I lb [.cP d.B FZ];have D:IntKind.i64.wrap (-1)= -1:=w8;rw[B]at g N A;rw[H.iN.go,B];simp only[a96,aK7]at g;simp only[FO,g,N,D,A,bC,nV,aZ,aA,AV.cP,EVX,seval]
 ·obtain⟨k,hk⟩:∃k,z c=k+1:=⟨z c-1,by have:=List.length_pos_iff.mpr P;omega⟩;have L:c[k]?=J c[k]:=a01 (by omega);have fl:=bz gI.dt c;have fd:=iy gI.dt L;have lst:lastT c=c[k].b5:=by have e:=List.getLast?_eq_getElem? (l:=c);have e1:z c-1=k:=(by omega);rw[e1,L]at e;unfold lastT;rw[e]
  generalize c[k]=s at*;have sc:s.B=[.cU s.C,.cQ r s.ak.th,.sl (z s.ak.V) (s.ak.V.flatMap sC),.cW s.b5]:=w8;have G:∀t:Bool,∃u f n,(if t=eT then AV.cY else lv)=u/\Py (S++[.cP d.B FZ]) u f n/\f.map WtV.p=(if t=eT then[]else ws.map WtV.p)/\z f<=z ws/\(n=oo\/n=U)/\∀w∈f,w∈ws:=λt=>by
   cases t;·exact⟨lv,ws,oo,w8,F,w8,a09 _,.inl w8,λw h=>h⟩
   ·exact⟨.cY,[],U,w8,⟨.inl ⟨w8,w8,w8⟩,λw h=>by cases h⟩,w8,a97 _,.inr w8,λw h=>by cases h⟩
  obtain⟨u,f,n,e2,X,m2,l2,Q,u2⟩:=G s.b5;obtain⟨j,o,m,E,r1,r2,r3,r4,r5,r6,W,r8,r9⟩:=afk (C:=C) c hs hn (z S) d hd depth (z S) (a09 _) (z c) (k:Int) u f n _ (by omega) (by omega) (a09 _) y xb (by rcases Q with rfl|rfl;exact K;simp) X (by omega);rw[lS]at r5 W;have q1:∀q,m=J q->z S+1<=q:=λq e=>by
   rcases W q e with⟨h,_⟩|h;·omega
   ·exact h
  refine⟨j,o,m,E,?_,r2,r3,by rw[r4,m2,aK8,QQ,lst],by omega,λi x ho e=>r6 i x (by rcases Q with rfl|rfl;exact ho;simp) (aj e _),λq e=>.inr (by have:=q1 q e;omega),λw h=>(r9 w h).imp (u2 w) id⟩
  have A:K7 (z S) [j] E=E:=qY (by
   rcases r3.az with⟨_,h,_⟩|⟨q,l,e,rfl,_⟩;·exact X2 h (r8 (by omega))
   ·have:=q1 q e;have:¬q<z S:=(by omega);simp[ae,Z0,this]) _
  have D:IntKind.i64.wrap ((z c:Int)-1)=(k:Int):=(show IntKind.i64.wrap ((z c:Int)-1)=(z c:Int)-1 from wrE (by omega)).trans (by omega);have R:(0:Int)<(z c:Int):=(by omega);have T:k<z c:=(by omega);have V:(0:Int)<=(k:Int):=(by omega);rw[B]at g r1;rw[sc]at fd;rw[H.iN.go,B];cases M:s.b5;·rw[M]at e2 fd;simp only[aF3,if_false]at e2;subst e2;simp only[FO,g,r1,D,R,T,V,fl,fd,A,bC,nV,aZ,aA,AV.cP,EVX,seval]
  ·rw[M]at e2 fd;simp only[if_true]at e2;subst e2;simp only[FO,g,r1,D,R,T,V,fl,fd,A,bC,nV,aZ,aA,AV.cP,EVX,seval]
def kL:LA:=[.cQ r 0,.sl 0 [],.cQ .u8 0,.cQ r 0,.cU [],.sl 0 [],.sl 0 []]
structure jo where
 b4:Int
 gv:Int
 cE:Int
 bS:LU
 br:LA
 bb:List LU
def jo.B(x:jo):LA:=.cQ .u8 x.b4::.cQ .u8 x.gv::.cQ .u8 x.cE::.cU x.bS::(x.br++[.sl (z x.bb) (x.bb.flatMap sC)])
structure IU(r:LA):Prop where
 dt:r.length=7
 Q:r.all AV.Q=true
 af:NVs r
 j9:∃(n:Int) (hs:List PS) (j:JV),r=rC n hs j/\hs.length<=8192
def sK:IU kL:=⟨w8,w8,.cV (.cQ _ _) (.cV (.sl 0 w8) (.cV (.cQ _ _) (.cV (.cQ _ _) (.cV (.cU _) (.cV (.sl 0 w8) (.cV (.sl 0 w8) .db)))))),0,[],JV.ab,by rw[rC,JV.be];rfl,by decide⟩
theorem jo.af(x:jo)(h:t x.br):t x.B:=.cV (.cQ _ _) (.cV (.cQ _ _) (.cV (.cQ _ _) (.cV (.cU _) (h.eD (.cV (pG x.bb) .db)))))
def skp(c:P):L:=c==1||(c==2||(c==3||c==8))
def avq(b:T C Ff pM)(c:P)(O:St):ai C Ff [.cQ .u8 c] O=J (.cW (skp c),O):=by
 rw[b.go (NVs.E (.cV (.cQ _ _) .db) _)];unfold skp;by_cases a:c=1;·simp only[pM,a,W,seval]
 ·by_cases h2:c=2;·simp only[pM,a,h2,W,seval]
  ·by_cases h3:c=3;·simp only[pM,a,h2,h3,W,seval]
   ·by_cases h4:c=8;·simp only[pM,a,h2,h3,h4,W,seval]
    ·have e1:(c==1)=eF:=(by simpa using a);have e2:(c==2)=eF:=(by simpa using h2);have e3:(c==3)=eF:=(by simpa using h3);have e4:(c==8)=eF:=(by simpa using h4);simp only[pM,e1,e2,e3,e4,Bool.or_self,W,seval]
def kC(k y c:P)(d:LU)(v:AV):LA:=[.cQ .u8 k,.cQ .u8 y,.cQ .u8 c,.cU d,.cQ r 0,.cY,.cQ .u8 0,.cQ r 0,.cU [],.cY,.cY,v]
def Qy{O:St}{v:AV}{l:LA}{fs:X I}{n:I}(k y c:P)(d:LU)(h:cu O (eX O 11) v=J (.sl n l,fs)):bI O (eX O 11) [.cX (kC k y c d v)]=J ([.cX (.cQ .u8 k::.cQ .u8 y::.cQ .u8 c::.cU d::(kL++[.sl n l]))],fs):=by unfold kC;simp only[aN,bK,GZ,Oh,dQ,h,mg];simp[kL]
def ajW(d:T C xm Ap)(c:P)(h:LU)(vs:X LU){O:St}(a:Ok O):ai C xm [.cQ .u8 c,.cU h,.sl (z vs) (vs.flatMap sC)] O=J (.cX (jo.B ⟨3,4,c,h,kL,vs⟩),O):=by
 have nv:=NVs.cV (NV.cX (jo.af ⟨3,4,c,h,kL,vs⟩ sK.af)) .db;have f:=λL=>bu a (vs:=[.cX (jo.B ⟨3,4,c,h,kL,vs⟩)]) nv.cl L;have b:∀Y,K3 eF [.cX (kC 3 4 c h (.sl (z vs) (vs.flatMap sC)))] Y=J ([.cX (jo.B ⟨3,4,c,h,kL,vs⟩)],Y):=λY=>by rw[iY,Qy 3 4 c h ((pG vs).nf _ _)];rfl
 unfold kC at b;rw[d.go (NVs.E (.cV (.cQ _ _) (.cV (.cU _) (.cV (pG vs) .db))) _)];generalize e:iF=g;simp only[Ap,aA,aS,AV.cP,AV.Q,j0,W,seval];rw[<-e];refine(oV (vs:=[.cX (kC 3 4 c h (.sl (z vs) (vs.flatMap sC)))]) ?_ (b _)).trans (by rw[f];rfl);simp only[aZ,aA,kC,W,seval]
structure mG where
 K:Dz
 fs:List PS
 rc:Int
 sc:Int
 O:Int
 L:Int
 go:dV->List gI
 fd:dV->Option LA
def tooBig(ws:X Wp)(vs:X LU)(F:X aQ):L:=X1 (900000<=z F)||(X1 (80000000<=z ws)||X1 (80000000<=z vs))
def uB(z:mG):I->X Wp->X LU->X aQ->j9 (jo×X aQ)
 |0,_,_,_=>U
 |n+1,ws,vs,F=>if tooBig ws vs F=eT then U else match ws.getLast? with
  |U=>J (⟨2,0,0,[],kL,vs⟩,F)
  |J w=>
   if w.C∈vs then uB z n ws.dropLast vs F
   else if z.O<=vs.length then J (⟨3,2,0,[],kL,vs⟩,F)
   else if z.L<w.L then J (⟨3,3,0,[],kL,vs⟩,F)
   else if vs=[]/\(aW z.K z.fs z.sc F).1.2≠0 then J (⟨3,4,(aW z.K z.fs z.sc F).1.2,oP,kL,vs++[w.C]⟩,(aW z.K z.fs z.sc F).2)
   else
    let t:=dS z.K z.fs z.rc z.sc w.C w.ak w.al (if vs=[]then(aW z.K z.fs z.sc F).2 else F)
    if t.1.2≠0 then
     if w.C≠rW/\skp t.1.2=eT then uB z n ws.dropLast (vs++[w.C]) t.2
     else J (⟨3,4,t.1.2,w.C,kL,vs++[w.C]⟩,t.2)
    else match z.fd t.1.1 with|J d=>J (⟨1,0,0,[],d,vs++[w.C]⟩,t.2)|U=>uB z n (QQ ws.dropLast (z.go t.1.1) t.1.1.bv.al (w.L+1)) (vs++[w.C]) t.2
def KZ(vs:X LU):X (AV×AV):=vs.mapIdx λi n=>(.cU n,.cQ r ((i+1:I):P))
def YN(n:LU):∀(vs:X LU) (k j:I),(n∉vs->oM (.cU n) (vs.mapIdx λi m=>(AV.cU m,AV.cQ r ((k+i+1:I):P))) j=J U)/\(n∈vs->∃i x,0<x/\oM (.cU n) (vs.mapIdx λi m=>(AV.cU m,AV.cQ r ((k+i+1:I):P))) j=J (J (i,.cQ r x)))
 |[],k,j=>⟨λ_=>w8,λh=>by cases h⟩
 |m::vs,k,j=>by
  obtain⟨b,h2⟩:=YN n vs (k+1) (j+1);have e:(m::vs).mapIdx (λi m=>(AV.cU m,AV.cQ r ((k+i+1:I):P)))=(.cU m,.cQ r ((k+1:I):P))::vs.mapIdx λi m=>(AV.cU m,AV.cQ r ((k+1+i+1:I):P)):=by rw[f];congr 2;funext i m;congr 4;omega
  have d:∀l x,oM (.cU n) ((.cU m,x)::l) j=match X1 (n=m)with
   |eT=>J (J (j,x))|eF=>oM (.cU n) l (j+1):=λl x=>by
   rw[oM,ac5,nU];cases X1 (n=m)<;>rfl
  rw[e,d];by_cases c:n=m;·simp only[c,decide_true];exact⟨λh=>X2 (by simp) h,λ_=>⟨j,_,by omega,w8⟩⟩
  ·simp only[c,decide_false];exact⟨λh=>b λa=>h (by simp[a]),λh=>h2 (by simpa[c]using h)⟩
def avm{n:LU}{vs:X LU}(h:n∉vs):oM (.cU n) (KZ vs) 0=J U:=by have:=(YN n vs 0 0).1 h;simpa[KZ]using this
def asz{n:LU}{vs:X LU}(h:n∈vs):∃i x,0<x/\oM (.cU n) (KZ vs) 0=J (J (i,.cQ r x)):=by obtain⟨i,x,a,h2⟩:=(YN n vs 0 0).2 h;exact⟨i,x,a,by simpa[KZ]using h2⟩
def seen_app(vs:X LU)(n:LU):KZ vs++[(.cU n,.cQ r ((z vs+1:I):P))]=KZ (vs++[n]):=by unfold KZ;rw[List.mapIdx_append];simp
def asy(k:I)(vs:X LU):k9 k (.dz (KZ vs))=eT:=by
 have h:∀(vs:X LU) (j:I),ae k ((vs.mapIdx λi m=>(AV.cU m,AV.cQ r ((j+i+1:I):P))).map (·.1))=eT/\ae k ((vs.mapIdx λi m=>(AV.cU m,AV.cQ r ((j+i+1:I):P))).map (·.2))=eT:=λvs=>by
  induction vs with
  |nil=>exactλj=>⟨w8,w8⟩
  |cons a l b=>
   intro j;rw[f,aC9,aC9,ae,ae];have e:(λi m=>(AV.cU m,AV.cQ r ((j+(i+1)+1:I):P)))=λi m=>(AV.cU m,AV.cQ r ((j+1+i+1:I):P)):=by funext i m;congr 4;omega
   rw[e,(b (j+1)).1,(b (j+1)).2];exact⟨w8,w8⟩
 have:=h vs 0;unfold KZ;rw[k9];simp only[aC4]at this;rw[this.1,this.2];rfl
end Go.Ev
namespace Go.Ev
open Option renaming some→J, none→U
open List renaming length→z
open Go.IntKind renaming i64→r
open Bool renaming false→eF, true→eT
def afW{c:Type}(p q:c->L):∀l:X c,(∀x∈l,p x=eT->q x=eT)->l.countP p<=l.countP q|[],_=>a09 _|x::l,h=>by have f:=afW p q l λy e=>h y (by simp[e]);have d:=h x (by simp);rw[k,k];split<;>split<;>first|omega|(rename_i a b;exact X2 (d a) b)
def avY{e:Type}(p q:e->L)(a:e)(f:p a=eF)(g:q a=eT):∀l:X e,(∀x∈l,p x=eT->q x=eT)->a∈l->l.countP p<l.countP q
 |[],_,c=>by cases c
 |x::l,h,c=>by
  have i:=h x (by simp);rcases aC8.mp c with rfl|c;·have j:=afW p q l λy d=>h y (by simp[d]);rw[k,k,j6 (by rw[f];decide),j7 g];omega
  ·have j:=avY p q a f g l (λy d=>h y (by simp[d])) c;rw[k,k];split<;>split<;>first|omega|(rename_i a b;exact X2 (i a) b)
def pnd(S:E)(vs:X LU):I:=S.ay.countP λp=>vs.any λn=>X1 (p.C=n++iD)
def arR(S:E)(vs:X LU):pnd S vs<=z S.ay:=List.countP_le_length
def aiK(S:E)(vs:X LU)(w:LU):pnd S vs<=pnd S (vs++[w]):=afW _ _ _ λp _ h=>by rw[e,h];rfl
def akT{S:E}{vs:X LU}{w:LU}{p:oZ}(c:p∈S.ay)(a:p.C=w++iD)(d:w∉vs):pnd S vs<pnd S (vs++[w]):=avY _ _ p (by
 rw[<-Bool.not_eq_true,aJ7];rintro⟨n,b,h2⟩;have:=of_decide_eq_true h2;rw[a]at this;exact d (List.append_cancel_right this▸b)) (by
 rw[e];simp[a]) _ (λq _ h=>by rw[e,h];rfl) c
def yu(z:mG)(S:E)(F:X aQ):Prop:=aW z.K z.fs z.sc F=((S,0),F)
def yu.ext{z:mG}{S:E}{F:List aQ}(h:yu z S F)(X:List aQ):yu z S (F++X):=by have:=xZ z.K z.fs z.sc F X;rw[h]at this;exact this
def agK{z:mG}{S:E}{F:X aQ}(h:yu z S F)(rl:LU)(a:mP)(ks:X PS):∃c,(dS z.K z.fs z.rc z.sc rl a ks F).2=F++c/\c.length<=1/\((c=[]/\(dS z.K z.fs z.rc z.sc rl a ks F).1.2≠0)\/∃p∈S.ay,p.C=rl++iD):=by
 have q:∀p b,∃c,(vO z.K z.fs rl a ks p b F).2=F++c/\c.length<=1:=λp b=>by obtain⟨c,e⟩:=Xa z.fs F (rl++iD) b;have:=MJ z.fs F (rl++iD) b;rw[e,a03]at this;exact⟨c,e,by omega⟩
 unfold dS;rw[h];dsimp only;rw[j7 w8];cases hf:nZ S rl with
 |none=>exact⟨[],by simp,by simp,.inl ⟨w8,show(1:P)≠0 by decide⟩⟩
 |some p=>
  obtain⟨_,d,h2⟩:=WS hf;dsimp only;split;·obtain⟨c,e,l⟩:=q p z.rc;exact⟨c,e,l,.inr ⟨p,d,h2⟩⟩
  ·split;·exact⟨[],by simp,by simp,.inr ⟨p,d,h2⟩⟩
   ·obtain⟨c,e,l⟩:=q p p.I;exact⟨c,e,l,.inr ⟨p,d,h2⟩⟩
def atD(ws:X Wp)(a:X gI)(keys:X PS)(depth:P):z (QQ ws a keys depth)<=z ws+z a:=by
 unfold QQ;rw[a03,aD8,List.length_reverse];split;·simp
 ·omega
def phi(S:E)(vs:X LU)(k:I):I:=(z S.ay-pnd S vs)*8193+k
def afm(z:mG)(S:SnV)(s:∀T,(z.go T).length<=8192):∀(n:Nat) (ws:X Wp) (vs:X LU) (F:X aQ),phi S vs ws.length<n->vs.length+phi S vs ws.length<80000000->F.length+(S.ay.length-pnd S vs)+(if vs=[]then 1 else 0)<900000->(vs≠[]->yu z S F)->(vs=[]->(aW z.K z.fs z.sc F).1.1=S)->∃N,uB z n ws vs F=J N
 |0,ws,vs,F,q,_,_,_,_=>X2 q (aL9 _)
 |n+1,ws,vs,F,q,h2,h3,h4,h5=>by
  have k:=afm z S s n;have D:tooBig ws vs F=eF:=by unfold tooBig;unfold phi at h2;simp only[aH5,Y];omega
  unfold uB;rw[j6 (by rw[D];decide)];cases B:ws.getLast? with
  |none=>exact⟨_,w8⟩
  |some w=>
   have H:ws.length=ws.dropLast.length+1:=by
    cases ws with
    |nil=>cases B|cons a l=>simp
   dsimp only;by_cases b:w.C∈vs;·rw[j7 b];exact k _ _ _ (by unfold phi at*;omega) (by unfold phi at*;omega) h3 h4 h5
   rw[j6 b];by_cases m:z.O<=vs.length;·rw[j7 m];exact⟨_,w8⟩
   rw[j6 m];by_cases o:z.L<w.L;·rw[j7 o];exact⟨_,w8⟩
   rw[j6 o];by_cases d:vs=[]/\(aW z.K z.fs z.sc F).1.2≠0;·rw[j7 d];exact⟨_,w8⟩
   rw[j6 d];obtain⟨F1,e1,s1,l1⟩:∃F1,F1=(if vs=[]then(aW z.K z.fs z.sc F).2 else F)/\yu z S F1/\F1.length+(S.ay.length-pnd S vs)<900000:=by
    by_cases c:vs=[]
    ·refine⟨_,w8,?_,?_⟩;·rw[j7 c];have:=xZ z.K z.fs z.sc F [];rw[aB3]at this;unfold yu;rw[this];have y:(aW z.K z.fs z.sc F).1.2=0:=Decidable.byContradiction λh=>d ⟨c,h⟩;rw[<-h5 c,<-y]
     ·rw[j7 c]at h3⊢;have:(aW z.K z.fs z.sc F).2.length<=F.length+1:=MJ _ _ _ _;omega
    ·exact⟨_,w8,by rw[j6 c];exact h4 c,by rw[j6 c]at h3⊢;omega⟩
   rw[<-e1];obtain⟨x,u,K,v⟩:=agK s1 w.C w.ak w.al;generalize dS z.K z.fs z.rc z.sc w.C w.ak w.al F1=t at*;have E:=aiK S vs w.C;have G:=arR S (vs++[w.C]);have ne:vs++[w.C]≠[]:=(by simp);have s2:yu z S t.2:=by rw[u];exact s1.ext x
   have l2:t.2.length+(S.ay.length-pnd S (vs++[w.C]))+(if vs++[w.C]=[]then 1 else 0)<900000:=by
    rw[j6 ne,u,a03];rcases v with⟨rfl,_⟩|⟨p,j,i⟩;·simp only[a96];omega
    ·have:=akT j i b;omega
   have lv:(vs++[w.C]).length=vs.length+1:=(by simp);have C:=aG4 8193 (show S.ay.length-pnd S (vs++[w.C])<=S.ay.length-pnd S vs by omega);by_cases f:t.1.2≠0
   ·rw[j7 f];by_cases c6:w.C≠rW/\skp t.1.2=eT;·rw[j7 c6];exact k _ _ _ (by unfold phi at*;omega) (by unfold phi at*;omega) l2 (λ_=>s2) (λh=>X2 h ne)
    ·rw[j6 c6];exact⟨_,w8⟩
   ·rw[j6 f];cases hf:z.fd t.1.1 with
    |some N=>exact⟨_,w8⟩
    |none=>
     dsimp only;rcases v with⟨_,A⟩|⟨p,j,i⟩;·exact X2 A f
     ·have lt:=akT j i b;have I:=atD ws.dropLast (z.go t.1.1) t.1.1.bv.al (w.L+1);have g:=s t.1.1;have e:(S.ay.length-pnd S vs)*8193=(S.ay.length-pnd S vs-1)*8193+8193:=by rw[<-Nat.succ_mul];congr 1;omega
      have C:=aG4 8193 (show S.ay.length-pnd S (vs++[w.C])<=S.ay.length-pnd S vs-1 by omega);exact k _ _ _ (by unfold phi at*;omega) (by unfold phi at*;omega) l2 (λ_=>s2) (λh=>X2 h ne)
def aml(fs:X PS)(n:LU):j9 PS:=fs.find? λp=>X1 (p.1=n)
def Fits(fs gs:X PS)(F:X aQ):Prop:=∀f∈F,aml gs f.C=aml fs f.C
def Fits.bR{fs gs:X PS}{F G:X aQ}(h:Fits fs gs G)(e:∃a,G=F++a):Fits fs gs F:=λf hf=>by obtain⟨a,rfl⟩:=e;exact h f (by simp[hf])
variable{C:Ctx}
def Kcl(zs:LA)(sz bytes:I):KF:=⟨1,8,[(.fT 2)],(.eA (.fu [o 2 (.mv (.c .cY))])
 (.eA (.eA (.fu [m 3 0,o 4 (.e9 .eql 7 eT (.t 3) (.c .cY))])
 (.eJ (.t 4)
 (.eA (.fu [o 2 (.mv (.c .cY))])
 (.ea [2]))
 .eI))
 (.eA (.fu [o 5 (.gL zs 0 sz []),m 6 0,o 7 (.eD eF sz bytes U (.t 5) (.t 6)),m 2 7])
 (.ea [2]))))⟩
def clone_any{f:FuncId}{zs:LA}{sz bytes:I}(h:T C f (Kcl zs sz bytes))(hb:bytes<=48)(w:0<sz)(s:DU zs=eF)(n:I)(l:LA)(o:z l=n*sz)(d:0<n)(q:n<=1099511627776)(hs:l.all YM=eT)(O:St)(a:Ok O):ai C f [.sl n l] O=J (.sl n l,O):=by
 have ns:=aj9 hs;rw[h.go (NVs.E (.cV (.sl n ns.cl) .db) _)];have c:=af6 hs;have g:¬n=0:=by omega
 have nb:n*bytes<=70368744177664:=aF2 (Nat.mul_le_mul q hb) (by decide);have ap:=λY:St=>PI Y U (sz:=sz) (bytes:=bytes) (n:=0) (m:=n) (l:=[]) l g (by simp) (by rw[aC4];exact nb) (by omega);simp only[aC4,a88]at ap;have v:l.take (n*sz)=l:=a98 (by omega);have x:∀Y,eX Y 11 l=J (l,[]):=λY=>by show bI Y (eX Y 10) l=_;exact ns.nf _ _
 have k:∀Y:St,K3 eF [.dj (z Y) 0 n sz] (Y++[.cP l FZ])=J ([.sl n l],Y++[.cP l ⟨eT,U⟩]):=λY=>by
  have p:0+n*sz<=z l:=(by omega);have:cu (Y++[.cP l FZ]) (eX (Y++[.cP l FZ]) 11) (.dj (z Y) 0 n sz)=J (.sl n l,[z Y]):=by unfold cu;grind
  rw[iY,aN,this,mg];show J ([AV.sl n l],freeze (Y++[.cP l FZ]) [z Y])=_;unfold freeze;rw[aA];show J ([AV.sl n l],freeze ((Y++[AO.cP l FZ]).set (z Y) (AO.cP l ⟨eT,U⟩)) [])=_;rw[aS];rfl
 have t:=λL=>bu a (vs:=[.sl n l]) (by rw[ae,Z0,ns.cl];rfl) L;have e:∀(E:As) (Y:St),look E 2=.dj (z O) 0 n sz->Y=O++[AO.cP l FZ]->iF (z O) [.fT 2] (J (.ea,E,Y))=J (.sl n l,O):=λE Y i b=>by subst b;rw[zO,show aZ E (O++[AO.cP l FZ]) [.fT 2]=J [look E 2]from w8,i];dsimp only;rw[k];dsimp only;rw[t];rfl
 generalize j:iF=u at*;simp only[Kcl,o,d,s,Es,Nat.zero_mul,c,ap,W,seval];rw[<-j]at*;exact e _ _ w8 w8
def Nb{C:Ctx}{f:FuncId}{K:KF}(h:T C f K){args args':LA}{O O':St}(c:K3 eF args O=J (args',O'))(a:K3 eF args' O'=J (args',O'))(b:z O'=z O):ai C f args O=ai C f args' O':=by rw[h.cG,h.cG];unfold GK;rw[c,a,b]
end Go.Ev
namespace Go.Ev
open Option renaming some→J, none→U
open List renaming length→z
open Go.IntKind renaming i64→r
open Bool renaming false→eF, true→eT
variable{C C1:Ctx}
def VD(ws:X WtV)(oo vo:j9 I)(i:I):Prop:=oo=J i\/vo=J i\/∃w∈ws,∃a b,w.cm=J (a,b)/\(i=a\/i=b)
structure mJ(C1:Ctx)(K:Dz)(p:Rp)(O:St)(F:List aQ)(po:Option Nat)(c6 m0:Nat)(S:St)(lv:AV)(ws:List WtV)(oo:Option Nat)(vv:AV)(vs:List LU)(vo:Option Nat):Prop where
 rq:Req O S p.s p.m p.F F p.oo po
 pa:(p.to F po).az S
 pg:(p.to F po).bN C1 K
 dy:Py S lv ws oo
 dk:S[m0]?=some (.dz (KZ vs))
 bb:VF S vv 1 sC vs vo
 bL:S[c6]?=some (.cP (kC 0 0 0 [] .cY) FZ)
 kt:O.length<=c6
 nQ:O.length<=m0
 ne:c6≠m0
 ah:∀i,VD ws oo vo i->O.length<=i/\i≠c6/\i≠m0/\po≠some i
 vd:∀i,vo=some i->oo≠some i/\∀w∈ws,∀a b,w.cm=some (a,b)->i≠a/\i≠b
 pc:po≠some c6/\po≠some m0
 k0:∀w∈ws,w.cm=none->w.C=rW/\w.ak=p.R.tg/\w.al=p.R.ks
 hN:∀w∈ws,1<=w.L/\w.L<=(vs.length:Int)+1
variable{K:Dz}{p:Rp}{O S:St}{F:List aQ}{po:Option Nat}{c6 m0:Nat}{lv:AV}{ws:List WtV}{oo:Option Nat}{vv:AV}{vs:List LU}{vo:Option Nat}
def VD.lt(W:mJ C1 K p O F po c6 m0 S lv ws oo vv vs vo){i:I}(h:VD ws oo vo i):i<z S:=by
 rcases h with h|h|⟨w,c,a,b,e,h⟩;·exact W.dy.lt h
 ·rcases W.bb with⟨_,e,_⟩|⟨q,e,_,_,d⟩;·rw[e]at h;cases h
  ·rw[e]at h;cases h;exact(a00.mp d).1
 ·obtain⟨_,_,_,_,⟨t,h5⟩,d,h6,_⟩:=W.dy.cS w c a b e;rcases h with rfl|rfl;·exact(a00.mp h5).1
  ·exact(a00.mp h6).1
def mJ.jz(a:p.az O)(W:mJ C1 K p O F po c6 m0 S lv ws oo vv vs vo){i:I}(h:(p.to F po).b9 i):i<z O\/po=J i:=by
 have k:=bH.lt a;rcases h with rfl|rfl|rfl|rfl|e|e;·exact .inl k.r
 ·exact .inl k.s
 ·exact .inl k.m
 ·exact .inl k.o
 ·exact .inl (k.fo _ e)
 ·exact .inr e
def mJ.bB(a:p.az O)(W:mJ C1 K p O F po c6 m0 S lv ws oo vv vs vo){T:St}(ok:Ok T)(d:z S<=z T)(h:∀i x,(i<z O\/po=J i\/i=c6\/i=m0\/VD ws oo vo i)->S[i]?=J x->T[i]?=J x):mJ C1 K p O F po c6 m0 T lv ws oo vv vs vo:=
 {W with
  rq:=W.rq.ac (bH.lt a).s ok d λi x hi e=>h i x (.inl hi) e
  pa:=W.pa.bB λi x hi e=>h i x ((W.jz a hi).imp id .inl) e
  dy:=W.dy.bB λi x hi e=>h i x (.inr (.inr (.inr (.inr (hi.imp id λhi=>.inr hi))))) e
  dk:=h m0 _ (.inr (.inr (.inr (.inl w8)))) W.dk
  bb:=by
   rcases W.bb with b|⟨q,e,c,h2,h3⟩;·exact .inl b
   ·exact .inr ⟨q,e,c,h2,h q _ (.inr (.inr (.inr (.inr (.inr (.inl e)))))) h3⟩
  bL:=h c6 _ (.inr (.inr (.inl w8))) W.bL}
def mJ.eD(a:p.az O)(W:mJ C1 K p O F po c6 m0 S lv ws oo vv vs vo){L:St}(ok:Ok (S++L)):mJ C1 K p O F po c6 m0 (S++L) lv ws oo vv vs vo:=
 W.bB a ok (by simp) λi x _ e=>aj e L
def mJ.pp{ws:X WtV}{w:WtV}(W:mJ C1 K p O F po c6 m0 S lv (ws++[w]) oo vv vs vo):∃q l,oo=J q/\lv=.dj q 0 (z ws+1) 3/\S[q]?=J (.cP l FZ)/\l.drop (z ws*3)=w.B++l.drop ((z ws+1)*3)/\z ws*3+3<=z l/\WOk S oo w/\mJ C1 K p O F po c6 m0 S (.dj q 0 (z ws) 3) ws oo vv vs vo:=by
 rcases W.dy.az with⟨h,_⟩|⟨q,l,e,e1,e2,e3,e4⟩;·simp at h
 ·rw[a03,aH3]at e1 e3 e4;have fl:z (ws.flatMap WtV.B)=z ws*3:=bz WtV.dt ws;rw[v,aF0,aK7,aB3]at e4;have t1:l.take (z ws*3)=ws.flatMap WtV.B:=by have:=D (List.take (z ws*3)) e4;rw[List.take_take,aJ3 (by omega),K6 fl]at this;exact this
  have t2:l=ws.flatMap WtV.B++(w.B++l.drop ((z ws+1)*3)):=(by rw[<-aB2,<-e4,K2]);have b:∀i,VD ws oo vo i->VD (ws++[w]) oo vo i:=λi h=>h.imp id λh=>h.imp id λ⟨x,a,h⟩=>⟨x,by simp[a],h⟩
  refine⟨q,l,e,e1,e2,?_,by omega,W.dy.cS w (by simp),{W with
   dy:=⟨.inr ⟨q,l,e,w8,e2,by omega,t1⟩,λx a=>W.dy.cS x (by simp[a])⟩
   ah:=λi h=>W.ah i (b i h)
   vd:=λi h=>⟨(W.vd i h).1,λx a=>(W.vd i h).2 x (by simp[a])⟩
   k0:=λx a=>W.k0 x (by simp[a])
   hN:=λx a=>W.hN x (by simp[a])}⟩
  conv=>lhs;rw[t2]
  rw[List.drop_left' fl]
def mJ.oc (a:p.az O) (W:mJ C1 K p O F po c6 m0 S lv ws oo vv vs vo) (s:vs.length<100000000) (n:LU):
  ∃T,uD S 1 16 U vv 1 [.cU n]=J (.dj S.length 0 (vs.length+1) 1,T)/\T[m0]?=J (.dz (KZ vs))/\T.length=S.length+1/\(∀i x,vo≠J i->S[i]?=J x->T[i]?=J x)/\mJ C1 K p O F po c6 m0 (T.set m0 (.dz (KZ (vs++[n])))) lv ws oo (.dj S.length 0 (vs.length+1) 1) (vs++[n]) (J S.length):=by
 obtain⟨T,a1,l1,n1,f,g⟩:=aaD (c:=sC) (sz:=1) (bytes:=16) W.rq.ok (λ_=>w8) (λ_=>w8) W.bb (by omega) (by omega) n;have j:∀i,(i<O.length\/po=J i\/i=c6\/i=m0\/oo=J i\/∃w∈ws,∃a b,w.cm=J (a,b)/\(i=a\/i=b))->vo≠J i:=λi h e=>by
  obtain⟨o,h2,h3,h4⟩:=W.ah i (.inr (.inl e));obtain⟨h5,h6⟩:=W.vd i e;rcases h with h|h|h|h|h|⟨w,q,x,y,e1,h⟩;·omega
  ·exact h4 h
  ·exact h2 h
  ·exact h3 h
  ·exact h5 h
  ·obtain⟨l,m⟩:=h6 w q x y e1;rcases h with h|h;·exact l h
   ·exact m h
 have sm:=f m0 _ (j m0 (.inr (.inr (.inr (.inl w8))))) W.dk;have keep:∀i x,(i<O.length\/po=J i\/i=c6\/oo=J i\/∃w∈ws,∃a b,w.cm=J (a,b)/\(i=a\/i=b))->S[i]?=J x->(T.set m0 (.dz (KZ (vs++[n]))))[i]?=J x:=λi x h e=>by
  refine aH (f i x (j i ?_) e) ?_ _
  ·rcases h with h|h|h|h|h;·exact .inl h
   ·exact .inr (.inl h)
   ·exact .inr (.inr (.inl h))
   ·exact .inr (.inr (.inr (.inr (.inl h))))
   ·exact .inr (.inr (.inr (.inr (.inr h))))
  ·intro k;subst k;rcases h with h|h|h|h|h;·have:=W.nQ;omega
   ·exact W.pc.2 h
   ·exact W.ne h.symm
   ·exact(W.ah _ (.inl h)).2.2.1 w8
   ·exact(W.ah _ (.inr (.inr h))).2.2.1 w8
 have ml:m0<S.length:=(a00.mp W.dk).1;have cl:c6<S.length:=(a00.mp W.bL).1;refine⟨T,a1,sm,l1,f,{W with
  rq:=W.rq.ac (bH.lt a).s (Ok.bd g m0 (asy _ _)) (by rw[a99,l1];omega) λi x hi e=>keep i x (.inl hi) e
  pa:=W.pa.bB λi x hi e=>keep i x ((W.jz a hi).imp id .inl) e
  dy:=W.dy.bB λi x hi e=>keep i x (.inr (.inr (.inr hi))) e
  dk:=bF sm _
  bb:=.inr ⟨S.length,w8,by simp,by simp,aH n1 (by omega) _⟩
  bL:=keep c6 _ (.inr (.inr (.inl w8))) W.bL
  ah:=λi h=>?_
  vd:=λi h=>?_
  hN:=λx d=>by have:=W.hN x d;simp;omega}⟩
 ·rcases h with h|h|h;·exact W.ah i (.inl h)
  ·cases h;refine⟨W.rq.dt,by omega,by omega,λe=>?_⟩;have:=Rp.lt W.pa (i:=S.length) (.inr (.inr (.inr (.inr (.inr e)))));omega
  ·exact W.ah i (.inr (.inr h))
 ·cases h;refine⟨λe=>by have:=W.dy.lt e;omega,λx d y z e=>?_⟩;have o:=VD.lt W (.inr (.inr ⟨x,d,y,z,e,.inl w8⟩));have h2:=VD.lt W (.inr (.inr ⟨x,d,y,z,e,.inr w8⟩));omega
def mJ.h9(a:p.az O)(W:mJ C1 K p O F po c6 m0 S lv ws oo vv vs vo){T:St}{F2:X aQ}{d:j9 I}(b:bH T p.h p.l p.R p.aw p.rc p.sc p.nm p.fs F2 p.r p.s p.m p.o p.fo d)(q:Req S T p.s p.m F F2 po d)(g:(p.to F2 d).bN C1 K):mJ C1 K p O F2 d c6 m0 T lv ws oo vv vs vo:=by
 have k:=bH.lt a;have keep:∀i x,(i=c6\/i=m0\/VD ws oo vo i)->S[i]?=J x->T[i]?=J x:=λi x h e=>by
  have hi:z O<=i/\po≠J i:=by
   rcases h with rfl|rfl|h;·exact⟨W.kt,W.pc.1⟩
   ·exact⟨W.nQ,W.pc.2⟩
   ·exact⟨(W.ah i h).1,(W.ah i h).2.2.2⟩
  exact q.bp i x (by have:=k.s;omega) (by have:=k.m;omega) hi.2 e
 have c:∀i,i<z S->po≠J i->d≠J i:=λi hi h e=>by
  rcases q.eM i e with e|e;·exact h e
  ·omega
 have ml:m0<z S:=(a00.mp W.dk).1;have cl:c6<z S:=(a00.mp W.bL).1;exact{W with
  rq:=W.rq.N q k.s (bH.st a).sm
  pa:=b
  pg:=g
  dy:=W.dy.bB λi x hi e=>keep i x (.inr (.inr (hi.imp id λhi=>.inr hi))) e
  dk:=keep m0 _ (.inr (.inl w8)) W.dk
  bb:=by
   rcases W.bb with j|⟨f,e,l,h2,h3⟩;·exact .inl j
   ·exact .inr ⟨f,e,l,h2,keep f _ (.inr (.inr (.inr (.inl e)))) h3⟩
  bL:=keep c6 _ (.inl w8) W.bL
  ah:=λi h=>⟨(W.ah i h).1,(W.ah i h).2.1,(W.ah i h).2.2.1,c i (VD.lt W h) (W.ah i h).2.2.2⟩
  pc:=⟨c c6 cl W.pc.1,c m0 ml W.pc.2⟩}
def mJ.iN(a:p.az O)(W:mJ C1 K p O F po c6 m0 S lv ws oo vv vs vo){T:St}{k:AV}{d:X WtV}{j:j9 I}(ok:Ok T)(L:Py T k d j)(A:z S<=z T)(keep:∀i x,oo≠J i->S[i]?=J x->T[i]?=J x)(o:∀q,j=J q->oo=J q\/z S<=q)(m:∀w∈d,w∈ws\/∃a b,w.cm=J (a,b)/\z S<=a/\z S<=b)(v:∀w∈d,1<=w.L/\w.L<=(z vs:P)+1):mJ C1 K p O F po c6 m0 T k d j vv vs vo:=by
 have ml:m0<z S:=(a00.mp W.dk).1;have cl:c6<z S:=(a00.mp W.bL).1;have B:=W.rq.dt;have pl:∀i,z S<=i->po≠J i:=λi hi e=>by have:=Rp.lt W.pa (i:=i) (.inr (.inr (.inr (.inr (.inr e)))));omega
 have s:∀i,vo=J i->i<z S:=λi e=>VD.lt W (.inr (.inl e));exact{W with
  rq:=W.rq.ac (bH.lt a).s ok A λi x hi e=>keep i x (λc=>by have:=(W.ah i (.inl c)).1;omega) e
  pa:=W.pa.bB λi x hi e=>keep i x (λc=>by
   rcases W.jz a hi with h|h;·have:=(W.ah i (.inl c)).1;omega
   ·exact(W.ah i (.inl c)).2.2.2 h) e
  dy:=L
  dk:=keep m0 _ (λe=>(W.ah m0 (.inl e)).2.2.1 w8) W.dk
  bb:=by
   rcases W.bb with l|⟨n,e,f,h2,h3⟩;·exact .inl l
   ·exact .inr ⟨n,e,f,h2,keep n _ (W.vd n e).1 h3⟩
  bL:=keep c6 _ (λe=>(W.ah c6 (.inl e)).2.1 w8) W.bL
  ah:=λi h=>by
   rcases h with h|h|⟨w,h,x,y,e,l⟩
   ·rcases o i h with h|h;·exact W.ah i (.inl h)
    ·exact⟨by omega,by omega,by omega,pl i h⟩
   ·exact W.ah i (.inr (.inl h))
   ·rcases m w h with h|⟨t,u,c,f,h2⟩;·exact W.ah i (.inr (.inr ⟨w,h,x,y,e,l⟩))
    ·rw[e]at c;cases c;have:z S<=i:=(by rcases l with rfl|rfl<;>assumption);exact⟨by omega,by omega,by omega,pl i this⟩
  vd:=λi h=>⟨λe=>by
   rcases o i e with e|e;·exact(W.vd i h).1 e
   ·have:=s i h;omega,λw g x y e=>by
   rcases m w g with f|⟨t,u,c,f,h2⟩;·exact(W.vd i h).2 w f x y e
   ·rw[e]at c;cases c;have:=s i h;omega⟩
  k0:=λw g e=>by
   rcases m w g with f|⟨t,u,c,_⟩;·exact W.k0 w f e
   ·rw[e]at c;cases c
  hN:=v}
def ahg (H:SrcHas C C1) (a:p.az O) (W:mJ C1 K p O F po c6 m0 S lv ws oo vv vs vo) (m:z F<950000) {w:WtV} (d:WOk S oo w) (l:w.cm=U->w.C=rW/\w.ak=p.R.tg/\w.al=p.R.ks) (t:(dV×P)×X aQ) (e:dS K p.fs p.rc p.sc w.C w.ak w.al F=t):
  ∃S' b f args,(∀Y,Ku C w.fn [.da p.r 0] Y=J (.fI f args Y))/\ai C f args S=J (.de [.cX t.1.1.B,.cQ .u8 t.1.2],S')/\mJ C1 K p O t.2 b c6 m0 S' lv ws oo vv vs vo/\Req S S' p.s p.m F t.2 po b:=by
 have g:uQ w.ak.V->DC w.al->∀b,(p.to t.2 b).bN C1 K:=λj k b=>by
  refine⟨W.pg.bV,?_,?_⟩;·show EH p.fs t.2;rw[<-e];exact(aj1 W.pg.bV.e6 W.pg.bV.am W.pg.cH p.rc p.sc _ _ _ j k).2.1
  ·show UA t.2;rw[<-e];exact al6 W.pg.dd K p.fs p.rc p.sc _ _ _
 cases c:w.cm with
 |none=>obtain⟨i,h2,h3⟩:=l c;have h:=g (by rw[h2];exact W.pg.bV.dF.tg) (by rw[h3];exact W.pg.bV.dF.ks);rw[i,h2,h3]at e;obtain⟨S',b,q1,q2,q3⟩:=ajO H.ku W.pg.bV W.pg.cH W.rq.ok W.pa (by show z F+1<_;omega);change ai C oz [.da p.r 0] S=J (.de [.cX (dS K p.fs p.rc p.sc rW p.R.tg p.R.ks F).1.1.B,.cQ .u8 (dS K p.fs p.rc p.sc rW p.R.tg p.R.ks F).1.2],S')at q1;change bH S' p.h p.l p.R p.aw p.rc p.sc p.nm p.fs (dS K p.fs p.rc p.sc rW p.R.tg p.R.ks F).2 p.r p.s p.m p.o p.fo b at q2;change Req S S' p.s p.m F (dS K p.fs p.rc p.sc rW p.R.tg p.R.ks F).2 po b at q3;rw[e]at q1 q2 q3;refine⟨S',b,_,_,λY=>by unfold WtV.fn;rw[c];exact kV _ _ _ _ _,q1,W.h9 a q2 q3 (h b),q3⟩
 |some x=>obtain⟨x,y⟩:=x;obtain⟨S',b,q1,q2,q3⟩:=atB H W.pg W.rq.ok W.pa (by show z F+1<_;omega) c d;change ai C rF [.da p.r 0,.da x 0,.da y 0] S=J (.de [.cX (dS K p.fs p.rc p.sc w.C w.ak w.al F).1.1.B,.cQ .u8 (dS K p.fs p.rc p.sc w.C w.ak w.al F).1.2],S')at q1;change bH S' p.h p.l p.R p.aw p.rc p.sc p.nm p.fs (dS K p.fs p.rc p.sc w.C w.ak w.al F).2 p.r p.s p.m p.o p.fo b at q2;change Req S S' p.s p.m F (dS K p.fs p.rc p.sc w.C w.ak w.al F).2 po b at q3;rw[e]at q1 q2 q3;refine⟨S',b,_,_,λY=>by unfold WtV.fn;rw[c];exact kV _ _ _ _ _,q1,W.h9 a q2 q3 (g (d x y c).2.2.1 (d x y c).2.2.2.1 b),q3⟩
structure atX(C:Ctx)(path:LU)(z:mG)(P:dV->Prop):Prop where
 go:∀T,P T->(∀s∈z.go T,uQ s.ak.V)/\(z.go T).length<=8192/\DC T.bv.al/\∀O,Ok O->ai C jM [.cX T.bv.B,.cU path] O=some (.sl (z.go T).length ((z.go T).flatMap gI.B),O)
 fd:∀T,P T->(∀r,z.fd T=some r->IU r)/\∀O,Ok O->ai C xR [.cX T.B,.cU path] O=some (.de [.cX ((z.fd T).getD kL),.cW (z.fd T).isSome],O)
 ro:∀p a ks d s,d.length<=LB->P (z.K.ro p a ks d s).1
 ab:P EE
def Fin(p:Rp)(O:St)(F:X aQ)(po:j9 I)(cs:LA)(S:St)(x:jo):Prop:=∃T,K3 eF [.cX cs] S=J ([.cX x.B],T)/\Req O T p.s p.m p.F F p.oo po/\(p.to F po).az T
def aqh{v:AV}{l:LA}{fs:X I}{n:I}(k y c:P)(f:LU){rec':LA}(hr:IU rec')(h:cu S (eX S 11) v=J (.sl n l,fs)):bI S (eX S 11) [.cX (.cQ .u8 k::.cQ .u8 y::.cQ .u8 c::.cU f::(rec'++[v]))]=J ([.cX (.cQ .u8 k::.cQ .u8 y::.cQ .u8 c::.cU f::(rec'++[.sl n l]))],fs):=by
 have e:∀rs:LA,t rs->bI S (eX S 11) (rs++[v])=J (rs++[.sl n l],fs):=λrs=>by
  induction rs with
  |nil=>intro _;rw[a88,aN,h,mg];simp|cons x rs d=>intro a;rw[K4,aN,(a x (by simp)).nf,d λy b=>a y (by simp[b])];rfl
 simp only[aN,bK,GZ,Oh,e rec' hr.af,mg];simp
def mJ.e7(a:p.az O)(W:mJ C1 K p O F po c6 m0 S lv ws oo vv vs vo)(cs:LA)(hb:ae (z S) cs=eT)(x:jo)(d:x.bb=vs)(c:∀(T:St) (l:LA) (fs:X I) (n:I),cu T (eX T 11) vv=J (.sl n l,fs)->bI T (eX T 11) [.cX cs]=J ([.cX (.cQ .u8 x.b4::.cQ .u8 x.gv::.cQ .u8 x.cE::.cU x.bS::(x.br++[.sl n l]))],fs)):Fin p O F po cs (S.set c6 (.cP cs FZ)) x:=by
 have k:=bH.lt a;have b:Ok (S.set c6 (.cP cs FZ)):=Ok.bd W.rq.ok c6 (by rw[k9];exact hb);have keep:∀i y,i≠c6->S[i]?=J y->(S.set c6 (.cP cs FZ))[i]?=J y:=λi y h e=>aH e h _;have pn:∀i,(p.to F po).b9 i->i≠c6:=λi h e=>by
  rcases W.jz a h with h|h;·have:=W.kt;omega
  ·rw[e]at h;exact W.pc.1 h
 have q1:Req O (S.set c6 (.cP cs FZ)) p.s p.m p.F F p.oo po:=W.rq.ac k.s b (by simp) λi y hi e=>keep i y (by have:=W.kt;omega) e;have a1:(p.to F po).az (S.set c6 (.cP cs FZ)):=W.pa.bB λi y h e=>keep i y (pn i h) e;obtain⟨kind,why,cause,role,rec',vis⟩:=x;dsimp only at d c;subst d;rcases W.bb with⟨rfl,_,rfl⟩|⟨q,e1,e2,rfl,e4⟩;·refine⟨_,?_,q1,a1⟩;rw[iY,c _ [] [] 0 (dQ _ _)];rfl
 ·have qn:=W.ah q (.inr (.inl e1));have e5:=keep q _ qn.2.1 e4;have nv:t (vis.flatMap sC):=λv hv=>by obtain⟨s,_,hs⟩:=aH6.mp hv;simp only[sC,aC7]at hs;subst hs;exact .cU _
  have f:k9 (z (S.set c6 (.cP cs FZ))) (.cP (vis.flatMap sC) ⟨eT,U⟩)=eT:=AO.Y (w _) _ (by rw[k9];exact nv.cl);refine⟨(S.set c6 (.cP cs FZ)).set q (.cP (vis.flatMap sC) ⟨eT,U⟩),?_,q1.ac k.s (Ok.bd b q f) (by simp) λi y hi e=>aH e (by omega) _,a1.bB λi y h e=>aH e (λg=>?_) _⟩;·rw[iY,c _ (vis.flatMap sC) [q] (z vis) (Eo e5 (bz QC vis) nv),<-qf e5];rfl
  ·rw[g]at h;rcases W.jz a h with h|h;·omega
   ·exact qn.2.2.2 h
end Go.Ev
namespace Go.Ev
open Option renaming some→J, none→U
open List renaming length→z
open Go.IntKind renaming i64→r
open Bool renaming false→eF, true→eT
variable{C C1:Ctx}
def cutV(O:St)(s h:AV):j9 Out:=match s,h with|.dj o 0 n 3,.cQ _ k=>if 0<=k/\k.toNat<=n then J (.ev (.dj o 0 k.toNat 3) O)else U|_,_=>U
def Ej{C:Ctx}{av:XA->AV}{n0:I}{O:St}{x h:XA}(hs:(cutV O (av x) (av h)).isSome=eT):aF C av n0 O (.ii 3 x U (J h) U)=cutV O (av x) (av h):=by
 unfold cutV at*;split at hs
 ·rename_i o n k i e1 e2;split at hs;·next c=>obtain⟨m,rfl⟩:∃m:I,i=m:=⟨i.toNat,by omega⟩;rw[R]at*;simp only[aF,e1,e2,jI,uq,b,aC5];simp[c.2]
  ·cases hs
 ·cases hs
def cw:(∀l,AV.cP (.cX l)=l)/\(∀k n,AV.cP (.cQ k n)=[.cQ k n])/\(∀s,AV.cP (.cU s)=[.cU s])/\AV.cP .cY=[.cY]/\∀Y q o n s,bC Y 1 (.dj q o n s)=J n:=⟨λ_=>w8,λ_ _=>w8,λ_=>w8,w8,λ_ _ _ _ _=>w8⟩
def fw:(∀k n,AV.Q (.cQ k n)=eT)/\(∀s,AV.Q (.cU s)=eT)/\AV.Q .cY=eT/\(∀f x y,AV.Q (.dv f x y)=eT)/\(∀q o n s,AV.Q (.dj q o n s)=eT)/\∀n l,AV.Q (.sl n l)=eT:=⟨λ_ _=>w8,λ_=>w8,w8,λ_ _ _=>w8,λ_ _ _ _=>w8,λ_ _=>w8⟩
def WOk.bE{S T:St}{oo:j9 I}{w:WtV}(h:WOk S oo w)(c:∀a b,w.cm=J (a,b)->∀i x,(i=a\/i=b)->S[i]?=J x->T[i]?=J x):WOk T oo w:=λa b e=>by obtain⟨f,h2,h3,h4,⟨t,h5⟩,d,h6,h7⟩:=h a b e;exact⟨f,h2,h3,h4,⟨t,c a b e a _ (.inl w8) h5⟩,d,c a b e b _ (.inr w8) h6,h7⟩
def mJ.hM {K:Dz} {p:Rp} {O S:St} {F:X aQ} {po:j9 I} {c6 m0:I} {lv:AV} {ws:X WtV} {oo:j9 I} {vv:AV} {vs:X LU} {vo:j9 I} (d:Has C xm Ap) (a:p.az O) (W:mJ C1 K p O F po c6 m0 S lv ws oo vv vs vo) (c:P) (f:LU):
  ∃T,ai C xm [.cQ .u8 c,.cU f,vv] S=J (.cX (jo.B ⟨3,4,c,f,kL,vs⟩),T)/\T[c6]?=J (.cP (kC 0 0 0 [] .cY) FZ)/\Fin p O F po (jo.B ⟨3,4,c,f,kL,vs⟩) (T.set c6 (.cP (jo.B ⟨3,4,c,f,kL,vs⟩) FZ)) ⟨3,4,c,f,kL,vs⟩:=by
 have k:=bH.lt a;have nv:=jo.af ⟨3,4,c,f,kL,vs⟩ sK.af;have pn:∀i,(p.to F po).b9 i->i≠c6:=λi h e=>by
  rcases W.jz a h with h|h;·have:=W.kt;omega
  ·rw[e]at h;exact W.pc.1 h
 have fin:∀T:St,Ok T->z S<=z T->(∀i x,(i<z O\/(p.to F po).b9 i)->S[i]?=J x->T[i]?=J x)->Fin p O F po (jo.B ⟨3,4,c,f,kL,vs⟩) (T.set c6 (.cP (jo.B ⟨3,4,c,f,kL,vs⟩) FZ)) ⟨3,4,c,f,kL,vs⟩:=λT ok n j=>by have g:Ok (T.set c6 (.cP (jo.B ⟨3,4,c,f,kL,vs⟩) FZ)):=Ok.bd ok c6 (AO.Y (w _) _ (by rw[k9];exact nv.cl));exact⟨_,(NVs.cV (.cX nv) .db).E _,W.rq.ac k.s g (by rw[a99];exact n) λi x hi e=>aH (j i x (.inl hi) e) (by have:=W.kt;omega) _,W.pa.bB λi x h e=>aH (j i x (.inr h) e) (pn i h) _⟩
 rcases W.bb with⟨rfl,_,rfl⟩|⟨q,e1,e2,rfl,e4⟩;·exact⟨S,(Nb d (args':=[.cQ .u8 c,.cU f,.sl 0 []]) w8 w8 w8).trans (ajW d c f [] W.rq.ok),W.bL,fin S W.rq.ok (a09 _) λ_ _ _ e=>e⟩
 ·have qn:=W.ah q (.inr (.inl e1));have l:t (vs.flatMap sC):=λv hv=>by obtain⟨s,_,hs⟩:=aH6.mp hv;simp only[sC,aC7]at hs;subst hs;exact .cU _
  have b:Ok (S.set q (.cP (vs.flatMap sC) ⟨eT,U⟩)):=Ok.bd W.rq.ok q (AO.Y (w _) _ (by rw[k9];exact l.cl));have o:K3 eF [.cQ .u8 c,.cU f,.dj q 0 (z vs) 1] S=J ([.cQ .u8 c,.cU f,.sl (z vs) (vs.flatMap sC)],S.set q (.cP (vs.flatMap sC) ⟨eT,U⟩)):=by rw[iY,aN,GZ,aN,Oh,aN,Eo e4 (bz QC vs) l,mg,<-qf e4];rfl
  refine⟨_,(Nb d o (NVs.E (.cV (.cQ _ _) (.cV (.cU _) (.cV (pG vs) .db))) _) (by simp)).trans (ajW d c f vs b),aH W.bL (by omega) _,fin _ b (by simp) λi x h e=>aH e (λm=>?_) _⟩;subst m;rcases h with h|h;·omega
  ·rcases W.jz a h with h|h;·omega
   ·exact qn.2.2.2 h
def avd{P:dV->Prop}{K:Dz}{fs:X PS}(hr:∀p a ks d s,z d<=LB->P (K.ro p a ks d s).1)(e:P EE)(g:ES fs){F:X aQ}(c:EH fs F){C h l R now}(i:F6 C h l R now K)(rc sc:Int)(rl:LU)(f:mP)(ks:X PS):P (dS K fs rc sc rl f ks F).1.1:=by
 obtain⟨s1,s2,s3⟩:=Ah i g c sc;have q:∀p b,P (vO K fs rl f ks p b (aW K fs sc F).2).1.1:=λp b=>hr _ _ _ _ _ (MI g s2 _ _);unfold dS;dsimp only;split
 ·split;·exact e
  ·split;·exact q _ _
   ·split;·exact e
    ·exact q _ _
 ·exact e
def aoT (H:SrcHas C C1) {K:Dz} {p:Rp} {O:St} (a:p.az O) (path:LU) (z:mG) (zK:z.K=K) (zf:z.fs=p.fs) (zr:z.rc=p.rc) (zs:z.sc=p.sc) {P:dV->Prop} (Oq:atX C path z P) (c6 m0:Nat):
  ∀(n:Nat) (S:St) (F:List aQ) (po:j9 Nat) (lv:AV) (ws:List WtV) (oo:j9 Nat) (vv:AV) (vs:List LU) (vo:j9 Nat) (x:jo) (F':List aQ),mJ C1 K p O F po c6 m0 S lv ws oo vv vs vo->uB z n (ws.map WtV.p) vs F=J (x,F')->
  ∃(S':St) (R:j9 Nat),(p.to F' R).bN C1 K/\NVs x.br/\
   ((∃aK bk bb bh,aG C (ai C) 130 [0,1,6,7,8,9,10,11] bD [(0,.da p.r 0),(1,.cU path),(6,.da c6 0),(7,.cQ r z.O),(8,.cQ r z.L),(9,.dz m0),(10,vv),(11,lv)] S=J (.dq 0,[(6,.da c6 0),(10,aK)],S')/\x=⟨2,0,0,[],kL,x.bb⟩/\mJ C1 K p O F' R c6 m0 S' bb [] bh aK x.bb bk)\/
    (∃cs,cs.length=12/\aG C (ai C) 130 [0,1,6,7,8,9,10,11] bD [(0,.da p.r 0),(1,.cU path),(6,.da c6 0),(7,.cQ r z.O),(8,.cQ r z.L),(9,.dz m0),(10,vv),(11,lv)] S=J (.ea,[(6,.da c6 0)],S')/\S'[c6]?=J (.cP cs FZ)/\Fin p O F' R cs S' x)):=by
 intro n
 induction n with
 |zero=>intro S F po lv ws oo vv vs vo x F' W h;cases h
 |succ n ih=>
  intro S F po lv ws oo vv vs vo x F' W h;rw[uB]at h;split at h;·cases h
  rename_i big;simp only[tooBig,aE7,j8,not_or,Nat.not_le,aD8]at big;obtain⟨b1,b2,b3⟩:=big;rcases List.eq_nil_or_concat ws with rfl|⟨init,w,rfl⟩
  ·
   simp only[List.map_nil,List.getLast?_nil,a07,aC2]at h;obtain⟨rfl,rfl⟩:=h;refine⟨S,po,W.pg,sK.af,.inl ⟨vv,vo,lv,oo,?_,w8,W⟩⟩;have hl:bC S 1 lv=J 0:=(by rcases W.dy.az with⟨_,_,rfl⟩|⟨q,l,_,rfl,_⟩<;>rfl);rw[aB (he:=w8)];simp only[bD,hl,EVX,seval]
  rw[List.concat_eq_append]at*;rw[List.map_append,aC9,List.map_nil,List.getLast?_concat,List.dropLast_concat]at h;dsimp only at h;obtain⟨q,l,e1,rfl,hq,V,hl,hw,W1⟩:=W.pp;have lS:=W.rq.dt;have dw:=W.hN w (by simp);have tw:=W.k0 w (by simp);obtain⟨ff,fx,fy,ay⟩:∃ff fx fy,w.fn=.dv ff fx fy:=by unfold WtV.fn;split<;>exact⟨_,_,_,w8⟩
  have wc:w.B=[.cU w.C,.cQ r w.L,.dv ff fx fy]:=by rw[<-ay];rfl
  have wb:=WtV.aL hw;have be:Ok (S++[.cP w.B FZ]):=W.rq.ok.cv (by rw[k9];exact aP (aM0 _) _ wb);have Ww:=W1.eD a be;have A:IntKind.i64.wrap (((init.length+1:Nat):Int)-1)=(init.length:Int):=(show IntKind.i64.wrap (((init.length+1:Nat):Int)-1)=((init.length+1:Nat):Int)-1 from wrE (by simp at b2;omega)).trans (by omega);have m:(0:Int)<((init.length+1:Nat):Int):=(by omega);have i0:(0:Int)<=(init.length:Int):=(by omega);have i1:init.length<init.length+1:=(by omega);have i2:init.length<=init.length+1:=(by omega);have s:¬(init.length=0/\(0:Nat)≠0):=λh=>h.2 w8;have b:=λL=>aj W.dk L;have x12:=λL=>aA S (.cP [.cU w.C,.cQ r w.L,.dv ff fx fy] FZ::L);by_cases hs:w.C∈vs
  ·
   rw[j7 (show w.p.C∈vs from hs)]at h;obtain⟨i,y,hy,hf⟩:=asz hs;obtain⟨S',R,g,gr,cB⟩:=ih _ F po _ init oo vv vs vo x F' Ww h;rw[aB (he:=w8)];rw[wc]at V cB;refine⟨S',R,g,gr,?_⟩;generalize hk:aG C (ai C) 130 [0,1,6,7,8,9,10,11] bD=kk at cB⊢;simp only[bD,hq,V,A,m,i0,i1,i2,s,b,x12,K0,hf,hy,bC,aA,aS,AV.cP,AV.Q,j0,Ej,cutV,a90,w9,EVX,seval];exact cB
  rw[j6 (show¬w.p.C∈vs from hs)]at h;have hf:=avm hs;have vc:vv.cP=[vv]/\vv.Q=eT/\(∀Y,bC Y 1 vv=J vs.length)/\∀k,S.length<=k->Z0 k vv=eT:=by
   rcases W.bb with⟨h1,_,rfl⟩|⟨q',_,_,rfl,e⟩;·subst h1;exact⟨w8,w8,λ_=>w8,λ_ _=>w8⟩
   ·refine⟨w8,w8,λ_=>w8,λk hk=>?_⟩;have:=(a00.mp e).1;simp only[Z0,j8];omega
  obtain⟨vc,vf,vl,vb⟩:=vc;have an:=W.bL;unfold kC at an;have aZ:=λL=>aj an L;have bw:∀k y c cB,ae (S++[AO.cP w.B FZ]).length (kC k y c cB vv)=eT:=λk y c cB=>by have:=vb (S++[AO.cP w.B FZ]).length (by simp);simp only[kC,ae,Z0,this,aD0]
  by_cases hr:z.O<=(vs.length:Int)
  ·
   rw[j7 hr]at h;simp only[a07,aC2]at h;obtain⟨rfl,rfl⟩:=h;refine⟨_,po,W.pg,sK.af,.inr ⟨kC 3 2 0 [] vv,w8,?_,bF (aj W.bL _) _,Ww.e7 a _ (bw _ _ _ _) ⟨3,2,0,[],kL,vs⟩ w8 λT l fs n h=>Qy _ _ _ _ h⟩⟩;rw[aB (he:=w8)];rw[wc]at V⊢;unfold kC;simp only[bD,hq,V,A,m,i0,i1,i2,s,b,x12,K0,hf,vl,vc,vf,hr,aZ,cw,fw,aA,aS,j0,Ej,cutV,a90,w9,EVX,seval]
  by_cases o:z.L<w.L
  ·
   rw[j6 hr,j7 (show z.L<w.p.L from o)]at h;simp only[a07,aC2]at h;obtain⟨rfl,rfl⟩:=h;refine⟨_,po,W.pg,sK.af,.inr ⟨kC 3 3 0 [] vv,w8,?_,bF (aj W.bL _) _,Ww.e7 a _ (bw _ _ _ _) ⟨3,3,0,[],kL,vs⟩ w8 λT l fs n h=>Qy _ _ _ _ h⟩⟩;rw[aB (he:=w8)];rw[wc]at V⊢;unfold kC;simp only[bD,hq,V,A,m,i0,i1,i2,s,b,x12,K0,hf,vl,vc,vf,hr,o,aZ,cw,fw,aA,aS,j0,Ej,cutV,a90,w9,EVX,seval]
  rw[j6 hr,j6 (show¬z.L<w.p.L from o)]at h;have ba:(S++[AO.cP w.B FZ]).length=S.length+1:=(by simp);obtain⟨T,a1,tm,lT,k1,W3⟩:=Ww.oc a (by omega) w.C;rw[ba]at a1 W3 lT;have vn:vo≠J S.length:=λe=>by have:=VD.lt W (.inr (.inl e));omega
  have mS:m0<S.length:=(a00.mp W.dk).1;have pS:po≠J S.length:=λe=>by have:=Rp.lt W.pa (i:=S.length) (.inr (.inr (.inr (.inr (.inr e)))));omega
  have B:T[S.length]?=J (.cP w.B FZ):=k1 _ _ vn (by rw[aA];rfl);obtain⟨S3,j⟩:∃S3,T.set m0 (.dz (KZ (vs++[w.C])))=S3:=⟨_,w8⟩;rw[j]at W3;have d:S3[S.length]?=J (.cP w.B FZ):=j▸aH B (by omega) _;have bp:S3.length=S.length+2:=(by rw[<-j,a99,lT]);have ak:∀x y,w.cm=J (x,y)->∀i,(i=x\/i=y)->O.length<=i/\i≠m0/\po≠J i/\vo≠J i/\i<S.length:=λx y e i hi=>by
   have ow:VD (init++[w]) oo vo i:=.inr (.inr ⟨w,by simp,x,y,e,hi⟩);have h1:=W.ah i ow;refine⟨h1.1,h1.2.2.1,h1.2.2.2,λe'=>?_,VD.lt W ow⟩;obtain⟨h2,h3⟩:=(W.vd i e').2 w (by simp) x y e;rcases hi with hi|hi;·exact h2 hi
   ·exact h3 hi
  have az:WOk S3 oo w:=hw.bE λx y e i v hi h=>by obtain⟨_,c2,c3,c4,_⟩:=ak x y e i hi;exact j▸aH (k1 i v c4 (aj h _)) c2 _
  have sa:=seen_app vs w.C;have bv:¬((vs.length:Int)+1=1)↔vs≠[]:=by
   constructor;·intro h e;subst e;exact h w8
   ·intro h e;exact h (aK4.mp (by omega))
  have ax:IntKind.i64.wrap (w.L+1)=w.L+1:=wrE (by omega);have Z:=bH.lt a;rw[zK,zf,zr,zs]at h;have D:=λL=>aj d L;have bx:=wc;rw[wc]at V d B D a1;have E:(((vs.length+1:Nat):Int)==1)=X1 (vs=[]):=by
   by_cases c:vs=[];·subst c;rfl
   ·have:vs.length≠0:=λh=>c (aK4.mp h);simp[c];omega
  by_cases ab:vs=[]/\(aW K p.fs p.sc F).1.2≠0
  ·rw[j7 ab]at h;simp only[a07,aC2]at h;obtain⟨rfl,rfl⟩:=h;obtain⟨N,o4,s1,s2,s3⟩:=PG H.ku W3.pg.bV W3.pg.cH W3.rq.ok W3.pa (by show F.length<_;omega);change ai C gQ [.da p.r 0] S3=J (.de [.cX (aW K p.fs p.sc F).1.1.B,.cQ .u8 (aW K p.fs p.sc F).1.2],N)at s1;change bH N p.h p.l p.R p.aw p.rc p.sc p.nm p.fs (aW K p.fs p.sc F).2 p.r p.s p.m p.o p.fo o4 at s2;change Req S3 N p.s p.m F (aW K p.fs p.sc F).2 po o4 at s3;obtain⟨_,n2,_⟩:=Ah W.pg.bV.e6 W.pg.bV.am W.pg.cH p.sc;have g4:(p.to (aW K p.fs p.sc F).2 o4).bN C1 K:=⟨W.pg.bV,n2,Vr W.pg.dd K p.fs p.sc⟩;have W4:=W3.h9 a s2 s3 g4;obtain⟨v0,c0⟩:=ab;have X:((aW K p.fs p.sc F).1.2 !=0)=eT:=(by simpa using c0);generalize aW K p.fs p.sc F=sp at*;obtain⟨⟨sv,sc⟩,F1⟩:=sp;dsimp only at*;have sb:k9 0 (.cP sv.B FZ)=eT:=sv.af.cl;have W5:=W4.eD a (s3.ok.H (L:=[.cP sv.B FZ]) (by rw[K1,sb];rfl));obtain⟨T2,y1,y2,y3⟩:=W5.hM H.hM a sc oP;unfold kC at y2;have x4:N[S.length]?=J (.cP [.cU w.C,.cQ r w.L,.dv ff fx fy] FZ):=s3.bp _ _ (by have:=Z.s;omega) (by have:=Z.m;omega) pS d;have G:=λL=>aj x4 L;have br:sv.B=[.cQ r sv.bU,.cQ r sv.bx,.sl sv.ay.length (sv.ay.flatMap oZ.B)]:=w8;refine⟨_,o4,g4,sK.af,.inr ⟨_,w8,?_,bF y2 _,y3⟩⟩;rw[aB (he:=w8)];unfold oP at y1⊢;have aD:(((vs.length+1:Nat):Int)==1)=eT:=by rw[E];simp[v0]
   unfold jo.B kL at y1⊢;simp only[bD,hq,V,A,m,i0,i1,i2,s,b,x12,K0,hf,vl,vc,vf,hr,o,a1,sa,j,d,tm,B,D,aD,s1,X,y1,y2,SnV.dt,SnV.fl,aZ,cw,fw,aA,aS,aI,cZ,j0,Ej,cutV,a90,w9,EVX,seval]
  rw[j6 ab]at h;obtain ⟨S5,F1,o5,W5,f1,aR,x5,w5,l5,fs⟩:∃(S5:St) (F1:List aQ) (o5:j9 Nat),mJ C1 K p O F1 o5 c6 m0 S5 (.dj q 0 init.length 3) init oo (.dj (S.length+1) 0 (vs.length+1) 1) (vs++[w.C]) (J (S.length+1))/\(if vs=[]then(aW K p.fs p.sc F).2 else F)=F1/\F1.length<950000/\S5[S.length]?=J (.cP [.cU w.C,.cQ r w.L,.dv ff fx fy] FZ)/\WOk S5 oo w/\(S.length<S5.length/\o5≠J S.length)/\
    ((X1 (vs=[])=eF/\S5=S3)\/(X1 (vs=[])=eT/\∃(N:St) (sv:SnV),ai C gQ [.da p.r 0] S3=J (.de [.cX sv.B,.cQ .u8 0],N)/\S5=N++[.cP sv.B FZ]/\N[S.length]?=J (.cP [.cU w.C,.cQ r w.L,.dv ff fx fy] FZ))):=by
   by_cases v0:vs=[]
   ·have c0:(aW K p.fs p.sc F).1.2=0:=aI2 λh=>ab ⟨v0,h⟩;obtain⟨N,o4,s1,s2,s3⟩:=PG H.ku W3.pg.bV W3.pg.cH W3.rq.ok W3.pa (by show F.length<_;omega);change ai C gQ [.da p.r 0] S3=J (.de [.cX (aW K p.fs p.sc F).1.1.B,.cQ .u8 (aW K p.fs p.sc F).1.2],N)at s1;change bH N p.h p.l p.R p.aw p.rc p.sc p.nm p.fs (aW K p.fs p.sc F).2 p.r p.s p.m p.o p.fo o4 at s2;change Req S3 N p.s p.m F (aW K p.fs p.sc F).2 po o4 at s3;obtain⟨_,n2,n3⟩:=Ah W.pg.bV.e6 W.pg.bV.am W.pg.cH p.sc;change(aW K p.fs p.sc F).2.length<=F.length+1 at n3;have g4:(p.to (aW K p.fs p.sc F).2 o4).bN C1 K:=⟨W.pg.bV,n2,Vr W.pg.dd K p.fs p.sc⟩;have W4:=W3.h9 a s2 s3 g4;have sb:k9 0 (.cP (aW K p.fs p.sc F).1.1.B FZ)=eT:=(aW K p.fs p.sc F).1.1.af.cl;have x4:N[S.length]?=J (.cP [.cU w.C,.cQ r w.L,.dv ff fx fy] FZ):=s3.bp _ _ (by have:=Z.s;omega) (by have:=Z.m;omega) pS d;have w4:WOk N oo w:=az.bE λx y e i v hi h=>by obtain⟨c1,c2,c3,c4,_⟩:=ak x y e i hi;exact s3.bp i v (by have:=Z.s;omega) (by have:=Z.m;omega) c3 h
    have l4:=s3.dt;rw[c0]at s1;exact⟨_,_,o4,W4.eD a (s3.ok.H (L:=[.cP (aW K p.fs p.sc F).1.1.B FZ]) (by rw[K1,sb];rfl)),j7 v0,by omega,aj x4 _,w4.bE (λx y e i v hi h=>aj h _),⟨by simp;omega,λe=>by
     rcases s3.eM _ e with e|e;·exact pS e
     ·omega⟩,.inr ⟨Z6 v0,N,_,s1,w8,x4⟩⟩
   ·exact⟨S3,F,po,W3,j6 v0,by omega,d,az,⟨by omega,pS⟩,.inl ⟨Z2 v0,w8⟩⟩
  rw[f1]at h;have pt:=avd (P:=P) (by rw[<-zK];exact Oq.ro) Oq.ab W5.pg.bV.am W5.pg.cH W5.pg.bV.e6 p.rc p.sc w.C w.ak w.al
  change P (dS K p.fs p.rc p.sc w.C w.ak w.al F1).1.1 at pt;change(let t:=dS K p.fs p.rc p.sc w.C w.ak w.al F1
   if t.1.2≠0 then(if w.C≠rW/\skp t.1.2=eT then uB z n (init.map WtV.p) (vs++[w.C]) t.2 else J (⟨3,4,t.1.2,w.C,kL,vs++[w.C]⟩,t.2))
   else match z.fd t.1.1 with|J cB=>J (⟨1,0,0,[],cB,vs++[w.C]⟩,t.2)|U=>uB z n (QQ (init.map WtV.p) (z.go t.1.1) t.1.1.bv.al (w.L+1)) (vs++[w.C]) t.2)=J (x,F')at h
  obtain⟨t,ht⟩:∃t,dS K p.fs p.rc p.sc w.C w.ak w.al F1=t:=⟨_,w8⟩;obtain⟨S6,o6,f,args,cv,r1,W6,q6⟩:=ahg H a W5 aR w5 tw t ht;rw[ht]at h pt;rw[ay]at cv;obtain⟨⟨tv,cz⟩,F2⟩:=t;dsimp only at*;have x6:S6[S.length]?=J (.cP [.cU w.C,.cQ r w.L,.dv ff fx fy] FZ):=q6.bp _ _ (by have:=Z.s;omega) (by have:=Z.m;omega) l5.2 x5;have M:=λL=>aj x6 L;have I:=λL=>aj x5 L;have tb:=VN tv;have af:Ok (S6++[.cP tv.B FZ]):=q6.ok.H (by rw[K1,tb];rfl);have W7:=W6.eD a af;have aa:∀tv:dV,j0 [.cQ r 0,.cQ r 0,.cY,.cY,.cY,.cQ r 0,.cY,.cQ r 0,.cU []] 0 tv.B=tv.B:=λ_=>w8;have ad:∀tv:SnV,j0 [.cQ r 0,.cQ r 0,.cY] 0 tv.B=tv.B:=λ_=>w8;by_cases c0:cz≠0
  ·rw[j7 c0]at h;have X:(cz !=0)=eT:=(by simpa using c0);have ac:=avq H.eI cz (S6++[.cP tv.B FZ]);by_cases sk:w.C≠rW/\skp cz=eT
   ·
    rw[j7 sk]at h;obtain⟨S',R,g,gr,cB⟩:=ih _ F2 o6 _ init oo _ (vs++[w.C]) _ x F' W7 h;refine⟨S',R,g,gr,?_⟩;have nt:¬w.C=[116,97,114,103,101,116,115]:=sk.1;rw[sk.2]at ac;rw[aB (he:=w8)];generalize hk:aG C (ai C) 130 [0,1,6,7,8,9,10,11] bD=kk at cB⊢;rcases fs with⟨v1,rfl⟩|⟨v1,N,sv,s1,rfl,x4⟩;·simp only[bD,hq,V,A,m,i0,i1,i2,s,b,x12,K0,hf,vl,vc,vf,hr,o,a1,sa,j,d,tm,B,D,E,v1,cv,r1,x6,M,x5,I,aa,dV.dt,dV.fl,X,nt,ac,aZ,cw,fw,aA,aS,aI,cZ,j0,Ej,cutV,a90,w9,EVX,seval];exact cB
    ·have G:=λL=>aj x4 L;simp only[bD,hq,V,A,m,i0,i1,i2,s,b,x12,K0,hf,vl,vc,vf,hr,o,a1,sa,j,d,tm,B,D,E,v1,s1,cv,r1,x6,M,I,x4,G,aa,ad,SnV.dt,SnV.fl,dV.dt,dV.fl,Z3,X,nt,ac,aZ,cw,fw,aA,aS,aI,cZ,j0,Ej,cutV,a90,w9,EVX,seval];exact cB
   ·
    rw[j6 sk]at h;simp only[a07,aC2]at h;obtain⟨rfl,rfl⟩:=h;obtain⟨T2,y1,y2,y3⟩:=W7.hM H.hM a cz w.C;unfold kC at y2;refine⟨_,o6,W6.pg,sK.af,.inr ⟨_,w8,?_,bF y2 _,y3⟩⟩;rw[aB (he:=w8)];unfold jo.B kL at y1⊢;by_cases nt:w.C=[116,97,114,103,101,116,115]
    ·have aE:X1 (w.C=[116,97,114,103,101,116,115])=eT:=Z6 nt;rcases fs with⟨v1,rfl⟩|⟨v1,N,sv,s1,rfl,x4⟩;·simp only[bD,hq,V,A,m,i0,i1,i2,s,b,x12,K0,hf,vl,vc,vf,hr,o,a1,sa,j,d,tm,B,D,E,v1,cv,r1,x6,M,x5,I,aa,dV.dt,dV.fl,X,aE,y1,y2,aZ,cw,fw,aA,aS,aI,cZ,j0,Ej,cutV,a90,w9,EVX,seval]
     ·have G:=λL=>aj x4 L;simp only[bD,hq,V,A,m,i0,i1,i2,s,b,x12,K0,hf,vl,vc,vf,hr,o,a1,sa,j,d,tm,B,D,E,v1,s1,cv,r1,x6,M,I,x4,G,aa,ad,SnV.dt,SnV.fl,dV.dt,dV.fl,Z3,X,aE,y1,y2,aZ,cw,fw,aA,aS,aI,cZ,j0,Ej,cutV,a90,w9,EVX,seval]
    ·have ns:skp cz=eF:=by
      cases e:skp cz;·rfl
      ·exact X2 ⟨nt,e⟩ sk
     rw[ns]at ac;rcases fs with⟨v1,rfl⟩|⟨v1,N,sv,s1,rfl,x4⟩;·simp only[bD,hq,V,A,m,i0,i1,i2,s,b,x12,K0,hf,vl,vc,vf,hr,o,a1,sa,j,d,tm,B,D,E,v1,cv,r1,x6,M,x5,I,aa,dV.dt,dV.fl,X,nt,ac,y1,y2,aZ,cw,fw,aA,aS,aI,cZ,j0,Ej,cutV,a90,w9,EVX,seval]
     ·have G:=λL=>aj x4 L;simp only[bD,hq,V,A,m,i0,i1,i2,s,b,x12,K0,hf,vl,vc,vf,hr,o,a1,sa,j,d,tm,B,D,E,v1,s1,cv,r1,x6,M,I,x4,G,aa,ad,SnV.dt,SnV.fl,dV.dt,dV.fl,Z3,X,nt,ac,y1,y2,aZ,cw,fw,aA,aS,aI,cZ,j0,Ej,cutV,a90,w9,EVX,seval]
  ·rw[j6 c0]at h;have c0:cz=0:=aI2 c0;subst c0;obtain⟨bd,of2⟩:=Oq.fd tv pt;have fq:=of2 _ af;have x7:(S6++[AO.cP tv.B FZ])[S6.length]?=J (.cP tv.B FZ):=by rw[aA];rfl
   cases aq:z.fd tv with
   |some cB=>
    rw[aq]at h fq;simp only[a07,aC2]at h;obtain⟨rfl,rfl⟩:=h;have ro:=bd cB aq;obtain⟨d0,d1,d2,d3,d4,d5,d6,rfl⟩:∃d0 d1 d2 d3 d4 d5 d6,cB=[d0,d1,d2,d3,d4,d5,d6]:=by
     have hl:=ro.dt
     match cB,hl with
     |[d0,d1,d2,d3,d4,d5,d6],_=>exact⟨d0,d1,d2,d3,d4,d5,d6,w8⟩
    have rb:ae 0 [d0,d1,d2,d3,d4,d5,d6]=eT:=ro.af.cl;have ah:Ok ((S6++[.cP tv.B FZ])++[.cP [d0,d1,d2,d3,d4,d5,d6] FZ]):=af.H (by rw[K1,k9,rb];rfl);have W8:=W7.eD a ah;have f7:=ro.Q;simp only[K1,aC6,aE1,a02]at f7;obtain⟨g0,g1,g2,g3,g4,g5,g6⟩:=f7;have bo:=l5.1;have l6:=q6.dt;have bj:Z0 ((S6++[AO.cP tv.B FZ])++[AO.cP [d0,d1,d2,d3,d4,d5,d6] FZ]).length (.dj (S.length+1) 0 (vs.length+1) 1)=eT:=by simp only[Z0,j8,a03,a94,a96];omega
    have aM:ae ((S6++[AO.cP tv.B FZ])++[AO.cP [d0,d1,d2,d3,d4,d5,d6] FZ]).length (.cQ .u8 1::.cQ .u8 0::.cQ .u8 0::.cU []::([d0,d1,d2,d3,d4,d5,d6]++[.dj (S.length+1) 0 (vs.length+1) 1]))=eT:=by
     have h0:∀(n:Nat) (l:LA),ae n (.cQ .u8 1::.cQ .u8 0::.cQ .u8 0::.cU []::l)=ae n l:=λn l=>by simp only[ae,Z0,aE0]
     rw[h0,Rj _ _ _ (aP (a97 _) _ rb),ae,bj];rfl
    have Q:=W8.bL;have fin:=W8.e7 a _ aM ⟨1,0,0,[],[d0,d1,d2,d3,d4,d5,d6],vs++[w.C]⟩ w8 λT l fs n h=>aqh 1 0 0 [] ro h;rw[aB2]at Q fin;unfold kC at Q;refine⟨_,o6,W6.pg,ro.af,.inr ⟨_,w8,?_,bF Q _,fin⟩⟩;rw[aB (he:=w8)];simp only[aG9,w9]at fq;simp only[K4,a88]at Q⊢;rcases fs with⟨v1,rfl⟩|⟨v1,N,sv,s1,rfl,x4⟩;·simp only[bD,hq,V,A,m,i0,i1,i2,s,b,x12,K0,hf,vl,vc,vf,hr,o,a1,sa,j,d,tm,B,D,E,v1,cv,r1,x6,M,x5,I,aa,dV.dt,dV.tk,dV.fl,fq,x7,Q,g0,g1,g2,g3,g4,g5,g6,aZ,cw,fw,aA,aS,aI,cZ,j0,Ej,cutV,a90,w9,EVX,seval]
    ·have G:=λL=>aj x4 L;simp only[bD,hq,V,A,m,i0,i1,i2,s,b,x12,K0,hf,vl,vc,vf,hr,o,a1,sa,j,d,tm,B,D,E,v1,s1,cv,r1,x6,M,I,x4,G,aa,ad,SnV.dt,SnV.fl,dV.dt,dV.tk,dV.fl,Z3,fq,x7,Q,g0,g1,g2,g3,g4,g5,g6,aZ,cw,fw,aA,aS,aI,cZ,j0,Ej,cutV,a90,w9,EVX,seval]
   |none=>
    rw[aq]at h fq;dsimp only at h;obtain⟨gs,gn,gd,gg⟩:=Oq.go tv pt;have ah:Ok ((S6++[.cP tv.B FZ])++[.cP kL FZ]):=af.H w8;have W8:=W7.eD a ah;simp only[a03,a94,a96,aD8]at b2;obtain⟨aD,aL,bi,S9,y1,y2,y3,y4,y5,y6,y7,y8⟩:=avO H path tv.bv gd (z.go tv) gs gn gg (w.L+1) ah W8.dy (by omega);have al:((vs++[w.C]).length:Int)=(vs.length:Int)+1:=(by simp);have aX:∀v∈aL,1<=v.L/\v.L<=((vs++[w.C]).length:Int)+1:=λv hv=>by
     have hm:v.p∈QQ (init.map WtV.p) (z.go tv) tv.bv.al (w.L+1):=by rw[<-y4];exact List.mem_map_of_mem hv
     have e:v.L=v.p.L:=w8;rw[e];rcases aE4.mp hm with hm|hm
     ·split at hm;·cases hm
      ·obtain⟨u,hu,e⟩:=aE8.mp hm;rw[<-e];have:=W.hN u (by simp[hu]);show 1<=u.L/\u.L<=_;rw[al];omega
     ·obtain⟨u,hu,e⟩:=aE8.mp hm;rw[<-e];show 1<=w.L+1/\w.L+1<=_;rw[al];omega
    have W9:=W8.iN a y2 y3 y5 y6 y7 y8 aX;rw[<-y4]at h;obtain⟨S',R,g,gr,cB⟩:=ih _ F2 o6 _ aL bi _ (vs++[w.C]) _ x F' W9 h;refine⟨S',R,g,gr,?_⟩;simp only[Option.getD_none,Option.isSome_none]at fq;rw[aB2]at y1;have tc:tv.B=[.cQ r tv.bU,.cQ r tv.bx,.sl tv.bi.length (tv.bi.flatMap TgV.B),.sl tv.bv.al.length (tv.bv.al.flatMap pC),.sl tv.bv.O.length (tv.bv.O.flatMap RoV.B),.cQ r tv.bv.cf,tC tv.bv.V,.cQ r tv.bv.cp,.cU tv.bv.bR]:=w8;have dc:tv.bv.B=[.sl tv.bv.al.length (tv.bv.al.flatMap pC),.sl tv.bv.O.length (tv.bv.O.flatMap RoV.B),.cQ r tv.bv.cf,tC tv.bv.V,.cQ r tv.bv.cp,.cU tv.bv.bR]:=w8;unfold tC at tc dc;have au:=λL:St=>aA S6 (.cP tv.B FZ::L);rw[dc]at y1;rw[tc]at y1 r1 fq x7 au;unfold kL at y1 fq;simp only[K4,a88]at y1;rw[aB (he:=w8)];generalize hk:aG C (ai C) 130 [0,1,6,7,8,9,10,11] bD=kk at cB⊢;rcases fs with⟨v1,rfl⟩|⟨v1,N,sv,s1,rfl,x4⟩;·simp only[bD,hq,V,A,m,i0,i1,i2,s,b,x12,K0,hf,vl,vc,vf,hr,o,a1,sa,j,d,tm,B,D,E,v1,cv,r1,x6,M,x5,I,fq,x7,au,ax,y1,aZ,cw,fw,aA,aS,aI,cZ,j0,Ej,cutV,a90,w9,EVX,seval];exact cB
    ·have G:=λL=>aj x4 L;simp only[bD,hq,V,A,m,i0,i1,i2,s,b,x12,K0,hf,vl,vc,vf,hr,o,a1,sa,j,d,tm,B,D,E,v1,s1,cv,r1,x6,M,I,x4,G,ad,SnV.dt,SnV.fl,Z3,fq,x7,au,ax,y1,aZ,cw,fw,aA,aS,aI,cZ,j0,Ej,cutV,a90,w9,EVX,seval];exact cB
def QA:LU:=[114,111,111,116]
structure Nj where
 O:Int
 L:Int
 rc:Int
 sc:Int
def Nj.B(b:Nj):LA:=[.cQ r b.O,.cQ r b.L,.cQ r b.rc,.cQ r b.sc]
def TA(a:P):P:=if 0>a then 0 else a
def Io(K:Dz)(p:Rp)(b:Nj)(go:dV->X gI)(fd:dV->j9 LA):mG:=⟨K,p.fs,p.rc,p.sc,TA b.O,TA b.L,go,fd⟩
def atc(R:jR):Wp:=⟨rW,1,R.tg,R.ks,eT⟩
def uG(a:L)(R:jR)(now:P)(z:mG)(n:I)(F:X aQ):j9 (jo×X aQ):=
 if a=eF then J (⟨2,0,0,[],kL,[]⟩,F)
 else if R.bx<=now then J (⟨3,4,10,QA,kL,[]⟩,F)
 else uB z n [atc R] [] F
def al2{C:Ctx}(b:T C pY tH)(he:T C Bg Ba){p:Rp}{S:St}(e:Ok S)(a:p.az S):ai C Bg [.da p.r 0] S=J (.cW (X1 (p.R.bx<=p.aw)),S):=by
 have d:K3 eF [.da p.r 0] S=J ([.da p.r 0],S):=w8;have mk:=SK b a;have rp:=bH.rp a;unfold qW jR.B at rp;rw[he.go d];by_cases c:p.R.bx<=p.aw;·simp only[Ba,mk,rp,c,bP,K4,a88,W,seval]
 ·simp only[Ba,mk,rp,c,bP,K4,a88,W,seval]
structure SchHas(C C1:Ctx):Prop extends SrcHas C C1 where
 kp:Has C lZ yI
 bx:∀{p:Rp} {S:St},Ok S->p.az S->ai C Bg [.da p.r 0] S=some (.cW (decide (p.R.bx<=p.aw)),S)
def as5{O:St}(k y c:P)(d:LU):K3 eF [.cX (kC k y c d .cY)] O=J ([.cX (jo.B ⟨k,y,c,d,kL,[]⟩)],O):=by rw[iY,Qy k y c d (dQ _ _)];rfl
def aoH (H:SchHas C C1) {K:Dz} {p:Rp} (g:p.bN C1 K) {S:St} (t:Ok S) (a:p.az S) (path:LU) (E:Bool) (F:∀O,ai C vG [.cU path] O=J (.cW E,O)) (b:Nj) (go:dV->List gI) (fd:dV->j9 LA) {P:dV->Prop} (Oq:atX C path (Io K p b go fd) P) (n:I) (x:jo) (v:List aQ) (h:uG E p.R p.aw (Io K p b go fd) n p.F=J (x,v)):
  ∃(S':St) (m:j9 I),ai C lZ [.da p.r 0,.cU path,.cX b.B] S=J (.cX x.B,S')/\Stp S S' p (p.to v m)/\(p.to v m).bN C1 K:=by
 have hn:K3 eF [.da p.r 0,.cU path,.cX b.B] S=J ([.da p.r 0,.cU path,.cX b.B],S):=Sj (.cV (.cU _) (.cV (.cX (.cV (.cQ _ _) (.cV (.cQ _ _) (.cV (.cQ _ _) (.cV (.cQ _ _) .db))))) .db)) p.r 0 S;have ad:p.to p.F p.oo=p:=w8;have D:Ok (S++[.cP b.B FZ,.cP (kC 0 0 0 [] .cY) FZ]):=t.H w8;rw[H.kp.go hn];unfold uG at h;cases E;·simp only[if_true,a07,aC2]at h;obtain⟨rfl,rfl⟩:=h;have nv:=jo.af ⟨2,0,0,[],kL,[]⟩ sK.af;have G:=λL=>bu t (vs:=[.cX (jo.B ⟨2,0,0,[],kL,[]⟩)]) (by rw[ae,Z0,nv.cl];rfl) L;refine⟨S,p.oo,?_,Stp.ax t a,g⟩;have rh:=as5 (O:=S++[.cP b.B FZ,.cP (kC 2 0 0 [] .cY) FZ]) 2 0 0 [];generalize A:iF=N;unfold Nj.B kC at*;simp only[yI,F,aA,aS,aI,cZ,AV.cP,AV.Q,j0,EVX,seval];rw[<-A];refine(oV (vs:=[.cX (kC 2 0 0 [] .cY)]) ?_ rh).trans (by rw[G];rfl);simp only[aZ,aI,kC,EVX,seval]
 rw[j6 (by decide)]at h;have ex:=λL (hL:Ok (S++L))=>H.bx hL (Rp.eD a L);have f:=ex _ D;by_cases e:p.R.bx<=p.aw;·rw[j7 e]at h;simp only[a07,aC2]at h;obtain⟨rfl,rfl⟩:=h;rw[Z6 e]at f;have nv:=jo.af ⟨3,4,10,QA,kL,[]⟩ sK.af;have G:=λL=>bu t (vs:=[.cX (jo.B ⟨3,4,10,QA,kL,[]⟩)]) (by rw[ae,Z0,nv.cl];rfl) L;refine⟨S,p.oo,?_,Stp.ax t a,g⟩;have R:=(Nb H.hM (args:=[.cQ .u8 10,.cU QA,.cY]) (args':=[.cQ .u8 10,.cU QA,.sl 0 []]) (O:=S++[.cP b.B FZ,.cP (kC 0 0 0 [] .cY) FZ]) (O':=S++[.cP b.B FZ,.cP (kC 0 0 0 [] .cY) FZ]) w8 w8 w8).trans (ajW H.hM 10 QA [] D);generalize A:iF=N;have rc:jo.B ⟨3,4,10,QA,kL,[]⟩=[.cQ .u8 3,.cQ .u8 4,.cQ .u8 10,.cU QA,.cQ r 0,.sl 0 [],.cQ .u8 0,.cQ r 0,.cU [],.sl 0 [],.sl 0 [],.sl 0 []]:=w8;rw[rc]at R G nv⊢;unfold Nj.B kC QA at*;simp only[yI,F,f,R,aA,aS,aI,cZ,AV.cP,AV.Q,j0,EVX,seval];rw[<-A];refine(Ia (vs:=[.cX [.cQ .u8 3,.cQ .u8 4,.cQ .u8 10,.cU [114,111,111,116],.cQ r 0,.sl 0 [],.cQ .u8 0,.cQ r 0,.cU [],.sl 0 [],.sl 0 [],.sl 0 []]]) ?_ (.cV (.cX nv) .db)).trans (by rw[G];rfl);simp only[aZ,aI,EVX,seval]
 rw[j6 e]at h;rw[Z2 e]at f;have k:=bH.lt a;obtain⟨u,o⟩:∃u:WtV,u=⟨rW,1,p.R.tg,p.R.ks,U⟩:=⟨_,w8⟩;have q:u.B=[.cU [116,97,114,103,101,116,115],.cQ r 1,.dv (.func oz) [] []]:=by rw[o];rfl
 have ok0:Ok (S++[.cP b.B FZ,.cP (kC 0 0 0 [] .cY) FZ,.dz [],.cP u.B FZ]):=t.H (by rw[q];rfl)
 have W0:mJ C1 K p S p.F p.oo (z S+1) (z S+2) (S++[.cP b.B FZ,.cP (kC 0 0 0 [] .cY) FZ,.dz [],.cP u.B FZ]) (.dj (z S+3) 0 1 3) [u] (J (z S+3)) .cY [] U:=
  {rq:=(Req.ax t _ _ _ _).ac k.s ok0 (by simp) λi x _ e=>aj e _
   pa:=a.eD _
   pg:=g
   dy:=⟨.inr ⟨z S+3,u.B,w8,w8,by rw[aI];rfl,by rw[q];exact a09 3,by simp[q]⟩,λw B x y e=>by
    rw[aC7.mp B,o]at e;cases e⟩
   dk:=by rw[aI];rfl
   bb:=.inl ⟨w8,w8,w8⟩
   bL:=by rw[aI];rfl
   kt:=by omega
   nQ:=by omega
   ne:=by omega
   ah:=λi h=>by
    have pl:∀j,z S<=j->p.oo≠J j:=λj hj e=>by have:=k.oo _ e;omega
    rcases h with h|h|⟨w,B,x,y,e,_⟩;·cases h;exact⟨by omega,by omega,by omega,pl _ (by omega)⟩
    ·cases h
    ·rw[aC7.mp B,o]at e;cases e
   vd:=λi h=>by cases h
   pc:=⟨λe=>by have:=k.oo _ e;omega,λe=>by have:=k.oo _ e;omega⟩
   k0:=λw B _=>by rw[aC7.mp B,o];exact⟨w8,w8,w8⟩
   hN:=λw B=>by rw[aC7.mp B,o];exact⟨aI7 _,by simp⟩}
 have h':uB (Io K p b go fd) n ([u].map WtV.p) [] p.F=J (x,v):=by rw[o];exact h
 obtain⟨S',m,V,gr,cB⟩:=aoT H.toSrcHas a path (Io K p b go fd) w8 w8 w8 w8 Oq (z S+1) (z S+2) n _ _ _ _ _ _ _ _ _ x v W0 h';have nv:=jo.af x gr;have done:∀(cs:LA) (c:St),Fin p S v m cs c x->∃(s:St),Stp S s p (p.to v m)/\∃T,K3 eF [.cX cs] c=J ([.cX x.B],T)/\K7 (z S) [.cX x.B] T=s:=λcs c ⟨T,Y,h2,h3⟩=>by obtain⟨s,t1,t2,t3⟩:=h2.e7 t a h3 [.cX x.B] (by rw[ae,Z0,nv.cl];rfl);exact⟨s,Req.o5 t3 t2,T,Y,t1⟩
 unfold kC at D f cB;have Z:∀(k l:IntKind) (a:Int),Sz eT (.cQ k a) (.cQ l 0)=J (.cQ k (TA a)):=λ_ _ _=>w8;have zr:(Io K p b go fd).O=TA b.O:=w8;have zd:(Io K p b go fd).L=TA b.L:=w8;rw[zr,zd,q]at cB;have bc:b.B=[.cQ r b.O,.cQ r b.L,.cQ r b.rc,.cQ r b.sc]:=w8;rw[bc]at cB f⊢;rcases cB with⟨d,af,ab,ac,r1,r2,W⟩|⟨cs,M,r1,r2,r3⟩
 ·have Q:d.cP=[d]/\d.Q=eT/\Z0 (z S') d=eT:=by
   rcases W.bb with⟨Y,_,e⟩|⟨q',_,_,e,e'⟩;·rw[e];exact⟨w8,w8,w8⟩
   ·have:=(a00.mp e').1;rw[e];exact⟨w8,w8,by simp only[Z0,j8];omega⟩
  obtain⟨Q,vf,vb⟩:=Q;have bs:ae (z S') (kC 2 0 0 [] d)=eT:=(by simp only[kC,ae,Z0,vb,aD0]);obtain⟨s,s1,T,s2,s3⟩:=done _ _ (W.e7 a (kC 2 0 0 [] d) bs x w8 λT l fs n h=>by rw[r2];exact Qy _ _ _ _ h);refine⟨s,m,?_,s1,V⟩;have res:=W.bL;have aa:=(a00.mp res).1;have X:=bF res (.cP (kC 2 0 0 [] d) FZ);generalize A:iF=N;unfold kC at res s2 X;simp only[yI,F,f,Z,r1,res,Q,vf,DU,Es,cw,fw,aA,aS,aI,cZ,j0,EVX,seval];rw[<-A];refine(oV (vs:=[.cX [.cQ .u8 2,.cQ .u8 0,.cQ .u8 0,.cU [],.cQ r 0,.cY,.cQ .u8 0,.cQ r 0,.cU [],.cY,.cY,d]]) ?_ s2).trans (by rw[s3];rfl);simp only[aZ,X,EVX,seval]
 ·obtain⟨s,s1,T,s2,s3⟩:=done _ _ r3;refine⟨s,m,?_,s1,V⟩;generalize A:iF=N;simp only[yI,F,f,Z,r1,DU,Es,cw,fw,aA,aS,aI,cZ,j0,EVX,seval];rw[<-A];have tk:cs.take 12=cs:=a98 (by omega);refine(oV (vs:=[.cX cs]) ?_ s2).trans (by rw[s3];rfl);simp only[aZ,r2,M,tk,EVX,seval]
end Go.Ev
namespace Go.Ev
open Option renaming some→J, none→U
open List renaming length→z
open Go.IntKind renaming i64→r
open Bool renaming false→eF, true→eT
def aoS(z:mG)(b:∀T,(z.go T).length<=8192)(a:L)(R:jR)(now:P)(F:X aQ)(c:F.length<=800000)(d:(aW z.K z.fs z.sc F).1.1.ay.length<=8192):∃n i,uG a R now z n F=J i:=by
 refine⟨phi (aW z.K z.fs z.sc F).1.1 [] 1+1,?_⟩;unfold uG;cases a;·exact⟨_,j7 w8⟩
 rw[j6 (by decide)];by_cases e:R.bx<=now;·exact⟨_,j7 e⟩
 rw[j6 e];have m:(aW z.K z.fs z.sc F).1.1.ay.length-pnd (aW z.K z.fs z.sc F).1.1 []<=8192:=by omega
 have f:=aG4 8193 m;exact afm z _ b _ [atc R] [] F (aK6 _) (by unfold phi;simp only[a94,a96]at*;omega) (by rw[j7 w8];omega) (λh=>X2 w8 h) λ_=>w8
structure afA(x:jo):Prop where
 br:IU x.br
 bb:x.bb.length<=80000000
def ade(z:mG)(hr:∀T f,z.fd T=J f->IU f):∀(n:I) (ws:X Wp) (vs:X LU) (F:X aQ) (x:jo) (b:X aQ),uB z n ws vs F=J (x,b)->afA x
 |0,ws,vs,F,x,b,h=>by cases h
 |n+1,ws,vs,F,x,b,h=>by
  have c:=ade z hr n;unfold uB at h;by_cases a:tooBig ws vs F=eT;·rw[j7 a]at h;cases h
  rw[j6 a]at h;have lv:vs.length<80000000:=by unfold tooBig at a;simp only[aE7,j8,not_or,Nat.not_le]at a;exact a.2.2
  have d:∀w:LU,(vs++[w]).length<=80000000:=λw=>by rw[a03];exact lv
  cases e:ws.getLast? with
  |none=>rw[e]at h;cases h;exact⟨sK,Nat.le_of_lt lv⟩
  |some w=>
   rw[e]at h;dsimp only at h;generalize dS z.K z.fs z.rc z.sc w.C w.ak w.al (if vs=[]then(aW z.K z.fs z.sc F).2 else F)=t at h;split at h;·exact c _ _ _ _ _ h
   split at h;·cases h;exact⟨sK,Nat.le_of_lt lv⟩
   split at h;·cases h;exact⟨sK,Nat.le_of_lt lv⟩
   split at h;·cases h;exact⟨sK,d _⟩
   split at h
   ·split at h;·exact c _ _ _ _ _ h
    ·cases h;exact⟨sK,d _⟩
   ·split at h;·next f hf=>cases h;exact⟨hr _ _ hf,d _⟩
    ·exact c _ _ _ _ _ h
def alp(z:mG)(hr:∀T d,z.fd T=J d->IU d){a:L}{R:jR}{now:P}{n:I}{F b:X aQ}{x:jo}(h:uG a R now z n F=J (x,b)):afA x:=by
 unfold uG at h;split at h;·cases h;exact⟨sK,w _⟩
 split at h;·cases h;exact⟨sK,w _⟩
 ·exact ade z hr _ _ _ _ _ _ h
variable{C C1:Ctx}
def Lat(c d:P):Prop:=d=c\/(c=0/\d=10)
theorem Lat.ab{c d:P}(h:Lat c d)(a:d=0):c=0:=by rcases h with h|h<;>omega
end Go.Ev
namespace Go.Ev
open Option renaming some→J, none→U
open List renaming length→z
open Go.IntKind renaming i64→r
open Bool renaming false→eF, true→eT
abbrev Nx:=(jo×X aQ)⊕(X Wp×X LU×X aQ)
def FK(z:mG)(ws:X Wp)(vs:X LU)(w:Wp)(t:(dV×P)×X aQ):Nx:=
 if t.1.2≠0 then
  if w.C≠rW/\skp t.1.2=eT then .inr (ws,vs++[w.C],t.2)
  else .inl (⟨3,4,t.1.2,w.C,kL,vs++[w.C]⟩,t.2)
 else match z.fd t.1.1 with|J d=>.inl (⟨1,0,0,[],d,vs++[w.C]⟩,t.2)|U=>.inr (QQ ws (z.go t.1.1) t.1.1.bv.al (w.L+1),vs++[w.C],t.2)
def oN(z:mG)(vs:X LU)(F:X aQ):X aQ:=if vs=[]then(aW z.K z.fs z.sc F).2 else F
def JS(z:mG)(w:Wp)(F:X aQ):(dV×P)×X aQ:=dS z.K z.fs z.rc z.sc w.C w.ak w.al F
def qX(z:mG)(ws:X Wp)(vs:X LU)(F:X aQ):Nx:=
 match ws.getLast? with
 |U=>.inl (⟨2,0,0,[],kL,vs⟩,F)
 |J w=>
  if w.C∈vs then .inr (ws.dropLast,vs,F)
  else if z.O<=vs.length then .inl (⟨3,2,0,[],kL,vs⟩,F)
  else if z.L<w.L then .inl (⟨3,3,0,[],kL,vs⟩,F)
  else if vs=[]/\(aW z.K z.fs z.sc F).1.2≠0 then .inl (⟨3,4,(aW z.K z.fs z.sc F).1.2,oP,kL,vs++[w.C]⟩,(aW z.K z.fs z.sc F).2)
  else FK z ws.dropLast vs w (JS z w (oN z vs F))
def amM(z:mG)(n:I):Nx->j9 (jo×X aQ)|.inl d=>J d|.inr s=>uB z n s.1 s.2.1 s.2.2
def ap7(z:mG)(n:I)(ws:X Wp)(vs:X LU)(F:X aQ):uB z (n+1) ws vs F=if tooBig ws vs F=eT then U else amM z n (qX z ws vs F):=by
 rw[uB];split;·rfl
 ·unfold qX;cases ws.getLast? with
  |none=>rfl
  |some w=>
   dsimp only;by_cases a:w.C∈vs;·rw[j7 a,j7 a];rfl
   rw[j6 a,j6 a];by_cases b:z.O<=vs.length;·rw[j7 b,j7 b];rfl
   rw[j6 b,j6 b];by_cases c:z.L<w.L;·rw[j7 c,j7 c];rfl
   rw[j6 c,j6 c];by_cases d:vs=[]/\(aW z.K z.fs z.sc F).1.2≠0;·rw[j7 d,j7 d];rfl
   rw[j6 d,j6 d];unfold FK JS oN;generalize dS z.K z.fs z.rc z.sc w.C w.ak w.al (if vs=[]then(aW z.K z.fs z.sc F).2 else F)=t;by_cases e:t.1.2≠0
   ·rw[j7 e,j7 e];by_cases c6:w.C≠rW/\skp t.1.2=eT;·rw[j7 c6,j7 c6];rfl
    ·rw[j6 c6,j6 c6];rfl
   ·rw[j6 e,j6 e];cases z.fd t.1.1<;>rfl
def Tm{z:mG}{n:I}{ws:X Wp}{vs:X LU}{F:X aQ}{d:jo×X aQ}(h:uB z n ws vs F=J d):∃m,n=m+1/\tooBig ws vs F=eF/\amM z m (qX z ws vs F)=J d:=by
 cases n with
 |zero=>cases h
 |succ m=>
  rw[ap7]at h;split at h;·cases h
  ·next c=>exact⟨m,w8,by simpa using c,h⟩
def JO {zz:mG} {I:X Wp->X LU->X aQ->Prop} {Q:jo×X aQ->Prop} (hs:∀ws vs F,I ws vs F->tooBig ws vs F=eF->match qX zz ws vs F with|.inl d=>Q d|.inr s=>I s.1 s.2.1 s.2.2):∀(n:Nat) (ws:X Wp) (vs:X LU) (F:X aQ) (d:jo×X aQ),I ws vs F->uB zz n ws vs F=J d->Q d
 |0,_,_,_,_,_,h=>by cases h
 |n+1,ws,vs,F,d,hI,h=>by
  obtain⟨m,e,a,h⟩:=Tm h;obtain rfl:n=m:=(by omega);have k:=hs ws vs F hI a;cases e:qX zz ws vs F with
  |inl b=>rw[e]at h k;cases h;exact k|inr s=>rw[e]at h k;exact JO hs n _ _ _ _ k h
noncomputable section
def lm:KC:=(.mk ?k:h 64 [] 0).1
attribute [local irreducible] lm
def Aj:KF:=(.mk ?k:a 64 [lm]).1
def IG:KF:=(.mk ?k:a 104 []).1
def jX:KC:=(.mk ?k:h 162 [] 0).1
attribute [local irreducible] jX
def tu:KF:=(.mk ?k:a 162 [jX]).1
def tJ:KC:=(.mk ?k:h 164 [] 0).1
attribute [local irreducible] tJ
def IJ:KF:=(.mk ?k:a 164 [tJ]).1
def Ci:KF:=(.mk ?k:a 230 []).1
def II:KF:=(.mk ?k:a 232 []).1
def DJ:KF:=(.mk ?k:a 169 []).1
def JY:KF:=(.mk ?k:a 102 []).1
def Ar:KC:=(.mk ?k:h 166 [] 0).1
attribute [local irreducible] Ar
def UC:KF:=(.mk ?k:a 166 [Ar]).1
def JZ:KF:=(.mk ?k:a 167 []).1
def zi:KC:=(.mk ?k:h 236 [] 0).1
attribute [local irreducible] zi
def YY:KF:=(.mk ?k:a 236 [zi]).1
def aaN:KF:=(.mk ?k:a 235 []).1
def Nl:KF:=(.mk ?k:a 233 []).1
def DD:KF:=(.mk ?k:a 165 []).1
def Vx:KF:=(.mk ?k:a 234 []).1
def Pv:KF:=(.mk ?k:a 33 []).1
def bJ:KC:=(.mk ?k:h 61 [] 0).1
attribute [local irreducible] bJ
def jG:KF:=(.mk ?k:a 61 [bJ]).1
def Ht:KF:=(.mk ?k:a 105 []).1
def nJ:KF:=(.mk ?k:a 170 []).1
def Po:KF:=(.mk ?k:a 125 []).1
def gV:KC:=(.mk ?k:h 78 [] 0).1
attribute [local irreducible] gV
def kD:KC:=(.mk ?k:h 78 [gV] 1).1
attribute [local irreducible] kD
def sQ:KC:=(.mk ?k:h 78 [gV,kD] 2).1
attribute [local irreducible] sQ
def Gf:KF:=(.mk ?k:a 78 [gV,kD,sQ]).1
def L8:KF:=(.mk ?k:a 103 []).1
def Lp:KF:=(.mk ?k:a 63 []).1
end
variable{C:Ctx}{PK:PkI}
def an5{d:RoV}(h:Ms V0 Ik d.B):z d.C<=LB:=by obtain⟨s,b,e,a,_⟩:=wR h;injection e with e1 e2;injection e1 with e1;rw[e1];exact a
theorem RoV.af(d:RoV):t d.B:=.cV (.cU _) (.cV (.cQ _ _) (.cV (pG _) (.cV (.cW _) (.cV (pG _) (.cV (pG _) .db)))))
def ase(l:X RoV):NV (.sl (z l) (l.flatMap RoV.B)):=.sl _ (dP (λd=>d.aL) l)
def aq0(O:St)(sz:I)(s h:AV):j9 Out:=match s,h with|.sl n l,.cQ _ k=>if 0<=k/\k.toNat<=n/\z l=n*sz then J (.ev (.sl k.toNat (l.take (k.toNat*sz))) O)else U|_,_=>U
def amA{C:Ctx}{av:XA->AV}{n0 sz:I}{O:St}{x h:XA}(hs:(aq0 O sz (av x) (av h)).isSome=eT):aF C av n0 O (.ii sz x U (J h) U)=aq0 O sz (av x) (av h):=by
 unfold aq0 at*;split at hs
 ·rename_i n l k i e1 e2;split at hs;·next c=>obtain⟨m,rfl⟩:∃m:I,i=m:=⟨i.toNat,by omega⟩;rw[R]at*;simp only[aF,e1,e2,jI,uq,b,aC5];simp[c.2]
  ·cases hs
 ·cases hs
def ZT (Q:LU->Prop) (t:bZ C PK jq (.dp [.cX Ik] .cW)) (q:bZ C PK yP (.dp [.ew Ik,.df] .cW)) (l:X RoV) (w:z l<=64) (d:∀N∈l,Ms V0 Ik N.B) (s:∀N∈l,∀Y:St,Ok Y->ai C jq [.cX N.B] Y=J (.cW eT,Y)->Q N.C):∀(n i:I),i+n=z l->∀Y:St,Ok Y->∃(L:St) (x:XE×As),((x=(.dq 0,[])/\∀N∈l.drop i,Q N.C)\/x=(.ea,[(2,.cW eF)]))/\
  aG C (ai C) 27 [0,8,9,10] jX [(0,.sl (z l) (l.flatMap RoV.B)),(8,.sl (z l) (l.flatMap RoV.B)),(9,.cQ r (z l)),(10,.cQ r i)] Y=J (x.1,x.2,Y++L)
 |0,i,hi,Y,ok=>by have h:¬((i:P)<(z l:P)):=(by omega);refine⟨[],_,.inl ⟨w8,λN hr=>by rw[aC0 (by omega)]at hr;cases hr⟩,?_⟩;rw[aB (he:=w8)];simp only[jX,h,aB3,W,seval]
 |n+1,i,hi,Y,ok=>by
  have h:((i:P)<(z l:P)):=(by omega);have h2:i<z l:=(by omega);have h3:(0:P)<=i:=(by omega);have e:=wrS i (by omega)
  have hb:l[i]?=J l[i]:=a01 h2;have fl:=bz RoV.dt l;have fd:=iy RoV.dt hb;have c:=d l[i] (aD5 h2);obtain⟨x,f⟩:∃x,x=l[i]:=⟨_,w8⟩;rw[<-f]at fd c;have a:Ok (Y++[.cP x.B FZ]):=ok.H (by
   have:k9 0 (.cP x.B FZ)=eT:=x.aL;rw[K1,AO.Y (a97 _) _ this];rfl)
  obtain⟨v1,q1,A⟩:=fA t (.cV (.cX x.af) .db) (.cV _ _ _ _ (.cX _ _ c) .db) a;obtain⟨b1,rfl⟩:=zD A;have o:(l.flatMap RoV.B).take (i*6)=(l.take i).flatMap RoV.B:=by have:l.flatMap RoV.B=(l.take i).flatMap RoV.B++(l.drop i).flatMap RoV.B:=(by rw[<-v,K2]);rw[this,K6 (by rw[bz RoV.dt,aD7];omega)]
  have lt:z (l.take i)=i:=by rw[aD7];omega
  obtain⟨v2,q2,B⟩:=fA q (.cV (ase (l.take i)) (.cV (.cU x.C) .db)) (.cV _ _ _ _ (aci (l.take i) (λy g=>d y (List.mem_of_mem_take g)) (by omega)) (.cV _ _ _ _ (.df _ (an5 c)) .db)) a;obtain⟨u,rfl⟩:=zD B;rw[lt]at q2;obtain⟨L,y,g,j⟩:=ZT Q t q l w d s n (i+1) (by omega) _ a;rw[aB2]at j;have D:ai C jq [.cX x.B] (Y++[.cP x.B FZ])=J (.cW eT,Y++[.cP x.B FZ])->Q x.C:=s x (by rw[f];exact aD5 h2) _ a;have m:=q1;have E:x.B=[.cU x.C,.cQ r x.cf,.sl (z x.V) (x.V.flatMap sC),.cW x.b5,.sl (z x.bj) (x.bj.flatMap sC),.sl (z x.b2) (x.b2.flatMap sC)]:=w8;rw[E]at fd q1 q2 j;have b:=λL=>aU (w8:z Y=_) L;have s1:=λL y=>fV (w8:z Y=_) L y;have le:i<=z l:=(by omega);have p:z (l.flatMap RoV.B)=z l*6:=fl;rw[aB (he:=w8)];generalize F:aG C (ai C) 27 [0,8,9,10] jX=k at*;cases b1;·refine⟨([.cP [.cU x.C,.cQ r x.cf,.sl (z x.V) (x.V.flatMap sC),.cW x.b5,.sl (z x.bj) (x.bj.flatMap sC),.sl (z x.b2) (x.b2.flatMap sC)] FZ]:St),(.ea,[(2,.cW eF)]),.inr w8,?_⟩;simp only[jX,h,h2,h3,e,fl,fd,q1,b,s1,j0,AV.cP,AV.Q,K4,W,seval]
  ·cases u
   ·refine⟨([.cP [.cU x.C,.cQ r x.cf,.sl (z x.V) (x.V.flatMap sC),.cW x.b5,.sl (z x.bj) (x.bj.flatMap sC),.sl (z x.b2) (x.b2.flatMap sC)] FZ]:St)++L,y,g.imp (λk=>⟨k.1,λN hr=>by
     rw[aB6 h2]at hr;rcases aC8.mp hr with rfl|hr;·rw[<-f];exact D m
     ·exact k.2 N hr⟩) id,?_⟩
    simp only[jX,h,h2,h3,e,fl,fd,q1,q2,o,p,le,amA,aq0,R,K5,w9,b,s1,j,j0,AV.cP,AV.Q,K4,W,seval]
   ·refine⟨([.cP [.cU x.C,.cQ r x.cf,.sl (z x.V) (x.V.flatMap sC),.cW x.b5,.sl (z x.bj) (x.bj.flatMap sC),.sl (z x.b2) (x.b2.flatMap sC)] FZ]:St),(.ea,[(2,.cW eF)]),.inr w8,?_⟩;simp only[jX,h,h2,h3,e,fl,fd,q1,q2,o,p,le,amA,aq0,R,K5,w9,b,s1,j0,AV.cP,AV.Q,K4,W,seval]
def af0(Q:LU->Prop)(i:bZ C PK jq (.dp [.cX Ik] .cW))(f:bZ C PK yP (.dp [.ew Ik,.df] .cW))(e:T C tY tu)(l:X RoV)(j:∀q∈l,Ms V0 Ik q.B)(g:∀q∈l,∀Y:St,Ok Y->ai C jq [.cX q.B] Y=J (.cW eT,Y)->Q q.C){O:St}(a:Ok O):∃b,ai C tY [.sl (z l) (l.flatMap RoV.B)] O=J (.cW b,O)/\(b=eT->∀q∈l,Q q.C):=by
 have d:∀b L,K7 (z O) [.cW b] (O++L)=O:=λb L=>bu a w8 L;rw[e.go (NVs.E (.cV (ase l) .db) _)];by_cases h:(z l:P)>64;·refine⟨eF,?_,λh=>by cases h⟩;simp only[tu,h,W,seval]
 ·obtain⟨L,y,m,c⟩:=ZT Q i f l (by omega) j g (z l) 0 (by omega) O a;simp only[aB1]at c;rcases m with⟨rfl,k⟩|rfl;·refine⟨eT,?_,λ_=>k⟩;simp only[tu,h,c,d,W,seval]
  ·refine⟨eF,?_,λh=>by cases h⟩;simp only[tu,h,c,d,W,seval]
def ajo(h:bZ C PK jq (.dp [.cX Ik] .cW))(g:bZ C PK yP (.dp [.ew Ik,.df] .cW))(d:T C tY tu):bZ C PK tY (.dp [.ew Ik] .cW):=
 qw d w8 λe i=>by obtain⟨x,rfl,f⟩:=U2 i;obtain⟨l,rfl,k,a⟩:=aeD aqM f;intro O c;obtain⟨b,q,-⟩:=af0 (λ_=>True) h g d l (λx j=>(a x j).2) (λ_ _ _ _ _=>s) c;exact⟨_,q,.cW b⟩
def anA {tg:j9 (TypeId×L)} (O:St) (k:I) (acc cs:LU) (m:I) (c:z cs=m) (e:0<m) (b:z acc+m<=70368744177664):
  uD (y O k (.cP (B acc) FZ)) 1 1 tg (.dj (z O+k) 0 (z acc) 1) m (B cs)=J (.dj (z O+(k+1)) 0 (z (acc++cs)) 1,y O (k+1) (.cP (B (acc++cs)) FZ)):=by
 have a:¬m=0:=by omega
 have d:(if U=tg then tg else U)=U:=by split<;>simp_all
 unfold uD;rw[j6 a];simp only[Qs];rw[j7 ⟨s,by rw[aJ];omega,by omega,b⟩,aiJ,ZN,Qn,a03,c,d]
def amP{O:St}(h:Ok O)(k:I)(acc:LU)(fz:Fz):Ok (y O k (.cP (B acc) fz)):=by unfold y;refine h.eD ?_;rw[aK2,a02];refine⟨?_,by simp[k9,nT]⟩;rw[aB0];intro x a;obtain⟨_,rfl⟩:=List.mem_replicate.mp a;rfl
def avI(v:P):∃b:UInt8,IntKind.u8.wrap v=(b.toNat:P):=by
 have h:0<=IntKind.u8.wrap v/\IntKind.u8.wrap v<256:=by rw[H];omega
 refine⟨UInt8.ofNat (IntKind.u8.wrap v).toNat,?_⟩;simp only[UInt8.toNat_ofNat'];omega
structure aaM(C:Ctx)(PK:PkI):Prop where
 j6:Has C Ea Hz
 is:bZ C PK PY (.dp [.df] .cW)
 gc:bZ C PK qI (.dp [.df,.cQ .i64] (.de [.cQ .i64,.cW]))
def ahL(H:aaM C PK)(s:LU)(hs:z s<=LB)(i:P){O:St}(a:Ok O):∃(d:P) (b:L),ai C qI [.cU s,.cQ r i] O=J (.de [.cQ r d,.cW b],O):=by obtain⟨v,c,h2⟩:=fA H.gc (.cV (.cU s) (.cV (.cQ r i) .db)) (.cV _ _ _ _ (.df s hs) (.cV _ _ _ _ (.cQ _ _) .db)) a;obtain⟨w,rfl,e⟩:=aqG h2;obtain⟨x,y,rfl,f,g⟩:=agd e;obtain⟨d,rfl⟩:=BK f;obtain⟨b,rfl⟩:=Qj g;exact⟨d,b,c⟩
def Zx (H:aaM C PK) (s:LU) (hs:z s<=LB) (O:St) (c:Ok O):∀(n i k:I) (acc:LU),i+2*n=z s->z acc+n<=z s->
  ∃(e:I) (a:LU),aG C (ai C) 50 [0,4,5] wW [(0,.cU s),(4,.dj (z O+k) 0 (z acc) 1),(5,.cQ r i)] (y O k (.cP (B acc) FZ))=
   J (.dq 0,[(4,.dj (z O+e) 0 (z a) 1)],y O e (.cP (B a) FZ))/\z a<=z s
 |0,i,k,acc,hi,m=>by refine⟨k,acc,?_,by omega⟩;rw[aB (he:=w8)];have h:¬((i:P)<(z s:P)):=(by omega);simp only[wW,h,bC,W,seval]
 |n+1,i,k,acc,hi,m=>by have f:=hs;simp only[LB]at f;have h:((i:P)<(z s:P)):=(by omega);have g:=wrS i (by omega);have j:IntKind.i64.wrap ((i:P)+2)=((i+2:I):P):=wrE (by omega);obtain⟨d1,b1,e1⟩:=ahL H s hs (i:P) (amP c k acc FZ);obtain⟨d2,u,e2⟩:=ahL H s hs ((i+1:I):P) (amP c k acc FZ);have t:¬((4:P)<0):=(by decide);obtain⟨v,hv⟩:∃v,v=(Q IntKind.i64.bits (IntKind.i64.wrap (d1*2^(min (4:I) IntKind.i64.bits)))|||Q IntKind.i64.bits d2).toNat:=⟨_,w8⟩;obtain⟨b,hb⟩:=avI (IntKind.i64.wrap (v:P));have d:∀tg,uD (y O k (.cP (B acc) FZ)) 1 1 tg (.dj (z O+k) 0 (z acc) 1) 1 [.cQ .u8 b.toNat]=J (.dj (z O+(k+1)) 0 (z (acc++[b])) 1,y O (k+1) (.cP (B (acc++[b])) FZ)):=λtg=>anA O k acc [b] 1 w8 (by omega) (by omega);obtain⟨e,a,q,p⟩:=Zx H s hs O c n (i+2) (k+1) (acc++[b]) (by omega) (by simp;omega);refine⟨e,a,?_,p⟩;rw[aB (he:=w8)];generalize w:aG C (ai C) 50 [0,4,5] wW=l at*;simp only[wW,h,g,j,e1,e2,t,<-hv,hb,d,q,bC,j0,W,seval]
def hex_Decode(H:aaM C PK)(s:LU)(hs:z s<=LB)(O:St)(c:Ok O):∃(t:LU) (e:P),ai C Ea [.cU s] O=J (.de [.cU t,.cQ r e],O)/\z t<=LB:=by
 rw[H.j6.go (NVs.E (.cV (.cU _) .db) _)];have g:=hs;simp only[LB]at g;obtain⟨v,d,h2⟩:=fA H.is (.cV (.cU s) .db) (.cV _ _ _ _ (.df s hs) .db) c;obtain⟨b,rfl⟩:=Qj h2;cases b with
 |false=>exact⟨[],3,by simp only[Hz,d,bP,W,seval],by simp[LB]⟩
 |true=>
  have i:¬((2:P)=0):=(by decide);cases hr:((z s:P).tmod 2 !=0)with
  |true=>exact⟨[],4,by simp only[Hz,d,i,hr,bP,W,seval],by simp[LB]⟩
  |false=>
   have f:(z s:P).tmod 2=0:=(by simpa using hr);rw[aL4 (by omega)]at f;obtain⟨u,a,h,w⟩:=Zx H s hs O c (z s/2) 0 0 [] (by omega) (by simp;omega);simp only[a96,aL1,aB1]at h;have p:IntKind.i64.wrap ((z s:P).tdiv 2)=((z s/2:I):P):=by
    have:(z s:P).tdiv 2=((z s/2:I):P):=by rw[Int.tdiv_eq_ediv_of_nonneg (by omega)];omega
    rw[this,w64]<;>omega
   have k:(0:P)<=((z s/2:I):P):=(by omega);have l:((z s/2:I):P)<=9223372036854775807:=(by omega);have m:((z s/2:I):P)<=140737488355328:=(by omega);have j:(0:P)<=0:=(by decide);have n:O++[AO.cP [] FZ]=y O 0 (.cP (B []) FZ):=w8;have hb:=yx a;have o:(B a).take (z a)=B a:=a98 (by rw[aJ];omega);have q:K7 (z O) [.cU a,.cQ r 0] (y O u (.cP (B a) FZ))=O:=aff c w8 _ _;refine⟨a,0,?_,by omega⟩;simp only[Hz,d,i,hr,p,j,k,l,m,n,h,hb,o,q,Qs,aJ,aH2,Int.one_mul,aD2,aB8,aC4,K5,W,seval]
def adA(H:aaM C PK):bZ C PK Ea (.dp [.df] (.de [.df,.cQ r])):=
 qw H.j6 w8 λc g=>by obtain⟨x,rfl,d⟩:=U2 g;obtain⟨a,rfl,f⟩:=zA d;intro O b;obtain⟨t,e,h,i⟩:=hex_Decode H a f O b;exact⟨_,h,.de _ _ (.cV _ _ _ _ (.df t i) (.cV _ _ _ _ (.cQ _ _) .db))⟩
def agZ(H:QW C)(c:T C jE xM):bZ C PK jE (.dp [.df] (.de [.jv,.cQ r,.cQ r])):=
 qw c w8 λd g=>by obtain⟨x,rfl,f⟩:=U2 g;obtain⟨a,rfl,i⟩:=zA f;intro O b;obtain⟨j,p,e,h⟩:=aoA H c a O b;exact⟨_,h,.de _ _ (.cV _ _ _ _ (.jv j) (.cV _ _ _ _ (.cQ _ _) (.cV _ _ _ _ (.cQ _ _) .db)))⟩
def ah1(H:Nv C PK):bZ C PK kW (.dp [.jv] .cW):=
 qw H.kr w8 λc e=>by obtain⟨x,rfl,d⟩:=U2 e;obtain⟨j,rfl⟩:=aev d;intro O a;obtain⟨b,h,_⟩:=X5 H j O a;exact⟨_,h,.cW b⟩
def adC(H:CopyHas C):bZ C PK Eg (.dp [.jv] .jv):=
 qw H.gy w8 λb d=>by obtain⟨x,rfl,c⟩:=U2 d;obtain⟨j,rfl⟩:=aev c;intro O a;exact⟨_,OE H j O a,.jv j⟩
def ah0(H:CopyHas C)(F:aai C)(c:T C Gx Df):bZ C PK Gx (.dp [.jv,.df] (.de [.jv,.cW])):=
 qw c w8 λd f=>by obtain⟨x,y,rfl,e,h2⟩:=agd f;obtain⟨j,rfl⟩:=aev e;obtain⟨s,rfl,_⟩:=zA h2;intro O a;obtain⟨g,b,h⟩:=ap3 H F c j s O a;exact⟨_,h,.de _ _ (.cV _ _ _ _ (.jv g) (.cV _ _ _ _ (.cW b) .db))⟩
def aac(H:UB C)(V:Nv C PK)(d:T C fM DF):bZ C PK fM (.dp [.jv] (.de [.df,.cQ r])):=
 qw d w8 λb g=>by obtain⟨x,rfl,c⟩:=U2 g;obtain⟨j,rfl⟩:=aev c;intro O a;obtain⟨s,e,h,f⟩:=aa3 H V j O a;exact⟨_,h,.de _ _ (.cV _ _ _ _ (.df s f) (.cV _ _ _ _ (.cQ _ _) .db))⟩
def ajl(H:aaV C)(g:T C lY BV):bZ C PK lY (.dp [.fY 2 [.df,.jv,.df,.jv]] (.de [.jv,.cQ r])):=
 qw g w8 λd i=>by
  obtain⟨x,rfl,f⟩:=U2 i;obtain⟨l,rfl,h2⟩:=aqE f;intro O a;cases h2 with
  |ef _ _ v1 b1 _ x1 k=>
   obtain⟨s1,rfl,l1⟩:=zA x1;cases k with
   |ef _ _ _ _ h _ _=>exact X2 h (by decide)
   |jv _ b p m=>
    cases m with
    |ef _ _ v3 q _ x3 n=>
     obtain⟨s2,rfl,l2⟩:=zA x3;cases n with
     |ef _ _ _ _ h _ _=>exact X2 h (by decide)|jv _ c s o=>cases o;obtain⟨j,e,h⟩:=ZJ H [(⟨s1,l1⟩,b),(⟨s2,l2⟩,c)] (by simp) (by simp) O a;have e1:dU [(⟨s1,l1⟩,b),(⟨s2,l2⟩,c)]=.cU s1::(b.B++.cU s2::(c.B++[])):=(by simp[dU,elC]);rw[e1]at h;exact⟨_,h,.de _ _ (.cV _ _ _ _ (.jv j) (.cV _ _ _ _ (.cQ _ _) .db))⟩
structure TE(C:Ctx)(PK:PkI):Prop where
 dc:bZ C PK TZ (.dp [.df] .jv)
 fa:bZ C PK WG (.dp [.cQ .i64] .jv)
 cW:bZ C PK TW (.dp [.cW] .jv)
 hH:bZ C PK Jm (.dp [.ew [.df]] .jv)
 bi:bZ C PK TY (.dp [.fh] .jv)
 eg:bZ C PK KE (.dp [.ew [.df,.df]] (.de [.jv,.cQ .i64]))
 f0:bZ C PK D9 (.dp [.cX [.cQ .i64,.ew [.df],.cQ .i64,.df]] .cW)
 bA:aaV C
 lx:Pn C Jc Po
 lS:Has C Je Ci
 k3:Has C Jd II
 et:Has C zW IJ
def fO(j:JV):∃a b c d e,j.av=.cX [a,b,c,d,e]/\j.B=[a,b,c,d,e]/\a.Q=eT/\b.Q=eT/\c.Q=eT/\d.Q=eT/\e.Q=eT:=by obtain⟨k,n,t,ns,is,f,h3,h2,h4,rfl⟩:=j.ex;refine⟨_,_,_,_,_,?_,JV.bO ..,w8,w8,w8,w8,w8⟩;unfold JV.av;rw[JV.bO]
def mEl(s:LU)(h:z s<=LB)(j:JV):EL:=(⟨s,h⟩,j)
def acH{d:RoV}(h:Ms V0 Ik d.B):TsM d.V/\TsM d.bj/\TsM d.b2:=by obtain⟨_,_,e,_,h⟩:=En h w8;injection e with e1 e;subst e1;subst e;obtain⟨_,_,e,_,h⟩:=En h w8;injection e with e1 e;subst e1;subst e;obtain⟨_,_,e,a,h⟩:=En h w8;injection e with e1 e;subst e1;subst e;obtain⟨_,_,e,_,h⟩:=En h w8;injection e with e1 e;subst e1;subst e;obtain⟨_,_,e,b,h⟩:=En h w8;injection e with e1 e;subst e1;subst e;obtain⟨_,_,e,c,h⟩:=En h w8;injection e with e1 e;subst e1;exact⟨a,b,c⟩
def akO(H:TE C PK)(xs:X EL)(c:xs≠[])(h2:z xs<=8192)(q:I)(Y:St)(a:Ok Y)(b:Y[q]?=J (.cP (dU xs) FZ)):∃(j:JV) (e:P),ai C lY [.dj q 0 (z xs) 6] Y=J (.de [j.av,.cQ r e],Y.set q (.cP (dU xs) ⟨eT,U⟩)):=by
 have nv:t (dU xs):=λv hv=>by obtain⟨x,_,f⟩:=aH6.mp hv;exact amb x v f
 have d:K3 eF [.dj q 0 (z xs) 6] Y=J ([.sl (z xs) (dU xs)],Y.set q (.cP (dU xs) ⟨eT,U⟩)):=by rw[iY,aN,Eo b (Jb xs) nv,mg,<-qf b];rfl
 obtain⟨j,e,h⟩:=ZJ H.bA xs c h2 _ (Ok.bd a q (x:=.cP (dU xs) ⟨eT,U⟩) (by rw[k9];exact aP (w _) _ (yO xs)));exact⟨j,e,(Nb H.bA.of d (NVs.E (.cV (.sl _ (yO xs)) .db) _) (by simp)).trans h⟩
def five(H:TE C PK)(c d f g:EL)(s:LU)(hs:z s<=LB)(l:X LU)(t:TsM l){n:I}{Y:St}(i:z Y=n)(h:Ok Y):∃(a j:JV) (e:P),ai C Jm [.sl (z l) (l.flatMap sC)] (Y++[.cP (dU [c,d,f,g]) FZ])=J (a.av,Y++[.cP (dU [c,d,f,g]) FZ])/\uD (Y++[.cP (dU [c,d,f,g]) FZ]) 6 96 U (.dj n 0 4 6) 1 (.cU s::a.B)=J (.dj (n+1) 0 5 6,Y++[.em,.cP (dU [c,d,f,g,(⟨s,hs⟩,a)]) FZ])/\ai C lY [.dj (n+1) 0 5 6] (Y++[.em,.cP (dU [c,d,f,g,(⟨s,hs⟩,a)]) FZ])=J (.de [j.av,.cQ r e],Y++[.em,.cP (dU [c,d,f,g,(⟨s,hs⟩,a)]) ⟨eT,U⟩]):=by
 have bel:∀p b,k9 0 (.cP (dU p) b)=eT:=λp b=>yO p;have k:Ok (Y++[.cP (dU [c,d,f,g]) FZ]):=h.H (by rw[K1,bel];rfl);obtain⟨v1,q1,u⟩:=fA H.hH (.cV (pG l) .db) (.cV _ _ _ _ t .db) k;obtain⟨a,rfl⟩:=LQ u;have o:Ok (Y++[.em,.cP (dU [c,d,f,g,(⟨s,hs⟩,a)]) FZ]):=h.H (by rw[K1,K1,bel];rfl);obtain⟨j,e,q2⟩:=akO H [c,d,f,g,(⟨s,hs⟩,a)] (by simp) (by simp) (n+1) _ o (by rw[yG i];rfl);refine⟨a,j,e,q1,?_,?_⟩;·have ap:=Lt (O:=Y++[.cP (dU [c,d,f,g]) FZ]) (sz:=6) (bytes:=96) (n:=4) (m:=1) (q:=n) (.cU s::a.B) (by rw[aU i];rfl) (by decide) (Jb _) (by decide) (by decide);rw[ap,fV i];simp[dU,elC,i]
 ·rw[ad3 i]at q2;exact q2
def lbs(s:LU)(h:z s<=99):z s<=LB:=by unfold LB;omega
def acg(H:TE C PK)(th:P)(ids:X LU)(hi:M V0 (.ew [.df]) (.sl (z ids) (ids.flatMap sC)))(O:St)(a:Ok O):∃(f g:EL),ai C Jc [.cX [.cQ r th,.sl (z ids) (ids.flatMap sC)]] O=J (.eB 2 (dU [f,g]),O):=by
 have d:Ok (O++[.cP [.cQ r th,.sl (z ids) (ids.flatMap sC)] FZ]):=a.H (by
  have:k9 0 (.cP [.cQ r th,.sl (z ids) (ids.flatMap sC)] FZ)=eT:=(NVs.cl (.cV (.cQ _ _) (.cV (pG ids) .db)));rw[K1,AO.Y (a97 _) _ this];rfl)
 obtain⟨v1,q1,f⟩:=fA H.hH (.cV (pG ids) .db) (.cV _ _ _ _ hi .db) d;obtain⟨b,rfl⟩:=LQ f;obtain⟨v2,q2,g⟩:=fA H.fa (.cV (.cQ r th) .db) (.cV _ _ _ _ (.cQ _ _) .db) d;obtain⟨c,rfl⟩:=LQ g;refine⟨mEl [107,101,121,105,100,115] (lbs _ (by decide)) b,mEl [116,104,114,101,115,104,111,108,100] (lbs _ (by decide)) c,?_⟩;have t:∀v L,Z0 0 v=eT->K7 (z O) [v] (O++L)=O:=λv L h=>bu a (by rw[ae,h];rfl) L;have bl:Z0 0 (.eB 2 (dU [mEl [107,101,121,105,100,115] (lbs _ (by decide)) b,mEl [116,104,114,101,115,104,111,108,100] (lbs _ (by decide)) c]))=eT:=yO _;have e:dU [mEl [107,101,121,105,100,115] (lbs _ (by decide)) b,mEl [116,104,114,101,115,104,111,108,100] (lbs _ (by decide)) c]=.cU [107,101,121,105,100,115]::(b.B++.cU [116,104,114,101,115,104,111,108,100]::c.B):=by simp[dU,elC,mEl]
 rw[e]at bl⊢;obtain⟨a1,b1,y,d1,e1,x1,u,f1,j,k,l,m⟩:=fO b;obtain⟨a2,x,A,d2,e2,x2,w,n,o,p,q,s⟩:=fO c;rw[x1]at q1;rw[x2]at q2;rw[u,w]at bl⊢;simp only[K4,a88]at bl⊢;have i:=λL=>t _ L bl;rw[H.lx.go];simp only[Po,q1,q2,f1,j,k,l,m,n,o,p,q,s,i,aA,aS,j0,AV.cP,AV.Q,nV,aZ,K4,a88,W,seval]
def fl5:(∀k n,AV.Q (.cQ k n)=eT)/\(∀s,AV.Q (.cU s)=eT)/\(∀b,AV.Q (.cW b)=eT)/\AV.Q .cY=eT/\∀n l,AV.Q (.sl n l)=eT:=⟨λ_ _=>w8,λ_=>w8,λ_=>w8,w8,λ_ _=>w8⟩
def agk(j:JV){O:St}(f:Ok O){E:As}{Y:St}{n:I}(m:look E 2=.da n 0)(g:Y[n]?=J (.cP j.B FZ))(o:Y.take (z O)=O):iF (z O) [.eN 2 eT 5] (J (.ea,E,Y))=J (j.av,O):=by
 have hr:aZ E Y [.eN 2 eT 5]=J [j.av]:=by obtain⟨a,b,c,d,e,x,y,f1,h,i,k,l⟩:=fO j;rw[x];rw[y]at g;simp only[aZ,m,g,pt,aB8,a94,a96,List.take,K1,aC6,f1,h,i,k,l];rfl
 refine(Ia (vs:=[j.av]) hr (.cV j.nv .db)).trans ?_;rw[jP f (by rw[ae,show Z0 0 j.av=eT from j.aL];rfl) o];rfl
def ady(H:TE C PK)(cB:RoV)(hr:Ms V0 Ik cB.B)(O:St)(k:Ok O):∃j:JV,ai C Je [.cX cB.B] O=J (j.av,O):=by
 have hn:=NVs.E (.cV (.cX cB.af) .db) O;obtain⟨p1,p2,p3⟩:=acH hr;have ok0:Ok (O++[.cP cB.B FZ,.cP [.cQ .u8 0,.cQ r 0,.cU [],.cY,.cY] FZ]):=k.H (by
  have:k9 0 (.cP cB.B FZ)=eT:=cB.aL;rw[K1,this];rfl)
 obtain⟨h,i,q1⟩:=acg H cB.cf cB.V p1 _ ok0;obtain⟨v3,q2,k2⟩:=fA H.dc (.cV (.cU cB.C) .db) (.cV _ _ _ _ (.df _ (an5 hr)) .db) ok0;obtain⟨f,rfl⟩:=LQ k2;obtain⟨v4,q3,k3⟩:=fA H.cW (.cV (.cW cB.b5) .db) (.cV _ _ _ _ (.cW _) .db) ok0;obtain⟨g,rfl⟩:=LQ k3;have l3:z ([110,97,109,101]:LU)<=LB:=lbs _ (by decide);have l4:z ([116,101,114,109,105,110,97,116,105,110,103]:LU)<=LB:=lbs _ (by decide);have lp:z ([112,97,116,104,115]:LU)<=LB:=lbs _ (by decide);have lq:z ([112,97,116,104,95,104,97,115,104,95,112,114,101,102,105,120,101,115]:LU)<=LB:=lbs _ (by decide);have P:z (O++[AO.cP cB.B FZ,.cP [.cQ .u8 0,.cQ r 0,.cU [],.cY,.cY] FZ])=z O+2:=by simp
 obtain⟨j5,j,e,f1,D,F⟩:=five H h i (⟨_,l3⟩,f) (⟨_,l4⟩,g) _ lp cB.bj p2 P ok0;obtain⟨o,N,e',G,I,K⟩:=five H h i (⟨_,l3⟩,f) (⟨_,l4⟩,g) _ lq cB.b2 p3 P ok0;have ap:=PI (O++[AO.cP cB.B FZ,.cP [.cQ .u8 0,.cQ r 0,.cU [],.cY,.cY] FZ]) (sz:=6) (bytes:=96) U (n:=2) (m:=2) (l:=dU [h,i]) (.cU [110,97,109,101]::(f.B++.cU [116,101,114,109,105,110,97,116,105,110,103]::g.B)) (by decide) (Jb _) (by decide) (by decide);have e4:dU [h,i]++(.cU [110,97,109,101]::(f.B++.cU [116,101,114,109,105,110,97,116,105,110,103]::g.B))=dU [h,i,(⟨_,l3⟩,f),(⟨_,l4⟩,g)]:=by simp[dU,elC]
 rw[e4,P]at ap;have rc:cB.B=[.cU cB.C,.cQ r cB.cf,.sl (z cB.V) (cB.V.flatMap sC),.cW cB.b5,.sl (z cB.bj) (cB.bj.flatMap sC),.sl (z cB.b2) (cB.b2.flatMap sC)]:=w8;generalize dU [h,i,(⟨_,l3⟩,f),(⟨_,l4⟩,g)]=L4 at*;generalize dU [h,i,(⟨_,l3⟩,f),(⟨_,l4⟩,g),(⟨_,lp⟩,j5)]=L5 at*;generalize dU [h,i,(⟨_,l3⟩,f),(⟨_,l4⟩,g),(⟨_,lq⟩,o)]=L6 at*;obtain⟨a3,b3,c3,d3,e3,x3,y3,q,s,t,u,v⟩:=fO f;obtain⟨a4,b4,c4,d4,e4,x4,y4,w,x,y,A,B⟩:=fO g;obtain⟨a5,b5,c5,d5,e5,x5,y5,Z,aa,ab,ac,ad⟩:=fO j5;obtain⟨a6,b6,c6,d6,e6,x6,y6,af,ah,ak,al,an⟩:=fO o;have je:=λ(E:As) (L:St)=>agk (E:=E) (Y:=O++L) j k (n:=z O+1);have p:=λ(E:As) (L:St)=>agk (E:=E) (Y:=O++L) N k (n:=z O+1);obtain⟨a,b,c,d,e0,x0,y0,z1,z2,z3,z4,z5⟩:=fO j;obtain⟨a',b',c',d',aq,Q,R,S,T,V,W,X⟩:=fO N;rw[x3]at q2;rw[x4]at q3;rw[x5]at f1;rw[x6]at G;rw[x0]at F;rw[Q]at K;rw[y3,y4]at ap;rw[y5]at D;rw[y6]at I;rw[y0]at je;rw[R]at p;simp only[rc,aB2,K4,a88,aI8,Nat.reduceAdd]at q1 q2 q3 ap f1 D F G I K hn⊢;rw[H.lS.go hn];by_cases hp:(z cB.bj:Int)>0
 ·refine⟨j,?_⟩;generalize M:iF=eR;simp only[Ci,q1,q2,q3,ap,f1,D,F,hp,q,s,t,u,v,w,x,y,A,B,Z,aa,ab,ac,ad,z1,z2,z3,z4,z5,aA,aS,aI,cZ,j0,AV.cP,fl5,K4,a88,EVX,seval];rw[<-M];refine je _ _ ?_ ?_ ?_;·rfl
  ·rw[aI];rfl
  ·simp
 ·refine⟨N,?_⟩;generalize M:iF=eR;simp only[Ci,q1,q2,q3,ap,G,I,K,hp,q,s,t,u,v,w,x,y,A,B,af,ah,ak,al,an,S,T,V,W,X,aA,aS,aI,cZ,j0,AV.cP,fl5,K4,a88,EVX,seval];rw[<-M];refine p _ _ ?_ ?_ ?_;·rfl
  ·rw[aI];rfl
  ·simp
def ado(H:TE C PK)(th:Int)(ids:List LU)(bits:Int)(pre:LU)(hi:TsM ids)(K:z pre<=LB)(O:St)(o:Ok O):∃j:JV,ai C Jd [.cX [.cQ r th,.sl (z ids) (ids.flatMap sC),.cQ r bits,.cU pre]] O=J (j.av,O):=by
 have nv:NVs [.cQ r th,.sl (z ids) (ids.flatMap sC),.cQ r bits,.cU pre]:=.cV (.cQ _ _) (.cV (pG ids) (.cV (.cQ _ _) (.cV (.cU _) .db)));have F:=NVs.E (.cV (.cX nv) .db) O;have ok0:Ok (O++[.cP [.cQ r th,.sl (z ids) (ids.flatMap sC),.cQ r bits,.cU pre] FZ,.cP [.cQ .u8 0,.cQ r 0,.cU [],.cY,.cY] FZ]):=o.H (by
  have:k9 0 (.cP [.cQ r th,.sl (z ids) (ids.flatMap sC),.cQ r bits,.cU pre] FZ)=eT:=nv.cl;rw[K1,this];rfl)
 obtain⟨h,i,q1⟩:=acg H th ids hi _ ok0;obtain⟨v3,q2,M⟩:=fA H.fa (.cV (.cQ r bits) .db) (.cV _ _ _ _ (.cQ _ _) .db) ok0;obtain⟨f,rfl⟩:=LQ M;obtain⟨v4,q3,N⟩:=fA H.dc (.cV (.cU pre) .db) (.cV _ _ _ _ (.df _ K) .db) ok0;obtain⟨g,rfl⟩:=LQ N;have l3:z ([98,105,116,95,108,101,110,103,116,104]:LU)<=LB:=lbs _ (by decide);have l4:z ([110,97,109,101,95,112,114,101,102,105,120]:LU)<=LB:=lbs _ (by decide);have p:z (O++[AO.cP [.cQ r th,.sl (z ids) (ids.flatMap sC),.cQ r bits,.cU pre] FZ,.cP [.cQ .u8 0,.cQ r 0,.cU [],.cY,.cY] FZ])=z O+2:=by simp
 have ap:=PI (O++[AO.cP [.cQ r th,.sl (z ids) (ids.flatMap sC),.cQ r bits,.cU pre] FZ,.cP [.cQ .u8 0,.cQ r 0,.cU [],.cY,.cY] FZ]) (sz:=6) (bytes:=96) U (n:=2) (m:=2) (l:=dU [h,i]) (.cU [98,105,116,95,108,101,110,103,116,104]::(f.B++.cU [110,97,109,101,95,112,114,101,102,105,120]::g.B)) (by decide) (Jb _) (by decide) (by decide);have e4:dU [h,i]++(.cU [98,105,116,95,108,101,110,103,116,104]::(f.B++.cU [110,97,109,101,95,112,114,101,102,105,120]::g.B))=dU [h,i,(⟨_,l3⟩,f),(⟨_,l4⟩,g)]:=by simp[dU,elC]
 rw[e4,p]at ap;have q:Ok ((O++[AO.cP [.cQ r th,.sl (z ids) (ids.flatMap sC),.cQ r bits,.cU pre] FZ,.cP [.cQ .u8 0,.cQ r 0,.cU [],.cY,.cY] FZ])++[.cP (dU [h,i,(⟨_,l3⟩,f),(⟨_,l4⟩,g)]) FZ]):=ok0.H (by
  have:k9 0 (.cP (dU [h,i,(⟨_,l3⟩,f),(⟨_,l4⟩,g)]) FZ)=eT:=yO _;rw[K1,this];rfl)
 obtain⟨j,e,k⟩:=akO H [h,i,(⟨_,l3⟩,f),(⟨_,l4⟩,g)] (by simp) (by simp) (z O+2) _ q (by rw[aU p];rfl);rw[fV p]at k;change ai C lY [.dj (z O+2) 0 4 6] _=_ at k;generalize dU [h,i,(⟨_,l3⟩,f),(⟨_,l4⟩,g)]=X at*;obtain⟨a3,Z,c3,d3,e3,x3,Q,s,t,u,v,w⟩:=fO f;obtain⟨a4,b4,c4,d4,e4,x4,R,x,y,A,B,D⟩:=fO g;have G:=λ(E:As) (L:St)=>agk (E:=E) (Y:=O++L) j o (n:=z O+1);obtain⟨a,b,c,d,e0,x0,P,S,T,V,W,z5⟩:=fO j;rw[x3]at q2;rw[x4]at q3;rw[x0]at k;rw[Q,R]at ap;rw[P]at G;simp only[aB2,K4,a88,aH4]at q1 q2 q3 ap k F⊢;rw[H.k3.go F];refine⟨j,?_⟩;generalize I:iF=eR;simp only[II,q1,q2,q3,ap,k,s,t,u,v,w,x,y,A,B,D,S,T,V,W,z5,aA,aS,aI,cZ,j0,AV.cP,fl5,K4,a88,EVX,seval];rw[<-I];refine G _ _ ?_ ?_ ?_;·rfl
 ·rw[aI];rfl
 ·simp
def mkV(O:St)(sz bytes:I)(l c:AV):j9 Out:=match l,c with|.cQ _ 0,.cQ _ c=>if 0<=c/\c<=9223372036854775807/\bytes*c<=140737488355328 then J (.ev (.dj (z O) 0 0 sz) (O++[.cP [] FZ]))else U|_,_=>U
def azc{C:Ctx}{av:XA->AV}{n0 sz bytes:I}{z:LA}{O:St}{l c:XA}(hs:(mkV O sz bytes (av l) (av c)).isSome=eT):aF C av n0 O (.gj z sz bytes l c)=mkV O sz bytes (av l) (av c):=by
 unfold mkV at*;split at hs
 ·rename_i a b c e1 e2;split at hs;·next h=>simp only[aF,e1,e2];rw[j7 ⟨aI7 0,h⟩,j7 h];rfl
  ·cases hs
 ·cases hs
def Zz:∀(l:X JV) (j:JV),aO (l++[j])=aO l++j.B
 |[],j=>by simp[aO]
 |a::l,j=>by simp[aO,Zz l j]
structure ObR(lo:Nat)(Y0 Y:St)(i q:Nat)(is:List JV):Prop where
 ok:Ok Y
 dt:is.length=i
 ej:Y[q]?=some (.cP (aO is) FZ)
 lq:lo<=q
 eR:∀k x,k<lo->Y0[k]?=some x->Y[k]?=some x
def ae4 (H:TE C PK) (l:X RoV) (G:z l<=8192) (A:∀co∈l,Ms V0 Ik co.B) (u x5:AV) (lo:Nat) (s:St):∀(n i:Nat),i+n=z l->∀(Y:St) (q:Nat) (is:X JV),ObR lo s Y i q is->∃(p:St) (t:Nat) (g:X JV),ObR lo s p (z l) t g/\
  aG C (ai C) 59 [2,5,6,28,29,30] tJ [(2,u),(5,x5),(6,.dj q 0 i 5),(28,.sl (z l) (l.flatMap RoV.B)),(29,.cQ r (z l)),(30,.cQ r i)] Y=J (.dq 0,[(2,u),(5,x5),(6,.dj t 0 (z l) 5)],p)
 |0,i,hi,Y,q,is,I=>by have h:¬((i:Int)<(z l:Int)):=(by omega);have:i=z l:=(by omega);subst this;refine⟨Y,q,is,I,?_⟩;rw[aB (he:=w8)];simp only[tJ,h,W,seval]
 |n+1,i,hi,Y,q,is,I=>by
  have h:((i:Int)<(z l:Int)):=(by omega);have h2:i<z l:=(by omega);have h3:(0:Int)<=i:=(by omega);have K:=wrS i (by omega)
  have hb:l[i]?=J l[i]:=a01 h2;have fl:=bz RoV.dt l;have fd:=iy RoV.dt hb;have w:=A l[i] (aD5 h2);obtain⟨x,M⟩:∃x,x=l[i]:=⟨_,w8⟩;rw[<-M]at fd w;have o:Ok (Y++[.cP x.B FZ]):=I.ok.H (by
   have:k9 0 (.cP x.B FZ)=eT:=x.aL;rw[K1,AO.Y (a97 _) _ this];rfl)
  obtain⟨j,q1⟩:=ady H x w _ o;have ap:=Lt (O:=Y++[.cP x.B FZ]) (sz:=5) (bytes:=80) (n:=i) (m:=1) (q:=q) j.B (aj I.ej _) (by decide) (by rw[jH,I.dt]) (by omega) (by omega)
  rw[<-Zz]at ap;have lq:=(a00.mp I.ej).1;have D:ObR lo s ((Y++[AO.cP x.B FZ]).set q .em++[AO.cP (aO (is++[j])) FZ]) (i+1) (z (Y++[AO.cP x.B FZ])) (is++[j]):=
   ⟨(Ok.bd o q w8).H (by
     have:k9 0 (.cP (aO (is++[j])) FZ)=eT:=iZ _;rw[K1,aC6,AO.Y (a97 _) _ this];rfl),by simp[I.dt],by rw[aU (by simp)];rfl,by have:=I.lq;simp;omega,λk y B e=>by
     have:=I.lq;exact aj (aH (aj (I.eR k y B e) _) (by omega) _) _⟩
  obtain⟨p,t,g,f,v⟩:=ae4 H l G A u x5 lo s n (i+1) (by omega) _ _ _ D;refine⟨p,t,g,f,?_⟩;obtain⟨a,b,c,d,e0,x0,P,Q,R,S,T,z5⟩:=fO j;have N:x.B=[.cU x.C,.cQ r x.cf,.sl (z x.V) (x.V.flatMap sC),.cW x.b5,.sl (z x.bj) (x.bj.flatMap sC),.sl (z x.b2) (x.b2.flatMap sC)]:=w8;rw[x0]at q1;rw[P]at ap;rw[N]at fd q1 ap v;simp only[a03,a94,a96,aC4]at v ap;have E:=λL=>aU (w8:z Y=_) L;have s1:=λL y=>fV (w8:z Y=_) L y;rw[aB (he:=w8)];generalize B:aG C (ai C) 59 [2,5,6,28,29,30] tJ=k at*;simp only[tJ,h,h2,h3,K,fl,fd,q1,ap,Q,R,S,T,z5,E,s1,v,j0,AV.cP,fl5,K4,W,seval]
def anp(H:TE C PK)(a b:EL){Y:St}(c:Ok Y):∃(j:JV) (e:P),uD Y 6 96 U (.eB 1 (elC a)) 1 (elC b)=J (.dj (z Y) 0 2 6,Y++[.cP (dU [a,b]) FZ])/\ai C lY [.dj (z Y) 0 2 6] (Y++[.cP (dU [a,b]) FZ])=J (.de [j.av,.cQ r e],Y++[.cP (dU [a,b]) ⟨eT,U⟩]):=by
 have d:Ok (Y++[.cP (dU [a,b]) FZ]):=c.H (by
  have:k9 0 (.cP (dU [a,b]) FZ)=eT:=yO _;rw[K1,aC6,AO.Y (w _) _ this];rfl)
 obtain⟨j,e,q2⟩:=akO H [a,b] (by simp) (by simp) (z Y) _ d (by rw[aU w8];rfl);rw[fV w8]at q2;refine⟨j,e,?_,q2⟩;rw[PI Y (sz:=6) (bytes:=96) U (n:=1) (m:=1) (l:=elC a) (elC b) (by decide) (by rw[kH]) (by decide) (by decide)];simp[dU]
def aoo(H:TE C PK)(d:Hw)(hr:∀x∈d.O,Ms V0 Ik x.B)(hl:z d.O<=8192)(hk:M V0 (.ew [.df,.df]) (.sl (z d.al) (d.al.flatMap pC)))(hi:TsM d.V)(hp:z d.bR<=LB)(O:St)(o:Ok O):∃j:JV,ai C zW [.cX d.B] O=J (j.av,O):=by
 have dc:d.B=[.sl (z d.al) (d.al.flatMap pC),.sl (z d.O) (d.O.flatMap RoV.B),.cQ r d.cf,.sl (z d.V) (d.V.flatMap sC),.cQ r d.cp,.cU d.bR]:=w8;have Z:=NVs.E (.cV (.cX d.af) .db) O;have ok0:Ok (O++[.cP d.B FZ,.cP [.cQ .u8 0,.cQ r 0,.cU [],.cY,.cY] FZ]):=o.H (by
  have:k9 0 (.cP d.B FZ)=eT:=d.aL;rw[K1,this];rfl)
 obtain⟨v1,q1,k1⟩:=fA H.eg (.cV (rV d.al) .db) (.cV _ _ _ _ hk .db) ok0;obtain⟨v1,e1,rfl,aa⟩:=OY k1;obtain⟨f,rfl⟩:=LQ aa;have l:Ok (O++[.cP d.B FZ,.cP [.cQ .u8 0,.cQ r 0,.cU [],.cY,.cY] FZ,.cP f.B FZ]):=o.H (by
  have h1:k9 0 (.cP d.B FZ)=eT:=d.aL;have h2:k9 0 (.cP f.B FZ)=eT:=f.aL;simp only[K1,aC6,h1,h2];rfl)
 have ab:NVs [.cQ r d.cf,.sl (z d.V) (d.V.flatMap sC),.cQ r d.cp,.cU d.bR]:=.cV (.cQ _ _) (.cV (pG d.V) (.cV (.cQ _ _) (.cV (.cU _) .db)));obtain⟨v2,q2,k2⟩:=fA H.f0 (.cV (.cX ab) .db) (.cV _ _ _ _ (.cX _ _ (.ef _ _ _ _ w8 (.cQ _ _) (.ef _ _ _ _ w8 hi (.ef _ _ _ _ w8 (.cQ _ _) (.ef _ _ _ _ w8 (.df _ hp) .db))))) .db) l;obtain⟨b,rfl⟩:=zD k2;have X:z ([107,101,121,115]:LU)<=LB:=lbs _ (by decide);have lr:z ([114,111,108,101,115]:LU)<=LB:=lbs _ (by decide);have lb:z ([115,117,99,99,105,110,99,116,95,114,111,108,101,115]:LU)<=LB:=lbs _ (by decide);have m:=λ(j:JV) (E:As) (Y:St)=>agk (E:=E) (Y:=Y) j o (n:=z O+1);have fj:∀j:JV,j.B.all AV.Q=eT:=λj=>by obtain⟨a,b,c,d,e0,x0,y0,z1,z2,z3,z4,z5⟩:=fO j;rw[y0];simp only[K1,aC6,z1,z2,z3,z4,z5,aD0]
 cases b
 ·
  obtain⟨jb,q3⟩:=ado H d.cf d.V d.cp d.bR hi hp _ l;obtain⟨j,e,ap,q4⟩:=anp H (⟨_,X⟩,f) (⟨_,lb⟩,jb) l;refine⟨j,?_⟩;have m:=m j;obtain⟨a1,b1,c1,d1,e1,x1,y1,u,v,w,A,B⟩:=fO f;obtain⟨a2,b2,c2,d2,e2,x2,y2,D,F,G,z24,K⟩:=fO jb;obtain⟨a3,b3,c3,d3,e3,x3,y3,N,P,Q,R,V⟩:=fO j;unfold elC at ap;dsimp only at ap;generalize dU [(⟨_,X⟩,f),(⟨_,lb⟩,jb)]=L4 at*;rw[x1]at q1;rw[x2]at q3;rw[x3]at q4;rw[y3]at m;rw[y1]at q2 q3 q4 ap;rw[y2]at ap;rw[dc]at Z q1 q2 q3 q4 ap⊢;simp only[aB2,K4,a88,a03,a94,a96,aC4,Nat.reduceAdd]at q1 q2 q3 q4 ap;rw[H.et.go Z];generalize hE:iF=eR;simp only[IJ,q1,q2,q3,q4,ap,u,v,w,A,B,D,F,G,z24,K,N,P,Q,R,V,aA,aS,aI,cZ,j0,AV.cP,fl5,K4,a88,EVX,seval];rw[<-hE];refine m _ _ ?_ ?_ ?_;·rfl
  ·rw[aI];rfl
  ·simp
 ·
  have ac:Ok (O++[.cP d.B FZ,.cP [.cQ .u8 0,.cQ r 0,.cU [],.cY,.cY] FZ,.cP f.B FZ,.cP [] FZ]):=by have:=l.H (L:=[.cP [] FZ]) w8;rwa[aB2]at this
  obtain⟨Y,q,is,I,W⟩:=ae4 H d.O hl hr (.da (z O+1) 0) (.eB 1 (elC (⟨_,X⟩,f))) (z O+3) _ (z d.O) 0 (by omega) _ (z O+3) [] ⟨ac,w8,by rw[aI];rfl,a09 _,λ_ _ _ e=>e⟩;simp only[aB1]at W;have il:z is<=8192:=by rw[I.dt];exact hl
  have hh:K3 eF [.dj q 0 (z d.O) 5] Y=J ([.sl (z d.O) (aO is)],Y.set q (.cP (aO is) ⟨eT,U⟩)):=by rw[iY,aN,Eo I.ej (by rw[jH,I.dt]) (Jz is),mg,<-qf I.ej];rfl
  have p:Ok (Y.set q (.cP (aO is) ⟨eT,U⟩)):=Ok.bd I.ok q (by rw[k9];exact aP (a97 _) _ (iZ is));obtain⟨v3,q3,k3⟩:=H.bi _ _ _ _ I.ok hh p (.cV _ _ _ _ (by rw[<-I.dt];exact .fh is il) .db);obtain⟨jl,rfl⟩:=LQ k3;obtain⟨S,hS⟩:∃S,S=Y.set q (.cP (aO is) ⟨eT,U⟩):=⟨_,w8⟩;rw[<-hS]at q3 p;have kp:∀k x,k<z O+3->(O++[AO.cP d.B FZ,.cP [.cQ .u8 0,.cQ r 0,.cU [],.cY,.cY] FZ,.cP f.B FZ,.cP [] FZ])[k]?=J x->S[k]?=J x:=λk x hk e=>by have:=I.lq;rw[hS];exact aH (I.eR k x hk e) (by omega) _
  have z1:S[z O+1]?=J (.cP [.cQ .u8 0,.cQ r 0,.cU [],.cY,.cY] FZ):=kp _ _ (by omega) (by rw[aI];rfl);have lS:=(a00.mp (kp (z O+2) (.cP f.B FZ) (by omega) (by rw[aI];rfl))).1;have tS:S.take (z O)=O:=by
   apply aD6;intro i;by_cases h:i<z O;·rw[List.getElem?_take_of_lt h];have e:O[i]?=J O[i]:=a01 h;rw[kp i O[i] (by omega) (aj e _),e]
   ·rw[aB9 (by rw[aD7];omega),aB9 (by omega)]
  obtain⟨j,e,ap,q4⟩:=anp H (⟨_,X⟩,f) (⟨_,lr⟩,jl) p;refine⟨j,?_⟩;have m:=m j;obtain⟨a1,b1,c1,d1,e1,x1,y1,u,v,w,A,B⟩:=fO f;obtain⟨a2,b2,c2,d2,e2,x2,y2,D,F,G,z24,K⟩:=fO jl;obtain⟨a3,b3,c3,d3,e3,x3,y3,N,P,Q,R,V⟩:=fO j;unfold elC at ap W;dsimp only at ap W;generalize dU [(⟨_,X⟩,f),(⟨_,lr⟩,jl)]=L4 at*;rw[x1]at q1;rw[x2]at q3;rw[x3]at q4;rw[y3]at m;rw[y1]at q2 ap W;rw[y2]at ap;rw[dc]at Z q1 q2 W⊢;have mk:∀T:St,mkV T 5 80 (.cQ r 0) (.cQ r (z d.O))=J (.ev (.dj (z T) 0 0 5) (T++[.cP [] FZ])):=λT=>j7 (by omega);have so:=λL (y:AO)=>aH7 (s:=S) (t:=L) (z O+1) y (by omega);have zo:=λL=>aj z1 L;have g1:=λL=>aU (w8:z S=_) L;have s1:=λL y=>fV (w8:z S=_) L y;have g2:=λL k=>yG (w8:z S=_) L k;have s2:=λL k y=>ad3 (w8:z S=_) L k y;rw[H.et.go Z];generalize hE:iF=eR;simp only[IJ,q1,q2,W,q3,q4,ap,azc,mk,w9,so,zo,g1,s1,g2,s2,u,v,w,A,B,D,F,G,z24,K,N,P,Q,R,V,aA,aS,aI,cZ,j0,AV.cP,fl5,K4,a88,EVX,seval];rw[<-hE];refine m _ _ ?_ ?_ ?_;·rfl
  ·rw[aC1 (by simp;omega),aH0 (by omega)]
  ·rw[aF8 (by simp;omega),eP _ _ _ (by omega),tS]
end Go.Ev
namespace Go.Ev
open Option renaming some→J, none→U
open List renaming length→z
open Go.IntKind renaming i64→r
open Bool renaming false→eF, true→eT
variable{C:Ctx}
def atq(n:I)(h:n<18446744073709551616):IntKind.u64.wrap (n:P)=n:=by simp[g,i,c];omega
def yZ(n:I)(h:n<4294967296):IntKind.u32.wrap (n:P)=n:=by simp[g,i,c];omega
def azf:(d 256).all (λb=>match Yx[b]? with|J c=>X1 (b<2^c.toNat)&&X1 (c.toNat<=8)|U=>eF)=eT:=by decide+kernel
def azg(q:T C vF iO)(x:I)(u:x<18446744073709551616):∃L:I,x<2^L/\L<=64/\∀O,ai C vF [.cQ .u64 x] O=J (.cQ r L,O):=by
 have go:=λO=>q.go (O:=O) (NVs.E (.cV (.cQ .u64 (x:P)) .db) _);have f:∀(k y:I),(y:P).fdiv ((2^k:I):P)=((y/2^k:I):P):=λk y=>by rw[aG7 _ (Int.natCast_nonneg _)];rfl
 have f32:∀y:I,(y:P).fdiv (2^min 32 IntKind.u64.bits)=((y/4294967296:I):P):=f 32;have l:∀y:I,(y:P).fdiv (2^min 16 IntKind.u64.bits)=((y/65536:I):P):=f 16;have o:∀y:I,(y:P).fdiv (2^min 8 IntKind.u64.bits)=((y/256:I):P):=f 8;have fin:∀(n y:I),y=x/2^n->y<256->n<=56->(∀c:UInt8,Yx[y]?=J c->IntKind.i64.wrap (c.toNat:P)=c.toNat->IntKind.i64.wrap ((n:P)+c.toNat)=((n+c.toNat:I):P)->IntKind.u8.wrap (y:P)=y->(0:P)<=y->∀O,ai C vF [.cQ .u64 x] O=J (.cQ r (n+c.toNat:I),O))->∃L:I,x<2^L/\L<=64/\∀O,ai C vF [.cQ .u64 x] O=J (.cQ r L,O):=λn y s p h2 h=>by
  have t:=aB0.mp azf y (aG6.mpr p);split at t;·rename_i c a;simp only[a02,j8]at t;refine⟨n+c.toNat,?_,by omega,h c a (by rw[w64]<;>omega) (by rw[w64]<;>omega) (by rw[H];omega) (by omega)⟩;rw[s,Nat.div_lt_iff_lt_mul (Nat.pow_pos (by decide)),Nat.mul_comm,<-Nat.pow_add]at t;exact t.1
  ·cases t
 by_cases m:(4294967296:P)<=(x:P)
 ·by_cases j:(65536:P)<=((x/4294967296:I):P)
  ·by_cases i:(256:P)<=((x/4294967296/65536:I):P);·refine fin 56 (x/4294967296/65536/256) (by omega) (by omega) (by omega) λc a b d e g O=>?_;rw[go];simp only[iO,m,j,i,f32,l,o,a,b,e,g,R,W,seval];exact D (λv=>J (AV.cQ IntKind.i64 v,O)) d
   ·refine fin 48 (x/4294967296/65536) (by omega) (by omega) (by omega) λc a b d e g O=>?_;rw[go];simp only[iO,m,j,i,f32,l,a,b,e,g,R,W,seval];exact D (λv=>J (AV.cQ IntKind.i64 v,O)) d
  ·by_cases i:(256:P)<=((x/4294967296:I):P);·refine fin 40 (x/4294967296/256) (by omega) (by omega) (by omega) λc a b d e g O=>?_;rw[go];simp only[iO,m,j,i,f32,o,a,b,e,g,R,W,seval];exact D (λv=>J (AV.cQ IntKind.i64 v,O)) d
   ·refine fin 32 (x/4294967296) (by omega) (by omega) (by omega) λc a b d e g O=>?_;rw[go];simp only[iO,m,j,i,f32,a,b,e,g,R,W,seval];exact D (λv=>J (AV.cQ IntKind.i64 v,O)) d
 ·by_cases j:(65536:P)<=((x:I):P)
  ·by_cases i:(256:P)<=((x/65536:I):P);·refine fin 24 (x/65536/256) (by omega) (by omega) (by omega) λc a b d e g O=>?_;rw[go];simp only[iO,m,j,i,l,o,a,b,e,g,R,W,seval];exact D (λv=>J (AV.cQ IntKind.i64 v,O)) d
   ·refine fin 16 (x/65536) (by omega) (by omega) (by omega) λc a b d e g O=>?_;rw[go];simp only[iO,m,j,i,l,a,b,e,g,R,W,seval];exact D (λv=>J (AV.cQ IntKind.i64 v,O)) d
  ·by_cases i:(256:P)<=((x:I):P);·refine fin 8 (x/256) (by omega) (by omega) (by omega) λc a b d e g O=>?_;rw[go];simp only[iO,m,j,i,o,a,b,e,g,R,W,seval];exact D (λv=>J (AV.cQ IntKind.i64 v,O)) d
   ·refine fin 0 (x) (by omega) (by omega) (by omega) λc a b d e g O=>?_;rw[go];simp only[iO,m,j,i,a,b,e,g,R,W,seval];exact D (λv=>J (AV.cQ IntKind.i64 v,O)) (by simpa using d)
def p10:LA:=(d 20).map λi=>AV.cQ .u64 ((10^i:I):P)
def azY:(d 65).all (λL=>X1 (2^L<=10^(L*78913/262144+1))&&X1 (L*78913/262144<20))=eT:=by decide+kernel
structure NdHas(C:Ctx):Prop where
 dt:Has C vF iO
 oE:Has C rE rf
 ol:Has C rD qZ
 nd:Has C lW yH
 gl:C.gl xx=some p10
def azj(a:T C rE rf)(L:I)(b:L<=64)(O:St):ai C rE [.cQ r L] O=J (.cQ r (L*78913/262144:I),O):=by
 rw[a.go (NVs.E (.cV (.cQ _ _) .db) _)];have w:IntKind.i64.wrap ((L:P)*78913)=((L*78913:I):P):=wrE (by omega);have f:∀y:I,(y:P).fdiv (2^min 18 IntKind.i64.bits)=((y/262144:I):P):=λy=>by rw[aG7 _ (by decide)];rfl
 simp only[rf,w,f,W,seval]
def b2i(a:T C rD qZ)(b:L)(O:St):ai C rD [.cW b] O=J (.cQ r (if b then 1 else 0),O):=by rw[a.go (NVs.E (.cV (.cW _) .db) _)];cases b<;>simp only[qZ,aF3,W,seval]
def numDigits(H:NdHas C)(u:I)(m:u<18446744073709551616):∃d:I,u<10^d/\d<=20/\∀O,ai C lW [.cQ .u64 u] O=J (.cQ r d,O):=by
 obtain⟨L,l1,l3,q1⟩:=azg H.dt u m;have t:=aB0.mp azY L (aG6.mpr (by omega));simp only[a02,j8]at t;obtain⟨t1,t2⟩:=t;have q2:=azj H.oE L l3;generalize L*78913/262144=n at*;have k:p10[n]?=J (.cQ .u64 ((10^n:I):P)):=by unfold p10;rw[aF7,List.getElem?_range t2];rfl
 have e:=H.gl;refine⟨n+(if 10^n<=u then 1 else 0),?_,?_,λO=>?_⟩
 ·split;·omega
  ·rename_i h;simpa using Nat.lt_of_not_le h
 ·split<;>omega
 ·rw[H.nd.go (NVs.E (.cV (.cQ _ _) .db) _)];have b:=b2i H.ol (X1 (10^n<=u)) O;have i:p10.drop n=.cQ .u64 ((10^n:I):P)::p10.drop (n+1):=by rw[aB6 (by simp[p10];omega)];congr 1;exact aF9 ((a01 (by simp[p10];omega)).symm.trans k)
  have g:(0:P)<=(n:P):=(by omega);have a:n<20:=t2;have j:X1 (((10^n:I):P)<=(u:P))=X1 (10^n<=u):=by rw[aL3];simp only[j8];omega
  have l:z p10=20:=w8;have f:n<=20:=(by omega);simp only[yH,q1,q2,e,i,l,f,g,a,j,b,R,aG9,j8,W,seval];refine D (λv=>J (AV.cQ IntKind.i64 v,O)) ?_;split<;>(rw[w64]<;>omega)
def sm_at(a:I)(h:a<100):iU[a*2]?=J (iU.getD (a*2) 0)/\iU[a*2+1]?=J (iU.getD (a*2+1) 0):=by
 have e:∀x,x<200->iU[x]?=J (iU.getD x 0):=λx b=>by rw[aD4,a01 (by omega)];rfl
 exact⟨e _ (by omega),e _ (by omega)⟩
def avE(l:LU)(i:I)(b:UInt8)(h:i<z l):j0 (B l) i [.cQ .u8 (b.toNat:P)]=B (l.set i b):=by unfold j0 B;rw[List.map_set,List.set_eq_take_append_cons_drop,j7 (by simpa using h)];simp
def ZF(a:I)(b:a<100):IntKind.u32.wrap ((a:P)*2)=((a*2:I):P)/\IntKind.u32.wrap (((a*2:I):P)+1)=((a*2+1:I):P)/\(0:P)<=((a*2:I):P)/\(0:P)<=((a*2+1:I):P):=⟨by have:=yZ (a*2) (by omega);rw[<-this];rfl,by have:=yZ (a*2+1) (by omega);rw[<-this];rfl,by omega,by omega⟩
def amh (d:Nat) (N:d<=20) (O:St) (q:Nat) {x0:AO} (H:O[q]?=J x0):∀(n i u:Nat) (l:LU),i<=d->i/8=n->u<10^i->u<18446744073709551616->z l=24->∃(t:Nat) (s:LU),t<10^(i%8)/\z s=24/\
  aG C (ai C) 167 [0,1,4] bQ [(0,.dj q 1 d 1),(1,.cQ .u64 u),(4,.cQ r i)] (O.set q (.cP (ofBytes l) FZ))=
   J (.dq 0,[(0,.dj q 1 d 1),(1,.cQ .u64 t),(4,.cQ r (i%8:Nat))],O.set q (.cP (ofBytes s) FZ))
 |0,i,u,l,hi,Q,p,F,o=>by have e:i%8=i:=Nat.mod_eq_of_lt (by omega);refine⟨u,l,by rw[e];exact p,o,?_⟩;rw[aB (he:=w8)];have h:¬(8:P)<=(i:P):=(by omega);simp only[bQ,h,e,EVX,seval]
 |n+1,i,f,l,hi,Q,p,F,o=>by
  have h:(8:P)<=(i:P):=(by omega);obtain⟨j,rfl⟩:∃j,i=j+8:=⟨i-8,by omega⟩;have step:∃l2:LU,z l2=24/\aG C (ai C) 167 [0,1,4] bQ [(0,.dj q 1 d 1),(1,.cQ .u64 f),(4,.cQ r (j+8:Nat))] (O.set q (.cP (ofBytes l) FZ))=aG C (ai C) 167 [0,1,4] bQ [(0,.dj q 1 d 1),(1,.cQ .u64 (f/100000000:Nat)),(4,.cQ r j)] (O.set q (.cP (ofBytes l2) FZ)):=by
   have M:∀(x:AO),(O.set q x)[q]?=J x:=λx=>bF H x;obtain⟨m,G⟩:∃x,f%100000000=x:=⟨_,w8⟩;obtain⟨g,B⟩:∃x,m/10000=x:=⟨_,w8⟩;obtain⟨ll,E⟩:∃x,m%10000=x:=⟨_,w8⟩;obtain⟨a1,v⟩:∃x,g/100=x:=⟨_,w8⟩;obtain⟨a2,w⟩:∃x,g%100=x:=⟨_,w8⟩;obtain⟨a3,y⟩:∃x,ll/100=x:=⟨_,w8⟩;obtain⟨a4,A⟩:∃x,ll%100=x:=⟨_,w8⟩;have t1:(f:P).tmod 100000000=(m:P):=by rw[<-G];rfl
   have t2:(f:P).tdiv 100000000=((f/100000000:Nat):P):=w8;have t3:(m:P).tdiv 10000=(g:P):=by rw[<-B];rfl
   have t4:(m:P).tmod 10000=(ll:P):=by rw[<-E];rfl
   have t5:(g:P).tdiv 100=(a1:P):=by rw[<-v];rfl
   have t6:(g:P).tmod 100=(a2:P):=by rw[<-w];rfl
   have t7:(ll:P).tdiv 100=(a3:P):=by rw[<-y];rfl
   have t8:(ll:P).tmod 100=(a4:P):=by rw[<-A];rfl
   have w0:=atq (f/100000000) (by omega);have w1:=yZ m (by omega);have w2:=yZ g (by omega);have w3:=yZ a1 (by omega);have w4:=yZ a3 (by omega);obtain⟨x1,y1,z1,v1⟩:=ZF a1 (by omega);obtain⟨s1,r1⟩:=sm_at a1 (by omega);obtain⟨x2,y2,z2,v2⟩:=ZF a2 (by omega);obtain⟨s2,r2⟩:=sm_at a2 (by omega);obtain⟨x3,y3,z3,v3⟩:=ZF a3 (by omega);obtain⟨s3,r3⟩:=sm_at a3 (by omega);obtain⟨x4,y4,z4,v4⟩:=ZF a4 (by omega);obtain⟨s4,r4⟩:=sm_at a4 (by omega);have iw:∀(k:P) (co:Nat),k+co=8->0<=k->IntKind.i64.wrap (((j+8:Nat):P)-k)=((j+co:Nat):P):=λk co h h0=>by rw[w64]<;>omega
   have i1:=iw 1 7 w8 (by decide);have i2:=iw 2 6 w8 (by decide);have R:=iw 3 5 w8 (by decide);have S:=iw 4 4 w8 (by decide);have T:=iw 5 3 w8 (by decide);have V:=iw 6 2 w8 (by decide);have W:=iw 7 1 w8 (by decide);have i8:IntKind.i64.wrap (((j+8:Nat):P)-8)=(j:P):=iw 8 0 w8 (by decide);have Y:(0:P)<=(j:P):=(by omega);have l8:j<d:=(by omega);have K:1+j+1<=24:=(by omega);have d8:1+j<24:=(by omega);have Z:∀co:Nat,(0:P)<=((j+co:Nat):P):=λco=>Int.natCast_nonneg _;have X:∀co:Nat,co<8->j+co<d:=λco h=>by omega
   have L:∀co:Nat,co<8->1+(j+co)+1<=24:=λco h=>by omega
   have I:∀co:Nat,co<8->1+(j+co)<24:=λco h=>by omega
   refine⟨?_,?_,?_⟩
   rotate_left 2
   ·rw[aB (he:=w8)];generalize hk:aG C (ai C) 167 [0,1,4] bQ=k;simp only[bQ,h,M,t1,t2,t3,t4,t5,t6,t7,t8,w0,w1,w2,w3,w4,x1,y1,z1,v1,s1,r1,x2,y2,z2,v2,s2,r2,x3,y3,z3,v3,s3,r3,x4,y4,z4,v4,s4,r4,i1,i2,R,S,T,V,W,i8,Y,l8,K,d8,Z,X,L,I,avE,o,a99,aJ,a90,aF5,AV.cP,AV.Q,EVX,seval];rfl
   ·simp only[a99,o]
  obtain⟨l2,D,e2⟩:=step;obtain⟨t,s,a,b,c⟩:=amh d N O q H n j (f/100000000) l2 (by omega) (by omega) (by rw[Nat.div_lt_iff_lt_mul (by decide)];rw[Nat.pow_add]at p;exact p) (by omega) D;rw[Nat.add_mod_right];exact⟨t,s,a,b,e2.trans c⟩
variable{PK:PkI}
def hexD:LU:=[48,49,50,51,52,53,54,55,56,57,97,98,99,100,101,102]
def anm(q:I)(w:AV):∀(c:I),c<=8->∀(n:I) (l:LU) (Y:St),n<4294967296->z l=8->Y[q]?=J (.cP (B l) FZ)->∃a:LU,z a=8/\((∀j,c<=j->a[j]?=l[j]?)/\∀j x,j<c->a[j]?=J x->x∈hexD)/\aG C (ai C) 23 [0,1,5,6] zi [(0,.cQ .u32 n),(1,w),(5,.da q 0),(6,.cQ r ((c:P)-1))] Y=J (.dq 0,[(1,w),(5,.da q 0)],Y.set q (.cP (B a) FZ))
 |0,_,n,l,Y,p,g,b=>by refine⟨l,g,⟨λ_ _=>w8,λ_ _ h=>by omega⟩,?_⟩;have h:¬((0:I):P)-1>=0:=(by decide);rw[aB (he:=w8),set_self b];simp only[zi,h,W,seval]
 |c+1,F,n,l,Y,p,g,b=>by
  have e:((c+1:I):P)-1=c:=(by omega);rw[e];have h:(c:P)>=0:=(by omega);have u:IntKind.u32.wrap (Q IntKind.u32.bits (n:P)&&&Q IntKind.u32.bits 15).toNat=((n%16:I):P):=by have:=apv .u32 w8 n 15 p (by decide);rw[show n&&&15=n%16 from Nat.and_two_pow_sub_one_eq_mod n 4]at this;exact this
  have y:(n:P).fdiv (2^min 4 IntKind.u32.bits)=((n/16:I):P):=by rw[aG7 _ (by decide)];rfl
  have i:hexD[n%16]?=J (hexD.getD (n%16) 0):=by have:n%16<z hexD:=Nat.mod_lt _ (by decide);rw[aD4,a01 this];rfl
  have v:c<8:=(by omega);have l8:c+1<=z (B l):=by rw[aJ];omega
  have np:(0:P)<=((n%16:I):P):=(by omega);obtain⟨a,A,⟨s,D⟩,o⟩:=anm q w c (by omega) (n/16) (l.set c (hexD.getD (n%16) 0)) (Y.set q (.cP (B (l.set c (hexD.getD (n%16) 0))) FZ)) (by omega) (by simpa using g) (bF b _);have m:hexD.getD (n%16) 0∈hexD:=a06 i;refine⟨a,A,⟨λj hj=>by rw[s j (by omega),aE2 (by omega)],λj x hj d=>?_⟩,?_⟩
  ·by_cases f:j=c;·rw[f,s c (a09 _),aH0 (by omega)]at d;cases d;exact m
   ·exact D j x (by omega) d
  have t:=avE l c (hexD.getD (n%16) 0) (by omega);have E:IntKind.i64.wrap ((c:P)-1)=(c:P)-1:=by rw[N];omega
  rw[aF5]at o;unfold hexD at i t o;rw[aB (he:=w8)];generalize G:aG C (ai C) 23 [0,1,5,6] zi=k at*;simp only[zi,h,u,y,i,np,v,l8,b,t,E,o,W,seval]
structure Pm(C:Ctx)(PK:PkI):Prop where
 bS:bZ C PK oK (.dp [.df] .cW)
 mf:∀(s:LU) (O:St),Ok O->s.length<=LB->∃l:LU,l.length=32/\ai C Fg [.cU s] O=some (.cU l,O)
 er:Has C oK sN
 hW:Has C kw jV
 ju:Has C aby Nl
 es:Has C WA DD
 oe:Has C WB Vx
 dc:Has C Zn YY
 b9:Has C abx aaN
 e9:Has C abw UC
 nt:Has C Zm JZ
 fx:Has C Di JY
def avH(H:Pm C PK)(n c:I)(i:n<4294967296)(u:1<=c)(d:c<=8)(O:St)(a:Ok O):∃s:LU,z s=c/\(∀x∈s,x∈hexD)/\ai C Zn [.cQ .u32 n,.cQ r c] O=J (.cU s,O):=by
 obtain⟨l,v,⟨-,m⟩,b⟩:=anm (C:=C) (z O) (.cQ r c) c d n [0,0,0,0,0,0,0,0] (O++[.cP (B [0,0,0,0,0,0,0,0]) FZ]) i w8 (by rw[aA];rfl);rw[aS]at b;have t:B [0,0,0,0,0,0,0,0]=[.cQ .u8 0,.cQ .u8 0,.cQ .u8 0,.cQ .u8 0,.cQ .u8 0,.cQ .u8 0,.cQ .u8 0,.cQ .u8 0]:=w8;rw[t]at b;have q:IntKind.i64.wrap ((c:P)-1)=(c:P)-1:=by rw[N];omega
 have p:∀s L,K7 (z O) [.cU s] (O++L)=O:=λs L=>bu a w8 L;refine⟨l.take c,by rw[aD7];omega,λx k=>?_,?_⟩;·obtain⟨j,hj,e⟩:=aL5.mp k;rw[aD7]at hj;exact m j x (by omega) (by rw[<-e,List.getElem_take];exact a01 _)
 have g:(0:P)<=(c:P):=by omega
 have h:¬0=c:=by omega
 have f:bytesOf ((B l).take c)=J (l.take c):=by rw[show(B l).take c=B (l.take c)from by simp[B,List.map_take]];exact yx _
 have l8:8<=z (B l):=by rw[aJ];omega
 have o:c<=z (B l):=by rw[aJ];omega
 rw[H.dc.go (NVs.E (.cV (.cQ _ _) (.cV (.cQ _ _) .db)) _)];simp only[YY,q,b,d,g,h,f,l8,o,p,jU,Nat.sub_zero,aD2,aC4,aB8,w,true_and,K5,W,seval]
def arp(H:Pm C PK)(n:P)(O:St):ai C aby [.cQ r n] O=J (.cW (X1 (1<=n/\n<=32)),O):=by
 rw[H.ju.go (NVs.E (.cV (.cQ _ _) .db) _)];by_cases a:n>=1
 ·by_cases h2:n<=32;·rw[Z6 ⟨a,h2⟩];simp only[Nl,a,h2,W,seval]
  ·rw[Z2 (λh=>h2 h.2)];simp only[Nl,a,h2,W,seval]
 ·rw[Z2 (λh=>a h.1)];simp only[Nl,a,W,seval]
def ajB(H:Pm C PK)(b:I)(h:1<=b/\b<=32)(O:St):ai C WB [.cQ r b] O=J (.cQ r ((b+3)/4:I),O):=by
 have a:IntKind.i64.wrap ((b:P)+3)=((b+3:I):P):=by rw[N];omega
 have c:((b+3:I):P).tdiv 4=(((b+3)/4:I):P):=w8;have d:IntKind.i64.wrap (((b+3)/4:I):P)=(((b+3)/4:I):P):=by rw[N];omega
 rw[H.oe.go (NVs.E (.cV (.cQ _ _) .db) _)];simp only[Vx,a,c,d,W,seval]
def has_is(H:Pm C PK)(b n:I)(h:1<=b/\b<=32)(d:n<4294967296)(O:St):∃f:L,ai C abx [.cQ r b,.cQ .u32 n] O=J (.cW f,O):=by
 have c:IntKind.u64.wrap (n:P)=(n:P):=by rw[IntKind.wrap_u64];omega
 have a:¬(b:P)<0:=by omega
 rw[H.b9.go (NVs.E (.cV (.cQ _ _) (.cV (.cQ _ _) .db)) _)];refine⟨(n:P).fdiv (2^min b IntKind.u64.bits)==0,?_⟩;simp only[aaN,c,a,W,seval]
def ajC(H:Pm C PK)(th:P)(ids:X LU)(bits:P)(pre:LU)(g:z pre<=LB)(O:St)(a:Ok O):∃e:P,ai C WA [.cX [.cQ r th,.sl (z ids) (ids.flatMap sC),.cQ r bits,.cU pre]] O=J (.cQ r e,O)/\(e=0->(1<=bits/\bits<=32)/\z pre<=64/\z pre+1+(bits.toNat+3)/4<=64/\ai C oK [.cU pre] (O++[.cP [.cQ r th,.sl (z ids) (ids.flatMap sC),.cQ r bits,.cU pre] FZ])=J (.cW eT,O++[.cP [.cQ r th,.sl (z ids) (ids.flatMap sC),.cQ r bits,.cU pre] FZ])):=by
 have nv:t [.cQ r th,.sl (z ids) (ids.flatMap sC),.cQ r bits,.cU pre]:=.cV (.cQ _ _) (.cV (pG ids) (.cV (.cQ _ _) (.cV (.cU _) .db)));have d:Ok (O++[.cP [.cQ r th,.sl (z ids) (ids.flatMap sC),.cQ r bits,.cU pre] FZ]):=a.H (by
  have:k9 0 (.cP [.cQ r th,.sl (z ids) (ids.flatMap sC),.cQ r bits,.cU pre] FZ)=eT:=nv.cl;rw[K1,this];rfl)
 have c:∀e L,K7 (z O) [.cQ r e] (O++L)=O:=λe L=>bu a w8 L;have q1:=arp H bits (O++[.cP [.cQ r th,.sl (z ids) (ids.flatMap sC),.cQ r bits,.cU pre] FZ]);obtain⟨v2,q2,l⟩:=fA H.bS (.cV (.cU pre) .db) (.cV _ _ _ _ (.df _ g) .db) d;obtain⟨k,rfl⟩:=zD l;rw[H.es.go (NVs.E (.cV (.cX nv) .db) _)];by_cases hb:1<=bits/\bits<=32
 ·rw[Z6 hb]at q1;obtain⟨b,rfl⟩:∃b:I,bits=b:=⟨bits.toNat,by omega⟩;have q3:=ajB H b (by omega) (O++[.cP [.cQ r th,.sl (z ids) (ids.flatMap sC),.cQ r b,.cU pre] FZ]);unfold LB at g;have i:IntKind.i64.wrap ((z pre:P)+1)=((z pre+1:I):P):=by rw[N];omega
  have j:IntKind.i64.wrap (((z pre+1:I):P)+(((b+3)/4:I):P))=((z pre+1+(b+3)/4:I):P):=by rw[N];omega
  cases k;·refine⟨3,?_,λh=>by cases h⟩;simp only[DD,q1,q2,c,j0,AV.cP,AV.Q,W,seval]
  ·by_cases f:((z pre+1+(b+3)/4:I):P)>64;·refine⟨5,?_,λh=>by cases h⟩;simp only[DD,q1,q2,q3,i,j,f,c,j0,AV.cP,AV.Q,W,seval]
   ·refine⟨0,?_,λ_=>⟨hb,by omega,by rw[R];omega,q2⟩⟩;simp only[DD,q1,q2,q3,i,j,f,c,j0,AV.cP,AV.Q,W,seval]
 ·rw[Z2 hb]at q1;refine⟨1,?_,λh=>by cases h⟩;simp only[DD,q1,c,j0,AV.cP,AV.Q,W,seval]
def anq(x:P):∃m:I,m<4294967296/\IntKind.u32.wrap x=m:=⟨(x%4294967296).toNat,by omega,by rw[j];omega⟩
def apC(l:LU)(o:z l=32)(w:AV)(O:St):∀(k i:I),i+k=4->∀n:I,n<4294967296->∃m:I,m<4294967296/\aG C (ai C) 35 [1,6,7,8] Ar [(1,w),(6,.cU l),(7,.cQ .u32 n),(8,.cQ r i)] O=J (.dq 0,[(1,w),(7,.cQ .u32 m)],O)
 |0,i,hi,n,b=>by have h:¬((i:P)<4):=(by omega);refine⟨n,b,?_⟩;rw[aB (he:=w8)];simp only[Ar,h,W,seval]
 |k+1,i,hi,n,b=>by
  have h:(i:P)<4:=(by omega);have h2:(i:P)<(z l:P):=(by omega);have h3:(0:P)<=(i:P):=(by omega);have h4:l[i]?=J (l[i]'(by omega)):=a01 _;have s:IntKind.i64.wrap ((i:P)+1)=((i+1:I):P):=by rw[N];omega
  obtain⟨a,t,d⟩:=anq ((n:P)*2^min 8 IntKind.u32.bits);have e:IntKind.u32.wrap (((l[i]'(by omega)).toNat:I):P)=(((l[i]'(by omega)).toNat:I):P):=by have:=(l[i]'(by omega)).toNat_lt;rw[j];omega
  obtain⟨c,g,f⟩:=anq (((Q IntKind.u32.bits (a:P)|||Q IntKind.u32.bits (((l[i]'(by omega)).toNat:I):P)).toNat:I):P);obtain⟨m,p,q⟩:=apC l o w O k (i+1) (by omega) c g;refine⟨m,p,?_⟩;rw[aB (he:=w8)];generalize u:aG C (ai C) 35 [1,6,7,8] Ar=v at*;simp only[Ar,h,h2,h3,h4,s,d,e,f,q,W,seval]
def ax2(H:Pm C PK)(path:LU)(h:z path<=LB)(bits:P)(O:St)(a:Ok O):∃(n:I) (e:P),n<4294967296/\ai C abw [.cU path,.cQ r bits] O=J (.de [.cQ .u32 n,.cQ r e],O):=by
 have q1:=arp H bits O;obtain⟨l,f,q2⟩:=H.mf path O a h;obtain⟨m,g,b⟩:=apC (C:=C) l f (.cQ r bits) O 4 0 w8 0 (by decide);simp only[aB1]at b;rw[H.e9.go (NVs.E (.cV (.cU _) (.cV (.cQ _ _) .db)) _)];by_cases hb:1<=bits/\bits<=32
 ·rw[Z6 hb]at q1;have i:IntKind.i64.wrap (32-bits)=32-bits:=by rw[N];omega
  have d:¬(32-bits)<0:=(by omega);refine⟨m/2^min (32-bits).toNat IntKind.u32.bits,0,Nat.lt_of_le_of_lt (Nat.div_le_self _ _) g,?_⟩;have c:(m:P).fdiv (2^min (32-bits).toNat IntKind.u32.bits)=((m/2^min (32-bits).toNat IntKind.u32.bits:I):P):=by
   rw[aG7 _ (by exact_mod_cast w _)];norm_cast
  simp only[UC,q1,q2,b,i,d,c,W,seval]
 ·rw[Z2 hb]at q1;refine⟨0,1,by decide,?_⟩;simp only[UC,q1,W,seval]
def Nm(n:LU):Prop:=role n=eT/\n≠oP
def apD{pre s:LU}(h:role pre=eT)(c:z pre+1+z s<=64)(hs:∀x∈s,x∈hexD):Nm ((pre++[45])++s):=by
 unfold role at h;simp only[a02,j8]at h;obtain⟨⟨⟨b,_⟩,h3⟩,h4⟩:=h;have d:∀x∈hexD,nameB x=eT:=by decide
 refine⟨?_,λe=>?_⟩;·unfold role;cases pre with|nil=>cases b|cons a l=>simp only[a02,j8];refine⟨⟨⟨w8,by simp at c⊢;omega⟩,h3⟩,?_⟩;rw[aK2,aK2,h4];simp only[aE0,a02];exact⟨by decide,aB0.mpr λx m=>d x (hs x m)⟩
 ·have:(45:UInt8)∈oP:=by rw[<-e];simp
  exact X2 this (by decide)
def apz(H:Pm C PK)(th:P)(ids:X LU)(bits:P)(pre:LU)(p:z pre<=LB)(n:I)(k:n<4294967296)(O:St)(a:Ok O):∃(s:LU) (e:P),z s<=LB/\(e=0->Nm s)/\ai C Zm [.cX [.cQ r th,.sl (z ids) (ids.flatMap sC),.cQ r bits,.cU pre],.cQ .u32 n] O=J (.de [.cU s,.cQ r e],O):=by
 have nv:t [.cQ r th,.sl (z ids) (ids.flatMap sC),.cQ r bits,.cU pre]:=.cV (.cQ _ _) (.cV (pG ids) (.cV (.cQ _ _) (.cV (.cU _) .db)));have c:Ok (O++[.cP [.cQ r th,.sl (z ids) (ids.flatMap sC),.cQ r bits,.cU pre] FZ]):=a.H (by
  have:k9 0 (.cP [.cQ r th,.sl (z ids) (ids.flatMap sC),.cQ r bits,.cU pre] FZ)=eT:=nv.cl;rw[K1,this];rfl)
 have j:∀s e L,K7 (z O) [.cU s,.cQ r e] (O++L)=O:=λs e L=>bu a w8 L;obtain⟨e,q1,o⟩:=ajC H th ids bits pre p _ c;rw[H.nt.go (NVs.E (.cV (.cX nv) (.cV (.cQ _ _) .db)) _)];by_cases d:e=0
 ·subst d;obtain⟨hb,q,g,hr⟩:=o w8;rw[Fq H.er H.hW]at hr;have i:role pre=eT:=by
   cases l:role pre;·rw[l]at hr;cases hr
   ·rfl
  obtain⟨b,rfl⟩:∃b:I,bits=b:=⟨bits.toNat,by omega⟩;obtain⟨x,q2⟩:=has_is H b n (by omega) k (O++[.cP [.cQ r th,.sl (z ids) (ids.flatMap sC),.cQ r b,.cU pre] FZ]);cases x;·refine⟨[],1,by decide,(λh=>by cases h),?_⟩;simp only[JZ,q1,q2,j,j0,AV.cP,AV.Q,W,seval]
  ·have q3:=ajB H b (by omega) (O++[.cP [.cQ r th,.sl (z ids) (ids.flatMap sC),.cQ r b,.cU pre] FZ]);obtain⟨s,hs,m,q4⟩:=avH H n ((b+3)/4) k (by omega) (by omega) _ c;have s1:uJ .add pre [45]=J (.cU (pre++[45])):=j6 (by simp;omega);have s2:uJ .add (pre++[45]) s=J (.cU ((pre++[45])++s)):=j6 (by simp;omega);refine⟨(pre++[45])++s,0,by unfold LB;simp;omega,λ_=>apD i (by rw[R]at g;omega) m,?_⟩;simp only[JZ,q1,q2,q3,q4,s1,s2,j,j0,AV.cP,AV.Q,W,seval]
 ·have f:(e !=0)=eT:=(by simp[d]);refine⟨[],e,by decide,λh=>X2 h d,?_⟩;simp only[JZ,q1,f,j,j0,AV.cP,AV.Q,W,seval]
def ahv(H:Pm C PK)(th:P)(ids:X LU)(bits:P)(pre path:LU)(l:z pre<=LB)(o:z path<=LB)(O:St)(b:Ok O):∃(s:LU) (e:P),z s<=LB/\(e=0->Nm s)/\ai C Di [.cX [.cQ r th,.sl (z ids) (ids.flatMap sC),.cQ r bits,.cU pre],.cU path] O=J (.de [.cU s,.cQ r e],O):=by
 have nv:t [.cQ r th,.sl (z ids) (ids.flatMap sC),.cQ r bits,.cU pre]:=.cV (.cQ _ _) (.cV (pG ids) (.cV (.cQ _ _) (.cV (.cU _) .db)));have a:Ok (O++[.cP [.cQ r th,.sl (z ids) (ids.flatMap sC),.cQ r bits,.cU pre] FZ]):=b.H (by
  have:k9 0 (.cP [.cQ r th,.sl (z ids) (ids.flatMap sC),.cQ r bits,.cU pre] FZ)=eT:=nv.cl;rw[K1,this];rfl)
 have k:∀s e L,K7 (z O) [.cU s,.cQ r e] (O++L)=O:=λs e L=>bu b w8 L;obtain⟨e,q1,-⟩:=ajC H th ids bits pre l _ a;obtain⟨n,f,m,q2⟩:=ax2 H path o bits _ a;obtain⟨s,g,hs,nm,q3⟩:=apz H th ids bits pre l n m _ a;rw[H.fx.go (NVs.E (.cV (.cX nv) (.cV (.cU _) .db)) _)];by_cases c:e=0
 ·subst c;by_cases d:f=0;·subst d;refine⟨s,g,hs,nm,?_⟩;simp only[JY,q1,q2,q3,k,j0,AV.cP,AV.Q,W,seval]
  ·have j:(f !=0)=eT:=(by simp[d]);refine⟨[],f,by decide,λh=>X2 h d,?_⟩;simp only[JY,q1,q2,j,k,j0,AV.cP,AV.Q,W,seval]
 ·have i:(e !=0)=eT:=(by simp[c]);refine⟨[],e,by decide,λh=>X2 h c,?_⟩;simp only[JY,q1,i,k,j0,AV.cP,AV.Q,W,seval]
end Go.Ev
namespace Go.Ev
open Option renaming some→J, none→U
open List renaming length→z
open Go.IntKind renaming i64→r
open Bool renaming false→eF, true→eT
def ahF(S:E)(rc:P)(w:LU):L:=match nZ S w with|U=>eF|J p=>X1 (p.I<=rc\/p.I<0)
def Uy(S:E)(rc:P)(vs:X LU):X LU:=(oP++iD)::(vs.filter (ahF S rc)).map (· ++iD)
def NmQ(z:mG)(d:jo×X aQ):Prop:=(∀v∈d.1.bb,Nm v)/\((d.1.bb=[]/\d.2=[])\/(d.1.bb≠[]/\∃(S:E) (c:P),aW z.K z.fs z.sc d.2=((S,c),d.2)/\d.2.map (·.C)=if c=0 then Uy S z.rc d.1.bb else[oP++iD]))
def NmQ.of{z:mG}{S:E}{x:jo}{F:X aQ}(hv:∀v∈x.bb,Nm v)(h:(x.bb=[]/\F=[])\/(x.bb≠[]/\yu z S F/\F.map (·.C)=Uy S z.rc x.bb)):NmQ z (x,F):=by
 rcases h with h|⟨a,h2,h3⟩;·exact⟨hv,.inl h⟩
 ·exact⟨hv,.inr ⟨a,S,0,h2,by rw[j7 w8];exact h3⟩⟩
theorem Nm.dt{v:LU}(h:Nm v):z v<=64:=by have:=h.1;unfold role at this;simp only[a02,j8]at this;exact this.1.1.2
noncomputable section
def uj:KF:=(.mk ?k:a 9 []).1
def ui:KF:=(.mk ?k:a 7 []).1
def IK:KF:=(.mk ?k:a 15 []).1
def Cj:KF:=(.mk ?k:a 16 []).1
end
end Go.Ev
