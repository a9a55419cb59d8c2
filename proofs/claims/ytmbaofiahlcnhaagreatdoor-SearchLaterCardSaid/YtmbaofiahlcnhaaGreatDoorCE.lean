/- Code. No conditions. -/
import Derived.Test.YtmbaofiahlcnhaaGreatDoorCD
import Derived.Test.YtmbaofiahlcnhaaGreatDoorCB
import Derived.Test.YtmbaofiahlcnhaaGreatDoorCC
set_option linter.unusedVariables false
set_option linter.unusedSimpArgs false
set_option linter.defProp false
namespace Go.Ev
open Option renaming none→U, some→J
open List renaming length→z
open Bool renaming true→eT, false→eF
open Go.IntKind renaming i64→r
set_option maxRecDepth 100000
variable{C:Ctx}
def xh(K:Ht)(fs:List PS)(rl:LU)(a:lJ)(ks:List PS)(p:nI)(b:Int)(F:List bD):(fB×Int)×List bD:=
 let g:=tH fs F (rl++mg) b
 (K.ro p a ks g.1.am g.1.al,g.2)
def dG(K:Ht)(fs:List PS)(rc sc:Int)(rl:LU)(a:lJ)(ks:List PS)(F:List bD):(fB×Int)×List bD:=
 let s:=bg K fs sc F
 if s.1.2=0 then
  match pM s.1.1 rl with
  |U=>((LJ,1),s.2)|J p=>if p.I<0 then xh K fs rl a ks p rc s.2 else if rc<p.I then((LJ,3),s.2)else xh K fs rl a ks p p.I s.2
 else((LJ,s.1.2),s.2)
def SnV.ok.f8{s:SnV}(h:s.ok):VE s:=⟨by have:=h.dt;omega,λp a=>by have:=(h.cx p a).1.1;omega⟩
def JP{C h l R now K}(b:Jn C h l R now K){fs F}(c:ED fs)(a:CJ fs F)(sc:Int):(bg K fs sc F).1.1.ok/\CJ fs (bg K fs sc F).2/\(bg K fs sc F).2.length<=z F+1:=
 ⟨b.nn _ _ (Jy c a _ _),(adT a _ _).1,UA _ _ _ _⟩
def Ur{s:SnV}{d:LU}{p:nI}(h:pM s d=J p):role d=eT/\p∈s.ax/\p.E=d++mg:=by
 unfold pM at h;split at h;·next hr=>exact⟨hr,List.mem_of_find?_eq_some h,by simpa using List.find?_some h⟩
 ·cases h
def Td(t:fB):AO.below 0 (.cH t.B FZ)=eT:=t.af.cl
def adX{l:LA}(h:NVs l)(i k:Nat)(O:St):hand eF (.c8 i k::l) O=J (.c8 i k::l,O):=by show(match dS O 12 (.c8 i k::l)with|J (l,fs)=>J (l,freeze O fs)|U=>U)=_;rw[show dS O 12 (.c8 i k::l)=aZ O (dS O 11) (.c8 i k::l)from rfl,aO,aut,h.nf];rfl
def ah2 (H:VC C) (n:Nat) {h l R now rc sc nm fs F du s m o fo oo K} (hK:Jn C h l R now K) (hd:ED fs) (aa:CJ fs F) {O:St} (A:Ok O) (a:bF O h l R now rc sc nm fs F du s m o fo oo) (hF:z F+1<1000000) (rl:LU) (u:lJ) (ks:List PS) (ha:uy u.O) (hk:Cm ks):
  ∃S v,qf C (ai C) TT (n+3) iM [.c8 du 0,.cV rl,.da u.B,.sl (z ks) (ks.flatMap pC)] O=J (X0 (dG K fs rc sc rl u ks F).1.2 (.da (dG K fs rc sc rl u ks F).1.1.B),S)/\bF S h l R now rc sc nm fs (dG K fs rc sc rl u ks F).2 du s m o fo v/\Req O S s m F (dG K fs rc sc rl u ks F).2 oo v:=by
 have k:=a.lt;have ac:u.B=[.cU r u.th,.sl (z u.O) (u.O.flatMap sC)]:=rfl;have ab:AO.below 0 (.cH u.B FZ)=eT:=u.below;have zb:AO.below 0 (.cH [.cU r 0,.cU r 0,.cY,.cY,.cY,.cU r 0,.cY,.cU r 0,.cV []] FZ)=eT:=rfl;have aw:Ok (O++[.cH u.B FZ,.cH [.cU r 0,.cU r 0,.cY,.cY,.cY,.cU r 0,.cY,.cU r 0,.cV []] FZ]):=A.H (by simp only[a07,az6,ab,zb,az9]);obtain⟨S,v,q1,b,q⟩:=Vg H n hK hd aa aw (a.eG _) (by omega);obtain⟨ah,ay,ba⟩:=JP hK hd aa sc;have cap:=λO A=>al0 H.ck (bg K fs sc F).1.1 ah.f8 rl rc O A;have ax:0<=rc/\rc<=65536:=by have:=a.b8.1;unfold aa7 at this;simpa using this
 have rP:dG K fs rc sc rl u ks F=(let s:=bg K fs sc F
  if s.1.2=0 then
   match pM s.1.1 rl with
   |U=>((LJ,1),s.2)|J p=>if p.I<0 then xh K fs rl u ks p rc s.2 else if rc<p.I then((LJ,3),s.2)else xh K fs rl u ks p p.I s.2
  else((LJ,s.1.2),s.2)):=rfl
 dsimp only at rP;rw[rP];clear rP;generalize bg K fs sc F=sp at*;obtain⟨⟨sv,c⟩,F1⟩:=sp;dsimp only at*;have kb:=b.lt;have qb:=q.bE;have kp:∀i x,i<z O+2->i≠du->i≠s->i≠m->i≠o->oo≠J i->(O++[.cH u.B FZ,.cH [.cU r 0,.cU r 0,.cY,.cY,.cY,.cU r 0,.cY,.cU r 0,.cV []] FZ])[i]?=J x->S[i]?=J x:=λi x _ _ h2 h3 _ h5 e=>q.bv i x h2 h3 h5 e;have aR:z O+2<=z S:=by have:=q.dt;simpa using this
 have x0:S[z O]?=J (.cH u.B FZ):=q.bv _ _ (by have:=k.s;omega) (by have:=k.m;omega) (λe=>by have:=k.oo _ e;omega) (by rw[aF];rfl);have x1:S[z O+1]?=J (.cH [.cU r 0,.cU r 0,.cY,.cY,.cY,.cU r 0,.cY,.cU r 0,.cV []] FZ):=q.bv _ _ (by have:=k.s;omega) (by have:=k.m;omega) (λe=>by have:=k.oo _ e;omega) (by rw[aN];rfl);have V:v≠J (z O)/\v≠J (z O+1):=by
  refine⟨λe=>?_,λe=>?_⟩<;>rcases q.eN _ e with e|e;·have:=k.oo _ e;omega
  ·rw[a04]at e;simp only[a90,a94]at e;omega
  ·have:=k.oo _ e;omega
  ·rw[a04]at e;simp only[a90,a94]at e;omega
 have Rc:=R.f2;have Sc:sv.B=[.cU r sv.bL,.cU r sv.bw,.sl (z sv.ax) (sv.ax.flatMap nI.B)]:=rfl;have rp:=b.rp;unfold Eu at rp;rw[Rc]at rp;simp only[a09,a98]at rp;have W:=λL=>aj rp L;have run:=(Yo (C:=C) (call:=ai C) (T:=TT) (f:=iM) (x:=jE) rfl (n+2) [.c8 du 0,.cV rl,.da u.B,.sl (z ks) (ks.flatMap pC)] O).trans (aev (args1:=[.c8 du 0,.cV rl,.da u.B,.sl (z ks) (ks.flatMap pC)]) (O1:=O) (by rfl) (adX (.cW (.cV _) (.cW (Yl u) (.cW (wL ks) .de))) _ _ _) (by rfl));by_cases G:c=0
 case neg=>rw[if_neg G];obtain⟨w,t1,t2,t3⟩:=qb.dy A a b [Ci c] rfl;refine⟨w,v,?_,t2,t3⟩;unfold X0 at q1⊢;rw[if_neg G]at q1⊢;unfold Ci at q1 t1⊢;rw[run];simp only[jE,q1,t1,zH,zg,EM,zN,EJ,zO,EK,sW,lV,mi,zD,zC,EN,Ye,ab2,Yd,MG,Oo,Gi,EH,wK,uQ,uP,xw,y9,SN,AV.cH,AV.C,splice,EVX,seval]
 rw[if_pos G];unfold X0 at q1;rw[if_pos G,Sc]at q1;have X:AO.below 0 (.cH sv.B FZ)=eT:=sv.af.cl;have af:Ok (S++[.cH sv.B FZ]):=q.ok.H (by rw[a07,X];rfl);have E:=cap _ af;unfold aaG at E;rw[Sc]at E;have bad:∀e:Int,e≠0->abk (pM sv rl) rc=.df [.da mO,.cU r 0,.cU .u8 e]->∃w v,qf C (ai C) TT (n+3) iM [.c8 du 0,.cV rl,.da u.B,.sl (z ks) (ks.flatMap pC)] O=J (.fT (Ci e),w)/\bF w h l R now rc sc nm fs F1 du s m o fo v/\Req O w s m F F1 oo v:=by intro e he B;rw[B]at E;have aM:AO.below 0 (.cH mO FZ)=eT:=rfl;have D:Ok (S++[.cH sv.B FZ,.cH mO FZ]):=q.ok.H (by simp only[a07,az6,X,aM,az9]);obtain⟨w,t1,t2,t3⟩:=(qb.ab k.s D (by simp) (λi x hi e=>aj e _)).dy A a (b.eG _) [Ci e] rfl;refine⟨w,v,?_,t2,t3⟩;have an:(e !=0)=eT:=(by simpa using he);rw[Sc]at t1;unfold Ci mO at*;rw[run];simp only[jE,q1,E,W,an,t1,aF,dm,zH,zg,EM,zN,EJ,zO,EK,sW,lV,mi,zD,zC,EN,Ye,ab2,Yd,MG,Oo,Gi,EH,wK,uQ,uP,xw,y9,SN,AV.cH,AV.C,splice,EVX,seval]
 have good:∀(p:nI) (t:Int),pM sv rl=J p->(0<=t/\t<=65536)->abk (pM sv rl) rc=.df [.da p.B,.cU r t,.cU .u8 0]->∃w v,qf C (ai C) TT (n+3) iM [.c8 du 0,.cV rl,.da u.B,.sl (z ks) (ks.flatMap pC)] O=J (X0 (xh K fs rl u ks p t F1).1.2 (.da (xh K fs rl u ks p t F1).1.1.B),w)/\bF w h l R now rc sc nm fs (xh K fs rl u ks p t F1).2 du s m o fo v/\Req O w s m F (xh K fs rl u ks p t F1).2 oo v:=by
  intro p t M hm B;rw[B]at E;obtain⟨pr,pm,_⟩:=Ur M;have aq:=(ah.cx p pm).1;have pb:AO.below 0 (.cH p.B FZ)=eT:=p.ay;have N:Ok (S++[.cH sv.B FZ,.cH p.B FZ]):=q.ok.H (by simp only[a07,az6,X,pb,az9]);obtain⟨j,o2,Z,g2,I⟩:=fetch_any H.toRNewHas H.nr H.gW (n+1) rl t N (b.eG _) (by omega) hm pr;have dl:(tH fs F1 (rl++mg) t).1.am.length<=LB:=Jy hd ay _ _;have e1:(xh K fs rl u ks p t F1).1=K.ro p u ks (tH fs F1 (rl++mg) t).1.am (tH fs F1 (rl++mg) t).1.al:=rfl;have e2:(xh K fs rl u ks p t F1).2=(tH fs F1 (rl++mg) t).2:=rfl;rw[e1,e2];have q2:=hK.ro p u ks _ (tH fs F1 (rl++mg) t).1.al j o aq ha hk dl I.ok g2.bL;generalize tH fs F1 (rl++mg) t=g at*;generalize K.ro p u ks g.1.am g.1.al=tv at*;obtain⟨tv,d⟩:=tv;dsimp only at*;have ub:=g2.rp;unfold Eu at ub;rw[Rc]at ub;simp only[a09,a98]at ub;have bd:=λL=>aj ub L;have Q:s≠z S+1/\m≠z S+1/\v≠J (z S+1):=⟨by have:=kb.s;omega,by have:=kb.m;omega,λe=>by have:=kb.oo _ e;omega⟩;have y0:j[z O]?=J (.cH u.B FZ):=I.bv _ _ (by have:=k.s;omega) (by have:=k.m;omega) V.1 (aj x0 _);have y1:=I.bv _ _ (by have:=k.s;omega) (by have:=k.m;omega) V.2 (aj x1 _);have y2:j[z S+1]?=J (.cH p.B FZ):=I.bv _ _ (Ne.symm Q.1) (Ne.symm Q.2.1) Q.2.2 (by rw[aN];rfl);have tb:=Td tv;have qU:Req O j s m F g.2 oo o2:=(qb.ab k.s N (by simp) (λi x hi e=>aj e _)).N I k.s b.st.sm;have pc:p.B=[.cV p.E,.cU r p.cg,.cU r p.I,.sl (z p.aL) (p.aL.flatMap pC)]:=rfl;have aD:=λL=>aj y0 L;have ak:=λL=>aj y2 L;have aE:=λL=>aj y1 L;have aL:=λL y=>fK y1 L y;rw[ac]at y0 aD q2;have bb:splice [.cU r 0,.cU r 0,.cY,.cY,.cY,.cU r 0,.cY,.cU r 0,.cV []] 0 tv.B=tv.B:=rfl;by_cases P:d=0
  ·subst P;have D:Ok (j.set (z O+1) (.cH tv.B FZ)++[.cH tv.B FZ]):=(Ok.bd I.ok _ (AO.au (a99 _) _ tb)).H (by rw[a07,tb];rfl)
   have ku:=g2.lt;have bT:bF (j.set (z O+1) (.cH tv.B FZ)) h l R now rc sc nm fs g.2 du s m o fo o2:=g2.bo λi x hi e=>aG e (λe'=>by
    subst e';rcases hi with e|e|e|e|e|e;·have:=k.r;omega
    ·have:=k.s;omega
    ·have:=k.m;omega
    ·have:=k.o;omega
    ·have:=k.fo _ e;omega
    ·rcases I.eN _ e with e|e;·exact V.2 e
     ·rw[a04]at e;simp only[a90,a94]at e;omega) _
   have qT:=qU.ab k.s D (by simp) (λi x hi e=>aj (aG e (by omega) _) _);obtain⟨w,t1,t2,t3⟩:=qT.dy A a (bT.eG _) [.da tv.B] (by rw[ae,below];rw[AO.below]at tb;rw[tb];rfl);refine⟨w,o2,?_,t2,t3⟩;have sg:=aX y1 (.cH tv.B FZ);have az:=λL=>aj sg L;rw[Sc]at Z;rw[pc]at Z E y2 ak q2;rw[run];simp only[jE,q1,E,W,Z,q2,ub,y0,aE,aL,y2,fB.dt,fB.tk,fB.fl,aF,dm,X0,zH,zg,EM,zN,EJ,zO,EK,sW,lV,mi,zD,zC,EN,Ye,ab2,Yd,MG,Oo,Gi,EH,wK,uQ,uP,xw,y9,SN,AV.cH,AV.C,splice,EVX,seval];rw[TY (vs:=[.da tv.B]) (by simp only[aU,az,fB.dt,fB.tk,EVX,seval]) (.cW (.da tv.af) .de),t1];rfl
  ·have ad:(d !=0)=eT:=(by simpa using P);have D:Ok (j++[.cH tv.B FZ]):=I.ok.H (by rw[a07,tb];rfl);obtain⟨w,t1,t2,t3⟩:=(qU.ab k.s D (by simp) (λi x hi e=>aj e _)).dy A a (g2.eG _) [Ci d] rfl;refine⟨w,o2,?_,t2,t3⟩;rw[Sc]at Z;rw[pc]at Z E y2 ak q2;unfold Ci at t1;rw[run];simp only[jE,q1,E,W,Z,q2,ub,y0,y2,fB.dt,fB.fl,aF,dm,ad,t1,X0,P,Ci,zH,zg,EM,zN,EJ,zO,EK,sW,lV,mi,zD,zC,EN,Ye,ab2,Yd,MG,Oo,Gi,EH,wK,uQ,uP,xw,y9,SN,AV.cH,AV.C,splice,EVX,seval]
 cases M:pM sv rl with
 |none=>exact bad 1 (by decide) (by rw[M];rfl)
 |some p=>
  by_cases Y:p.I<0;·simp only[Y,if_true];exact good p rc M ax (by rw[M];simp[abk,Y])
  ·by_cases c2:rc<p.I;·simp only[Y,c2,if_true,if_false];exact bad 3 (by decide) (by rw[M];simp[abk,Y,c2])
   ·simp only[Y,c2,if_false];exact good p p.I M (by omega) (by rw[M];simp[abk,Y,c2])
def agC{C h l R now K}(f:Jn C h l R now K){fs F}(m:ED fs)(d:CJ fs F)(rc sc:Int)(rl:LU)(b:lJ)(ks:List PS)(o:uy b.O)(s:Cm ks):(dG K fs rc sc rl b ks F).1.1.ok/\CJ fs (dG K fs rc sc rl b ks F).2/\(dG K fs rc sc rl b ks F).2.length<=z F+2/\((dG K fs rc sc rl b ks F).1.2≠0->(dG K fs rc sc rl b ks F).1.1=LJ):=by
 obtain⟨s1,s2,s3⟩:=JP f m d sc;unfold dG;dsimp only;generalize bg K fs sc F=n at*;obtain⟨⟨sv,c⟩,F1⟩:=n;dsimp only at*;have q:∀p a,pM sv rl=J p->(xh K fs rl b ks p a F1).1.1.ok/\CJ fs (xh K fs rl b ks p a F1).2/\(xh K fs rl b ks p a F1).2.length<=z F+2/\((xh K fs rl b ks p a F1).1.2≠0->(xh K fs rl b ks p a F1).1.1=LJ):=λp a g=>
  ⟨f.lE _ _ _ _ _ (Jy m s2 _ _),(adT s2 _ _).1,by have:=UA fs F1 (rl++mg) a;unfold xh;dsimp only;omega,λe=>f.oi _ _ _ _ _ e⟩
 by_cases k:c=0
 ·rw[if_pos k];cases g:pM sv rl with
  |none=>exact⟨Vx,s2,by dsimp only;omega,λ_=>rfl⟩
  |some p=>
   dsimp only;by_cases i:p.I<0;·rw[if_pos i];exact q p _ g
   ·rw[if_neg i];by_cases j:rc<p.I;·rw[if_pos j];exact⟨Vx,s2,by dsimp only;omega,λ_=>rfl⟩
    ·rw[if_neg j];exact q p _ g
 ·rw[if_neg k];exact⟨Vx,s2,by dsimp only;omega,λ_=>rfl⟩
def Zq{n0:Nat}{rs:List XR}{A:As}{O:St}{vs vs':LA}(h:aU A O rs=J vs)(hv:hand eF vs O=J (vs',O)):Qe n0 rs A O=J (bW vs',tidy n0 vs' O):=by unfold Qe;rw[h];dsimp only;rw[hv]
def adr (H:VC C) (n:Nat) {h l R now rc sc nm fs F du s m o fo oo K} (P:Jn C h l R now K) (hd:ED fs) (A:CJ fs F) {O:St} (u:Ok O) (a:bF O h l R now rc sc nm fs F du s m o fo oo) (Z:z F<1000000):
  ∃S f,Ar C (ai C) (qf C (ai C) TT (n+2)) fC dU [.c8 du 0] O=J (.df [.da (bg K fs sc F).1.1.B,.cU .u8 (bg K fs sc F).1.2],S)/\bF S h l R now rc sc nm fs (bg K fs sc F).2 du s m o fo f/\Req O S s m F (bg K fs sc F).2 oo f:=by
 have k:=a.lt;have E:Ok (O++[.cH [.cU r 0,.cU r 0,.cY] FZ,.cH [.cU .u8 0] FZ]):=u.H rfl;obtain⟨S,f,q1,b,q⟩:=Vg H n P hd A E (a.eG _) Z;have sz:(bg K fs sc F).1.2≠0->(bg K fs sc F).1.1=aqs:=P.ol _ _;generalize bg K fs sc F=sp at*;obtain⟨⟨sv,c⟩,F1⟩:=sp;dsimp only at*;have kb:=b.lt;have qb:=q.bE;have x0:S[z O]?=J (.cH [.cU r 0,.cU r 0,.cY] FZ):=q.bv _ _ (by have:=k.s;omega) (by have:=k.m;omega) (λe=>by have:=k.oo _ e;omega) (by rw[aF];rfl);have x1:S[z O+1]?=J (.cH [.cU .u8 0] FZ):=q.bv _ _ (by have:=k.s;omega) (by have:=k.m;omega) (λe=>by have:=k.oo _ e;omega) (by rw[aN];rfl);have I:∀i,i<2->f≠J (z O+i):=by
  intro i hi e;rcases q.eN _ e with e|e;·have:=k.oo _ e;omega
  ·rw[a04]at e;simp only[a90,a94]at e;omega
 have v:sv.B=[.cU r sv.bL,.cU r sv.bw,.sl (z sv.ax) (sv.ax.flatMap nI.B)]:=rfl;have p:AO.below 0 (.cH sv.B FZ)=eT:=sv.af.cl;have fin:∀(cs:LA) (d:Int),ae 0 cs=eT->∃t,tidy (z O) [.da sv.B,.cU .u8 c] ((S.set (z O) (.cH cs FZ)).set (z O+1) (.cH [.cU .u8 d] FZ))=t/\bF t h l R now rc sc nm fs F1 du s m o fo f/\Req O t s m F F1 oo f:=by
  intro cs d B;have G:Ok ((S.set (z O) (.cH cs FZ)).set (z O+1) (.cH [.cU .u8 d] FZ)):=Ok.bd (Ok.bd q.ok _ (by rw[AO.below];exact aK (a99 _) _ B)) _ rfl;have bT:bF ((S.set (z O) (.cH cs FZ)).set (z O+1) (.cH [.cU .u8 d] FZ)) h l R now rc sc nm fs F1 du s m o fo f:=b.bo λi x hi e=>by
   have:∀j,j<2->i≠z O+j:=λj hj X=>by
    subst X;rcases hi with e|e|e|e|e|e;·have:=k.r;omega
    ·have:=k.s;omega
    ·have:=k.m;omega
    ·have:=k.o;omega
    ·have:=k.fo _ e;omega
    ·exact I j hj e
   exact aG (aG e (this 0 (by decide)) _) (this 1 (by decide)) _
  have qT:=qb.ab k.s G (by simp) (λi x hi e=>aG (aG e (by omega) _) (by omega) _);exact qT.dy u a bT _ (by rw[ae,below];rw[AO.below]at p;rw[p];rfl)
 have L:=λ(y:AO) (dv:AO)=>aG (aX x0 y) (by omega:O.length≠O.length+1) dv;have M:=λ(y:AO) (dv:AO)=>aX (aG x1 (by omega:O.length+1≠O.length) y) dv;have N:=λ(y:AO)=>aG x1 (by omega:O.length+1≠O.length) y;have T:=agh (C:=C) (call:=ai C) (ct:=qf C (ai C) TT (n+2)) (x:=fC) (k:=dU) (K:=oG) rfl (by rfl) (args:=[.c8 du 0]) (O:=O) (args1:=[.c8 du 0]) (O1:=O) rfl rfl;rw[T];by_cases g:c=0
 ·subst g;unfold X0 at q1;rw[if_pos rfl,v]at q1;obtain⟨t,t1,t2,t3⟩:=fin sv.B 0 (by rw[AO.below]at p;exact p);refine⟨t,f,?_,t2,t3⟩;rw[v]at t1;unfold Po;simp only[fC,dU,oG,q1,x0,N,thrown,zH,zg,EM,zN,EJ,zO,EK,sW,lV,mi,zD,zC,EN,Ye,ab2,Yd,MG,Oo,Gi,EH,wK,uQ,uP,xw,y9,SN,AV.cH,AV.C,splice,EVX,seval];refine(TY (vs:=[.da sv.B,.cU .u8 0]) ?_ (.cW (.da sv.af) (.cW (.cU _ _) .de))).trans ?_;·rw[v];simp only[aU,L,M,EVX,seval]
  ·rw[v,t1];rfl
 ·have Q:(c !=0)=eT:=(by simpa using g);unfold X0 at q1;rw[if_neg g]at q1;obtain⟨t,t1,t2,t3⟩:=fin [.cU r 0,.cU r 0,.cY] c rfl;have sv0:=sz g;subst sv0;refine⟨t,f,?_,t2,t3⟩;have W:∀Y,Ok Y->MC (qf C (ai C) TT (n+2)) qi [Ci c] Y=J (.cU .u8 c,Y):=λY D=>akm (C:=C) (caught_is (n+1) c D);have V:=W S q.ok;have z9:aqs.B=[.cU r 0,.cU r 0,.sl 0 []]:=rfl;rw[z9]at t1⊢;unfold Ci at*;unfold Po;simp only[fC,dU,oG,q1,x0,N,V,thrown,zH,zg,EM,zN,EJ,zO,EK,sW,lV,mi,zD,zC,EN,Ye,ab2,Yd,MG,Oo,Gi,EH,wK,uQ,uP,xw,y9,SN,AV.cH,AV.C,splice,EVX,seval];refine(Zq (vs:=[.da [.cU r 0,.cU r 0,.cY],.cU .u8 c]) (vs':=[.da [.cU r 0,.cU r 0,.sl 0 []],.cU .u8 c]) ?_ rfl).trans ?_;·simp only[aU,L,M,EVX,seval]
  ·rw[t1];rfl
def amA (H:VC C) (n:Nat) {h l R now rc sc nm fs F du s m o fo oo K} (P:Jn C h l R now K) (V:ED fs) (u:CJ fs F) {O:St} (v:Ok O) (a:bF O h l R now rc sc nm fs F du s m o fo oo) (hF:z F+1<1000000) (rl:LU) (f:lJ) (ks:List PS) (Q:uy f.O) (W:Cm ks):
  ∃S g,Ar C (ai C) (qf C (ai C) TT (n+3)) jA gV [.c8 du 0,.cV rl,.da f.B,.sl (z ks) (ks.flatMap pC)] O=J (.df [.da (dG K fs rc sc rl f ks F).1.1.B,.cU .u8 (dG K fs rc sc rl f ks F).1.2],S)/\bF S h l R now rc sc nm fs (dG K fs rc sc rl f ks F).2 du s m o fo g/\Req O S s m F (dG K fs rc sc rl f ks F).2 oo g:=by
 have k:=a.lt;have Z:f.B=[.cU r f.th,.sl (z f.O) (f.O.flatMap sC)]:=rfl;have X:AO.below 0 (.cH f.B FZ)=eT:=f.below;have zb:AO.below 0 (.cH [.cU r 0,.cU r 0,.cY,.cY,.cY,.cU r 0,.cY,.cU r 0,.cV []] FZ)=eT:=rfl;have E:Ok (O++[.cH f.B FZ,.cH [.cU r 0,.cU r 0,.cY,.cY,.cY,.cU r 0,.cY,.cU r 0,.cV []] FZ,.cH [.cU .u8 0] FZ]):=v.H (by simp only[a07,az6,X,zb];rfl);obtain⟨S,g,q1,b,q⟩:=ah2 H n P V u E (a.eG _) hF rl f ks Q W;have sz:=(agC P V u rc sc rl f ks Q W).2.2.2;generalize dG K fs rc sc rl f ks F=sp at*;obtain⟨⟨tv,c⟩,F1⟩:=sp;dsimp only at*;have kb:=b.lt;have qb:=q.bE;have x1:S[z O+1]?=J (.cH [.cU r 0,.cU r 0,.cY,.cY,.cY,.cU r 0,.cY,.cU r 0,.cV []] FZ):=q.bv _ _ (by have:=k.s;omega) (by have:=k.m;omega) (λe=>by have:=k.oo _ e;omega) (by rw[aN];rfl);have x2:S[z O+2]?=J (.cH [.cU .u8 0] FZ):=q.bv _ _ (by have:=k.s;omega) (by have:=k.m;omega) (λe=>by have:=k.oo _ e;omega) (by rw[aN];rfl);have I:∀i,i<3->g≠J (z O+i):=by
  intro i hi e;rcases q.eN _ e with e|e;·have:=k.oo _ e;omega
  ·rw[a04]at e;simp only[a90,a94]at e;omega
 have w:=Td tv;have fin:∀(cs:LA) (d:Int),ae 0 cs=eT->∃t,tidy (z O) [.da tv.B,.cU .u8 c] ((S.set (z O+1) (.cH cs FZ)).set (z O+2) (.cH [.cU .u8 d] FZ))=t/\bF t h l R now rc sc nm fs F1 du s m o fo g/\Req O t s m F F1 oo g:=by
  intro cs d B;have G:Ok ((S.set (z O+1) (.cH cs FZ)).set (z O+2) (.cH [.cU .u8 d] FZ)):=Ok.bd (Ok.bd q.ok _ (by rw[AO.below];exact aK (a99 _) _ B)) _ rfl;have bT:bF ((S.set (z O+1) (.cH cs FZ)).set (z O+2) (.cH [.cU .u8 d] FZ)) h l R now rc sc nm fs F1 du s m o fo g:=b.bo λi x hi e=>by
   have:∀j,j<3->i≠z O+j:=λj hj e'=>by
    subst e';rcases hi with e|e|e|e|e|e;·have:=k.r;omega
    ·have:=k.s;omega
    ·have:=k.m;omega
    ·have:=k.o;omega
    ·have:=k.fo _ e;omega
    ·exact I j hj e
   exact aG (aG e (this 1 (by decide)) _) (this 2 (by decide)) _
  have qT:=qb.ab k.s G (by simp) (λi x hi e=>aG (aG e (by omega) _) (by omega) _);exact qT.dy v a bT _ (by rw[ae,below];rw[AO.below]at w;rw[w];rfl)
 have L:=λ(y:AO) (dv:AO)=>aG (aX x1 y) (by omega:O.length+1≠O.length+2) dv;have M:=λ(y:AO) (dv:AO)=>aX (aG x2 (by omega:O.length+2≠O.length+1) y) dv;have N:=λ(y:AO)=>aG x2 (by omega:O.length+2≠O.length+1) y;have aa:splice [.cU r 0,.cU r 0,.cY,.cY,.cY,.cU r 0,.cY,.cU r 0,.cV []] 0 tv.B=tv.B:=rfl;have c1:=agh (C:=C) (call:=ai C) (ct:=qf C (ai C) TT (n+3)) (x:=jA) (k:=gV) (K:=tY) rfl (by rfl) (args:=[.c8 du 0,.cV rl,.da f.B,.sl (z ks) (ks.flatMap pC)]) (O:=O) (args1:=[.c8 du 0,.cV rl,.da f.B,.sl (z ks) (ks.flatMap pC)]) (O1:=O) (adX (.cW (.cV _) (.cW (Yl f) (.cW (wL ks) .de))) _ _ _) rfl;rw[c1];rw[Z]at q1⊢;by_cases p:c=0
 ·subst p;unfold X0 at q1;rw[if_pos rfl]at q1;obtain⟨t,t1,t2,t3⟩:=fin tv.B 0 (by rw[AO.below]at w;exact w);refine⟨t,g,?_,t2,t3⟩;unfold Po;simp only[jA,gV,tY,q1,x1,N,fB.dt,fB.fl,thrown,aF,zH,zg,EM,zN,EJ,zO,EK,sW,lV,mi,zD,zC,EN,Ye,ab2,Yd,MG,Oo,Gi,EH,wK,uQ,uP,xw,y9,SN,AV.cH,AV.C,splice,EVX,seval];refine(TY (vs:=[.da tv.B,.cU .u8 0]) ?_ (.cW (.da tv.af) (.cW (.cU _ _) .de))).trans ?_;·simp only[aU,L,M,fB.dt,fB.tk,EVX,seval]
  ·rw[t1];rfl
 ·have T:(c !=0)=eT:=(by simpa using p);unfold X0 at q1;rw[if_neg p]at q1;obtain⟨t,t1,t2,t3⟩:=fin [.cU r 0,.cU r 0,.cY,.cY,.cY,.cU r 0,.cY,.cU r 0,.cV []] c rfl;have sv0:=sz p;subst sv0;refine⟨t,g,?_,t2,t3⟩;have cc:∀Y,Ok Y->MC (qf C (ai C) TT (n+3)) qi [Ci c] Y=J (.cU .u8 c,Y):=λY D=>akm (C:=C) (caught_is (n+2) c D);have cS:=cc S q.ok;have z9:LJ.B=[.cU r 0,.cU r 0,.sl 0 [],.sl 0 [],.sl 0 [],.cU r 0,.sl 0 [],.cU r 0,.cV []]:=rfl;rw[z9]at t1⊢;unfold Ci at*;unfold Po;simp only[jA,gV,tY,q1,x1,N,cS,thrown,aF,zH,zg,EM,zN,EJ,zO,EK,sW,lV,mi,zD,zC,EN,Ye,ab2,Yd,MG,Oo,Gi,EH,wK,uQ,uP,xw,y9,SN,AV.cH,AV.C,splice,EVX,seval];refine(Zq (vs:=[.da [.cU r 0,.cU r 0,.cY,.cY,.cY,.cU r 0,.cY,.cU r 0,.cV []],.cU .u8 c]) (vs':=[.da [.cU r 0,.cU r 0,.sl 0 [],.sl 0 [],.sl 0 [],.cU r 0,.sl 0 [],.cU r 0,.cV []],.cU .u8 c]) ?_ rfl).trans ?_;·simp only[aU,L,M,EVX,seval]
  ·rw[t1];rfl
structure akK where
 fj:Int
 E:LU
 W:lJ
 ak:List PS
def akK.B(a:akK):LA:=[.cU .u8 a.fj,.cV a.E,.cU r a.W.th,.sl (z a.W.O) (a.W.O.flatMap sC),.sl (z a.ak) (a.ak.flatMap pC)]
theorem akK.dt(a:akK):z a.B=5:=rfl
theorem akK.af(a:akK):NVs a.B:=.cW (.cU _ _) (.cW (.cV _) (.cW (.cU _ _) (.cW (nz _) (.cW (wL _) .de))))
def lsN:List PS->Nat->Nat|[],n=>n|h::l,n=>if n<40000 then lsN l (n+50+min 40000 (z h.1)+min 40000 (z h.2))else n
def aou:∀(l:List PS) (n:Nat),n<=lsN l n
 |[],n=>a06 _
 |h::l,n=>by
  unfold lsN;split;·exact aB9 (by omega) (aou l _)
  ·exact a06 _
theorem acw:∀(l:List PS) (n:Nat),lsN l n<40000->n+50*z l<=lsN l n/\∀x∈l,z x.1<40000/\z x.2<40000
 |[],n,h=>⟨by simp[lsN],λs hs=>by cases hs⟩
 |p::l,n,h=>by
  unfold lsN at*;split at h;·next c=>rw[if_pos c];have a:=aou l (n+50+min 40000 (z p.1)+min 40000 (z p.2));have b:=acw l _ h;grind
  ·omega
def VV(nm data:LU)(fs:List PS):Bool:=decide (40000<=lsN fs (min 40000 (z data)+min 40000 (z nm)))
def agP{nm data:LU}{fs:List PS}(h:VV nm data fs=eF):z fs<=1000/\z data<=LB/\∀x∈fs,z x.2<=LB:=by have h:lsN fs (min 40000 (z data)+min 40000 (z nm))<40000:=Nat.not_le.mp (of_decide_eq_false h);grind [acw,LB]
def aw9(b:Int)(a:Int):Yz eF (.cU r b) (.cU r a)=J (.cU r (if a<b then a else b)):=rfl
def ak3(a:Nat):Yz eF (.cU r 40000) (.cU r (a:Int))=J (.cU r ((min 40000 a:Nat):Int)):=by rw[aw9];grind
def ML (nm data:LU) (fs:List PS) (O:St):∀(n i acc:Nat),i+n=z fs->acc<=200000->(acc<40000->50*i<=acc)->
  aH C (ai C) 47 [1,3,4] eH [(1,.c8 (z O) 0),(3,.cU r acc),(4,.cU r i)] (O++[.cH [.cV nm,.cV data,.sl (z fs) (fs.flatMap pC)] FZ])=J (.dq 0,[(3,.cU r (lsN (fs.drop i) acc:Nat))],O++[.cH [.cV nm,.cV data,.sl (z fs) (fs.flatMap pC)] FZ])
 |0,i,acc,hi,e,hb=>by rw[aA (he:=rfl)];have h:¬((i:Int)<(z fs:Int)):=(by omega);have b:fs.drop i=[]:=az1 (by omega);simp only[eH,h,b,lsN,bP,aF,EVX,seval]
 |n+1,i,acc,hi,e,f=>by
  rw[aA (he:=rfl)];have h:((i:Int)<(z fs:Int)):=(by omega);have h2:i<z fs:=(by omega);have hb:fs[i]?=J fs[i]:=a02 h2;have b:fs.drop i=fs[i]::fs.drop (i+1):=ay6 h2;have h3:(0:Int)<=i:=(by omega);have fl:=bZ Dy fs;have fd:=kK Dy hb;obtain⟨p,c⟩:∃p,p=fs[i]:=⟨_,rfl⟩;rw[<-c]at fd b;have pc:pC p=[.cV p.1,.cV p.2]:=rfl;rw[b,lsN];by_cases d:acc<40000;·have a:((acc:Int)<40000):=(by omega);have j:=wrS i (by omega);have m:IntKind.i64.wrap ((acc:Int)+50)=((acc+50:Nat):Int):=wrE (by omega);have o:IntKind.i64.wrap (((acc+50:Nat):Int)+((min 40000 (z p.1):Nat):Int))=((acc+50+min 40000 (z p.1):Nat):Int):=wrE (by omega);have q:IntKind.i64.wrap (((acc+50+min 40000 (z p.1):Nat):Int)+((min 40000 (z p.2):Nat):Int))=((acc+50+min 40000 (z p.1)+min 40000 (z p.2):Nat):Int):=wrE (by omega);have l:=ML nm data fs O n (i+1) (acc+50+min 40000 (z p.1)+min 40000 (z p.2)) (by omega) (by omega) (by omega);rw[if_pos d,<-l];generalize s:aH C (ai C) 47 [1,3,4] eH=k at*;simp only[eH,h,h2,h3,a,j,m,o,q,ak3,fl,fd,pc,bP,a09,aF,EVX,seval]
  ·have a:¬((acc:Int)<40000):=(by omega);rw[if_neg d];simp only[eH,h,a,bP,aF,EVX,seval]
def X7(d:Has C uF uz)(nm data:LU)(fs:List PS)(O:St)(a:Ok O):ai C uF [.da [.cV nm,.cV data,.sl (z fs) (fs.flatMap pC)]] O=J (.cX (VV nm data fs),O):=by
 rw[d.go (NVs.e (.cW (.da (.cW (.cV _) (.cW (.cV _) (.cW (wL _) .de)))) .de) _)];have c:=ML (C:=C) nm data fs O (z fs) 0 (min 40000 (z data)+min 40000 (z nm)) (by omega) (by omega) (by omega);simp only[ay1,ay9]at c;have f:=λb=>bz a (vs:=[.cX b]) rfl;have g:IntKind.i64.wrap (((min 40000 (z data):Nat):Int)+((min 40000 (z nm):Nat):Int))=((min 40000 (z data)+min 40000 (z nm):Nat):Int):=wrE (by omega);have e:decide ((40000:Int)<=(lsN fs (min 40000 (z data)+min 40000 (z nm)):Int))=VV nm data fs:=by unfold VV;rw[aH5];simp;omega
 simp only[uz,c,e,f,ak3,g,bP,aF,AV.cH,EVX,seval]
def anN(n:Nat){l:LA}(h:NVs l){d:LA}(hr:NVs d)(O:St):hand eF (.eC n l::d) O=J (.sl n l::d,O):=by rw[lF,aO,aoP,h.nf,hr.nf];rfl
end Go.Ev
namespace Go.Ev
open Option renaming none→U, some→J
open List renaming length→z
open Bool renaming true→eT, false→eF
open Go.IntKind renaming i64→r
set_option maxRecDepth 100000
variable{C C1:Ctx}
def Req.js {O L S T:St} {h l R now rc sc nm fs F d y s m o fo oo c} (f:Ok O) (a:bF O h l R now rc sc nm fs F y s m o fo oo) (q:Req (O++L) S s m F d oo c) (b:bF S h l R now rc sc nm fs d y s m o fo c) (g:Ok T) (n:z S<=z T) (j:∀i x,S[i]?=J x->(i<z O\/z O+z L<=i)->T[i]?=J x) (vs:LA) (hv:ae 0 vs=eT):
  ∃S',tidy (z O) vs T=S'/\bF S' h l R now rc sc nm fs d y s m o fo c/\Req O S' s m F d oo c:=by
 have k:=a.lt;have bT:bF T h l R now rc sc nm fs d y s m o fo c:=b.bo λi x hi e=>j i x e (by
  grind [Req,ahp])
 exact(q.bE.ab k.s g n (λi x hi e=>j i x e (.inl hi))).dy f a bT vs hv
def Req.dx{O L S:St}{h l R now rc sc nm fs F c f s m o fo oo b}(a:bF O h l R now rc sc nm fs F f s m o fo oo)(q:Req (O++L) S s m F c oo b)(i:Nat){x:AO}(d:L[i]?=J x):S[z O+i]?=J x:=by have k:=a.lt;grind [Req,ahp]
structure YI(C C1:Ctx):Prop where
 hO:VC C1
 ko:∀a O v,Ar C1 (ai C1) (qf C1 (ai C1) TT 8) fC dU a O=some v->ai C gK a O=some v
 b6:∀a O v,Ar C1 (ai C1) (qf C1 (ai C1) TT 8) jA gV a O=some v->ai C uG a O=some v
 dr:Has C mZ qp
 kv:Has C lI ES
structure CaseOk(C1:Ctx)(h:Bool)(l:List iK)(R:lN)(now:Int)(K:Ht)(fs:List PS):Prop where
 g2:Jn C1 h l R now K
 dv:R.ok
 am:ED fs
def WO (H:YI C C1) {h l R now rc sc nm fs F i s m o fo oo K} (e:CaseOk C1 h l R now K fs) (c:CJ fs F) {O:St} (d:Ok O) (a:bF O h l R now rc sc nm fs F i s m o fo oo) (f:z F<1000000):
  ∃S b,ai C gK [.c8 i 0] O=J (.df [.da (bg K fs sc F).1.1.B,.cU .u8 (bg K fs sc F).1.2],S)/\bF S h l R now rc sc nm fs (bg K fs sc F).2 i s m o fo b/\Req O S s m F (bg K fs sc F).2 oo b:=by
 obtain⟨S,b,q1,q2,q3⟩:=adr H.hO 6 e.g2 e.am c d a f;exact⟨S,b,H.ko _ _ _ q1,q2,q3⟩
def aj7 (H:YI C C1) {h l R now rc sc nm fs F q s m o fo oo K} (f:CaseOk C1 h l R now K fs) (d:CJ fs F) {O:St} (e:Ok O) (a:bF O h l R now rc sc nm fs F q s m o fo oo) (g:z F+1<1000000) (rl:LU) (c:lJ) (ks:List PS) (i:uy c.O) (j:Cm ks):
  ∃S b,ai C uG [.c8 q 0,.cV rl,.da c.B,.sl (z ks) (ks.flatMap pC)] O=J (.df [.da (dG K fs rc sc rl c ks F).1.1.B,.cU .u8 (dG K fs rc sc rl c ks F).1.2],S)/\bF S h l R now rc sc nm fs (dG K fs rc sc rl c ks F).2 q s m o fo b/\Req O S s m F (dG K fs rc sc rl c ks F).2 oo b:=by
 obtain⟨S,b,q1,q2,q3⟩:=amA H.hO 5 f.g2 f.am d e a g rl c ks i j;exact⟨S,b,H.b6 _ _ _ q1,q2,q3⟩
def yL:LU:=[116,97,114,103,101,116,115]
def ahr (H:YI C C1) {h l R now rc sc nm fs F N s m o fo oo K} (j:CaseOk C1 h l R now K fs) (g:CJ fs F) {O:St} (f:Ok O) (a:bF O h l R now rc sc nm fs F N s m o fo oo) (A:z F+1<1000000):
  ∃S d,ai C lI [.c8 N 0] O=J (.df [.da (dG K fs rc sc yL R.tg R.ks F).1.1.B,.cU .u8 (dG K fs rc sc yL R.tg R.ks F).1.2],S)/\bF S h l R now rc sc nm fs (dG K fs rc sc yL R.tg R.ks F).2 N s m o fo d/\Req O S s m F (dG K fs rc sc yL R.tg R.ks F).2 oo d:=by
 have B:=jM N O;have k:Ok (O++[.cH [.cU r 0,.cU r 0,.cY,.cY,.cY,.cU r 0,.cY,.cU r 0,.cV []] FZ]):=f.H rfl;obtain⟨S,d,q1,b,q⟩:=aj7 H j g k (a.eG _) A yL R.tg R.ks j.dv.tg j.dv.ks;generalize dG K fs rc sc yL R.tg R.ks F=D at*;obtain⟨⟨tv,c⟩,F1⟩:=D;dsimp only at*;have x0:S[z O]?=J _:=q.dx a 0 rfl;have u:=Td tv;have mk:=Py H.dr (a.eG [.cH [.cU r 0,.cU r 0,.cY,.cY,.cY,.cU r 0,.cY,.cU r 0,.cV []] FZ]);have n:Ok (S.set (z O) (.cH tv.B FZ)):=Ok.bd q.ok _ (AO.au (a99 _) _ u);obtain⟨w,t1,t2,t3⟩:=q.js f a b n (by simp) (λi x e hi=>aG e (by simp at hi;omega) _) [.da tv.B,.cU .u8 c] (by rw[ae,below];rw[AO.below]at u;rw[u];rfl);refine⟨w,d,?_,t2,t3⟩;have rp:=a.rp;have v:=R.f2;unfold Eu at rp;rw[v]at rp;simp only[a09,a98]at rp;have p:=λL=>aj rp L;have E:R.tg.B=[.cU r R.tg.th,.sl (z R.tg.O) (R.tg.O.flatMap sC)]:=rfl;unfold yL at q1;rw[E]at q1;have t:splice [.cU r 0,.cU r 0,.cY,.cY,.cY,.cU r 0,.cY,.cU r 0,.cV []] 0 tv.B=tv.B:=rfl;have sg:=aX x0 (.cH tv.B FZ);have nvs:NVs [.da tv.B,.cU .u8 c]:=.cW (.da tv.af) (.cW (.cU _ _) .de);rw[H.kv.go B];generalize y:mD=G;simp only[ES,mk,q1,p,x0,t,fB.dt,fB.fl,AV.cH,EVX,seval];rw[<-y];refine(Fj (vs:=[.da tv.B,.cU .u8 c]) ?_ nvs).trans (by rw[t1];rfl);simp only[aU,sg,fB.dt,fB.tk,EVX,seval]
structure adh(C:Ctx):Prop extends TelHas C where
 ki:Has C mZ qp
 oA:Has C o9 EQ
def ZP(fs:List PS)(F:List bD)(file:LU)(cap:Int):∃a,(tH fs F file cap).2=F++a:=by
 unfold tH;cases F.find? (λf=>decide (f.E=file))with
 |some f=>exact⟨[],(ay5 _).symm⟩|none=>exact⟨_,rfl⟩
def ahT(fs:List PS)(F X:List bD)(file:LU)(cap c:Int):tH fs ((tH fs F file cap).2++X) file c=((tH fs F file cap).1,(tH fs F file cap).2++X):=by
 unfold tH;cases hf:F.find? (λf=>decide (f.E=file))with
 |some f=>dsimp only;rw[List.find?_append,hf];rfl|none=>dsimp only;rw[List.find?_append,List.find?_append,hf,List.find?_cons_of_pos (by simpa using OZ fs file cap)];rfl
def QI(F:List bD):Prop:=F.Pairwise λf g=>f.E≠g.E
def QI.hy:∀{F:List bD},QI F->Uniq F
 |[],_,_,h=>by cases h
 |g::F,d,f,h=>by
  obtain⟨c,h2⟩:=List.pairwise_cons.mp d;rcases az4.mp h with rfl|h;·exact List.find?_cons_of_pos (by simp)
  ·rw[List.find?_cons_of_neg (by simpa using c f h)];exact QI.hy h2 f h
def QI.ne{F:List bD}(h:QI F){i j:Nat}(c:i<j){f g:bD}(hi:F[i]?=J f)(hj:F[j]?=J g):f.E≠g.E:=by obtain⟨a,rfl⟩:=a00.mp hi;obtain⟨b,rfl⟩:=a00.mp hj;exact List.pairwise_iff_getElem.mp h i j a b c
def WC{fs:List PS}{F:List bD}(h:QI F)(file:LU)(cap:Int):QI (tH fs F file cap).2:=by
 unfold tH;cases hf:F.find? (λf=>decide (f.E=file))with
 |some f=>exact h|none=>refine List.pairwise_append.mpr ⟨h,List.pairwise_singleton _ _,λf b g c=>?_⟩;rw[aB2.mp c,OZ];have:=List.find?_eq_none.mp hf f b;simpa using this
def IU(K:Ht)(fs:List PS)(sc:Int)(F X:List bD):bg K fs sc ((bg K fs sc F).2++X)=((bg K fs sc F).1,(bg K fs sc F).2++X):=by unfold bg;rw[ahT]
def RZ{F:List bD}(h:QI F)(K:Ht)(fs:List PS)(sc:Int):QI (bg K fs sc F).2:=WC h _ _
def aiC{F:List bD}(h:QI F)(K:Ht)(fs:List PS)(rc sc:Int)(rl:LU)(a:lJ)(ks:List PS):QI (dG K fs rc sc rl a ks F).2:=by
 have b:=RZ h K fs sc;unfold dG;dsimp only;split
 ·split;·exact b
  ·split;·exact WC b _ _
   ·split;·exact b
    ·exact WC b _ _
 ·exact b
structure Rp where
 h:Bool
 l:List iK
 R:lN
 bm:Int
 rc:Int
 sc:Int
 nm:LU
 fs:List PS
 F:List bD
 r:Nat
 s:Nat
 m:Nat
 o:Nat
 fo:Option Nat
 oo:Option Nat
def Rp.bh(p:Rp)(S:St):Prop:=bF S p.h p.l p.R p.bm p.rc p.sc p.nm p.fs p.F p.r p.s p.m p.o p.fo p.oo
def Rp.dg(p:Rp)(i:Nat):Prop:=i=p.r\/i=p.s\/i=p.m\/i=p.o\/p.fo=J i\/p.oo=J i
def Rp.to(p:Rp)(F:List bD)(oo:Option Nat):Rp:={p with F:=F,oo:=oo}
def Rp.lt{p:Rp}{S:St}(a:p.bh S){i:Nat}(h:p.dg i):i<z S:=by
 have k:=bF.lt a;rcases h with rfl|rfl|rfl|rfl|e|e;·exact k.r
 ·exact k.s
 ·exact k.m
 ·exact k.o
 ·exact k.fo _ e
 ·exact k.oo _ e
def Rp.bo{p:Rp}{S T:St}(a:p.bh S)(h:∀i x,p.dg i->S[i]?=J x->T[i]?=J x):p.bh T:=bF.bo a λi x hi e=>h i x hi e
def Rp.eG{p:Rp}{S:St}(a:p.bh S)(L:St):p.bh (S++L):=bF.eG a L
structure Stp(S S':St)(p p':Rp):Prop where
 ok:Ok S'
 bh:p'.bh S'
 dt:S.length<=S'.length
 bv:∀i x,¬p.dg i->S[i]?=some x->S'[i]?=some x
 eN:∀i,p'.dg i->p.dg i\/S.length<=i
def Req.ot{S S':St}{p:Rp}{d:List bD}{a:Option Nat}(q:Req S S' p.s p.m p.F d p.oo a)(b:(p.to d a).bh S'):Stp S S' p (p.to d a):=
 ⟨q.ok,b,q.dt,λi x h e=>q.bv i x (λc=>h (by simp[Rp.dg,c])) (λc=>h (by simp[Rp.dg,c])) (λc=>h (by simp[Rp.dg,c])) e,λi h=>by
  rcases h with e|e|e|e|e|e;·exact .inl (.inl e)
  ·exact .inl (.inr (.inl e))
  ·exact .inl (.inr (.inr (.inl e)))
  ·exact .inl (.inr (.inr (.inr (.inl e))))
  ·exact .inl (.inr (.inr (.inr (.inr (.inl e)))))
  ·rcases q.eN i e with e|e;·exact .inl (.inr (.inr (.inr (.inr (.inr e)))))
   ·exact .inr e⟩
structure Rp.c1(C1:Ctx)(K:Ht)(p:Rp):Prop where
 cc:CaseOk C1 p.h p.l p.R p.bm K p.fs
 gk:CJ p.fs p.F
 hy:QI p.F
def Rp.of(p:Rp)(c:Bc)(R:lN):Prop:=p.h=c.h/\p.l=c.l/\p.R=R/\p.bm=c.bm/\p.rc=c.rc/\p.sc=c.sc/\p.nm=c.nm/\p.fs=c.fs
def aqf:QI []:=.nil
def Vp{S S':St}{n:Nat}(b:n<=z S)(h:∀i x,i<n->S[i]?=J x->S'[i]?=J x):S'.take n=S.take n:=by
 refine aA9 λk=>?_;rw[aA4,aA4];split;·next a=>have e:S[k]?=J S[k]:=a02 (by omega);rw[e];exact h k _ a e
 ·rfl
def Stp.b4{S S':St}{p c:Rp}(q:Stp S S' p c){n:Nat}(a:n<=z S)(h:∀i,p.dg i->n<=i):S'.take n=S.take n:=
 Vp a λi x hi e=>q.bv i x (λb=>by have:=h i b;omega) e
end Go.Ev
namespace Go.Ev
open Option renaming none→U, some→J
open List renaming length→z
open Bool renaming true→eT, false→eF
open Go.IntKind renaming i64→r
set_option maxRecDepth 1000000
noncomputable section
def qG:KF:=(.mk ?k:KsA 7 []).1
def qF:KF:=(.mk ?k:KsA 5 []).1
def F5:KF:=(.mk ?k:KsA 9 []).1
def zW:KF:=(.mk ?k:KsA 10 []).1
end
set_option maxRecDepth 100000
set_option maxHeartbeats 1000000
variable{C:Ctx}
structure amv(C:Ctx):Prop extends RNewHas C where
 m4:ahl C
 cl:∀fs:List PS,fs.length<=1000->Yg C (.sl fs.length (fs.flatMap pC)) fs none
 k7:Has C gX qG
def arl (H:amv C) (c:Bc) (x:z c.l<=60) (b:z c.fs<=1000) (R:lN) (e:Int)
  (v:∀(O:St) (o:Nat),Ok O->O[o]?=J (PY c.h c.l)->ai C BH [.c8 o 0,.cV c.am] O=J (.df [.da (aat R e).B,.cU r e],O))
  {Y:St} (d:Ok Y):
  (Es c.nm c.fs c.rc c.sc e≠0/\ai C gX [.da c.B] Y=J (.df [.ev,.cU r (Es c.nm c.fs c.rc c.sc e)],Y))\/
  (Es c.nm c.fs c.rc c.sc e=0/\∃du s m o a T,ai C gX [.da c.B] Y=J (.df [.c8 du 0,.cU r 0],T)/\Ok T/\bF T c.h c.l R c.bm c.rc c.sc c.nm c.fs [] du s m o a U/\z Y<=du/\z Y<=s/\z Y<=m/\z Y<=o/\(∀q,a=J q->z Y<=q)/\T.take (z Y)=Y):=by
 have cb:AO.below 0 (.cH c.B FZ)=eT:=c.af.cl;have hb:AO.below 0 acl=eT:=rfl;have y:AO.below 0 (WA c.l)=eT:=by have:=ab4 c.l;simp[WA,AO.below,ae,below,this]
 have e1:=λY=>ara H.m4 Y;have e2:=λY=>aqa H.m4 c.l x Y;have ce:c.B=[.cV c.nm,.cV c.am,.sl (z c.fs) (c.fs.flatMap pC),.cX c.h,WF c.l,.cU r c.bm,.cU r c.b0,.cU r c.b1,.cU r c.rc,.cU r c.sc]:=rfl;rw[H.k7.go (NVs.e (.cW (.da c.af) .de) _)];cases k:c.h
 ·have h:Ok (Y++[.cH c.B FZ,acl,WA c.l]):=d.H (by simp only[a07,az6,cb,hb,y];rfl);have N:=agw H.toRNewHas c.h c.l R e c.am v h (z Y+2) (by rw[aN,k];rfl) c.nm (fv:=.sl (z c.fs) (c.fs.flatMap pC)) (fs:=c.fs) (fo:=U) (.inr (.inr ⟨rfl,rfl⟩)) (H.cl c.fs b) b c.bm c.b0 c.b1 c.rc c.sc;rw[k]at N;rw[ce,k]at N⊢;unfold WF at*;rcases N with⟨g,f⟩|⟨g,du,s,m,a,L,f,i,n,p,t,u,l⟩;·left;refine⟨g,?_⟩;have j:=λL=>bz d (vs:=[.ev,.cU r (Es c.nm c.fs c.rc c.sc e)]) rfl L;simp only[qG,e1,e2,f,j,AV.cH,AV.C,splice,EVX,seval]
  ·right;simp only[a04,a90,a94]at p t u l;refine⟨g,du,s,m,z Y+2,a,_,?_,i,n,by omega,by omega,by omega,by omega,λq e=>by have:=l q e;omega,by simp⟩;have nb:¬du<z Y:=(by omega);have j:∀T,tidy (z Y) [.c8 du 0,.cU r 0] T=T:=λT=>wW (by simp[ae,below,nb]) _;simp only[ay2,a09,a98]at f;simp only[qG,e1,e2,f,j,AV.cH,AV.C,splice,ay2,a09,a98,EVX,seval]
 ·have h:Ok (Y++[.cH c.B FZ,acl]):=d.H (by simp only[a07,az6,cb,hb];rfl);have N:=agw H.toRNewHas c.h c.l R e c.am v h (z Y+1) (by rw[aN,k];rfl) c.nm (fv:=.sl (z c.fs) (c.fs.flatMap pC)) (fs:=c.fs) (fo:=U) (.inr (.inr ⟨rfl,rfl⟩)) (H.cl c.fs b) b c.bm c.b0 c.b1 c.rc c.sc;rw[k]at N;rw[ce,k]at N⊢;unfold WF at*;rcases N with⟨g,f⟩|⟨g,du,s,m,a,L,f,i,n,p,t,u,l⟩;·left;refine⟨g,?_⟩;have j:=λL=>bz d (vs:=[.ev,.cU r (Es c.nm c.fs c.rc c.sc e)]) rfl L;simp only[qG,e1,e2,f,j,AV.cH,AV.C,splice,EVX,seval]
  ·right;simp only[a04,a90,a94]at p t u l;refine⟨g,du,s,m,z Y+1,a,_,?_,i,n,by omega,by omega,by omega,by omega,λq e=>by have:=l q e;omega,by simp⟩;have nb:¬du<z Y:=(by omega);have j:∀T,tidy (z Y) [.c8 du 0,.cU r 0] T=T:=λT=>wW (by simp[ae,below,nb]) _;simp only[ay2,a09,a98]at f;simp only[qG,e1,e2,f,j,AV.cH,AV.C,splice,ay2,a09,a98,EVX,seval]
structure CG where
 S:LU->SnV
 s1:LU->Int
 s2:LU->Int
 s3:LU->Int
 oj:LU->Bool
 T:LU->fB
 t1:LU->Int
 t2:LU->Int
 t3:LU->Int
 ow:LU->lJ->List PS->Bool
 od:LU->List PS->Bool
def CG.sc(b:CG)(now:Int)(d:LU)(f:Int):Int:=Vf f (b.s1 d) (b.s2 d) (b.s3 d) (b.oj d) (decide ((b.S d).bw<=now))
def CG.rc(b:CG)(now:Int)(p:nI)(a:lJ)(ks:List PS)(d:LU)(f:Int):Int:=aax f p.I (z d) (b.od d p.aL) (b.t1 d) (b.t2 d) (b.t3 d) (b.ow d a ks) (b.T d).bL p.cg (decide ((b.T d).bw<=now))
def CG.K(b:CG)(now:Int):Ht:=⟨λd f=>(aep (b.S d) (b.sc now d f),b.sc now d f),λp a ks d f=>(aeq (b.T d) (b.rc now p a ks d f),b.rc now p a ks d f)⟩
def LH(d:Has C qj AA)(a b:Int)(O:St):ai C qj [.cU r a,.cU r b] O=J (.cX (decide (a<=b)),O):=by
 rw[d.go (NVs.e (.cW (.cU _ _) (.cW (.cU _ _) .de)) _)];by_cases c:a<=b;·simp only[AA,c,EVX,seval]
 ·simp only[AA,c,EVX,seval]
def apj (H:ChkTot C) (R:Has C qj AA) (h:Bool) (l:List iK) (b1:xK l=eF) (data:LU) (I:z data<=LB):
  ∃(T:fB) (e1 e2 e3:Int) (en:lJ->List PS->Bool) (od:List PS->Bool),T.ok/\∀(p:nI) (a:lJ) (ks:List PS) (now size:Int) (O:St) (o:Nat),Cm p.aL->uy a.O->Cm ks->Ok O->O[o]?=J (PY h l)->
   ai C BF [.c8 o 0,.da p.B,.da a.B,.sl (z ks) (ks.flatMap pC),.cU r now,.cV data,.cU r size] O=
    J (.df [.da (aeq T (aax size p.I (z data) (od p.aL) e1 e2 e3 (en a ks) T.bL p.cg (decide (T.bw<=now)))).B,.cU .u8 (aax size p.I (z data) (od p.aL) e1 e2 e3 (en a ks) T.bL p.cg (decide (T.bw<=now)))],O):=by
 obtain⟨j,n1,e1,q1⟩:=H.rd data I;obtain⟨co,e2,N,q2⟩:=H.sg j;have G:∀a:lJ×List PS,∃en:Bool,uy a.1.O->Cm a.2->∀Y o,Y[o]?=J (PY h l)->ai C jK [.c8 o 0,co,.da (aC a.1.th a.1.O),.sl (z a.2) (a.2.flatMap pC)] Y=J (.cX en,Y):=λa=>by
  by_cases c:uy a.1.O/\Cm a.2;·obtain⟨en,q⟩:=H.cK h l co a.1.th a.1.O a.2 b1 c.1 c.2 N;exact⟨en,λ_ _=>q⟩
  ·exact⟨eF,λP Q=>absurd ⟨P,Q⟩ c⟩
 obtain⟨en,q5⟩:=Classical.axiomOfChoice G;obtain⟨k,E,rfl,lp⟩:=ae3 N;obtain⟨T,e3,tok,q3⟩:=H.tg k;obtain⟨D,q6⟩:=H.e7 data I;obtain⟨x0,x1,x2,x3,x4,je,w,x,y,A,B⟩:=j.hu;obtain⟨r0,r1,r2,r3,r4,ke,n,s,t,u,v⟩:=k.hu;unfold JV.av at q1 q2 q3;rw[je]at q1 q2;rw[ke]at q2 q3 q5;have m:∀hs:List PS,∃b:Bool,Cm hs->∀(Y:St) (o:Nat) (F:iH),Ok Y->Y[o]?=J (.cH F.B FZ)->F.ph=.sl (z hs) (hs.flatMap pC)->F.am=data->ai C iG [.c8 o 0] Y=J (.cX b,Y):=λhs=>by
  by_cases c:Cm hs
  case neg=>exact⟨eF,λh=>absurd h c⟩
  by_cases K:z hs=0;·have:hs=[]:=az0 K;subst this;exact⟨eF,λ_ Y o F e g f L=>VZ H.b6.toChkHas e g [] f⟩
  ·obtain⟨d,b,q⟩:=H.m1 hs c;exact⟨_,λ_ Y o F e g f L=>aai H.b6.toChkHas e g (z hs) _ f K (by rw[f];exact q Y) (by rw[L];exact q6 Y)⟩
 obtain⟨od,qo⟩:=Classical.axiomOfChoice m;refine⟨T,e1,e2,e3,λa ks=>en (a,ks),od,tok,λp a ks now size O o V S W i M=>?_⟩;have X:o<z O:=(a00.mp M).1;have hI:(inf h l o a.th a.O ks p.E p.cg p.I (.sl (z p.aL) (p.aL.flatMap pC)) now data size).ok (z O):=⟨.inr ⟨o,rfl,X⟩,xN _ (nz a.O),xN _ (wL ks),(xN _ (wL p.aL)).b0⟩;rw[<-arM];exact abl H.b6 i hI (xN _ (wL p.aL)) ⟨rfl,rfl⟩
  {x0:=x0,x1:=x1,x2:=x2,x3:=x3,x4:=x4,n1:=n1,e1:=e1,r0:=r0,r1:=r1,r2:=r2,r3:=r3,r4:=r4,r5:=.sl (z E) (E.flatMap pC),e2:=e2,en:=en (a,ks)
   hH:=w,hJ:=x,hK:=y,hL:=A,hM:=B,iN:=n,iQ:=s,iS:=t,iX:=u,i1:=v,i6:=xN _ (wL E)
   rd:=λY _=>q1 Y,sg:=λ_ Y _=>q2 Y
   cK:=λ_ _ Y _ Z=>q5 (a,ks) S W Y o (Z o _ M)
   tv:=T.bL,tx:=T.bw,t2:=.sl (z T.br) (T.br.flatMap TgV.B),t3:=.sl (z T.bj.ak) (T.bj.ak.flatMap pC),t4:=.sl (z T.bj.ap) (T.bj.ap.flatMap RoV.B),t5:=.cU r T.bj.cp,t6:=.sl (z T.bj.O) (T.bj.O.flatMap sC),t7:=.cU r T.bj.dd,t8:=.cV T.bj.b4,e3:=e3,ov:=decide (T.bw<=now),od:=od p.aL
   h2:=xN _ (.sl _ (gu (λco=>co.ay) T.br)),h3:=xN _ (wL _),h4:=xN _ (.sl _ (XL T.bj.ap)),h5:=IJ _ _,h6:=xN _ (nz _),h7:=IJ _ _,h8:=akc _
   tg:=λ_ _ Y _=>q3 Y,f7:=λY _=>LH R _ _ Y,lA:=qo p.aL V}
def apY (H:ChkTot C) (g:Has C qj AA) (h:Bool) (l:List iK) (R:lN) (data:LU) (b1:xK l=eF) (c:uy R.sn.O) (d:Cm R.ks) (f:z data<=LB):
  ∃(S:SnV) (e1 e2 e3:Int) (en:Bool),S.ok/\∀(now size:Int) (O:St) (o:Nat),Ok O->O[o]?=J (PY h l)->
   ai C qC [.c8 o 0,.da R.B,.cU r now,.cV data,.cU r size] O=
    J (.df [.da (aep S (Vf size e1 e2 e3 en (decide (S.bw<=now)))).B,.cU .u8 (Vf size e1 e2 e3 en (decide (S.bw<=now)))],O):=by
 obtain⟨S,e1,e2,e3,en,ov,b,q,j⟩:=apZ H h l R data b1 c d f;have e:∀now,ov now=decide (S.bw<=now):=λnow=>by have:=(q now []).symm.trans (LH g _ _ _);simpa using this
 refine⟨S,e1,e2,e3,en,b,λnow size O o a i=>?_⟩;rw[<-arI,<-e];exact j now size O o a i
def amP(H:ChkTot C)(m:Has C qj AA)(h:Bool)(l:List iK)(b1:xK l=eF)(R:lN)(s:uy R.sn.O)(t:Cm R.ks):∃b:CG,∀now,Jn C h l R now (b.K now):=by
 have sx:∀d:LU,∃x:SnV×Int×Int×Int×Bool,z d<=LB->x.1.ok/\∀(now size:Int) (O:St) (o:Nat),Ok O->O[o]?=J (PY h l)->
   ai C qC [.c8 o 0,.da R.B,.cU r now,.cV d,.cU r size] O=
    J (.df [.da (aep x.1 (Vf size x.2.1 x.2.2.1 x.2.2.2.1 x.2.2.2.2 (decide (x.1.bw<=now)))).B,.cU .u8 (Vf size x.2.1 x.2.2.1 x.2.2.2.1 x.2.2.2.2 (decide (x.1.bw<=now)))],O):=λd=>by
  by_cases c:z d<=LB;·obtain⟨S,e1,e2,e3,en,q⟩:=apY H m h l R d b1 s t c;exact⟨(S,e1,e2,e3,en),λ_=>q⟩
  ·exact⟨(aqs,0,0,0,eF),λh=>absurd h c⟩
 have tx:∀d:LU,∃x:fB×Int×Int×Int×(lJ->List PS->Bool)×(List PS->Bool),z d<=LB->x.1.ok/\∀(p:nI) (a:lJ) (ks:List PS) (now size:Int) (O:St) (o:Nat),Cm p.aL->uy a.O->Cm ks->Ok O->O[o]?=J (PY h l)->
   ai C BF [.c8 o 0,.da p.B,.da a.B,.sl (z ks) (ks.flatMap pC),.cU r now,.cV d,.cU r size] O=
    J (.df [.da (aeq x.1 (aax size p.I (z d) (x.2.2.2.2.2 p.aL) x.2.1 x.2.2.1 x.2.2.2.1 (x.2.2.2.2.1 a ks) x.1.bL p.cg (decide (x.1.bw<=now)))).B,.cU .u8 (aax size p.I (z d) (x.2.2.2.2.2 p.aL) x.2.1 x.2.2.1 x.2.2.2.1 (x.2.2.2.2.1 a ks) x.1.bL p.cg (decide (x.1.bw<=now)))],O):=λd=>by
  by_cases c:z d<=LB;·obtain⟨T,e1,e2,e3,en,od,q⟩:=apj H m h l b1 d c;exact⟨(T,e1,e2,e3,en,od),λ_=>q⟩
  ·exact⟨(LJ,0,0,0,λ_ _=>eF,λ_=>eF),λh=>absurd h c⟩
 obtain⟨f,hf⟩:=Classical.axiomOfChoice sx;obtain⟨g,n⟩:=Classical.axiomOfChoice tx;refine⟨⟨λd=>(f d).1,λd=>(f d).2.1,λd=>(f d).2.2.1,λd=>(f d).2.2.2.1,λd=>(f d).2.2.2.2,λd=>(g d).1,λd=>(g d).2.1,λd=>(g d).2.2.1,λd=>(g d).2.2.2.1,λd=>(g d).2.2.2.2.1,λd=>(g d).2.2.2.2.2⟩,λnow=>⟨λd y i=>?_,λd y O o i j k=>?_,λd y e=>?_,λp a ks d y e=>?_,λp a ks d y i=>?_,λp a ks d y O o u h2 h3 i j k=>?_⟩⟩;·exact arJ (hf d i).1 _
 ·exact(hf d i).2 now y O o j k
 ·exact if_neg e
 ·exact if_neg e
 ·exact arN (n d i).1 _
 ·exact(n d i).2 p a ks now y O o u h2 h3 j k
end Go.Ev
namespace Go.Ev
open Option renaming none→U, some→J
open List renaming length→z
open Bool renaming true→eT, false→eF
open Go.IntKind renaming i64→r
set_option maxRecDepth 100000
variable{C C1:Ctx}
def JR{S O:St}{n i:Nat}(h:S.take n=O)(hi:i<z O):S[i]?=O[i]?:=by grind
structure af4(C1:Ctx)(bv:CG)(c:Bc)(R:lN)(Y T:St)(p:Rp):Prop where
 ok:Ok T
 bh:p.bh T
 of:p.of c R
 F:p.F=[]
 ac:∀i,p.dg i->Y.length<=i
 b4:T.take Y.length=Y
 c1:p.c1 C1 (bv.K c.bm)
theorem af4.dt{C1 a c R Y T p}(h:af4 C1 a c R Y T p):z Y<=z T:=by grind [af4]
def Stp.ah{S:St}{p:Rp}(b:Ok S)(a:p.bh S):Stp S S p p:=⟨b,a,a06 _,λ_ _ _ h=>h,λ_ h=>.inl h⟩
def Stp.N{S T a:St}{p q d:Rp}(s:Stp S T p q)(t:Stp T a q d):Stp S a p d:=
 ⟨t.ok,t.bh,aB9 s.dt t.dt,λi x h e=>t.bv i x (λb=>by
  grind [Stp]) (s.bv i x h e),λi h=>by
  grind [Stp]⟩
theorem Stp.ab{S T:St}{p q:Rp}(s:Stp S T p q){L:St}(a:Ok (T++L)):Stp S (T++L) p q:=
 ⟨a,(s.bh).eG L,by have:=s.dt;simp;omega,λi x h e=>aj (s.bv i x h e) L,s.eN⟩
def ahg(p q:Rp):Prop:=∀i,p.dg i->¬q.dg i
def ahg.oB{p q:Rp}(h:ahg p q):ahg q p:=λi a b=>h i b a
def Stp.n8{S S':St}{p c q:Rp}(s:Stp S S' p c)(a:q.bh S)(d:ahg p q):q.bh S'/\ahg c q:=
 ⟨a.bo λi x h e=>s.bv i x (λb=>d i b h) e,λi h b=>by
  rcases s.eN i h with e|e;·exact d i e b
  ·have:=Rp.lt a b;omega⟩
end Go.Ev
namespace Go.Ev
open Option renaming none→U, some→J
open List renaming length→z
open Bool renaming true→eT, false→eF
open Go.IntKind renaming i64→r
set_option maxRecDepth 1000000
noncomputable section
def aV:KC:=(.mk ?k:LsA 8 [] 0).1
attribute [local irreducible] aV
def wo:KF:=(.mk ?k:KsA 8 [aV]).1
def xY:KF:=(.mk ?k:KsA 22 []).1
def mQ:KF:=(.mk ?k:KsA 25 []).1
def lM:KC:=(.mk ?k:LsA 27 [] 0).1
attribute [local irreducible] lM
def DJ:KF:=(.mk ?k:KsA 27 [lM]).1
def LK:KF:=(.mk ?k:KsA 54 []).1
end
set_option maxRecDepth 100000
variable{C C1:Ctx}
structure fZ where
 E:LU
 W:lJ
 bS:Bool
def fZ.B(s:fZ):LA:=[.cV s.E,.cU r s.W.th,.sl (z s.W.O) (s.W.O.flatMap sC),.cX s.bS]
theorem fZ.dt(s:fZ):z s.B=4:=rfl
theorem fZ.ay(s:fZ):ae 0 s.B=eT:=by simp only[fZ.B,ae,below,Si];rfl
structure WtV where
 E:LU
 ad:Int
 W:lJ
 ak:List PS
 cq:Option (Nat×Nat)
def WtV.fn(w:WtV):AV:=match w.cq with|U=>.ea (.func lI) [] []|J (a,b)=>.ea (.func oP) [] [.c8 a 0,.c8 b 0]
def WtV.B(w:WtV):LA:=[.cV w.E,.cU r w.ad,w.fn]
theorem WtV.dt(w:WtV):z w.B=3:=rfl
def WOk(S:St)(oo:Option Nat)(w:WtV):Prop:=∀a b,w.cq=J (a,b)->oo≠J a/\oo≠J b/\uy w.W.O/\Cm w.ak/\(∃t,S[a]?=J (.cH (fZ.B ⟨w.E,w.W,t⟩) FZ))/\∃d:JU,S[b]?=J (.cH d.B FZ)/\d.ak=w.ak
def WOk.bo{S T:St}{oo j:Option Nat}{w:WtV}(h:WOk S oo w)(g:∀i,i<z S->oo≠J i->j≠J i)(f:∀i x,oo≠J i->S[i]?=J x->T[i]?=J x):WOk T j w:=λa b e=>by obtain⟨c,h2,h3,h4,⟨t,h5⟩,d,h6,h7⟩:=h a b e;exact⟨g a (a00.mp h5).1 c,g b (a00.mp h6).1 h2,h3,h4,⟨t,f a _ c h5⟩,d,f b _ h2 h6,h7⟩
structure MN(S:St)(lv:AV)(ws:List WtV)(oo:Option Nat):Prop where
 bh:(ws=[]/\oo=none/\lv=.cY)\/∃q l,oo=some q/\lv=.dj q 0 ws.length 3/\S[q]?=some (.cH l FZ)/\ws.length*3<=l.length/\l.take (ws.length*3)=ws.flatMap WtV.B
 cx:∀w∈ws,WOk S oo w
theorem WtV.ay{S:St}{oo:Option Nat}{w:WtV}(h:WOk S oo w):ae (z S) w.B=eT:=by
 unfold WtV.B WtV.fn;cases e:w.cq with
 |none=>rfl|some x=>obtain⟨a,b⟩:=x;obtain⟨_,_,_,_,⟨t,h5⟩,d,h6,_⟩:=h a b e;have c:=(a00.mp h5).1;have h2:=(a00.mp h6).1;simp[ae,below,c,h2]
def ada{S:St}{oo:Option Nat}:∀{ws:List WtV},(∀w∈ws,WOk S oo w)->ae (z S) (ws.flatMap WtV.B)=eT|[],_=>rfl|w::ws,h=>by rw[aC7,Tc _ _ _ (WtV.ay (h w (by simp))),ada λx a=>h x (by simp[a])]
def MN.lt{S:St}{lv:AV}{ws:List WtV}{oo:Option Nat}(h:MN S lv ws oo){q:Nat}(e:oo=J q):q<z S:=by
 rcases h.bh with⟨_,h,_⟩|⟨a,l,h,_,h2,_⟩;·rw[h]at e;cases e
 ·rw[h]at e;cases e;exact(a00.mp h2).1
def MN.bo{S T:St}{lv:AV}{ws:List WtV}{oo:Option Nat}(h:MN S lv ws oo)(f:∀i x,(oo=J i\/∃w∈ws,∃a b,w.cq=J (a,b)/\(i=a\/i=b))->S[i]?=J x->T[i]?=J x):MN T lv ws oo:=by
 refine⟨?_,λw g a b e=>?_⟩
 ·rcases h.bh with h|⟨q,l,e,c,h2,h3⟩;·exact .inl h
  ·exact .inr ⟨q,l,e,c,f q _ (.inl e) h2,h3⟩
 ·obtain⟨c,h2,h3,h4,⟨t,h5⟩,d,h6,h7⟩:=h.cx w g a b e;exact⟨c,h2,h3,h4,⟨t,f a _ (.inr ⟨w,g,a,b,e,.inl rfl⟩) h5⟩,d,f b _ (.inr ⟨w,g,a,b,e,.inr rfl⟩) h6,h7⟩
def ari {S:St} (g:Ok S) {lv:AV} {ws:List WtV} {oo:Option Nat} (h:MN S lv ws oo) {w:WtV} (k:WOk S oo w) (o:z ws<100000000):
  ∃S',tX S 3 32 U lv 1 w.B=J (.dj (z S) 0 (z ws+1) 3,S')/\z S'=z S+1/\Ok S'/\MN S' (.dj (z S) 0 (z ws+1) 3) (ws++[w]) (J (z S))/\∀i x,oo≠J i->S[i]?=J x->S'[i]?=J x:=by
 have b1:=ada h.cx;have d:=WtV.ay k;have m:ae (z S+1) ((ws++[w]).flatMap WtV.B)=eT:=aK (aI2 _) _ (by rw[List.flatMap_append,Tc _ _ _ b1];simpa using d);have fl:(ws++[w]).flatMap WtV.B=ws.flatMap WtV.B++w.B:=by simp
 have fn:z ((ws++[w]).flatMap WtV.B)=(z ws+1)*3:=by rw[bZ WtV.dt];simp
 have fin:∀S',z S'=z S+1->S'[z S]?=J (.cH ((ws++[w]).flatMap WtV.B) FZ)->(∀i x,oo≠J i->S[i]?=J x->S'[i]?=J x)->MN S' (.dj (z S) 0 (z ws+1) 3) (ws++[w]) (J (z S)):=λS' f h2 h3=>
  ⟨.inr ⟨z S,_,rfl,by simp,h2,by rw[fn];simp,by rw[a95 (by rw[fn];simp)]⟩,λx a=>by
   have b:WOk S oo x:=by
    rcases aD3.mp a with a|a;·exact h.cx x a
    ·rw[aB2.mp a];exact k
   exact b.bo (λi hi _ e=>by cases e;omega) h3⟩
 rcases h.bh with⟨rfl,rfl,rfl⟩|⟨q,l,rfl,rfl,j,f,h2⟩;·refine⟨S++[.cH w.B FZ],rfl,by simp,g.ce (by rw[AO.below];exact aK (aI2 _) _ d),fin _ (by simp) (by rw[aF];simp) λi x _ e=>aj e _,λi x _ e=>aj e _⟩
 ·have n:=(a00.mp j).1;have keep:∀i x,J q≠J i->S[i]?=J x->(S.set q .eq++[.cH (l.take (z ws*3)++w.B) FZ])[i]?=J x:=λi x hi e=>aj (aG e (λe=>hi (by rw[e])) _) _;rw[h2,<-fl]at keep;refine⟨S.set q .eq++[.cH ((ws++[w]).flatMap WtV.B) FZ],?_,by simp,(Ok.bd g q rfl).ce (by rw[a96,AO.below];exact m),fin _ (by simp) (by rw[bK (by simp)];rfl) keep,keep⟩;unfold tX;rw[if_neg (by decide)];simp only[j];by_cases c:z l=z ws*3;·have e:l=ws.flatMap WtV.B:=(by rw[<-h2,<-c,List.take_length]);rw[if_pos ⟨trivial,c,by omega,by omega⟩,fl,<-e];simp
  ·rw[if_neg (λh=>c h.2.1),if_pos ⟨trivial,trivial,f,by omega,by omega⟩,h2,fl];simp
structure SrcHas(C C1:Ctx):Prop where
 kS:YI C C1
 eo:Has C oP LK
 ih:Su C Jf DJ
 hE:Has C uH xY
 eI:Has C Dt mQ
def aqm (H:SrcHas C C1) {K:Ht} {p:Rp} (g:p.c1 C1 K) {O:St} (j:Ok O) (a:p.bh O) (v:z p.F+1<1000000) {oo:Option Nat} {w:WtV} {x y:Nat} (A:w.cq=J (x,y)) (F:WOk O oo w):
  ∃S k,ai C oP [.c8 p.r 0,.c8 x 0,.c8 y 0] O=J (.df [.da (dG K p.fs p.rc p.sc w.E w.W w.ak p.F).1.1.B,.cU .u8 (dG K p.fs p.rc p.sc w.E w.W w.ak p.F).1.2],S)/\bF S p.h p.l p.R p.bm p.rc p.sc p.nm p.fs (dG K p.fs p.rc p.sc w.E w.W w.ak p.F).2 p.r p.s p.m p.o p.fo k/\Req O S p.s p.m p.F (dG K p.fs p.rc p.sc w.E w.W w.ak p.F).2 p.oo k:=by
 have E:hand eF [.c8 p.r 0,.c8 x 0,.c8 y 0] O=J ([.c8 p.r 0,.c8 x 0,.c8 y 0],O):=rfl;have l:Ok (O++[.cH [.cU r 0,.cU r 0,.cY,.cY,.cY,.cU r 0,.cY,.cU r 0,.cV []] FZ]):=j.H rfl;obtain⟨_,_,hi,D,⟨t,G⟩,d,I,B⟩:=F x y A;obtain⟨S,k,q1,b,q⟩:=aj7 H.kS g.cc g.gk l (a.eG _) v w.E w.W w.ak hi D;generalize dG K p.fs p.rc p.sc w.E w.W w.ak p.F=M at*;obtain⟨⟨tv,c⟩,F1⟩:=M;dsimp only at*;have x0:S[z O]?=J _:=q.dx a 0 rfl;have o:=Td tv;have m:Ok (S.set (z O) (.cH tv.B FZ)):=Ok.bd q.ok _ (AO.au (a99 _) _ o);obtain⟨s,t1,t2,t3⟩:=q.js j a b m (by simp) (λi x e hi=>aG e (by simp at hi;omega) _) [.da tv.B,.cU .u8 c] (by rw[ae,below];rw[AO.below]at o;rw[o];rfl);refine⟨s,k,?_,t2,t3⟩;have h:=λL=>aj G L;have f:=λL=>aj I L;unfold fZ.B at h;unfold JU.B at f;rw[B]at f;have N:w.W.B=[.cU r w.W.th,.sl (z w.W.O) (w.W.O.flatMap sC)]:=rfl;rw[N]at q1;have n:splice [.cU r 0,.cU r 0,.cY,.cY,.cY,.cU r 0,.cY,.cU r 0,.cV []] 0 tv.B=tv.B:=rfl;have sg:=aX x0 (.cH tv.B FZ);have nvs:NVs [.da tv.B,.cU .u8 c]:=.cW (.da tv.af) (.cW (.cU _ _) .de);rw[H.eo.go E];generalize u:mD=P;simp only[LK,q1,h,f,x0,n,fB.dt,fB.fl,AV.cH,EVX,seval];rw[<-u];refine(Fj (vs:=[.da tv.B,.cU .u8 c]) ?_ nvs).trans (by rw[t1];rfl);simp only[aU,sg,fB.dt,fB.tk,EVX,seval]
structure Wp where
 E:LU
 ad:Int
 W:lJ
 ak:List PS
 tg:Bool
def WtV.p(w:WtV):Wp:=⟨w.E,w.ad,w.W,w.ak,w.cq.isNone⟩
def fZ.w(depth:Int)(keys:List PS)(s:fZ):Wp:=⟨s.E,depth,s.W,keys,eF⟩
def ad9 (f:List fZ) (hs:∀s∈f,uy s.W.O) (X:z f<=8192) (b:Nat) (d:JU) (M:Cm d.ak) (depth:Int) (n0:Nat) (hb:n0<=b):∀(j:Nat) (i:Int) (lv:AV) (ws:List WtV) (oo:Option Nat) (T:St),n0<=z T->i=(j:Int)-1->j<=z f->Ok T->T[b]?=J (.cH d.B FZ)->oo≠J b->MN T lv ws oo->z ws+j<100000000->
  ∃(p:AV) (k:List WtV) (g:Option Nat) (t:St),aH C (ai C) 50 [0,3,5,9,11] lM [(0,lv),(3,.cU r depth),(5,.c8 b 0),(9,.sl (z f) (f.flatMap fZ.B)),(11,.cU r i)] T=J (.dq 0,[(0,p)],t)/\
   Ok t/\MN t p k g/\k.map WtV.p=ws.map WtV.p++(f.take j).reverse.map (fZ.w depth d.ak)/\z T<=z t/\(∀i x,oo≠J i->T[i]?=J x->t[i]?=J x)/\(∀q,g=J q->(j=0/\oo=J q)\/z T<=q)/\(0<j->g≠U)/\∀w∈k,w∈ws\/∃a b,w.cq=J (a,b)/\n0<=a/\n0<=b
 |0,i,lv,ws,oo,T,y,hi,hj,E,m,u,B,Y=>by refine⟨lv,ws,oo,T,?_,E,B,by simp,a06 _,λ_ _ _ h=>h,λq e=>.inl ⟨rfl,e⟩,λh=>absurd h (Nat.lt_irrefl _),λw h=>.inl h⟩;rw[aA (he:=rfl)];have h:¬((0:Int)<=i):=(by omega);simp only[lM,h,EVX,seval]
 |j+1,i,lv,ws,oo,T,y,hi,hj,E,m,u,B,Y=>by
  have F:i=(j:Int):=(by omega);subst F;have h:((0:Int)<=(j:Int)):=(by omega);have n:j<z f:=(by omega);have Q:f[j]?=J f[j]:=a02 n;have W:uy f[j].W.O:=hs _ (aB3 n);have wr:IntKind.i64.wrap ((j:Int)-1)=(j:Int)-1:=wrE (by omega);have fl:=bZ fZ.dt f;have fd:=kK fZ.dt Q;have tk:f.take (j+1)=f.take j++[f[j]]:=aC5 n;generalize f[j]=s at*;obtain⟨w,o⟩:∃w:WtV,w=⟨s.E,depth,s.W,d.ak,J (z T,b)⟩:=⟨_,rfl⟩;have O:w.B=[.cV s.E,.cU r depth,.ea (.func oP) [] [.c8 (z T) 0,.c8 b 0]]:=by rw[o];rfl
  have bl:=(a00.mp m).1;have b1:AO.below (z T+2) (.cH s.B FZ)=eT:=AO.au (a99 _) _ (by rw[AO.below];exact s.ay);have P:AO.below (z T+2) (.cH w.B FZ)=eT:=by have:b<z T+2:=(by omega);rw[O];simp[AO.below,ae,below,this]
  have I:Ok (T++[.cH s.B FZ,.cH w.B FZ]):=Vj E (by simp[b1,P]);have D:MN (T++[.cH s.B FZ,.cH w.B FZ]) lv ws oo:=B.bo λi x _ e=>aj e _;have H:WOk (T++[.cH s.B FZ,.cH w.B FZ]) oo w:=λa b' e=>by rw[o]at e⊢;cases e;exact⟨λe=>by have:=B.lt e;omega,u,W,M,⟨s.bS,by rw[aF];rfl⟩,d,aj m _,rfl⟩
  obtain⟨S,a1,l1,K,LS,Z⟩:=ari I D H (by omega);have lT:z (T++[AO.cH s.B FZ,.cH w.B FZ])=z T+2:=(by simp);rw[lT]at a1 l1 LS;have N:∀i x,oo≠J i->T[i]?=J x->S[i]?=J x:=λi x G e=>Z i x G (aj e _);obtain⟨p,k,g,t,r1,r2,r3,r4,r5,r6,r7,r8,r9⟩:=ad9 f hs X b d M depth n0 hb j ((j:Int)-1) _ (ws++[w]) (J (z T+2)) S (by omega) rfl (by omega) K (N b _ u m) (λe=>by cases e;omega) LS (by simp;omega);refine⟨p,k,g,t,?_,r2,r3,by rw[r4,tk];simp[WtV.p,fZ.w,o],by omega,λi x G e=>r6 i x (λR=>by cases R;have:=(a00.mp e).1;omega) (N i x G e),λq e=>.inr ?_,λ_=>?_,λv hv=>?_⟩;·rw[<-r1,aA (he:=rfl)];generalize hk:aH C (ai C) 50 [0,3,5,9,11] lM=kk;have sc:s.B=[.cV s.E,.cU r s.W.th,.sl (z s.W.O) (s.W.O.flatMap sC),.cX s.bS]:=rfl;rw[sc]at fd a1;rw[O]at a1;have du:=λL=>aF T (.cH [.cV s.E,.cU r s.W.th,.sl (z s.W.O) (s.W.O.flatMap sC),.cX s.bS] FZ::L);simp only[lM,h,n,wr,fl,fd,a1,du,Bq,BX,jQ,aF,dm,aN,fF,bP,AV.cH,AV.C,splice,EVX,seval]
  ·rcases r7 q e with⟨_,e⟩|e;·cases e;omega
   ·omega
  ·by_cases c:0<j;·exact r8 c
   ·intro e;rcases r3.bh with⟨A,_⟩|⟨q,l,A,_⟩;·have:=congrArg List.length r4;rw[A]at this;simp at this
    ·rw[e]at A;cases A
  ·rcases r9 v hv with h|h
   ·rcases aD3.mp h with h|h;·exact .inl h
    ·refine .inr ⟨z T,b,by rw[aB2.mp h,o],y,hb⟩
   ·exact .inr h
def lastT(a:List fZ):Bool:=match a.getLast? with|J s=>s.bS|U=>eF
def Vw(ws:List Wp)(a:List fZ)(keys:List PS)(depth:Int):List Wp:=(if lastT a then[]else ws)++a.reverse.map (fZ.w depth keys)
def ass (H:SrcHas C C1) (path:LU) (d:JU) (hd:Cm d.ak) (c:List fZ) (hs:∀s∈c,uy s.W.O) (hn:z c<=8192) (Z:∀O,Ok O->ai C jC [.da d.B,.cV path] O=J (.sl (z c) (c.flatMap fZ.B),O)) (depth:Int) {S:St} (I:Ok S) {lv:AV} {ws:List WtV} {oo:Option Nat} (v:MN S lv ws oo) (hw:z ws<90000000):
  ∃(j:AV) (o:List WtV) (m:Option Nat) (S':St),ai C Jf [lv,.da d.B,.cV path,.cU r depth] S=J (j,S')/\Ok S'/\MN S' j o m/\o.map WtV.p=Vw (ws.map WtV.p) c d.ak depth/\z S<=z S'/\(∀i x,oo≠J i->S[i]?=J x->S'[i]?=J x)/\(∀q,m=J q->oo=J q\/z S<=q)/\∀w∈o,w∈ws\/∃a b,w.cq=J (a,b)/\z S<=a/\z S<=b:=by
 have Y:AO.below 0 (.cH d.B FZ)=eT:=d.ay;have y:Ok (S++[.cH d.B FZ]):=I.H (by rw[a07,Y];rfl);have g:=Z _ y;have B:d.B=[.sl (z d.ak) (d.ak.flatMap pC),.sl (z d.ap) (d.ap.flatMap RoV.B),.cU r d.cp,tC d.O,.cU r d.dd,.cV d.b4]:=rfl;have F:MN (S++[.cH d.B FZ]) lv ws oo:=v.bo λi x _ e=>aj e _;have lS:z (S++[AO.cH d.B FZ])=z S+1:=by simp
 have K:oo≠J (z S):=λe=>by have:=v.lt e;omega
 have xb:(S++[AO.cH d.B FZ])[z S]?=J (.cH d.B FZ):=by rw[aF];rfl
 by_cases P:c=[]
 ·subst P;refine⟨lv,ws,oo,S,?_,I,v,by simp[Vw,lastT],a06 _,λ_ _ _ h=>h,λq e=>.inl e,λw h=>.inl h⟩;have N:aH C (ai C) 50 [0,3,5,9,11] lM [(0,lv),(3,.cU r depth),(5,.c8 (z S) 0),(9,.sl 0 []),(11,.cU r (-1))] (S++[.cH d.B FZ])=J (.dq 0,[(0,lv)],S++[.cH d.B FZ]):=by rw[aA (he:=rfl)];simp only[lM,EVX,seval]
  have lb:ae (z S) [lv]=eT:=by
   rcases v.bh with⟨_,_,rfl⟩|⟨q,l,e,rfl,_⟩;·rfl
   ·have:=v.lt e;simp[ae,below,this]
  have A:=Cj I lb [.cH d.B FZ];have D:IntKind.i64.wrap (-1)= -1:=rfl;rw[B]at g N A;rw[H.ih.go,B];simp only[a94,aH8]at g;simp only[DJ,g,N,D,A,bP,qL,aU,aF,AV.cH,EVX,seval]
 ·obtain⟨k,hk⟩:∃k,z c=k+1:=⟨z c-1,by have:=List.length_pos_iff.mpr P;omega⟩;have L:c[k]?=J c[k]:=a02 (by omega);have fl:=bZ fZ.dt c;have fd:=kK fZ.dt L;have lst:lastT c=c[k].bS:=by have e:=List.getLast?_eq_getElem? (l:=c);have e1:z c-1=k:=(by omega);rw[e1,L]at e;unfold lastT;rw[e]
  generalize c[k]=s at*;have sc:s.B=[.cV s.E,.cU r s.W.th,.sl (z s.W.O) (s.W.O.flatMap sC),.cX s.bS]:=rfl;have G:∀t:Bool,∃u f n,(if t=eT then AV.cY else lv)=u/\MN (S++[.cH d.B FZ]) u f n/\f.map WtV.p=(if t=eT then[]else ws.map WtV.p)/\z f<=z ws/\(n=oo\/n=U)/\∀w∈f,w∈ws:=λt=>by
   cases t;·exact⟨lv,ws,oo,rfl,F,rfl,a06 _,.inl rfl,λw h=>h⟩
   ·exact⟨.cY,[],U,rfl,⟨.inl ⟨rfl,rfl,rfl⟩,λw h=>by cases h⟩,rfl,a99 _,.inr rfl,λw h=>by cases h⟩
  obtain⟨u,f,n,e2,X,m2,l2,Q,u2⟩:=G s.bS;obtain⟨j,o,m,E,r1,r2,r3,r4,r5,r6,W,r8,r9⟩:=ad9 (C:=C) c hs hn (z S) d hd depth (z S) (a06 _) (z c) (k:Int) u f n _ (by omega) (by omega) (a06 _) y xb (by rcases Q with rfl|rfl;exact K;simp) X (by omega);rw[lS]at r5 W;have q1:∀q,m=J q->z S+1<=q:=λq e=>by
   rcases W q e with⟨h,_⟩|h;·omega
   ·exact h
  refine⟨j,o,m,E,?_,r2,r3,by rw[r4,m2,List.take_length,Vw,lst],by omega,λi x ho e=>r6 i x (by rcases Q with rfl|rfl;exact ho;simp) (aj e _),λq e=>.inr (by have:=q1 q e;omega),λw h=>(r9 w h).imp (u2 w) id⟩
  have A:tidy (z S) [j] E=E:=wW (by
   rcases r3.bh with⟨_,h,_⟩|⟨q,l,e,rfl,_⟩;·exact absurd h (r8 (by omega))
   ·have:=q1 q e;have:¬q<z S:=(by omega);simp[ae,below,this]) _
  have D:IntKind.i64.wrap ((z c:Int)-1)=(k:Int):=(show IntKind.i64.wrap ((z c:Int)-1)=(z c:Int)-1 from wrE (by omega)).trans (by omega);have R:(0:Int)<(z c:Int):=(by omega);have T:k<z c:=(by omega);have V:(0:Int)<=(k:Int):=(by omega);rw[B]at g r1;rw[sc]at fd;rw[H.ih.go,B];cases M:s.bS;·rw[M]at e2 fd;simp only[aC3,if_false]at e2;subst e2;simp only[DJ,g,r1,D,R,T,V,fl,fd,A,bP,qL,aU,aF,AV.cH,EVX,seval]
  ·rw[M]at e2 fd;simp only[if_true]at e2;subst e2;simp only[DJ,g,r1,D,R,T,V,fl,fd,A,bP,qL,aU,aF,AV.cH,EVX,seval]
def nN:LA:=[.cU r 0,.sl 0 [],.cU .u8 0,.cU r 0,.cV [],.sl 0 [],.sl 0 []]
structure jY where
 fj:Int
 jf:Int
 e6:Int
 b6:LU
 du:LA
 b3:List LU
def jY.B(x:jY):LA:=.cU .u8 x.fj::.cU .u8 x.jf::.cU .u8 x.e6::.cV x.b6::(x.du++[.sl (z x.b3) (x.b3.flatMap sC)])
structure Gf(r:LA):Prop where
 dt:r.length=7
 C:r.all AV.C=true
 af:NVs r
 j5:∃(n:Int) (hs:List PS) (j:JV),r=rC n hs j/\hs.length<=8192
def uw:Gf nN:=⟨rfl,rfl,.cW (.cU _ _) (.cW (.sl 0 rfl) (.cW (.cU _ _) (.cW (.cU _ _) (.cW (.cV _) (.cW (.sl 0 rfl) (.cW (.sl 0 rfl) .de)))))),0,[],JV.aa,by rw[rC,JV.ba];rfl,by decide⟩
theorem jY.af(x:jY)(h:NVs x.du):NVs x.B:=.cW (.cU _ _) (.cW (.cU _ _) (.cW (.cU _ _) (.cW (.cV _) (h.eG (.cW (nz x.b3) .de)))))
def skp(c:Int):Bool:=c==1||(c==2||(c==3||c==8))
def as3(b:Has C Dt mQ)(c:Int)(O:St):ai C Dt [.cU .u8 c] O=J (.cX (skp c),O):=by
 rw[b.go (NVs.e (.cW (.cU _ _) .de) _)];unfold skp;by_cases a:c=1;·simp only[mQ,a,EVX,seval]
 ·by_cases h2:c=2;·simp only[mQ,a,h2,EVX,seval]
  ·by_cases h3:c=3;·simp only[mQ,a,h2,h3,EVX,seval]
   ·by_cases h4:c=8;·simp only[mQ,a,h2,h3,h4,EVX,seval]
    ·have e1:(c==1)=eF:=(by simpa using a);have e2:(c==2)=eF:=(by simpa using h2);have e3:(c==3)=eF:=(by simpa using h3);have e4:(c==8)=eF:=(by simpa using h4);simp only[mQ,e1,e2,e3,e4,Bool.or_self,EVX,seval]
def jm(k y c:Int)(d:LU)(v:AV):LA:=[.cU .u8 k,.cU .u8 y,.cU .u8 c,.cV d,.cU r 0,.cY,.cU .u8 0,.cU r 0,.cV [],.cY,.cY,v]
def N7{O:St}{v:AV}{l:LA}{fs:List Nat}{n:Nat}(k y c:Int)(d:LU)(h:bI O (dS O 11) v=J (.sl n l,fs)):aZ O (dS O 11) [.da (jm k y c d v)]=J ([.da (.cU .u8 k::.cU .u8 y::.cU .u8 c::.cV d::(nN++[.sl n l]))],fs):=by unfold jm;simp only[aO,bG,VY,aae,dO,h,qY];simp[nN]
def ahz(d:Has C uH xY)(c:Int)(h:LU)(vs:List LU){O:St}(a:Ok O):ai C uH [.cU .u8 c,.cV h,.sl (z vs) (vs.flatMap sC)] O=J (.da (jY.B ⟨3,4,c,h,nN,vs⟩),O):=by
 have nv:=NVs.cW (NV.da (jY.af ⟨3,4,c,h,nN,vs⟩ uw.af)) .de;have f:=λL=>bz a (vs:=[.da (jY.B ⟨3,4,c,h,nN,vs⟩)]) nv.cl L;have b:∀Y,hand eF [.da (jm 3 4 c h (.sl (z vs) (vs.flatMap sC)))] Y=J ([.da (jY.B ⟨3,4,c,h,nN,vs⟩)],Y):=λY=>by rw[lF,N7 3 4 c h ((nz vs).nf _ _)];rfl
 unfold jm at b;rw[d.go (NVs.e (.cW (.cU _ _) (.cW (.cV _) (.cW (nz vs) .de))) _)];generalize e:mD=g;simp only[xY,aF,dm,AV.cH,AV.C,splice,EVX,seval];rw[<-e];refine(vO (vs:=[.da (jm 3 4 c h (.sl (z vs) (vs.flatMap sC)))]) ?_ (b _)).trans (by rw[f];rfl);simp only[aU,aF,jm,EVX,seval]
structure Bo where
 K:Ht
 fs:List PS
 rc:Int
 sc:Int
 ap:Int
 ad:Int
 go:fB->List fZ
 fd:fB->Option LA
def tooBig(ws:List Wp)(vs:List LU)(F:List bD):Bool:=decide (900000<=z F)||(decide (80000000<=z ws)||decide (80000000<=z vs))
def vK(f:Bo):Nat->List Wp->List LU->List bD->Option (jY×List bD)
 |0,_,_,_=>U
 |n+1,ws,vs,F=>if tooBig ws vs F=eT then U else match ws.getLast? with
  |U=>J (⟨2,0,0,[],nN,vs⟩,F)
  |J w=>
   if w.E∈vs then vK f n ws.dropLast vs F
   else if f.ap<=z vs then J (⟨3,2,0,[],nN,vs⟩,F)
   else if f.ad<w.ad then J (⟨3,3,0,[],nN,vs⟩,F)
   else if vs=[]/\(bg f.K f.fs f.sc F).1.2≠0 then J (⟨3,4,(bg f.K f.fs f.sc F).1.2,Hl,nN,vs++[w.E]⟩,(bg f.K f.fs f.sc F).2)
   else
    let t:=dG f.K f.fs f.rc f.sc w.E w.W w.ak (if vs=[]then(bg f.K f.fs f.sc F).2 else F)
    if t.1.2≠0 then
     if w.E≠yL/\skp t.1.2=eT then vK f n ws.dropLast (vs++[w.E]) t.2
     else J (⟨3,4,t.1.2,w.E,nN,vs++[w.E]⟩,t.2)
    else match f.fd t.1.1 with|J d=>J (⟨1,0,0,[],d,vs++[w.E]⟩,t.2)|U=>vK f n (Vw ws.dropLast (f.go t.1.1) t.1.1.bj.ak (w.ad+1)) (vs++[w.E]) t.2
def IQ(vs:List LU):List (AV×AV):=vs.mapIdx λi n=>(.cV n,.cU r ((i+1:Nat):Int))
def Wq(n:LU):∀(vs:List LU) (k j:Nat),(n∉vs->lZ (.cV n) (vs.mapIdx λi m=>(AV.cV m,AV.cU r ((k+i+1:Nat):Int))) j=J U)/\(n∈vs->∃i x,0<x/\lZ (.cV n) (vs.mapIdx λi m=>(AV.cV m,AV.cU r ((k+i+1:Nat):Int))) j=J (J (i,.cU r x)))
 |[],k,j=>⟨λ_=>rfl,λh=>by cases h⟩
 |m::vs,k,j=>by
  obtain⟨b,h2⟩:=Wq n vs (k+1) (j+1);have e:(m::vs).mapIdx (λi m=>(AV.cV m,AV.cU r ((k+i+1:Nat):Int)))=(.cV m,.cU r ((k+1:Nat):Int))::vs.mapIdx λi m=>(AV.cV m,AV.cU r ((k+1+i+1:Nat):Int)):=by rw[List.mapIdx_cons];congr 2;funext i m;congr 4;omega
  have d:∀l x,lZ (.cV n) ((.cV m,x)::l) j=match decide (n=m)with
   |eT=>J (J (j,x))|eF=>lZ (.cV n) l (j+1):=λl x=>by
   rw[lZ,Z8,kZ];cases decide (n=m)<;>rfl
  rw[e,d];by_cases c:n=m;·simp only[c,decide_true];exact⟨λh=>absurd (by simp) h,λ_=>⟨j,_,by omega,rfl⟩⟩
  ·simp only[c,decide_false];exact⟨λh=>b λa=>h (by simp[a]),λh=>h2 (by simpa[c]using h)⟩
def arW{n:LU}{vs:List LU}(h:n∉vs):lZ (.cV n) (IQ vs) 0=J U:=by have:=(Wq n vs 0 0).1 h;simpa[IQ]using this
def apE{n:LU}{vs:List LU}(h:n∈vs):∃i x,0<x/\lZ (.cV n) (IQ vs) 0=J (J (i,.cU r x)):=by obtain⟨i,x,a,h2⟩:=(Wq n vs 0 0).2 h;exact⟨i,x,a,by simpa[IQ]using h2⟩
def seen_app(vs:List LU)(n:LU):IQ vs++[(.cV n,.cU r ((z vs+1:Nat):Int))]=IQ (vs++[n]):=by unfold IQ;rw[List.mapIdx_append];simp
def apD(k:Nat)(vs:List LU):AO.below k (.ec (IQ vs))=eT:=by
 have h:∀(vs:List LU) (j:Nat),ae k ((vs.mapIdx λi m=>(AV.cV m,AV.cU r ((j+i+1:Nat):Int))).map (·.1))=eT/\ae k ((vs.mapIdx λi m=>(AV.cV m,AV.cU r ((j+i+1:Nat):Int))).map (·.2))=eT:=λvs=>by
  induction vs with
  |nil=>exactλj=>⟨rfl,rfl⟩
  |cons a l b=>
   intro j;rw[List.mapIdx_cons,az3,az3,ae,ae];have e:(λi m=>(AV.cV m,AV.cU r ((j+(i+1)+1:Nat):Int)))=λi m=>(AV.cV m,AV.cU r ((j+1+i+1:Nat):Int)):=by funext i m;congr 4;omega
   rw[e,(b (j+1)).1,(b (j+1)).2];exact⟨rfl,rfl⟩
 have:=h vs 0;unfold IQ;rw[AO.below];simp only[az5]at this;rw[this.1,this.2];rfl
end Go.Ev
namespace Go.Ev
open Option renaming none→U, some→J
open List renaming length→z
open Bool renaming true→eT, false→eF
open Go.IntKind renaming i64→r
set_option maxRecDepth 100000
def adK{c:Type}(p q:c->Bool):∀l:List c,(∀x∈l,p x=eT->q x=eT)->l.countP p<=l.countP q|[],_=>a06 _|x::l,h=>by have f:=adK p q l λy e=>h y (by simp[e]);have d:=h x (by simp);rw[List.countP_cons,List.countP_cons];split<;>split<;>first|omega|(rename_i a b;exact absurd (d a) b)
def asx{e:Type}(p q:e->Bool)(a:e)(f:p a=eF)(g:q a=eT):∀l:List e,(∀x∈l,p x=eT->q x=eT)->a∈l->l.countP p<l.countP q
 |[],_,c=>by cases c
 |x::l,h,c=>by
  have i:=h x (by simp);rcases az4.mp c with rfl|c;·have j:=adK p q l λy d=>h y (by simp[d]);rw[List.countP_cons,List.countP_cons,if_neg (by rw[f];decide),if_pos g];omega
  ·have j:=asx p q a f g l (λy d=>h y (by simp[d])) c;rw[List.countP_cons,List.countP_cons];split<;>split<;>first|omega|(rename_i a b;exact absurd (i a) b)
def pnd(S:SnV)(vs:List LU):Nat:=S.ax.countP λp=>vs.any λn=>decide (p.E=n++mg)
def aux(S:SnV)(vs:List LU):pnd S vs<=z S.ax:=List.countP_le_length
def ap5(S:SnV)(vs:List LU)(w:LU):pnd S vs<=pnd S (vs++[w]):=adK _ _ _ λp _ h=>by rw[List.any_append,h];rfl
def ap4{S:SnV}{vs:List LU}{w:LU}{p:nI}(c:p∈S.ax)(a:p.E=w++mg)(d:w∉vs):pnd S vs<pnd S (vs++[w]):=asx _ _ p (by
 rw[<-Bool.not_eq_true,aG9];rintro⟨n,b,h2⟩;have:=of_decide_eq_true h2;rw[a]at this;exact d (List.append_cancel_right this▸b)) (by
 rw[List.any_append];simp[a]) _ (λq _ h=>by rw[List.any_append,h];rfl) c
def MP(d:Bo)(S:SnV)(F:List bD):Prop:=bg d.K d.fs d.sc F=((S,0),F)
def MP.ext{d:Bo}{S:SnV}{F:List bD}(h:MP d S F)(X:List bD):MP d S (F++X):=by have:=IU d.K d.fs d.sc F X;rw[h]at this;exact this
def arP{f:Bo}{S:SnV}{F:List bD}(h:MP f S F)(rl:LU)(a:lJ)(ks:List PS):∃c,(dG f.K f.fs f.rc f.sc rl a ks F).2=F++c/\z c<=1/\((c=[]/\(dG f.K f.fs f.rc f.sc rl a ks F).1.2≠0)\/∃p∈S.ax,p.E=rl++mg):=by
 have q:∀p b,∃c,(xh f.K f.fs rl a ks p b F).2=F++c/\z c<=1:=λp b=>by obtain⟨c,e⟩:=ZP f.fs F (rl++mg) b;have:=UA f.fs F (rl++mg) b;rw[e,a04]at this;exact⟨c,e,by omega⟩
 unfold dG;rw[h];dsimp only;rw[if_pos rfl];cases hf:pM S rl with
 |none=>exact⟨[],by simp,by simp,.inl ⟨rfl,show(1:Int)≠0 by decide⟩⟩
 |some p=>
  obtain⟨_,d,h2⟩:=Ur hf;dsimp only;split;·obtain⟨c,e,l⟩:=q p f.rc;exact⟨c,e,l,.inr ⟨p,d,h2⟩⟩
  ·split;·exact⟨[],by simp,by simp,.inr ⟨p,d,h2⟩⟩
   ·obtain⟨c,e,l⟩:=q p p.I;exact⟨c,e,l,.inr ⟨p,d,h2⟩⟩
def aqn(ws:List Wp)(a:List fZ)(keys:List PS)(depth:Int):z (Vw ws a keys depth)<=z ws+z a:=by
 unfold Vw;rw[a04,aB0,List.length_reverse];split;·simp
 ·omega
def phi(S:SnV)(vs:List LU)(k:Nat):Nat:=(z S.ax-pnd S vs)*8193+k
def adb(R:Bo)(S:SnV)(s:∀T,z (R.go T)<=8192):∀(n:Nat) (ws:List Wp) (vs:List LU) (F:List bD),phi S vs (z ws)<n->z vs+phi S vs (z ws)<80000000->z F+(z S.ax-pnd S vs)+(if vs=[]then 1 else 0)<900000->(vs≠[]->MP R S F)->(vs=[]->(bg R.K R.fs R.sc F).1.1=S)->∃N,vK R n ws vs F=J N
 |0,ws,vs,F,q,_,_,_,_=>absurd q (aI1 _)
 |n+1,ws,vs,F,q,h2,h3,h4,h5=>by
  have k:=adb R S s n;have D:tooBig ws vs F=eF:=by unfold tooBig;unfold phi at h2;simp only[aE2,decide_eq_false_iff_not];omega
  unfold vK;rw[if_neg (by rw[D];decide)];cases B:ws.getLast? with
  |none=>exact⟨_,rfl⟩
  |some w=>
   have H:z ws=z ws.dropLast+1:=by
    cases ws with
    |nil=>cases B|cons a l=>simp
   dsimp only;by_cases b:w.E∈vs;·rw[if_pos b];exact k _ _ _ (by unfold phi at*;omega) (by unfold phi at*;omega) h3 h4 h5
   rw[if_neg b];by_cases m:R.ap<=z vs;·rw[if_pos m];exact⟨_,rfl⟩
   rw[if_neg m];by_cases o:R.ad<w.ad;·rw[if_pos o];exact⟨_,rfl⟩
   rw[if_neg o];by_cases d:vs=[]/\(bg R.K R.fs R.sc F).1.2≠0;·rw[if_pos d];exact⟨_,rfl⟩
   rw[if_neg d];obtain⟨F1,e1,s1,l1⟩:∃F1,F1=(if vs=[]then(bg R.K R.fs R.sc F).2 else F)/\MP R S F1/\z F1+(z S.ax-pnd S vs)<900000:=by
    by_cases c:vs=[]
    ·refine⟨_,rfl,?_,?_⟩;·rw[if_pos c];have:=IU R.K R.fs R.sc F [];rw[ay5]at this;unfold MP;rw[this];have y:(bg R.K R.fs R.sc F).1.2=0:=Decidable.byContradiction λh=>d ⟨c,h⟩;rw[<-h5 c,<-y]
     ·rw[if_pos c]at h3⊢;have:(bg R.K R.fs R.sc F).2.length<=z F+1:=UA _ _ _ _;omega
    ·exact⟨_,rfl,by rw[if_neg c];exact h4 c,by rw[if_neg c]at h3⊢;omega⟩
   rw[<-e1];obtain⟨x,u,K,v⟩:=arP s1 w.E w.W w.ak;generalize dG R.K R.fs R.rc R.sc w.E w.W w.ak F1=t at*;have E:=ap5 S vs w.E;have G:=aux S (vs++[w.E]);have ne:vs++[w.E]≠[]:=(by simp);have s2:MP R S t.2:=by rw[u];exact s1.ext x
   have l2:z t.2+(z S.ax-pnd S (vs++[w.E]))+(if vs++[w.E]=[]then 1 else 0)<900000:=by
    rw[if_neg ne,u,a04];rcases v with⟨rfl,_⟩|⟨p,j,i⟩;·simp only[a94];omega
    ·have:=ap4 j i b;omega
   have lv:z (vs++[w.E])=z vs+1:=(by simp);have C:=aD1 8193 (show z S.ax-pnd S (vs++[w.E])<=z S.ax-pnd S vs by omega);by_cases f:t.1.2≠0
   ·rw[if_pos f];by_cases c6:w.E≠yL/\skp t.1.2=eT;·rw[if_pos c6];exact k _ _ _ (by unfold phi at*;omega) (by unfold phi at*;omega) l2 (λ_=>s2) (λh=>absurd h ne)
    ·rw[if_neg c6];exact⟨_,rfl⟩
   ·rw[if_neg f];cases hf:R.fd t.1.1 with
    |some N=>exact⟨_,rfl⟩
    |none=>
     dsimp only;rcases v with⟨_,A⟩|⟨p,j,i⟩;·exact absurd A f
     ·have lt:=ap4 j i b;have I:=aqn ws.dropLast (R.go t.1.1) t.1.1.bj.ak (w.ad+1);have g:=s t.1.1;have e:(z S.ax-pnd S vs)*8193=(z S.ax-pnd S vs-1)*8193+8193:=by rw[<-Nat.succ_mul];congr 1;omega
      have C:=aD1 8193 (show z S.ax-pnd S (vs++[w.E])<=z S.ax-pnd S vs-1 by omega);exact k _ _ _ (by unfold phi at*;omega) (by unfold phi at*;omega) l2 (λ_=>s2) (λh=>absurd h ne)
def asA(fs:List PS)(n:LU):Option PS:=fs.find? λp=>decide (p.1=n)
def Fits(fs a:List PS)(F:List bD):Prop:=∀f∈F,asA a f.E=asA fs f.E
def Fits.b4{fs b:List PS}{F G:List bD}(h:Fits fs b G)(e:∃a,G=F++a):Fits fs b F:=λf hf=>by obtain⟨a,rfl⟩:=e;exact h f (by simp[hf])
variable{C:Ctx}
def Kcl(zs:LA)(sz bytes:Nat):KF:=⟨1,8,[(.fX 2)],(.eK (.fe [o 2 (.mv (.c .cY))])
 (.eK (.eK (.fe [m 3 0,o 4 (.e9 .eql 7 eT (.t 3) (.c .cY))])
 (.eJ (.t 4)
 (.eK (.fe [o 2 (.mv (.c .cY))])
 (.ef [2]))
 .eI))
 (.eK (.fe [o 5 (.gw zs 0 sz []),m 6 0,o 7 (.eG eF sz bytes U (.t 5) (.t 6)),m 2 7])
 (.ef [2]))))⟩
def clone_any{f:FuncId}{zs:LA}{sz bytes:Nat}(h:Has C f (Kcl zs sz bytes))(hb:bytes<=48)(w:0<sz)(s:Bq zs=eF)(n:Nat)(l:LA)(o:z l=n*sz)(d:0<n)(q:n<=1099511627776)(hs:l.all Wl=eT)(O:St)(a:Ok O):ai C f [.sl n l] O=J (.sl n l,O):=by
 have ns:=agH hs;rw[h.go (NVs.e (.cW (.sl n ns.cl) .de) _)];have c:=am0 hs;have g:¬n=0:=by omega
 have nb:n*bytes<=70368744177664:=aB9 (Nat.mul_le_mul q hb) (by decide);have ap:=λY:St=>Y9 Y U (sz:=sz) (bytes:=bytes) (n:=0) (m:=n) (l:=[]) l g (by simp) (by rw[az5];exact nb) (by omega);simp only[az5,a98]at ap;have v:l.take (n*sz)=l:=a95 (by omega);have x:∀Y,dS Y 11 l=J (l,[]):=λY=>by show aZ Y (dS Y 10) l=_;exact ns.nf _ _
 have k:∀Y:St,hand eF [.dj (z Y) 0 n sz] (Y++[.cH l FZ])=J ([.sl n l],Y++[.cH l ⟨eT,U⟩]):=λY=>by
  have p:0+n*sz<=z l:=(by omega);have:bI (Y++[.cH l FZ]) (dS (Y++[.cH l FZ]) 11) (.dj (z Y) 0 n sz)=J (.sl n l,[z Y]):=by unfold bI;grind
  rw[lF,aO,this,qY];show J ([AV.sl n l],freeze (Y++[.cH l FZ]) [z Y])=_;unfold freeze;rw[aF];show J ([AV.sl n l],freeze ((Y++[AO.cH l FZ]).set (z Y) (AO.cH l ⟨eT,U⟩)) [])=_;rw[dm];rfl
 have t:=λL=>bz a (vs:=[.sl n l]) (by rw[ae,below,ns.cl];rfl) L;have e:∀(E:As) (Y:St),look E 2=.dj (z O) 0 n sz->Y=O++[AO.cH l FZ]->mD (z O) [.fX 2] (J (.ef,E,Y))=J (.sl n l,O):=λE Y i b=>by subst b;rw[xx,show aU E (O++[AO.cH l FZ]) [.fX 2]=J [look E 2]from rfl,i];dsimp only;rw[k];dsimp only;rw[t];rfl
 generalize j:mD=u at*;simp only[Kcl,o,d,s,BX,Nat.zero_mul,c,ap,EVX,seval];rw[<-j]at*;exact e _ _ rfl rfl
def PE{C:Ctx}{f:FuncId}{K:KF}(h:Has C f K){args args':LA}{O O':St}(c:hand eF args O=J (args',O'))(a:hand eF args' O'=J (args',O'))(b:z O'=z O):ai C f args O=ai C f args' O':=by rw[h.cm,h.cm];unfold Ey;rw[c,a,b]
end Go.Ev
namespace Go.Ev
open Option renaming none→U, some→J
open List renaming length→z
open Bool renaming true→eT, false→eF
open Go.IntKind renaming i64→r
set_option maxRecDepth 100000
set_option maxHeartbeats 1000000
variable{C C1:Ctx}
def SG(ws:List WtV)(oo vo:Option Nat)(i:Nat):Prop:=oo=J i\/vo=J i\/∃w∈ws,∃a b,w.cq=J (a,b)/\(i=a\/i=b)
structure jZ(C1:Ctx)(K:Ht)(p:Rp)(O:St)(F:List bD)(po:Option Nat)(c6 m0:Nat)(S:St)(lv:AV)(ws:List WtV)(oo:Option Nat)(vv:AV)(vs:List LU)(vo:Option Nat):Prop where
 rq:Req O S p.s p.m p.F F p.oo po
 pa:(p.to F po).bh S
 pg:(p.to F po).c1 C1 K
 dn:MN S lv ws oo
 cN:S[m0]?=some (.ec (IQ vs))
 b3:abe S vv 1 sC vs vo
 bp:S[c6]?=some (.cH (jm 0 0 0 [] .cY) FZ)
 il:O.length<=c6
 me:O.length<=m0
 ne:c6≠m0
 ac:∀i,SG ws oo vo i->O.length<=i/\i≠c6/\i≠m0/\po≠some i
 vd:∀i,vo=some i->oo≠some i/\∀w∈ws,∀a b,w.cq=some (a,b)->i≠a/\i≠b
 pc:po≠some c6/\po≠some m0
 jd:∀w∈ws,w.cq=none->w.E=yL/\w.W=p.R.tg/\w.ak=p.R.ks
 hk:∀w∈ws,1<=w.ad/\w.ad<=(vs.length:Int)+1
variable{K:Ht}{p:Rp}{O S:St}{F:List bD}{po:Option Nat}{c6 m0:Nat}{lv:AV}{ws:List WtV}{oo:Option Nat}{vv:AV}{vs:List LU}{vo:Option Nat}
def SG.lt(W:jZ C1 K p O F po c6 m0 S lv ws oo vv vs vo){i:Nat}(h:SG ws oo vo i):i<z S:=by
 rcases h with h|h|⟨w,c,a,b,e,h⟩;·exact W.dn.lt h
 ·rcases W.b3 with⟨_,e,_⟩|⟨q,e,_,_,d⟩;·rw[e]at h;cases h
  ·rw[e]at h;cases h;exact(a00.mp d).1
 ·obtain⟨_,_,_,_,⟨t,h5⟩,d,h6,_⟩:=W.dn.cx w c a b e;rcases h with rfl|rfl;·exact(a00.mp h5).1
  ·exact(a00.mp h6).1
def jZ.hN(a:p.bh O)(W:jZ C1 K p O F po c6 m0 S lv ws oo vv vs vo){i:Nat}(h:(p.to F po).dg i):i<z O\/po=J i:=by
 have k:=bF.lt a;rcases h with rfl|rfl|rfl|rfl|e|e;·exact .inl k.r
 ·exact .inl k.s
 ·exact .inl k.m
 ·exact .inl k.o
 ·exact .inl (k.fo _ e)
 ·exact .inr e
def jZ.bo(a:p.bh O)(W:jZ C1 K p O F po c6 m0 S lv ws oo vv vs vo){T:St}(ok:Ok T)(d:z S<=z T)(h:∀i x,(i<z O\/po=J i\/i=c6\/i=m0\/SG ws oo vo i)->S[i]?=J x->T[i]?=J x):jZ C1 K p O F po c6 m0 T lv ws oo vv vs vo:=
 {W with
  rq:=W.rq.ab (bF.lt a).s ok d λi x hi e=>h i x (.inl hi) e
  pa:=W.pa.bo λi x hi e=>h i x ((W.hN a hi).imp id .inl) e
  dn:=W.dn.bo λi x hi e=>h i x (.inr (.inr (.inr (.inr (hi.imp id λhi=>.inr hi))))) e
  cN:=h m0 _ (.inr (.inr (.inr (.inl rfl)))) W.cN
  b3:=by
   rcases W.b3 with b|⟨q,e,c,h2,h3⟩;·exact .inl b
   ·exact .inr ⟨q,e,c,h2,h q _ (.inr (.inr (.inr (.inr (.inr (.inl e)))))) h3⟩
  bp:=h c6 _ (.inr (.inr (.inl rfl))) W.bp}
def jZ.eG(a:p.bh O)(W:jZ C1 K p O F po c6 m0 S lv ws oo vv vs vo){L:St}(ok:Ok (S++L)):jZ C1 K p O F po c6 m0 (S++L) lv ws oo vv vs vo:=
 W.bo a ok (by simp) λi x _ e=>aj e L
def jZ.oa{ws:List WtV}{w:WtV}(W:jZ C1 K p O F po c6 m0 S lv (ws++[w]) oo vv vs vo):∃q l,oo=J q/\lv=.dj q 0 (z ws+1) 3/\S[q]?=J (.cH l FZ)/\l.drop (z ws*3)=w.B++l.drop ((z ws+1)*3)/\z ws*3+3<=z l/\WOk S oo w/\jZ C1 K p O F po c6 m0 S (.dj q 0 (z ws) 3) ws oo vv vs vo:=by
 rcases W.dn.bh with⟨h,_⟩|⟨q,l,e,e1,e2,e3,e4⟩;·simp at h
 ·rw[a04,aD8]at e1 e3 e4;have fl:z (ws.flatMap WtV.B)=z ws*3:=bZ WtV.dt ws;rw[List.flatMap_append,aC7,aH8,ay5]at e4;have t1:l.take (z ws*3)=ws.flatMap WtV.B:=by have:=congrArg (List.take (z ws*3)) e4;rw[List.take_take,aF7 (by omega),List.take_left' fl]at this;exact this
  have t2:l=ws.flatMap WtV.B++(w.B++l.drop ((z ws+1)*3)):=(by rw[<-ay2,<-e4,List.take_append_drop]);have b:∀i,SG ws oo vo i->SG (ws++[w]) oo vo i:=λi h=>h.imp id λh=>h.imp id λ⟨x,a,h⟩=>⟨x,by simp[a],h⟩
  refine⟨q,l,e,e1,e2,?_,by omega,W.dn.cx w (by simp),{W with
   dn:=⟨.inr ⟨q,l,e,rfl,e2,by omega,t1⟩,λx a=>W.dn.cx x (by simp[a])⟩
   ac:=λi h=>W.ac i (b i h)
   vd:=λi h=>⟨(W.vd i h).1,λx a=>(W.vd i h).2 x (by simp[a])⟩
   jd:=λx a=>W.jd x (by simp[a])
   hk:=λx a=>W.hk x (by simp[a])}⟩
  conv=>lhs;rw[t2]
  rw[List.drop_left' fl]
def jZ.mA (a:p.bh O) (W:jZ C1 K p O F po c6 m0 S lv ws oo vv vs vo) (s:z vs<100000000) (n:LU):
  ∃T,tX S 1 16 U vv 1 [.cV n]=J (.dj (z S) 0 (z vs+1) 1,T)/\T[m0]?=J (.ec (IQ vs))/\z T=z S+1/\(∀i x,vo≠J i->S[i]?=J x->T[i]?=J x)/\jZ C1 K p O F po c6 m0 (T.set m0 (.ec (IQ (vs++[n])))) lv ws oo (.dj (z S) 0 (z vs+1) 1) (vs++[n]) (J (z S)):=by
 obtain⟨T,a1,l1,n1,f,g⟩:=aes (c:=sC) (sz:=1) (bytes:=16) W.rq.ok (λ_=>rfl) (λ_=>rfl) W.b3 (by omega) (by omega) n;have j:∀i,(i<z O\/po=J i\/i=c6\/i=m0\/oo=J i\/∃w∈ws,∃a b,w.cq=J (a,b)/\(i=a\/i=b))->vo≠J i:=λi h e=>by
  obtain⟨o,h2,h3,h4⟩:=W.ac i (.inr (.inl e));obtain⟨h5,h6⟩:=W.vd i e;rcases h with h|h|h|h|h|⟨w,q,x,y,e1,h⟩;·omega
  ·exact h4 h
  ·exact h2 h
  ·exact h3 h
  ·exact h5 h
  ·obtain⟨l,m⟩:=h6 w q x y e1;rcases h with h|h;·exact l h
   ·exact m h
 have sm:=f m0 _ (j m0 (.inr (.inr (.inr (.inl rfl))))) W.cN;have keep:∀i x,(i<z O\/po=J i\/i=c6\/oo=J i\/∃w∈ws,∃a b,w.cq=J (a,b)/\(i=a\/i=b))->S[i]?=J x->(T.set m0 (.ec (IQ (vs++[n]))))[i]?=J x:=λi x h e=>by
  refine aG (f i x (j i ?_) e) ?_ _
  ·rcases h with h|h|h|h|h;·exact .inl h
   ·exact .inr (.inl h)
   ·exact .inr (.inr (.inl h))
   ·exact .inr (.inr (.inr (.inr (.inl h))))
   ·exact .inr (.inr (.inr (.inr (.inr h))))
  ·intro k;subst k;rcases h with h|h|h|h|h;·have:=W.me;omega
   ·exact W.pc.2 h
   ·exact W.ne h.symm
   ·exact(W.ac _ (.inl h)).2.2.1 rfl
   ·exact(W.ac _ (.inr (.inr h))).2.2.1 rfl
 have ml:m0<z S:=(a00.mp W.cN).1;have cl:c6<z S:=(a00.mp W.bp).1;refine⟨T,a1,sm,l1,f,{W with
  rq:=W.rq.ab (bF.lt a).s (Ok.bd g m0 (apD _ _)) (by rw[a96,l1];omega) λi x hi e=>keep i x (.inl hi) e
  pa:=W.pa.bo λi x hi e=>keep i x ((W.hN a hi).imp id .inl) e
  dn:=W.dn.bo λi x hi e=>keep i x (.inr (.inr (.inr hi))) e
  cN:=aX sm _
  b3:=.inr ⟨z S,rfl,by simp,by simp,aG n1 (by omega) _⟩
  bp:=keep c6 _ (.inr (.inr (.inl rfl))) W.bp
  ac:=λi h=>?_
  vd:=λi h=>?_
  hk:=λx d=>by have:=W.hk x d;simp;omega}⟩
 ·rcases h with h|h|h;·exact W.ac i (.inl h)
  ·cases h;refine⟨W.rq.dt,by omega,by omega,λe=>?_⟩;have:=Rp.lt W.pa (i:=z S) (.inr (.inr (.inr (.inr (.inr e)))));omega
  ·exact W.ac i (.inr (.inr h))
 ·cases h;refine⟨λe=>by have:=W.dn.lt e;omega,λx d y N e=>?_⟩;have o:=SG.lt W (.inr (.inr ⟨x,d,y,N,e,.inl rfl⟩));have h2:=SG.lt W (.inr (.inr ⟨x,d,y,N,e,.inr rfl⟩));omega
def jZ.hO(a:p.bh O)(W:jZ C1 K p O F po c6 m0 S lv ws oo vv vs vo){T:St}{F2:List bD}{d:Option Nat}(b:bF T p.h p.l p.R p.bm p.rc p.sc p.nm p.fs F2 p.r p.s p.m p.o p.fo d)(q:Req S T p.s p.m F F2 po d)(g:(p.to F2 d).c1 C1 K):jZ C1 K p O F2 d c6 m0 T lv ws oo vv vs vo:=by
 have k:=bF.lt a;have keep:∀i x,(i=c6\/i=m0\/SG ws oo vo i)->S[i]?=J x->T[i]?=J x:=λi x h e=>by
  have hi:z O<=i/\po≠J i:=by
   rcases h with rfl|rfl|h;·exact⟨W.il,W.pc.1⟩
   ·exact⟨W.me,W.pc.2⟩
   ·exact⟨(W.ac i h).1,(W.ac i h).2.2.2⟩
  exact q.bv i x (by have:=k.s;omega) (by have:=k.m;omega) hi.2 e
 have c:∀i,i<z S->po≠J i->d≠J i:=λi hi h e=>by
  rcases q.eN i e with e|e;·exact h e
  ·omega
 have ml:m0<z S:=(a00.mp W.cN).1;have cl:c6<z S:=(a00.mp W.bp).1;exact{W with
  rq:=W.rq.N q k.s (bF.st a).sm
  pa:=b
  pg:=g
  dn:=W.dn.bo λi x hi e=>keep i x (.inr (.inr (hi.imp id λhi=>.inr hi))) e
  cN:=keep m0 _ (.inr (.inl rfl)) W.cN
  b3:=by
   rcases W.b3 with j|⟨f,e,l,h2,h3⟩;·exact .inl j
   ·exact .inr ⟨f,e,l,h2,keep f _ (.inr (.inr (.inr (.inl e)))) h3⟩
  bp:=keep c6 _ (.inl rfl) W.bp
  ac:=λi h=>⟨(W.ac i h).1,(W.ac i h).2.1,(W.ac i h).2.2.1,c i (SG.lt W h) (W.ac i h).2.2.2⟩
  pc:=⟨c c6 cl W.pc.1,c m0 ml W.pc.2⟩}
def jZ.ih(a:p.bh O)(W:jZ C1 K p O F po c6 m0 S lv ws oo vv vs vo){T:St}{k:AV}{d:List WtV}{j:Option Nat}(ok:Ok T)(L:MN T k d j)(A:z S<=z T)(keep:∀i x,oo≠J i->S[i]?=J x->T[i]?=J x)(o:∀q,j=J q->oo=J q\/z S<=q)(m:∀w∈d,w∈ws\/∃a b,w.cq=J (a,b)/\z S<=a/\z S<=b)(v:∀w∈d,1<=w.ad/\w.ad<=(z vs:Int)+1):jZ C1 K p O F po c6 m0 T k d j vv vs vo:=by
 have ml:m0<z S:=(a00.mp W.cN).1;have cl:c6<z S:=(a00.mp W.bp).1;have B:=W.rq.dt;have pl:∀i,z S<=i->po≠J i:=λi hi e=>by have:=Rp.lt W.pa (i:=i) (.inr (.inr (.inr (.inr (.inr e)))));omega
 have s:∀i,vo=J i->i<z S:=λi e=>SG.lt W (.inr (.inl e));exact{W with
  rq:=W.rq.ab (bF.lt a).s ok A λi x hi e=>keep i x (λc=>by have:=(W.ac i (.inl c)).1;omega) e
  pa:=W.pa.bo λi x hi e=>keep i x (λc=>by
   rcases W.hN a hi with h|h;·have:=(W.ac i (.inl c)).1;omega
   ·exact(W.ac i (.inl c)).2.2.2 h) e
  dn:=L
  cN:=keep m0 _ (λe=>(W.ac m0 (.inl e)).2.2.1 rfl) W.cN
  b3:=by
   rcases W.b3 with l|⟨n,e,f,h2,h3⟩;·exact .inl l
   ·exact .inr ⟨n,e,f,h2,keep n _ (W.vd n e).1 h3⟩
  bp:=keep c6 _ (λe=>(W.ac c6 (.inl e)).2.1 rfl) W.bp
  ac:=λi h=>by
   rcases h with h|h|⟨w,h,x,y,e,l⟩
   ·rcases o i h with h|h;·exact W.ac i (.inl h)
    ·exact⟨by omega,by omega,by omega,pl i h⟩
   ·exact W.ac i (.inr (.inl h))
   ·rcases m w h with h|⟨t,u,c,f,h2⟩;·exact W.ac i (.inr (.inr ⟨w,h,x,y,e,l⟩))
    ·rw[e]at c;cases c;have:z S<=i:=(by rcases l with rfl|rfl<;>assumption);exact⟨by omega,by omega,by omega,pl i this⟩
  vd:=λi h=>⟨λe=>by
   rcases o i e with e|e;·exact(W.vd i h).1 e
   ·have:=s i h;omega,λw g x y e=>by
   rcases m w g with f|⟨t,u,c,f,h2⟩;·exact(W.vd i h).2 w f x y e
   ·rw[e]at c;cases c;have:=s i h;omega⟩
  jd:=λw g e=>by
   rcases m w g with f|⟨t,u,c,_⟩;·exact W.jd w f e
   ·rw[e]at c;cases c
  hk:=v}
set_option maxHeartbeats 2000000
def aeX (H:SrcHas C C1) (a:p.bh O) (W:jZ C1 K p O F po c6 m0 S lv ws oo vv vs vo) (m:z F<950000) {w:WtV} (d:WOk S oo w) (l:w.cq=U->w.E=yL/\w.W=p.R.tg/\w.ak=p.R.ks) (t:(fB×Int)×List bD) (e:dG K p.fs p.rc p.sc w.E w.W w.ak F=t):
  ∃S' b f args,(∀Y,Ic C w.fn [.c8 p.r 0] Y=J (.fh f args Y))/\ai C f args S=J (.df [.da t.1.1.B,.cU .u8 t.1.2],S')/\jZ C1 K p O t.2 b c6 m0 S' lv ws oo vv vs vo/\Req S S' p.s p.m F t.2 po b:=by
 have g:uy w.W.O->Cm w.ak->∀b,(p.to t.2 b).c1 C1 K:=λj k b=>by
  refine⟨W.pg.cc,?_,?_⟩;·show CJ p.fs t.2;rw[<-e];exact(agC W.pg.cc.g2 W.pg.cc.am W.pg.gk p.rc p.sc _ _ _ j k).2.1
  ·show QI t.2;rw[<-e];exact aiC W.pg.hy K p.fs p.rc p.sc _ _ _
 cases c:w.cq with
 |none=>obtain⟨i,h2,h3⟩:=l c;have h:=g (by rw[h2];exact W.pg.cc.dv.tg) (by rw[h3];exact W.pg.cc.dv.ks);rw[i,h2,h3]at e;obtain⟨S',b,q1,q2,q3⟩:=ahr H.kS W.pg.cc W.pg.gk W.rq.ok W.pa (by show z F+1<_;omega);change ai C lI [.c8 p.r 0] S=J (.df [.da (dG K p.fs p.rc p.sc yL p.R.tg p.R.ks F).1.1.B,.cU .u8 (dG K p.fs p.rc p.sc yL p.R.tg p.R.ks F).1.2],S')at q1;change bF S' p.h p.l p.R p.bm p.rc p.sc p.nm p.fs (dG K p.fs p.rc p.sc yL p.R.tg p.R.ks F).2 p.r p.s p.m p.o p.fo b at q2;change Req S S' p.s p.m F (dG K p.fs p.rc p.sc yL p.R.tg p.R.ks F).2 po b at q3;rw[e]at q1 q2 q3;refine⟨S',b,_,_,λY=>by unfold WtV.fn;rw[c];exact jH _ _ _ _ _,q1,W.hO a q2 q3 (h b),q3⟩
 |some x=>obtain⟨x,y⟩:=x;obtain⟨S',b,q1,q2,q3⟩:=aqm H W.pg W.rq.ok W.pa (by show z F+1<_;omega) c d;change ai C oP [.c8 p.r 0,.c8 x 0,.c8 y 0] S=J (.df [.da (dG K p.fs p.rc p.sc w.E w.W w.ak F).1.1.B,.cU .u8 (dG K p.fs p.rc p.sc w.E w.W w.ak F).1.2],S')at q1;change bF S' p.h p.l p.R p.bm p.rc p.sc p.nm p.fs (dG K p.fs p.rc p.sc w.E w.W w.ak F).2 p.r p.s p.m p.o p.fo b at q2;change Req S S' p.s p.m F (dG K p.fs p.rc p.sc w.E w.W w.ak F).2 po b at q3;rw[e]at q1 q2 q3;refine⟨S',b,_,_,λY=>by unfold WtV.fn;rw[c];exact jH _ _ _ _ _,q1,W.hO a q2 q3 (g (d x y c).2.2.1 (d x y c).2.2.2.1 b),q3⟩
structure aqC(C:Ctx)(path:LU)(z:Bo)(P:fB->Prop):Prop where
 go:∀T,P T->(∀s∈z.go T,uy s.W.O)/\(z.go T).length<=8192/\Cm T.bj.ak/\∀O,Ok O->ai C jC [.da T.bj.B,.cV path] O=some (.sl (z.go T).length ((z.go T).flatMap fZ.B),O)
 fd:∀T,P T->(∀r,z.fd T=some r->Gf r)/\∀O,Ok O->ai C vz [.da T.B,.cV path] O=some (.df [.da ((z.fd T).getD nN),.cX (z.fd T).isSome],O)
 ro:∀p a ks d s,d.length<=LB->P (z.K.ro p a ks d s).1
 aa:P LJ
def Fin(p:Rp)(O:St)(F:List bD)(po:Option Nat)(cs:LA)(S:St)(x:jY):Prop:=∃T,hand eF [.da cs] S=J ([.da x.B],T)/\Req O T p.s p.m p.F F p.oo po/\(p.to F po).bh T
def anw{v:AV}{l:LA}{fs:List Nat}{n:Nat}(k y c:Int)(f:LU){rec':LA}(hr:Gf rec')(h:bI S (dS S 11) v=J (.sl n l,fs)):aZ S (dS S 11) [.da (.cU .u8 k::.cU .u8 y::.cU .u8 c::.cV f::(rec'++[v]))]=J ([.da (.cU .u8 k::.cU .u8 y::.cU .u8 c::.cV f::(rec'++[.sl n l]))],fs):=by
 have e:∀rs:LA,NVs rs->aZ S (dS S 11) (rs++[v])=J (rs++[.sl n l],fs):=λrs=>by
  induction rs with
  |nil=>intro _;rw[a98,aO,h,qY];simp|cons x rs d=>intro a;rw[a09,aO,(a x (by simp)).nf,d λy b=>a y (by simp[b])];rfl
 simp only[aO,bG,VY,aae,e rec' hr.af,qY];simp
def jZ.dy(a:p.bh O)(W:jZ C1 K p O F po c6 m0 S lv ws oo vv vs vo)(cs:LA)(hb:ae (z S) cs=eT)(x:jY)(d:x.b3=vs)(c:∀(T:St) (l:LA) (fs:List Nat) (n:Nat),bI T (dS T 11) vv=J (.sl n l,fs)->aZ T (dS T 11) [.da cs]=J ([.da (.cU .u8 x.fj::.cU .u8 x.jf::.cU .u8 x.e6::.cV x.b6::(x.du++[.sl n l]))],fs)):Fin p O F po cs (S.set c6 (.cH cs FZ)) x:=by
 have k:=bF.lt a;have b:Ok (S.set c6 (.cH cs FZ)):=Ok.bd W.rq.ok c6 (by rw[AO.below];exact hb);have keep:∀i y,i≠c6->S[i]?=J y->(S.set c6 (.cH cs FZ))[i]?=J y:=λi y h e=>aG e h _;have pn:∀i,(p.to F po).dg i->i≠c6:=λi h e=>by
  rcases W.hN a h with h|h;·have:=W.il;omega
  ·rw[e]at h;exact W.pc.1 h
 have q1:Req O (S.set c6 (.cH cs FZ)) p.s p.m p.F F p.oo po:=W.rq.ab k.s b (by simp) λi y hi e=>keep i y (by have:=W.il;omega) e;have a1:(p.to F po).bh (S.set c6 (.cH cs FZ)):=W.pa.bo λi y h e=>keep i y (pn i h) e;obtain⟨kind,why,cause,role,rec',vis⟩:=x;dsimp only at d c;subst d;rcases W.b3 with⟨rfl,_,rfl⟩|⟨q,e1,e2,rfl,e4⟩;·refine⟨_,?_,q1,a1⟩;rw[lF,c _ [] [] 0 (dO _ _)];rfl
 ·have qn:=W.ac q (.inr (.inl e1));have e5:=keep q _ qn.2.1 e4;have nv:NVs (vis.flatMap sC):=λv hv=>by obtain⟨s,_,hs⟩:=aG2.mp hv;simp only[sC,aB2]at hs;subst hs;exact .cV _
  have f:AO.below (z (S.set c6 (.cH cs FZ))) (.cH (vis.flatMap sC) ⟨eT,U⟩)=eT:=AO.au (a99 _) _ (by rw[AO.below];exact nv.cl);refine⟨(S.set c6 (.cH cs FZ)).set q (.cH (vis.flatMap sC) ⟨eT,U⟩),?_,q1.ab k.s (Ok.bd b q f) (by simp) λi y hi e=>aG e (by omega) _,a1.bo λi y h e=>aG e (λg=>?_) _⟩;·rw[lF,c _ (vis.flatMap sC) [q] (z vis) (G8 e5 (bZ Ob vis) nv),<-tu e5];rfl
  ·rw[g]at h;rcases W.hN a h with h|h;·omega
   ·exact qn.2.2.2 h
end Go.Ev
namespace Go.Ev
open Option renaming none→U, some→J
open List renaming length→z
open Bool renaming true→eT, false→eF
open Go.IntKind renaming i64→r
set_option maxRecDepth 100000
set_option maxHeartbeats 4000000
variable{C C1:Ctx}
def cutV(O:St)(s h:AV):Option Out:=match s,h with|.dj o 0 n 3,.cU _ k=>if 0<=k/\k.toNat<=n then J (.ew (.dj o 0 k.toNat 3) O)else U|_,_=>U
def BP{C:Ctx}{av:XA->AV}{n0:Nat}{O:St}{x h:XA}(hs:(cutV O (av x) (av h)).isSome=eT):aB C av n0 O (.hQ 3 x U (J h) U)=cutV O (av x) (av h):=by
 unfold cutV at*;split at hs
 ·rename_i o n k i e1 e2;split at hs;·next c=>obtain⟨m,rfl⟩:∃m:Nat,i=m:=⟨i.toNat,by omega⟩;rw[a88]at*;simp only[aB,e1,e2,iR,qK,Option.map_none,az2];simp[c.2]
  ·cases hs
 ·cases hs
def cw:(∀l,AV.cH (.da l)=l)/\(∀k n,AV.cH (.cU k n)=[.cU k n])/\(∀s,AV.cH (.cV s)=[.cV s])/\AV.cH .cY=[.cY]/\∀Y q o n s,bP Y 1 (.dj q o n s)=J n:=⟨λ_=>rfl,λ_ _=>rfl,λ_=>rfl,rfl,λ_ _ _ _ _=>rfl⟩
def fw:(∀k n,AV.C (.cU k n)=eT)/\(∀s,AV.C (.cV s)=eT)/\AV.C .cY=eT/\(∀f x y,AV.C (.ea f x y)=eT)/\(∀q o n s,AV.C (.dj q o n s)=eT)/\∀n l,AV.C (.sl n l)=eT:=⟨λ_ _=>rfl,λ_=>rfl,rfl,λ_ _ _=>rfl,λ_ _ _ _=>rfl,λ_ _=>rfl⟩
def WOk.bk{S T:St}{oo:Option Nat}{w:WtV}(h:WOk S oo w)(c:∀a b,w.cq=J (a,b)->∀i x,(i=a\/i=b)->S[i]?=J x->T[i]?=J x):WOk T oo w:=λa b e=>by obtain⟨f,h2,h3,h4,⟨t,h5⟩,d,h6,h7⟩:=h a b e;exact⟨f,h2,h3,h4,⟨t,c a b e a _ (.inl rfl) h5⟩,d,c a b e b _ (.inr rfl) h6,h7⟩
def jZ.hE {K:Ht} {p:Rp} {O S:St} {F:List bD} {po:Option Nat} {c6 m0:Nat} {lv:AV} {ws:List WtV} {oo:Option Nat} {vv:AV} {vs:List LU} {vo:Option Nat} (d:Has C uH xY) (a:p.bh O) (W:jZ C1 K p O F po c6 m0 S lv ws oo vv vs vo) (c:Int) (f:LU):
  ∃T,ai C uH [.cU .u8 c,.cV f,vv] S=J (.da (jY.B ⟨3,4,c,f,nN,vs⟩),T)/\T[c6]?=J (.cH (jm 0 0 0 [] .cY) FZ)/\Fin p O F po (jY.B ⟨3,4,c,f,nN,vs⟩) (T.set c6 (.cH (jY.B ⟨3,4,c,f,nN,vs⟩) FZ)) ⟨3,4,c,f,nN,vs⟩:=by
 have k:=bF.lt a;have nv:=jY.af ⟨3,4,c,f,nN,vs⟩ uw.af;have pn:∀i,(p.to F po).dg i->i≠c6:=λi h e=>by
  rcases W.hN a h with h|h;·have:=W.il;omega
  ·rw[e]at h;exact W.pc.1 h
 have fin:∀T:St,Ok T->z S<=z T->(∀i x,(i<z O\/(p.to F po).dg i)->S[i]?=J x->T[i]?=J x)->Fin p O F po (jY.B ⟨3,4,c,f,nN,vs⟩) (T.set c6 (.cH (jY.B ⟨3,4,c,f,nN,vs⟩) FZ)) ⟨3,4,c,f,nN,vs⟩:=λT ok n j=>by have g:Ok (T.set c6 (.cH (jY.B ⟨3,4,c,f,nN,vs⟩) FZ)):=Ok.bd ok c6 (AO.au (a99 _) _ (by rw[AO.below];exact nv.cl));exact⟨_,(NVs.cW (.da nv) .de).e _,W.rq.ab k.s g (by rw[a96];exact n) λi x hi e=>aG (j i x (.inl hi) e) (by have:=W.il;omega) _,W.pa.bo λi x h e=>aG (j i x (.inr h) e) (pn i h) _⟩
 rcases W.b3 with⟨rfl,_,rfl⟩|⟨q,e1,e2,rfl,e4⟩;·exact⟨S,(PE d (args':=[.cU .u8 c,.cV f,.sl 0 []]) rfl rfl rfl).trans (ahz d c f [] W.rq.ok),W.bp,fin S W.rq.ok (a06 _) λ_ _ _ e=>e⟩
 ·have qn:=W.ac q (.inr (.inl e1));have l:NVs (vs.flatMap sC):=λv hv=>by obtain⟨s,_,hs⟩:=aG2.mp hv;simp only[sC,aB2]at hs;subst hs;exact .cV _
  have b:Ok (S.set q (.cH (vs.flatMap sC) ⟨eT,U⟩)):=Ok.bd W.rq.ok q (AO.au (a99 _) _ (by rw[AO.below];exact l.cl));have o:hand eF [.cU .u8 c,.cV f,.dj q 0 (z vs) 1] S=J ([.cU .u8 c,.cV f,.sl (z vs) (vs.flatMap sC)],S.set q (.cH (vs.flatMap sC) ⟨eT,U⟩)):=by rw[lF,aO,VY,aO,aae,aO,G8 e4 (bZ Ob vs) l,qY,<-tu e4];rfl
  refine⟨_,(PE d o (NVs.e (.cW (.cU _ _) (.cW (.cV _) (.cW (nz vs) .de))) _) (by simp)).trans (ahz d c f vs b),aG W.bp (by omega) _,fin _ b (by simp) λi x h e=>aG e (λm=>?_) _⟩;subst m;rcases h with h|h;·omega
  ·rcases W.hN a h with h|h;·omega
   ·exact qn.2.2.2 h
def arO{P:fB->Prop}{K:Ht}{fs:List PS}(hr:∀p a ks d s,z d<=LB->P (K.ro p a ks d s).1)(e:P LJ)(g:ED fs){F:List bD}(c:CJ fs F){C h l R now}(i:Jn C h l R now K)(rc sc:Int)(rl:LU)(f:lJ)(ks:List PS):P (dG K fs rc sc rl f ks F).1.1:=by
 obtain⟨s1,s2,s3⟩:=JP i g c sc;have q:∀p b,P (xh K fs rl f ks p b (bg K fs sc F).2).1.1:=λp b=>hr _ _ _ _ _ (Jy g s2 _ _);unfold dG;dsimp only;split
 ·split;·exact e
  ·split;·exact q _ _
   ·split;·exact e
    ·exact q _ _
 ·exact e
def amd (H:SrcHas C C1) {K:Ht} {p:Rp} {O:St} (a:p.bh O) (path:LU) (dx:Bo) (zK:dx.K=K) (zf:dx.fs=p.fs) (zr:dx.rc=p.rc) (zs:dx.sc=p.sc) {P:fB->Prop} (Oq:aqC C path dx P) (c6 m0:Nat):
  ∀(n:Nat) (S:St) (F:List bD) (po:Option Nat) (lv:AV) (ws:List WtV) (oo:Option Nat) (vv:AV) (vs:List LU) (vo:Option Nat) (x:jY) (F':List bD),jZ C1 K p O F po c6 m0 S lv ws oo vv vs vo->vK dx n (ws.map WtV.p) vs F=J (x,F')->
  ∃(S':St) (R:Option Nat),(p.to F' R).c1 C1 K/\NVs x.du/\
   ((∃aL bp be bk,aH C (ai C) 130 [0,1,6,7,8,9,10,11] aV [(0,.c8 p.r 0),(1,.cV path),(6,.c8 c6 0),(7,.cU r dx.ap),(8,.cU r dx.ad),(9,.ec m0),(10,vv),(11,lv)] S=J (.dq 0,[(6,.c8 c6 0),(10,aL)],S')/\x=⟨2,0,0,[],nN,x.b3⟩/\jZ C1 K p O F' R c6 m0 S' be [] bk aL x.b3 bp)\/
    (∃cs,z cs=12/\aH C (ai C) 130 [0,1,6,7,8,9,10,11] aV [(0,.c8 p.r 0),(1,.cV path),(6,.c8 c6 0),(7,.cU r dx.ap),(8,.cU r dx.ad),(9,.ec m0),(10,vv),(11,lv)] S=J (.ef,[(6,.c8 c6 0)],S')/\S'[c6]?=J (.cH cs FZ)/\Fin p O F' R cs S' x)):=by
 intro n
 induction n with
 |zero=>intro S F po lv ws oo vv vs vo x F' W h;cases h
 |succ n ih=>
  intro S F po lv ws oo vv vs vo x F' W h;rw[vK]at h;split at h;·cases h
  rename_i big;simp only[tooBig,aB4,decide_eq_true_eq,not_or,Nat.not_le,aB0]at big;obtain⟨b1,b2,b3⟩:=big;rcases List.eq_nil_or_concat ws with rfl|⟨init,w,rfl⟩
  ·
   simp only[List.map_nil,List.getLast?_nil,a05,ay8]at h;obtain⟨rfl,rfl⟩:=h;refine⟨S,po,W.pg,uw.af,.inl ⟨vv,vo,lv,oo,?_,rfl,W⟩⟩;have hl:bP S 1 lv=J 0:=(by rcases W.dn.bh with⟨_,_,rfl⟩|⟨q,l,_,rfl,_⟩<;>rfl);rw[aA (he:=rfl)];simp only[aV,hl,EVX,seval]
  rw[List.concat_eq_append]at*;rw[List.map_append,az3,List.map_nil,List.getLast?_concat,List.dropLast_concat]at h;dsimp only at h;obtain⟨q,l,e1,rfl,hq,V,hl,hw,W1⟩:=W.oa;have lS:=W.rq.dt;have dw:=W.hk w (by simp);have tw:=W.jd w (by simp);obtain⟨ff,fx,fy,ay⟩:∃ff fx fy,w.fn=.ea ff fx fy:=by unfold WtV.fn;split<;>exact⟨_,_,_,rfl⟩
  have wc:w.B=[.cV w.E,.cU r w.ad,.ea ff fx fy]:=by rw[<-ay];rfl
  have wb:=WtV.ay hw;have bj:Ok (S++[.cH w.B FZ]):=W.rq.ok.ce (by rw[AO.below];exact aK (aI2 _) _ wb);have Ww:=W1.eG a bj;have A:IntKind.i64.wrap (((z init+1:Nat):Int)-1)=(z init:Int):=(show IntKind.i64.wrap (((z init+1:Nat):Int)-1)=((z init+1:Nat):Int)-1 from wrE (by simp at b2;omega)).trans (by omega);have m:(0:Int)<((z init+1:Nat):Int):=(by omega);have i0:(0:Int)<=(z init:Int):=(by omega);have i1:z init<z init+1:=(by omega);have i2:z init<=z init+1:=(by omega);have s:¬(z init=0/\(0:Nat)≠0):=λh=>h.2 rfl;have b:=λL=>aj W.cN L;have x12:=λL=>aF S (.cH [.cV w.E,.cU r w.ad,.ea ff fx fy] FZ::L);by_cases hs:w.E∈vs
  ·
   rw[if_pos (show w.p.E∈vs from hs)]at h;obtain⟨i,y,hy,hf⟩:=apE hs;obtain⟨S',R,g,gr,dv⟩:=ih _ F po _ init oo vv vs vo x F' Ww h;rw[aA (he:=rfl)];rw[wc]at V dv;refine⟨S',R,g,gr,?_⟩;generalize hk:aH C (ai C) 130 [0,1,6,7,8,9,10,11] aV=kk at dv⊢;simp only[aV,hq,V,A,m,i0,i1,i2,s,b,x12,mapOf,hf,hy,bP,aF,dm,AV.cH,AV.C,splice,BP,cutV,a88,Option.isSome_some,EVX,seval];exact dv
  rw[if_neg (show¬w.p.E∈vs from hs)]at h;have hf:=arW hs;have vc:vv.cH=[vv]/\vv.C=eT/\(∀Y,bP Y 1 vv=J (z vs))/\∀k,z S<=k->below k vv=eT:=by
   rcases W.b3 with⟨h1,_,rfl⟩|⟨q',_,_,rfl,e⟩;·subst h1;exact⟨rfl,rfl,λ_=>rfl,λ_ _=>rfl⟩
   ·refine⟨rfl,rfl,λ_=>rfl,λk hk=>?_⟩;have:=(a00.mp e).1;simp only[below,decide_eq_true_eq];omega
  obtain⟨vc,vf,vl,vb⟩:=vc;have an:=W.bp;unfold jm at an;have aU:=λL=>aj an L;have bw:∀k y c dv,ae (z (S++[AO.cH w.B FZ])) (jm k y c dv vv)=eT:=λk y c dv=>by have:=vb (z (S++[AO.cH w.B FZ])) (by simp);simp only[jm,ae,below,this,az9]
  by_cases hr:dx.ap<=(z vs:Int)
  ·
   rw[if_pos hr]at h;simp only[a05,ay8]at h;obtain⟨rfl,rfl⟩:=h;refine⟨_,po,W.pg,uw.af,.inr ⟨jm 3 2 0 [] vv,rfl,?_,aX (aj W.bp _) _,Ww.dy a _ (bw _ _ _ _) ⟨3,2,0,[],nN,vs⟩ rfl λT l fs n h=>N7 _ _ _ _ h⟩⟩;rw[aA (he:=rfl)];rw[wc]at V⊢;unfold jm;simp only[aV,hq,V,A,m,i0,i1,i2,s,b,x12,mapOf,hf,vl,vc,vf,hr,aU,cw,fw,aF,dm,splice,BP,cutV,a88,Option.isSome_some,EVX,seval]
  by_cases o:dx.ad<w.ad
  ·
   rw[if_neg hr,if_pos (show dx.ad<w.p.ad from o)]at h;simp only[a05,ay8]at h;obtain⟨rfl,rfl⟩:=h;refine⟨_,po,W.pg,uw.af,.inr ⟨jm 3 3 0 [] vv,rfl,?_,aX (aj W.bp _) _,Ww.dy a _ (bw _ _ _ _) ⟨3,3,0,[],nN,vs⟩ rfl λT l fs n h=>N7 _ _ _ _ h⟩⟩;rw[aA (he:=rfl)];rw[wc]at V⊢;unfold jm;simp only[aV,hq,V,A,m,i0,i1,i2,s,b,x12,mapOf,hf,vl,vc,vf,hr,o,aU,cw,fw,aF,dm,splice,BP,cutV,a88,Option.isSome_some,EVX,seval]
  rw[if_neg hr,if_neg (show¬dx.ad<w.p.ad from o)]at h;have bd:z (S++[AO.cH w.B FZ])=z S+1:=(by simp);obtain⟨T,a1,tm,lT,k1,W3⟩:=Ww.mA a (by omega) w.E;rw[bd]at a1 W3 lT;have vn:vo≠J (z S):=λe=>by have:=SG.lt W (.inr (.inl e));omega
  have mS:m0<z S:=(a00.mp W.cN).1;have pS:po≠J (z S):=λe=>by have:=Rp.lt W.pa (i:=z S) (.inr (.inr (.inr (.inr (.inr e)))));omega
  have B:T[z S]?=J (.cH w.B FZ):=k1 _ _ vn (by rw[aF];rfl);obtain⟨S3,j⟩:∃S3,T.set m0 (.ec (IQ (vs++[w.E])))=S3:=⟨_,rfl⟩;rw[j]at W3;have d:S3[z S]?=J (.cH w.B FZ):=j▸aG B (by omega) _;have bx:z S3=z S+2:=(by rw[<-j,a96,lT]);have ak:∀x y,w.cq=J (x,y)->∀i,(i=x\/i=y)->z O<=i/\i≠m0/\po≠J i/\vo≠J i/\i<z S:=λx y e i hi=>by
   have ow:SG (init++[w]) oo vo i:=.inr (.inr ⟨w,by simp,x,y,e,hi⟩);have h1:=W.ac i ow;refine⟨h1.1,h1.2.2.1,h1.2.2.2,λe'=>?_,SG.lt W ow⟩;obtain⟨h2,h3⟩:=(W.vd i e').2 w (by simp) x y e;rcases hi with hi|hi;·exact h2 hi
   ·exact h3 hi
  have az:WOk S3 oo w:=hw.bk λx y e i v hi h=>by obtain⟨_,c2,c3,c4,_⟩:=ak x y e i hi;exact j▸aG (k1 i v c4 (aj h _)) c2 _
  have sa:=seen_app vs w.E;have bB:¬((z vs:Int)+1=1)↔vs≠[]:=by
   constructor;·intro h e;subst e;exact h rfl
   ·intro h e;exact h (List.length_eq_zero_iff.mp (by omega))
  have ax:IntKind.i64.wrap (w.ad+1)=w.ad+1:=wrE (by omega);have Z:=bF.lt a;rw[zK,zf,zr,zs]at h;have D:=λL=>aj d L;have bE:=wc;rw[wc]at V d B D a1;have E:(((z vs+1:Nat):Int)==1)=decide (vs=[]):=by
   by_cases c:vs=[];·subst c;rfl
   ·have:z vs≠0:=λh=>c (List.length_eq_zero_iff.mp h);simp[c];omega
  by_cases ab:vs=[]/\(bg K p.fs p.sc F).1.2≠0
  ·rw[if_pos ab]at h;simp only[a05,ay8]at h;obtain⟨rfl,rfl⟩:=h;obtain⟨N,o4,s1,s2,s3⟩:=WO H.kS W3.pg.cc W3.pg.gk W3.rq.ok W3.pa (by show z F<_;omega);change ai C gK [.c8 p.r 0] S3=J (.df [.da (bg K p.fs p.sc F).1.1.B,.cU .u8 (bg K p.fs p.sc F).1.2],N)at s1;change bF N p.h p.l p.R p.bm p.rc p.sc p.nm p.fs (bg K p.fs p.sc F).2 p.r p.s p.m p.o p.fo o4 at s2;change Req S3 N p.s p.m F (bg K p.fs p.sc F).2 po o4 at s3;obtain⟨_,n2,_⟩:=JP W.pg.cc.g2 W.pg.cc.am W.pg.gk p.sc;have g4:(p.to (bg K p.fs p.sc F).2 o4).c1 C1 K:=⟨W.pg.cc,n2,RZ W.pg.hy K p.fs p.sc⟩;have W4:=W3.hO a s2 s3 g4;obtain⟨v0,c0⟩:=ab;have X:((bg K p.fs p.sc F).1.2 !=0)=eT:=(by simpa using c0);generalize bg K p.fs p.sc F=sp at*;obtain⟨⟨sv,sc⟩,F1⟩:=sp;dsimp only at*;have sb:AO.below 0 (.cH sv.B FZ)=eT:=sv.af.cl;have W5:=W4.eG a (s3.ok.H (L:=[.cH sv.B FZ]) (by rw[a07,sb];rfl));obtain⟨T2,y1,y2,y3⟩:=W5.hE H.hE a sc Hl;unfold jm at y2;have x4:N[z S]?=J (.cH [.cV w.E,.cU r w.ad,.ea ff fx fy] FZ):=s3.bv _ _ (by have:=Z.s;omega) (by have:=Z.m;omega) pS d;have G:=λL=>aj x4 L;have bA:sv.B=[.cU r sv.bL,.cU r sv.bw,.sl (z sv.ax) (sv.ax.flatMap nI.B)]:=rfl;refine⟨_,o4,g4,uw.af,.inr ⟨_,rfl,?_,aX y2 _,y3⟩⟩;rw[aA (he:=rfl)];unfold Hl at y1⊢;have aD:(((z vs+1:Nat):Int)==1)=eT:=by rw[E];simp[v0]
   unfold jY.B nN at y1⊢;simp only[aV,hq,V,A,m,i0,i1,i2,s,b,x12,mapOf,hf,vl,vc,vf,hr,o,a1,sa,j,d,tm,B,D,aD,s1,X,y1,y2,SnV.dt,SnV.fl,aU,cw,fw,aF,dm,aN,fF,splice,BP,cutV,a88,Option.isSome_some,EVX,seval]
  rw[if_neg ab]at h;obtain ⟨S5,F1,o5,W5,f1,ba,x5,w5,l5,fs⟩:∃(S5:St) (F1:List bD) (o5:Option Nat),jZ C1 K p O F1 o5 c6 m0 S5 (.dj q 0 (z init) 3) init oo (.dj (z S+1) 0 (z vs+1) 1) (vs++[w.E]) (J (z S+1))/\(if vs=[]then(bg K p.fs p.sc F).2 else F)=F1/\z F1<950000/\S5[z S]?=J (.cH [.cV w.E,.cU r w.ad,.ea ff fx fy] FZ)/\WOk S5 oo w/\(z S<z S5/\o5≠J (z S))/\
    ((decide (vs=[])=eF/\S5=S3)\/(decide (vs=[])=eT/\∃(N:St) (sv:SnV),ai C gK [.c8 p.r 0] S3=J (.df [.da sv.B,.cU .u8 0],N)/\S5=N++[.cH sv.B FZ]/\N[z S]?=J (.cH [.cV w.E,.cU r w.ad,.ea ff fx fy] FZ))):=by
   by_cases v0:vs=[]
   ·have c0:(bg K p.fs p.sc F).1.2=0:=aG5 λh=>ab ⟨v0,h⟩;obtain⟨N,o4,s1,s2,s3⟩:=WO H.kS W3.pg.cc W3.pg.gk W3.rq.ok W3.pa (by show z F<_;omega);change ai C gK [.c8 p.r 0] S3=J (.df [.da (bg K p.fs p.sc F).1.1.B,.cU .u8 (bg K p.fs p.sc F).1.2],N)at s1;change bF N p.h p.l p.R p.bm p.rc p.sc p.nm p.fs (bg K p.fs p.sc F).2 p.r p.s p.m p.o p.fo o4 at s2;change Req S3 N p.s p.m F (bg K p.fs p.sc F).2 po o4 at s3;obtain⟨_,n2,n3⟩:=JP W.pg.cc.g2 W.pg.cc.am W.pg.gk p.sc;change(bg K p.fs p.sc F).2.length<=z F+1 at n3;have g4:(p.to (bg K p.fs p.sc F).2 o4).c1 C1 K:=⟨W.pg.cc,n2,RZ W.pg.hy K p.fs p.sc⟩;have W4:=W3.hO a s2 s3 g4;have sb:AO.below 0 (.cH (bg K p.fs p.sc F).1.1.B FZ)=eT:=(bg K p.fs p.sc F).1.1.af.cl;have x4:N[z S]?=J (.cH [.cV w.E,.cU r w.ad,.ea ff fx fy] FZ):=s3.bv _ _ (by have:=Z.s;omega) (by have:=Z.m;omega) pS d;have w4:WOk N oo w:=az.bk λx y e i v hi h=>by obtain⟨c1,c2,c3,c4,_⟩:=ak x y e i hi;exact s3.bv i v (by have:=Z.s;omega) (by have:=Z.m;omega) c3 h
    have l4:=s3.dt;rw[c0]at s1;exact⟨_,_,o4,W4.eG a (s3.ok.H (L:=[.cH (bg K p.fs p.sc F).1.1.B FZ]) (by rw[a07,sb];rfl)),if_pos v0,by omega,aj x4 _,w4.bk (λx y e i v hi h=>aj h _),⟨by simp;omega,λe=>by
     rcases s3.eN _ e with e|e;·exact pS e
     ·omega⟩,.inr ⟨decide_eq_true v0,N,_,s1,rfl,x4⟩⟩
   ·exact⟨S3,F,po,W3,if_neg v0,by omega,d,az,⟨by omega,pS⟩,.inl ⟨decide_eq_false v0,rfl⟩⟩
  rw[f1]at h;have pt:=arO (P:=P) (by rw[<-zK];exact Oq.ro) Oq.aa W5.pg.cc.am W5.pg.gk W5.pg.cc.g2 p.rc p.sc w.E w.W w.ak
  change P (dG K p.fs p.rc p.sc w.E w.W w.ak F1).1.1 at pt;change(let t:=dG K p.fs p.rc p.sc w.E w.W w.ak F1
   if t.1.2≠0 then(if w.E≠yL/\skp t.1.2=eT then vK dx n (init.map WtV.p) (vs++[w.E]) t.2 else J (⟨3,4,t.1.2,w.E,nN,vs++[w.E]⟩,t.2))
   else match dx.fd t.1.1 with|J dv=>J (⟨1,0,0,[],dv,vs++[w.E]⟩,t.2)|U=>vK dx n (Vw (init.map WtV.p) (dx.go t.1.1) t.1.1.bj.ak (w.ad+1)) (vs++[w.E]) t.2)=J (x,F')at h
  obtain⟨t,ht⟩:∃t,dG K p.fs p.rc p.sc w.E w.W w.ak F1=t:=⟨_,rfl⟩;obtain⟨S6,o6,f,args,cv,r1,W6,q6⟩:=aeX H a W5 ba w5 tw t ht;rw[ht]at h pt;rw[ay]at cv;obtain⟨⟨tv,cz⟩,F2⟩:=t;dsimp only at*;have x6:S6[z S]?=J (.cH [.cV w.E,.cU r w.ad,.ea ff fx fy] FZ):=q6.bv _ _ (by have:=Z.s;omega) (by have:=Z.m;omega) l5.2 x5;have M:=λL=>aj x6 L;have I:=λL=>aj x5 L;have tb:=Td tv;have af:Ok (S6++[.cH tv.B FZ]):=q6.ok.H (by rw[a07,tb];rfl);have W7:=W6.eG a af;have aa:∀tv:fB,splice [.cU r 0,.cU r 0,.cY,.cY,.cY,.cU r 0,.cY,.cU r 0,.cV []] 0 tv.B=tv.B:=λ_=>rfl;have ad:∀tv:SnV,splice [.cU r 0,.cU r 0,.cY] 0 tv.B=tv.B:=λ_=>rfl;by_cases c0:cz≠0
  ·rw[if_pos c0]at h;have X:(cz !=0)=eT:=(by simpa using c0);have ac:=as3 H.eI cz (S6++[.cH tv.B FZ]);by_cases sk:w.E≠yL/\skp cz=eT
   ·
    rw[if_pos sk]at h;obtain⟨S',R,g,gr,dv⟩:=ih _ F2 o6 _ init oo _ (vs++[w.E]) _ x F' W7 h;refine⟨S',R,g,gr,?_⟩;have nt:¬w.E=[116,97,114,103,101,116,115]:=sk.1;rw[sk.2]at ac;rw[aA (he:=rfl)];generalize hk:aH C (ai C) 130 [0,1,6,7,8,9,10,11] aV=kk at dv⊢;rcases fs with⟨v1,rfl⟩|⟨v1,N,sv,s1,rfl,x4⟩;·simp only[aV,hq,V,A,m,i0,i1,i2,s,b,x12,mapOf,hf,vl,vc,vf,hr,o,a1,sa,j,d,tm,B,D,E,v1,cv,r1,x6,M,x5,I,aa,fB.dt,fB.fl,X,nt,ac,aU,cw,fw,aF,dm,aN,fF,splice,BP,cutV,a88,Option.isSome_some,EVX,seval];exact dv
    ·have G:=λL=>aj x4 L;simp only[aV,hq,V,A,m,i0,i1,i2,s,b,x12,mapOf,hf,vl,vc,vf,hr,o,a1,sa,j,d,tm,B,D,E,v1,s1,cv,r1,x6,M,I,x4,G,aa,ad,SnV.dt,SnV.fl,fB.dt,fB.fl,bne_self_eq_false,X,nt,ac,aU,cw,fw,aF,dm,aN,fF,splice,BP,cutV,a88,Option.isSome_some,EVX,seval];exact dv
   ·
    rw[if_neg sk]at h;simp only[a05,ay8]at h;obtain⟨rfl,rfl⟩:=h;obtain⟨T2,y1,y2,y3⟩:=W7.hE H.hE a cz w.E;unfold jm at y2;refine⟨_,o6,W6.pg,uw.af,.inr ⟨_,rfl,?_,aX y2 _,y3⟩⟩;rw[aA (he:=rfl)];unfold jY.B nN at y1⊢;by_cases nt:w.E=[116,97,114,103,101,116,115]
    ·have aE:decide (w.E=[116,97,114,103,101,116,115])=eT:=decide_eq_true nt;rcases fs with⟨v1,rfl⟩|⟨v1,N,sv,s1,rfl,x4⟩;·simp only[aV,hq,V,A,m,i0,i1,i2,s,b,x12,mapOf,hf,vl,vc,vf,hr,o,a1,sa,j,d,tm,B,D,E,v1,cv,r1,x6,M,x5,I,aa,fB.dt,fB.fl,X,aE,y1,y2,aU,cw,fw,aF,dm,aN,fF,splice,BP,cutV,a88,Option.isSome_some,EVX,seval]
     ·have G:=λL=>aj x4 L;simp only[aV,hq,V,A,m,i0,i1,i2,s,b,x12,mapOf,hf,vl,vc,vf,hr,o,a1,sa,j,d,tm,B,D,E,v1,s1,cv,r1,x6,M,I,x4,G,aa,ad,SnV.dt,SnV.fl,fB.dt,fB.fl,bne_self_eq_false,X,aE,y1,y2,aU,cw,fw,aF,dm,aN,fF,splice,BP,cutV,a88,Option.isSome_some,EVX,seval]
    ·have ns:skp cz=eF:=by
      cases e:skp cz;·rfl
      ·exact absurd ⟨nt,e⟩ sk
     rw[ns]at ac;rcases fs with⟨v1,rfl⟩|⟨v1,N,sv,s1,rfl,x4⟩;·simp only[aV,hq,V,A,m,i0,i1,i2,s,b,x12,mapOf,hf,vl,vc,vf,hr,o,a1,sa,j,d,tm,B,D,E,v1,cv,r1,x6,M,x5,I,aa,fB.dt,fB.fl,X,nt,ac,y1,y2,aU,cw,fw,aF,dm,aN,fF,splice,BP,cutV,a88,Option.isSome_some,EVX,seval]
     ·have G:=λL=>aj x4 L;simp only[aV,hq,V,A,m,i0,i1,i2,s,b,x12,mapOf,hf,vl,vc,vf,hr,o,a1,sa,j,d,tm,B,D,E,v1,s1,cv,r1,x6,M,I,x4,G,aa,ad,SnV.dt,SnV.fl,fB.dt,fB.fl,bne_self_eq_false,X,nt,ac,y1,y2,aU,cw,fw,aF,dm,aN,fF,splice,BP,cutV,a88,Option.isSome_some,EVX,seval]
  ·rw[if_neg c0]at h;have c0:cz=0:=aG5 c0;subst c0;obtain⟨bh,of2⟩:=Oq.fd tv pt;have fq:=of2 _ af;have x7:(S6++[AO.cH tv.B FZ])[z S6]?=J (.cH tv.B FZ):=by rw[aF];rfl
   cases aq:dx.fd tv with
   |some dv=>
    rw[aq]at h fq;simp only[a05,ay8]at h;obtain⟨rfl,rfl⟩:=h;have ro:=bh dv aq;obtain⟨d0,d1,d2,d3,d4,d5,d6,rfl⟩:∃d0 d1 d2 d3 d4 d5 d6,dv=[d0,d1,d2,d3,d4,d5,d6]:=by
     have hl:=ro.dt
     match dv,hl with
     |[d0,d1,d2,d3,d4,d5,d6],_=>exact⟨d0,d1,d2,d3,d4,d5,d6,rfl⟩
    have rb:ae 0 [d0,d1,d2,d3,d4,d5,d6]=eT:=ro.af.cl;have ah:Ok ((S6++[.cH tv.B FZ])++[.cH [d0,d1,d2,d3,d4,d5,d6] FZ]):=af.H (by rw[a07,AO.below,rb];rfl);have W8:=W7.eG a ah;have f7:=ro.C;simp only[a07,az6,aA5,a01]at f7;obtain⟨g0,g1,g2,g3,g4,g5,g6⟩:=f7;have bv:=l5.1;have l6:=q6.dt;have bo:below (z ((S6++[AO.cH tv.B FZ])++[AO.cH [d0,d1,d2,d3,d4,d5,d6] FZ])) (.dj (z S+1) 0 (z vs+1) 1)=eT:=by simp only[below,decide_eq_true_eq,a04,a90,a94];omega
    have aR:ae (z ((S6++[AO.cH tv.B FZ])++[AO.cH [d0,d1,d2,d3,d4,d5,d6] FZ])) (.cU .u8 1::.cU .u8 0::.cU .u8 0::.cV []::([d0,d1,d2,d3,d4,d5,d6]++[.dj (z S+1) 0 (z vs+1) 1]))=eT:=by
     have h0:∀(n:Nat) (l:LA),ae n (.cU .u8 1::.cU .u8 0::.cU .u8 0::.cV []::l)=ae n l:=λn l=>by simp only[ae,below,aA6]
     rw[h0,Tc _ _ _ (aK (a99 _) _ rb),ae,bo];rfl
    have Q:=W8.bp;have fin:=W8.dy a _ aR ⟨1,0,0,[],[d0,d1,d2,d3,d4,d5,d6],vs++[w.E]⟩ rfl λT l fs n h=>anw 1 0 0 [] ro h;rw[ay2]at Q fin;unfold jm at Q;refine⟨_,o6,W6.pg,ro.af,.inr ⟨_,rfl,?_,aX Q _,fin⟩⟩;rw[aA (he:=rfl)];simp only[aD7,Option.isSome_some]at fq;simp only[a09,a98]at Q⊢;rcases fs with⟨v1,rfl⟩|⟨v1,N,sv,s1,rfl,x4⟩;·simp only[aV,hq,V,A,m,i0,i1,i2,s,b,x12,mapOf,hf,vl,vc,vf,hr,o,a1,sa,j,d,tm,B,D,E,v1,cv,r1,x6,M,x5,I,aa,fB.dt,fB.tk,fB.fl,fq,x7,Q,g0,g1,g2,g3,g4,g5,g6,aU,cw,fw,aF,dm,aN,fF,splice,BP,cutV,a88,Option.isSome_some,EVX,seval]
    ·have G:=λL=>aj x4 L;simp only[aV,hq,V,A,m,i0,i1,i2,s,b,x12,mapOf,hf,vl,vc,vf,hr,o,a1,sa,j,d,tm,B,D,E,v1,s1,cv,r1,x6,M,I,x4,G,aa,ad,SnV.dt,SnV.fl,fB.dt,fB.tk,fB.fl,bne_self_eq_false,fq,x7,Q,g0,g1,g2,g3,g4,g5,g6,aU,cw,fw,aF,dm,aN,fF,splice,BP,cutV,a88,Option.isSome_some,EVX,seval]
   |none=>
    rw[aq]at h fq;dsimp only at h;obtain⟨gs,gn,gd,gg⟩:=Oq.go tv pt;have ah:Ok ((S6++[.cH tv.B FZ])++[.cH nN FZ]):=af.H rfl;have W8:=W7.eG a ah;simp only[a04,a90,a94,aB0]at b2;obtain⟨aD,aM,bm,S9,y1,y2,y3,y4,y5,y6,y7,y8⟩:=ass H path tv.bj gd (dx.go tv) gs gn gg (w.ad+1) ah W8.dn (by omega);have al:(z (vs++[w.E]):Int)=(z vs:Int)+1:=(by simp);have bb:∀v∈aM,1<=v.ad/\v.ad<=(z (vs++[w.E]):Int)+1:=λv hv=>by
     have hm:v.p∈Vw (init.map WtV.p) (dx.go tv) tv.bj.ak (w.ad+1):=by rw[<-y4];exact List.mem_map_of_mem hv
     have e:v.ad=v.p.ad:=rfl;rw[e];rcases aD3.mp hm with hm|hm
     ·split at hm;·cases hm
      ·obtain⟨u,hu,e⟩:=aC1.mp hm;rw[<-e];have:=W.hk u (by simp[hu]);show 1<=u.ad/\u.ad<=_;rw[al];omega
     ·obtain⟨u,hu,e⟩:=aC1.mp hm;rw[<-e];show 1<=w.ad+1/\w.ad+1<=_;rw[al];omega
    have W9:=W8.ih a y2 y3 y5 y6 y7 y8 bb;rw[<-y4]at h;obtain⟨S',R,g,gr,dv⟩:=ih _ F2 o6 _ aM bm _ (vs++[w.E]) _ x F' W9 h;refine⟨S',R,g,gr,?_⟩;simp only[Option.getD_none,Option.isSome_none]at fq;rw[ay2]at y1;have tc:tv.B=[.cU r tv.bL,.cU r tv.bw,.sl (z tv.br) (tv.br.flatMap TgV.B),.sl (z tv.bj.ak) (tv.bj.ak.flatMap pC),.sl (z tv.bj.ap) (tv.bj.ap.flatMap RoV.B),.cU r tv.bj.cp,tC tv.bj.O,.cU r tv.bj.dd,.cV tv.bj.b4]:=rfl;have dc:tv.bj.B=[.sl (z tv.bj.ak) (tv.bj.ak.flatMap pC),.sl (z tv.bj.ap) (tv.bj.ap.flatMap RoV.B),.cU r tv.bj.cp,tC tv.bj.O,.cU r tv.bj.dd,.cV tv.bj.b4]:=rfl;unfold tC at tc dc;have au:=λL:St=>aF S6 (.cH tv.B FZ::L);rw[dc]at y1;rw[tc]at y1 r1 fq x7 au;unfold nN at y1 fq;simp only[a09,a98]at y1;rw[aA (he:=rfl)];generalize hk:aH C (ai C) 130 [0,1,6,7,8,9,10,11] aV=kk at dv⊢;rcases fs with⟨v1,rfl⟩|⟨v1,N,sv,s1,rfl,x4⟩;·simp only[aV,hq,V,A,m,i0,i1,i2,s,b,x12,mapOf,hf,vl,vc,vf,hr,o,a1,sa,j,d,tm,B,D,E,v1,cv,r1,x6,M,x5,I,fq,x7,au,ax,y1,aU,cw,fw,aF,dm,aN,fF,splice,BP,cutV,a88,Option.isSome_some,EVX,seval];exact dv
    ·have G:=λL=>aj x4 L;simp only[aV,hq,V,A,m,i0,i1,i2,s,b,x12,mapOf,hf,vl,vc,vf,hr,o,a1,sa,j,d,tm,B,D,E,v1,s1,cv,r1,x6,M,I,x4,G,ad,SnV.dt,SnV.fl,bne_self_eq_false,fq,x7,au,ax,y1,aU,cw,fw,aF,dm,aN,fF,splice,BP,cutV,a88,Option.isSome_some,EVX,seval];exact dv
def U9:LU:=[114,111,111,116]
structure QH where
 ap:Int
 ad:Int
 rc:Int
 sc:Int
def QH.B(b:QH):LA:=[.cU r b.ap,.cU r b.ad,.cU r b.rc,.cU r b.sc]
def Rx(a:Int):Int:=if 0>a then 0 else a
def Vh(K:Ht)(p:Rp)(b:QH)(go:fB->List fZ)(fd:fB->Option LA):Bo:=⟨K,p.fs,p.rc,p.sc,Rx b.ap,Rx b.ad,go,fd⟩
def aq3(R:lN):Wp:=⟨yL,1,R.tg,R.ks,eT⟩
def JQ(a:Bool)(R:lN)(now:Int)(d:Bo)(n:Nat)(F:List bD):Option (jY×List bD):=
 if a=eF then J (⟨2,0,0,[],nN,[]⟩,F)
 else if R.bw<=now then J (⟨3,4,10,U9,nN,[]⟩,F)
 else vK d n [aq3 R] [] F
def aiB{C:Ctx}(b:Has C mZ qp)(he:Has C yR yN){p:Rp}{S:St}(e:Ok S)(a:p.bh S):ai C yR [.c8 p.r 0] S=J (.cX (decide (p.R.bw<=p.bm)),S):=by
 have d:hand eF [.c8 p.r 0] S=J ([.c8 p.r 0],S):=rfl;have mk:=Py b a;have rp:=bF.rp a;unfold Eu lN.B at rp;rw[he.go d];by_cases c:p.R.bw<=p.bm;·simp only[yN,mk,rp,c,bi,a09,a98,EVX,seval]
 ·simp only[yN,mk,rp,c,bi,a09,a98,EVX,seval]
structure SchHas(C C1:Ctx):Prop extends SrcHas C C1 where
 kp:Has C oO wo
 bw:∀{p:Rp} {S:St},Ok S->p.bh S->ai C yR [.c8 p.r 0] S=some (.cX (decide (p.R.bw<=p.bm)),S)
def ape{O:St}(k y c:Int)(d:LU):hand eF [.da (jm k y c d .cY)] O=J ([.da (jY.B ⟨k,y,c,d,nN,[]⟩)],O):=by rw[lF,N7 k y c d (dO _ _)];rfl
def am1 (H:SchHas C C1) {K:Ht} {p:Rp} (g:p.c1 C1 K) {S:St} (t:Ok S) (a:p.bh S) (path:LU) (E:Bool) (F:∀O,ai C xE [.cV path] O=J (.cX E,O)) (b:QH) (go:fB->List fZ) (fd:fB->Option LA) {P:fB->Prop} (Oq:aqC C path (Vh K p b go fd) P) (n:Nat) (x:jY) (v:List bD) (h:JQ E p.R p.bm (Vh K p b go fd) n p.F=J (x,v)):
  ∃(S':St) (m:Option Nat),ai C oO [.c8 p.r 0,.cV path,.da b.B] S=J (.da x.B,S')/\Stp S S' p (p.to v m)/\(p.to v m).c1 C1 K:=by
 have hn:hand eF [.c8 p.r 0,.cV path,.da b.B] S=J ([.c8 p.r 0,.cV path,.da b.B],S):=adX (.cW (.cV _) (.cW (.da (.cW (.cU _ _) (.cW (.cU _ _) (.cW (.cU _ _) (.cW (.cU _ _) .de))))) .de)) p.r 0 S;have ad:p.to p.F p.oo=p:=rfl;have D:Ok (S++[.cH b.B FZ,.cH (jm 0 0 0 [] .cY) FZ]):=t.H rfl;rw[H.kp.go hn];unfold JQ at h;cases E;·simp only[if_true,a05,ay8]at h;obtain⟨rfl,rfl⟩:=h;have nv:=jY.af ⟨2,0,0,[],nN,[]⟩ uw.af;have G:=λL=>bz t (vs:=[.da (jY.B ⟨2,0,0,[],nN,[]⟩)]) (by rw[ae,below,nv.cl];rfl) L;refine⟨S,p.oo,?_,Stp.ah t a,g⟩;have rh:=ape (O:=S++[.cH b.B FZ,.cH (jm 2 0 0 [] .cY) FZ]) 2 0 0 [];generalize A:mD=N;unfold QH.B jm at*;simp only[wo,F,aF,dm,aN,fF,AV.cH,AV.C,splice,EVX,seval];rw[<-A];refine(vO (vs:=[.da (jm 2 0 0 [] .cY)]) ?_ rh).trans (by rw[G];rfl);simp only[aU,aN,jm,EVX,seval]
 rw[if_neg (by decide)]at h;have ex:=λL (hL:Ok (S++L))=>H.bw hL (Rp.eG a L);have f:=ex _ D;by_cases e:p.R.bw<=p.bm;·rw[if_pos e]at h;simp only[a05,ay8]at h;obtain⟨rfl,rfl⟩:=h;rw[decide_eq_true e]at f;have nv:=jY.af ⟨3,4,10,U9,nN,[]⟩ uw.af;have G:=λL=>bz t (vs:=[.da (jY.B ⟨3,4,10,U9,nN,[]⟩)]) (by rw[ae,below,nv.cl];rfl) L;refine⟨S,p.oo,?_,Stp.ah t a,g⟩;have R:=(PE H.hE (args:=[.cU .u8 10,.cV U9,.cY]) (args':=[.cU .u8 10,.cV U9,.sl 0 []]) (O:=S++[.cH b.B FZ,.cH (jm 0 0 0 [] .cY) FZ]) (O':=S++[.cH b.B FZ,.cH (jm 0 0 0 [] .cY) FZ]) rfl rfl rfl).trans (ahz H.hE 10 U9 [] D);generalize A:mD=N;have rc:jY.B ⟨3,4,10,U9,nN,[]⟩=[.cU .u8 3,.cU .u8 4,.cU .u8 10,.cV U9,.cU r 0,.sl 0 [],.cU .u8 0,.cU r 0,.cV [],.sl 0 [],.sl 0 [],.sl 0 []]:=rfl;rw[rc]at R G nv⊢;unfold QH.B jm U9 at*;simp only[wo,F,f,R,aF,dm,aN,fF,AV.cH,AV.C,splice,EVX,seval];rw[<-A];refine(Fj (vs:=[.da [.cU .u8 3,.cU .u8 4,.cU .u8 10,.cV [114,111,111,116],.cU r 0,.sl 0 [],.cU .u8 0,.cU r 0,.cV [],.sl 0 [],.sl 0 [],.sl 0 []]]) ?_ (.cW (.da nv) .de)).trans (by rw[G];rfl);simp only[aU,aN,EVX,seval]
 rw[if_neg e]at h;rw[decide_eq_false e]at f;have k:=bF.lt a;obtain⟨u,o⟩:∃u:WtV,u=⟨yL,1,p.R.tg,p.R.ks,U⟩:=⟨_,rfl⟩;have q:u.B=[.cV [116,97,114,103,101,116,115],.cU r 1,.ea (.func lI) [] []]:=by rw[o];rfl
 have ok0:Ok (S++[.cH b.B FZ,.cH (jm 0 0 0 [] .cY) FZ,.ec [],.cH u.B FZ]):=t.H (by rw[q];rfl)
 have W0:jZ C1 K p S p.F p.oo (z S+1) (z S+2) (S++[.cH b.B FZ,.cH (jm 0 0 0 [] .cY) FZ,.ec [],.cH u.B FZ]) (.dj (z S+3) 0 1 3) [u] (J (z S+3)) .cY [] U:=
  {rq:=(Req.ah t _ _ _ _).ab k.s ok0 (by simp) λi x _ e=>aj e _
   pa:=a.eG _
   pg:=g
   dn:=⟨.inr ⟨z S+3,u.B,rfl,rfl,by rw[aN];rfl,by rw[q];exact a06 3,by simp[q]⟩,λw B x y e=>by
    rw[aB2.mp B,o]at e;cases e⟩
   cN:=by rw[aN];rfl
   b3:=.inl ⟨rfl,rfl,rfl⟩
   bp:=by rw[aN];rfl
   il:=by omega
   me:=by omega
   ne:=by omega
   ac:=λi h=>by
    have pl:∀j,z S<=j->p.oo≠J j:=λj hj e=>by have:=k.oo _ e;omega
    rcases h with h|h|⟨w,B,x,y,e,_⟩;·cases h;exact⟨by omega,by omega,by omega,pl _ (by omega)⟩
    ·cases h
    ·rw[aB2.mp B,o]at e;cases e
   vd:=λi h=>by cases h
   pc:=⟨λe=>by have:=k.oo _ e;omega,λe=>by have:=k.oo _ e;omega⟩
   jd:=λw B _=>by rw[aB2.mp B,o];exact⟨rfl,rfl,rfl⟩
   hk:=λw B=>by rw[aB2.mp B,o];exact⟨aG1 _,by simp⟩}
 have h':vK (Vh K p b go fd) n ([u].map WtV.p) [] p.F=J (x,v):=by rw[o];exact h
 obtain⟨S',m,V,gr,du⟩:=amd H.toSrcHas a path (Vh K p b go fd) rfl rfl rfl rfl Oq (z S+1) (z S+2) n _ _ _ _ _ _ _ _ _ x v W0 h';have nv:=jY.af x gr;have done:∀(cs:LA) (c:St),Fin p S v m cs c x->∃(s:St),Stp S s p (p.to v m)/\∃T,hand eF [.da cs] c=J ([.da x.B],T)/\tidy (z S) [.da x.B] T=s:=λcs c ⟨T,Y,h2,h3⟩=>by obtain⟨s,t1,t2,t3⟩:=h2.dy t a h3 [.da x.B] (by rw[ae,below,nv.cl];rfl);exact⟨s,Req.ot t3 t2,T,Y,t1⟩
 unfold jm at D f du;have Z:∀(k l:IntKind) (a:Int),Yz eT (.cU k a) (.cU l 0)=J (.cU k (Rx a)):=λ_ _ _=>rfl;have zr:(Vh K p b go fd).ap=Rx b.ap:=rfl;have zd:(Vh K p b go fd).ad=Rx b.ad:=rfl;rw[zr,zd,q]at du;have bc:b.B=[.cU r b.ap,.cU r b.ad,.cU r b.rc,.cU r b.sc]:=rfl;rw[bc]at du f⊢;rcases du with⟨d,af,ab,ac,r1,r2,W⟩|⟨cs,M,r1,r2,r3⟩
 ·have Q:d.cH=[d]/\d.C=eT/\below (z S') d=eT:=by
   rcases W.b3 with⟨Y,_,e⟩|⟨q',_,_,e,e'⟩;·rw[e];exact⟨rfl,rfl,rfl⟩
   ·have:=(a00.mp e').1;rw[e];exact⟨rfl,rfl,by simp only[below,decide_eq_true_eq];omega⟩
  obtain⟨Q,vf,vb⟩:=Q;have bs:ae (z S') (jm 2 0 0 [] d)=eT:=(by simp only[jm,ae,below,vb,az9]);obtain⟨s,s1,T,s2,s3⟩:=done _ _ (W.dy a (jm 2 0 0 [] d) bs x rfl λT l fs n h=>by rw[r2];exact N7 _ _ _ _ h);refine⟨s,m,?_,s1,V⟩;have res:=W.bp;have aa:=(a00.mp res).1;have X:=aX res (.cH (jm 2 0 0 [] d) FZ);generalize A:mD=N;unfold jm at res s2 X;simp only[wo,F,f,Z,r1,res,Q,vf,Bq,BX,cw,fw,aF,dm,aN,fF,splice,EVX,seval];rw[<-A];refine(vO (vs:=[.da [.cU .u8 2,.cU .u8 0,.cU .u8 0,.cV [],.cU r 0,.cY,.cU .u8 0,.cU r 0,.cV [],.cY,.cY,d]]) ?_ s2).trans (by rw[s3];rfl);simp only[aU,X,EVX,seval]
 ·obtain⟨s,s1,T,s2,s3⟩:=done _ _ r3;refine⟨s,m,?_,s1,V⟩;generalize A:mD=N;simp only[wo,F,f,Z,r1,Bq,BX,cw,fw,aF,dm,aN,fF,splice,EVX,seval];rw[<-A];have tk:cs.take 12=cs:=a95 (by omega);refine(vO (vs:=[.da cs]) ?_ s2).trans (by rw[s3];rfl);simp only[aU,r2,M,tk,EVX,seval]
end Go.Ev
namespace Go.Ev
open Option renaming none→U, some→J
open List renaming length→z
open Bool renaming true→eT, false→eF
open Go.IntKind renaming i64→r
set_option maxRecDepth 100000
def amc(j:Bo)(b:∀T,z (j.go T)<=8192)(a:Bool)(R:lN)(now:Int)(F:List bD)(c:z F<=800000)(d:(bg j.K j.fs j.sc F).1.1.ax.length<=8192):∃n i,JQ a R now j n F=J i:=by
 refine⟨phi (bg j.K j.fs j.sc F).1.1 [] 1+1,?_⟩;unfold JQ;cases a;·exact⟨_,if_pos rfl⟩
 rw[if_neg (by decide)];by_cases e:R.bw<=now;·exact⟨_,if_pos e⟩
 rw[if_neg e];have m:(bg j.K j.fs j.sc F).1.1.ax.length-pnd (bg j.K j.fs j.sc F).1.1 []<=8192:=by omega
 have f:=aD1 8193 m;exact adb j _ b _ [aq3 R] [] F (aH0 _) (by unfold phi;simp only[a90,a94]at*;omega) (by rw[if_pos rfl];omega) (λh=>absurd rfl h) λ_=>rfl
def ab6(f:Bo):∀(n:Nat) (ws:List Wp) (vs:List LU) (F:List bD) (x:jY) (a:List bD),vK f n ws vs F=J (x,a)->∃L,x.b3=vs++L
 |0,ws,vs,F,x,a,h=>by cases h
 |n+1,ws,vs,F,x,a,h=>by
  have b:=ab6 f n;unfold vK at h;by_cases c:tooBig ws vs F=eT;·rw[if_pos c]at h;cases h
  rw[if_neg c]at h;cases d:ws.getLast? with
  |none=>rw[d]at h;cases h;exact⟨[],by simp⟩
  |some w=>
   rw[d]at h;dsimp only at h;generalize dG f.K f.fs f.rc f.sc w.E w.W w.ak (if vs=[]then(bg f.K f.fs f.sc F).2 else F)=t at h;split at h;·exact b _ _ _ _ _ h
   split at h;·cases h;exact⟨[],by simp⟩
   split at h;·cases h;exact⟨[],by simp⟩
   split at h;·cases h;exact⟨_,rfl⟩
   split at h
   ·split at h;·obtain⟨L,e⟩:=b _ _ _ _ _ h;exact⟨_,by rw[e,ay2]⟩
    ·cases h;exact⟨_,rfl⟩
   ·split at h;·cases h;exact⟨_,rfl⟩
    ·obtain⟨L,e⟩:=b _ _ _ _ _ h;exact⟨_,by rw[e,ay2]⟩
variable{C:Ctx}
structure ams(C:Ctx):Prop where
 fI:Has C uF uz
 nu:Has C qO kU
 m5:Has C Gv qF
def Xp(c:Bc)(path:LU):Bool:=VV c.nm c.am c.fs||(xK c.l||decide ((z path:Int)>1000))
def ak2(H:ams C)(c:Bc)(path:LU)(O:St)(a:Ok O):ai C Gv [.da c.B,.cV path] O=J (.cX (Xp c path),O):=by
 rw[H.m5.go (NVs.e (.cW (.da c.af) (.cW (.cV _) .de)) _)];have cb:AO.below 0 (.cH c.B FZ)=eT:=c.af.cl;have e:Ok (O++[.cH c.B FZ]):=a.H (by rw[a07,cb];rfl);have d:∀b L,tidy (z O) [.cX b] (O++L)=O:=λb L=>bz a rfl L;have q1:=X7 H.fI c.nm c.am c.fs _ e;have q2:=Rt H.nu c.l (O++[.cH c.B FZ]);have ce:c.B=[.cV c.nm,.cV c.am,.sl (z c.fs) (c.fs.flatMap pC),.cX c.h,WF c.l,.cU r c.bm,.cU r c.b0,.cU r c.b1,.cU r c.rc,.cU r c.sc]:=rfl;rw[ce]at q1 q2⊢;unfold WF at*;unfold Xp;cases f:VV c.nm c.am c.fs
 ·rw[f]at q1;cases h2:xK c.l
  ·rw[h2]at q2;by_cases h3:(z path:Int)>1000;·rw[decide_eq_true h3];simp only[qF,q1,q2,h3,d,AV.cH,AV.C,splice,Bool.or_self,Bool.false_or,aE4,EVX,seval]
   ·rw[decide_eq_false h3];simp only[qF,q1,q2,h3,d,AV.cH,AV.C,splice,Bool.or_self,Bool.false_or,aE4,EVX,seval]
  ·rw[h2]at q2;simp only[qF,q1,q2,d,AV.cH,AV.C,splice,aG0,Bool.false_or,EVX,seval]
 ·rw[f]at q1;simp only[qF,q1,d,AV.cH,AV.C,splice,aG0,EVX,seval]
def UU{c:Bc}{path:LU}(h:Xp c path=eF):xK c.l=eF/\z c.l<=60/\z c.fs<=1000/\z c.am<=LB/\ED c.fs/\z path<=LB:=by
 unfold Xp at h;simp only[aE2]at h;obtain⟨a,h2,h3⟩:=h;obtain⟨s1,s2,s3⟩:=agP a;refine⟨h2,?_,s1,s2,s3,?_⟩;·unfold xK at h2;grind
 ·have:=of_decide_eq_false h3;unfold LB;omega
set_option maxRecDepth 1000000
noncomputable section
def jJ:KC:=(.mk ?k:LsA 53 [] 0).1
attribute [local irreducible] jJ
def xR:KF:=(.mk ?k:KsA 53 [jJ]).1
def FW:KF:=(.mk ?k:KsA 93 []).1
def ja:KC:=(.mk ?k:LsA 154 [] 0).1
attribute [local irreducible] ja
def xU:KF:=(.mk ?k:KsA 154 [ja]).1
def qw:KC:=(.mk ?k:LsA 156 [] 0).1
attribute [local irreducible] qw
def FY:KF:=(.mk ?k:KsA 156 [qw]).1
def zV:KF:=(.mk ?k:KsA 223 []).1
def FX:KF:=(.mk ?k:KsA 225 []).1
def Bh:KF:=(.mk ?k:KsA 161 []).1
def Hy:KF:=(.mk ?k:KsA 91 []).1
def yg:KC:=(.mk ?k:LsA 158 [] 0).1
attribute [local irreducible] yg
def QK:KF:=(.mk ?k:KsA 158 [yg]).1
def Hz:KF:=(.mk ?k:KsA 159 []).1
def wQ:KC:=(.mk ?k:LsA 229 [] 0).1
attribute [local irreducible] wQ
def WH:KF:=(.mk ?k:KsA 229 [wQ]).1
def YM:KF:=(.mk ?k:KsA 228 []).1
def JY:KF:=(.mk ?k:KsA 226 []).1
def Bd:KF:=(.mk ?k:KsA 157 []).1
def Sv:KF:=(.mk ?k:KsA 227 []).1
def MK:KF:=(.mk ?k:KsA 26 []).1
def aY:KC:=(.mk ?k:LsA 50 [] 0).1
attribute [local irreducible] aY
def iO:KF:=(.mk ?k:KsA 50 [aY]).1
def EX:KF:=(.mk ?k:KsA 136 []).1
def kQ:KF:=(.mk ?k:KsA 211 []).1
def MJ:KF:=(.mk ?k:KsA 102 []).1
def fH:KC:=(.mk ?k:LsA 61 [] 0).1
attribute [local irreducible] fH
def jq:KC:=(.mk ?k:LsA 61 [fH] 1).1
attribute [local irreducible] jq
def pY:KC:=(.mk ?k:LsA 61 [fH,jq] 2).1
attribute [local irreducible] pY
def D5:KF:=(.mk ?k:KsA 61 [fH,jq,pY]).1
def Jq:KF:=(.mk ?k:KsA 92 []).1
def P7:KF:=(.mk ?k:KsA 52 []).1
end
set_option maxRecDepth 100000
variable{PK:PkI}
def ako{d:RoV}(h:Ms V0 Ll d.B):z d.E<=LB:=by obtain⟨s,b,e,a,_⟩:=uq h;injection e with e1 e2;injection e1 with e1;rw[e1];exact a
theorem RoV.af(d:RoV):NVs d.B:=.cW (.cV _) (.cW (.cU _ _) (.cW (nz _) (.cW (.cX _) (.cW (nz _) (.cW (nz _) .de)))))
def apl(l:List RoV):NV (.sl (z l) (l.flatMap RoV.B)):=.sl _ (gu (λd=>d.ay) l)
def ane(O:St)(sz:Nat)(s h:AV):Option Out:=match s,h with|.sl n l,.cU _ k=>if 0<=k/\k.toNat<=n/\z l=n*sz then J (.ew (.sl k.toNat (l.take (k.toNat*sz))) O)else U|_,_=>U
def ajX{C:Ctx}{av:XA->AV}{n0 sz:Nat}{O:St}{x h:XA}(hs:(ane O sz (av x) (av h)).isSome=eT):aB C av n0 O (.hQ sz x U (J h) U)=ane O sz (av x) (av h):=by
 unfold ane at*;split at hs
 ·rename_i n l k i e1 e2;split at hs;·next c=>obtain⟨m,rfl⟩:∃m:Nat,i=m:=⟨i.toNat,by omega⟩;rw[a88]at*;simp only[aB,e1,e2,iR,qK,Option.map_none,az2];simp[c.2]
  ·cases hs
 ·cases hs
def XK (p:dh C PK zJ (.ez [.da Ll] .cX)) (o:dh C PK EF (.ez [.eB Ll,.ds] .cX)) (l:List RoV) (t:z l<=64) (d:∀N∈l,Ms V0 Ll N.B):∀(n i:Nat),i+n=z l->∀Y:St,Ok Y->∃(L:St) (x:XE×As),(x=(.dq 0,[])\/x=(.ef,[(2,.cX eF)]))/\
  aH C (ai C) 27 [0,8,9,10] ja [(0,.sl (z l) (l.flatMap RoV.B)),(8,.sl (z l) (l.flatMap RoV.B)),(9,.cU r (z l)),(10,.cU r i)] Y=J (x.1,x.2,Y++L)
 |0,i,hi,Y,ok=>by have h:¬((i:Int)<(z l:Int)):=(by omega);refine⟨[],_,.inl rfl,?_⟩;rw[aA (he:=rfl)];simp only[ja,h,ay5,EVX,seval]
 |n+1,i,hi,Y,ok=>by
  have h:((i:Int)<(z l:Int)):=(by omega);have h2:i<z l:=(by omega);have h3:(0:Int)<=i:=(by omega);have e:=wrS i (by omega)
  have hb:l[i]?=J l[i]:=a02 h2;have fl:=bZ RoV.dt l;have fd:=kK RoV.dt hb;have c:=d l[i] (aB3 h2);obtain⟨x,u⟩:∃x,x=l[i]:=⟨_,rfl⟩;rw[<-u]at fd c;have a:Ok (Y++[.cH x.B FZ]):=ok.H (by
   have:AO.below 0 (.cH x.B FZ)=eT:=x.ay;rw[a07,AO.au (a99 _) _ this];rfl)
  obtain⟨v1,q1,v⟩:=gZ p (.cW (.da x.af) .de) (.cW _ _ _ _ (.da _ _ c) .de) a;obtain⟨b1,rfl⟩:=IB v;have j:(l.flatMap RoV.B).take (i*6)=(l.take i).flatMap RoV.B:=by have:l.flatMap RoV.B=(l.take i).flatMap RoV.B++(l.drop i).flatMap RoV.B:=(by rw[<-List.flatMap_append,List.take_append_drop]);rw[this,List.take_left' (by rw[bZ RoV.dt,aB1];omega)]
  have lt:z (l.take i)=i:=by rw[aB1];omega
  obtain⟨v2,q2,w⟩:=gZ o (.cW (apl (l.take i)) (.cW (.cV x.E) .de)) (.cW _ _ _ _ (aab (l.take i) (λy f=>d y (List.mem_of_mem_take f)) (by omega)) (.cW _ _ _ _ (.ds _ (ako c)) .de)) a;obtain⟨q,rfl⟩:=IB w;rw[lt]at q2;obtain⟨L,y,f,g⟩:=XK p o l t d n (i+1) (by omega) _ a;rw[ay2]at g;have A:x.B=[.cV x.E,.cU r x.cp,.sl (z x.O) (x.O.flatMap sC),.cX x.bS,.sl (z x.bb) (x.bb.flatMap sC),.sl (z x.bN) (x.bN.flatMap sC)]:=rfl;rw[A]at fd q1 q2 g;have b:=λL=>bK (rfl:z Y=_) L;have s1:=λL y=>iF (rfl:z Y=_) L y;have le:i<=z l:=(by omega);have m:z (l.flatMap RoV.B)=z l*6:=fl;rw[aA (he:=rfl)];generalize B:aH C (ai C) 27 [0,8,9,10] ja=k at*;cases b1;·refine⟨([.cH [.cV x.E,.cU r x.cp,.sl (z x.O) (x.O.flatMap sC),.cX x.bS,.sl (z x.bb) (x.bb.flatMap sC),.sl (z x.bN) (x.bN.flatMap sC)] FZ]:St),(.ef,[(2,.cX eF)]),.inr rfl,?_⟩;simp only[ja,h,h2,h3,e,fl,fd,q1,b,s1,splice,AV.cH,AV.C,a09,EVX,seval]
  ·cases q;·refine⟨([.cH [.cV x.E,.cU r x.cp,.sl (z x.O) (x.O.flatMap sC),.cX x.bS,.sl (z x.bb) (x.bb.flatMap sC),.sl (z x.bN) (x.bN.flatMap sC)] FZ]:St)++L,y,f,?_⟩;simp only[ja,h,h2,h3,e,fl,fd,q1,q2,j,m,le,ajX,ane,a88,and_self,Option.isSome_some,b,s1,g,splice,AV.cH,AV.C,a09,EVX,seval]
   ·refine⟨([.cH [.cV x.E,.cU r x.cp,.sl (z x.O) (x.O.flatMap sC),.cX x.bS,.sl (z x.bb) (x.bb.flatMap sC),.sl (z x.bN) (x.bN.flatMap sC)] FZ]:St),(.ef,[(2,.cX eF)]),.inr rfl,?_⟩;simp only[ja,h,h2,h3,e,fl,fd,q1,q2,j,m,le,ajX,ane,a88,and_self,Option.isSome_some,b,s1,splice,AV.cH,AV.C,a09,EVX,seval]
def agX(k:dh C PK zJ (.ez [.da Ll] .cX))(j:dh C PK EF (.ez [.eB Ll,.ds] .cX))(e:Has C Dn xU):dh C PK Dn (.ez [.eB Ll] .cX):=
 nK e rfl λg n=>by
  obtain⟨x,rfl,i⟩:=Ro n;obtain⟨l,rfl,q,c⟩:=acx ao2 i;have m:=λx o=>(c x o).2;intro O a;have f:∀b L,tidy (z O) [.cX b] (O++L)=O:=λb L=>bz a rfl L;rw[e.go (NVs.e (.cW (apl l) .de) _)];by_cases h:(z l:Int)>64;·refine⟨_,?_,.cX eF⟩;simp only[xU,h,EVX,seval]
  ·obtain⟨L,y,p,d⟩:=XK k j l (by omega) m (z l) 0 (by omega) O a;simp only[ay1]at d;rcases p with rfl|rfl;·refine⟨_,?_,.cX eT⟩;simp only[xU,h,d,f,EVX,seval]
   ·refine⟨_,?_,.cX eF⟩;simp only[xU,h,d,f,EVX,seval]
structure P5(C:Ctx)(PK:PkI):Prop where
 eW:dh C PK Qj (.ez [.ds] .jv)
 ht:dh C PK Uf (.ez [.cU .i64] .jv)
 cX:dh C PK Qh (.ez [.cX] .jv)
 hd:dh C PK GG (.ez [.eB [.ds]] .jv)
 br:dh C PK Qi (.ez [.fR] .jv)
 dc:dh C PK Ip (.ez [.eB [.ds,.ds]] (.df [.jv,.cU .i64]))
 g7:dh C PK Gs (.ez [.da [.cU .i64,.eB [.ds],.cU .i64,.ds]] .cX)
 bx:YT C
 kd:Su C Gp MJ
 kk:Has C Gt zV
 jl:Has C Gq FX
 et:Has C xC FY
def iE(j:JV):∃a b c d e,j.av=.da [a,b,c,d,e]/\j.B=[a,b,c,d,e]/\a.C=eT/\b.C=eT/\c.C=eT/\d.C=eT/\e.C=eT:=by obtain⟨k,n,t,ns,is,f,h3,h2,h4,rfl⟩:=j.ex;refine⟨_,_,_,_,_,?_,JV.bB ..,rfl,rfl,rfl,rfl,rfl⟩;unfold JV.av;rw[JV.bB]
def mEl(s:LU)(h:z s<=LB)(j:JV):EL:=(⟨s,h⟩,j)
def aav{d:RoV}(h:Ms V0 Ll d.B):TsM d.O/\TsM d.bb/\TsM d.bN:=by obtain⟨_,_,e,_,h⟩:=BU h rfl;injection e with e1 e;subst e1;subst e;obtain⟨_,_,e,_,h⟩:=BU h rfl;injection e with e1 e;subst e1;subst e;obtain⟨_,_,e,a,h⟩:=BU h rfl;injection e with e1 e;subst e1;subst e;obtain⟨_,_,e,_,h⟩:=BU h rfl;injection e with e1 e;subst e1;subst e;obtain⟨_,_,e,b,h⟩:=BU h rfl;injection e with e1 e;subst e1;subst e;obtain⟨_,_,e,c,h⟩:=BU h rfl;injection e with e1 e;subst e1;exact⟨a,b,c⟩
def aim(H:P5 C PK)(xs:List EL)(c:xs≠[])(h2:z xs<=8192)(q:Nat)(Y:St)(a:Ok Y)(b:Y[q]?=J (.cH (dH xs) FZ)):∃(j:JV) (e:Int),ai C jW [.dj q 0 (z xs) 6] Y=J (.df [j.av,.cU r e],Y.set q (.cH (dH xs) ⟨eT,U⟩)):=by
 have nv:NVs (dH xs):=λv hv=>by obtain⟨x,_,f⟩:=aG2.mp hv;exact ajA x v f
 have d:hand eF [.dj q 0 (z xs) 6] Y=J ([.sl (z xs) (dH xs)],Y.set q (.cH (dH xs) ⟨eT,U⟩)):=by rw[lF,aO,G8 b (Gn xs) nv,qY,<-tu b];rfl
 obtain⟨j,e,h⟩:=Xw H.bx xs c h2 _ (Ok.bd a q (x:=.cH (dH xs) ⟨eT,U⟩) (by rw[AO.below];exact aK (a99 _) _ (wG xs)));exact⟨j,e,(PE H.bx.of d (NVs.e (.cW (.sl _ (wG xs)) .de) _) (by simp)).trans h⟩
def five(H:P5 C PK)(c d f g:EL)(s:LU)(hs:z s<=LB)(l:List LU)(t:TsM l){n:Nat}{Y:St}(i:z Y=n)(h:Ok Y):∃(a j:JV) (e:Int),ai C GG [.sl (z l) (l.flatMap sC)] (Y++[.cH (dH [c,d,f,g]) FZ])=J (a.av,Y++[.cH (dH [c,d,f,g]) FZ])/\tX (Y++[.cH (dH [c,d,f,g]) FZ]) 6 96 U (.dj n 0 4 6) 1 (.cV s::a.B)=J (.dj (n+1) 0 5 6,Y++[.eq,.cH (dH [c,d,f,g,(⟨s,hs⟩,a)]) FZ])/\ai C jW [.dj (n+1) 0 5 6] (Y++[.eq,.cH (dH [c,d,f,g,(⟨s,hs⟩,a)]) FZ])=J (.df [j.av,.cU r e],Y++[.eq,.cH (dH [c,d,f,g,(⟨s,hs⟩,a)]) ⟨eT,U⟩]):=by
 have bel:∀p b,AO.below 0 (.cH (dH p) b)=eT:=λp b=>wG p;have k:Ok (Y++[.cH (dH [c,d,f,g]) FZ]):=h.H (by rw[a07,bel];rfl);obtain⟨v1,q1,u⟩:=gZ H.hd (.cW (nz l) .de) (.cW _ _ _ _ t .de) k;obtain⟨a,rfl⟩:=Ji u;have o:Ok (Y++[.eq,.cH (dH [c,d,f,g,(⟨s,hs⟩,a)]) FZ]):=h.H (by rw[a07,a07,bel];rfl);obtain⟨j,e,q2⟩:=aim H [c,d,f,g,(⟨s,hs⟩,a)] (by simp) (by simp) (n+1) _ o (by rw[vY i];rfl);refine⟨a,j,e,q1,?_,?_⟩;·have ap:=MR (O:=Y++[.cH (dH [c,d,f,g]) FZ]) (sz:=6) (bytes:=96) (n:=4) (m:=1) (q:=n) (.cV s::a.B) (by rw[bK i];rfl) (by decide) (Gn _) (by decide) (by decide);rw[ap,iF i];simp[dH,elC,i]
 ·rw[aaU i]at q2;exact q2
def lbs(s:LU)(h:z s<=99):z s<=LB:=by unfold LB;omega
def aa8(H:P5 C PK)(th:Int)(ids:List LU)(hi:M V0 (.eB [.ds]) (.sl (z ids) (ids.flatMap sC)))(O:St)(a:Ok O):∃(f g:EL),ai C Gp [.da [.cU r th,.sl (z ids) (ids.flatMap sC)]] O=J (.eC 2 (dH [f,g]),O):=by
 have d:Ok (O++[.cH [.cU r th,.sl (z ids) (ids.flatMap sC)] FZ]):=a.H (by
  have:AO.below 0 (.cH [.cU r th,.sl (z ids) (ids.flatMap sC)] FZ)=eT:=(NVs.cl (.cW (.cU _ _) (.cW (nz ids) .de)));rw[a07,AO.au (a99 _) _ this];rfl)
 obtain⟨v1,q1,f⟩:=gZ H.hd (.cW (nz ids) .de) (.cW _ _ _ _ hi .de) d;obtain⟨b,rfl⟩:=Ji f;obtain⟨v2,q2,g⟩:=gZ H.ht (.cW (.cU r th) .de) (.cW _ _ _ _ (.cU _ _) .de) d;obtain⟨c,rfl⟩:=Ji g;refine⟨mEl [107,101,121,105,100,115] (lbs _ (by decide)) b,mEl [116,104,114,101,115,104,111,108,100] (lbs _ (by decide)) c,?_⟩;have t:∀v L,below 0 v=eT->tidy (z O) [v] (O++L)=O:=λv L h=>bz a (by rw[ae,h];rfl) L;have bl:below 0 (.eC 2 (dH [mEl [107,101,121,105,100,115] (lbs _ (by decide)) b,mEl [116,104,114,101,115,104,111,108,100] (lbs _ (by decide)) c]))=eT:=wG _;have e:dH [mEl [107,101,121,105,100,115] (lbs _ (by decide)) b,mEl [116,104,114,101,115,104,111,108,100] (lbs _ (by decide)) c]=.cV [107,101,121,105,100,115]::(b.B++.cV [116,104,114,101,115,104,111,108,100]::c.B):=by simp[dH,elC,mEl]
 rw[e]at bl⊢;obtain⟨a1,b1,y,d1,e1,x1,u,f1,j,k,l,m⟩:=iE b;obtain⟨a2,x,A,d2,e2,x2,w,n,o,p,q,s⟩:=iE c;rw[x1]at q1;rw[x2]at q2;rw[u,w]at bl⊢;simp only[a09,a98]at bl⊢;have i:=λL=>t _ L bl;rw[H.kd.go];simp only[MJ,q1,q2,f1,j,k,l,m,n,o,p,q,s,i,aF,dm,splice,AV.cH,AV.C,qL,aU,a09,a98,EVX,seval]
def fl5:(∀k n,AV.C (.cU k n)=eT)/\(∀s,AV.C (.cV s)=eT)/\(∀b,AV.C (.cX b)=eT)/\AV.C .cY=eT/\∀n l,AV.C (.sl n l)=eT:=⟨λ_ _=>rfl,λ_=>rfl,λ_=>rfl,rfl,λ_ _=>rfl⟩
def ae6(j:JV){O:St}(f:Ok O){E:As}{Y:St}{n:Nat}(m:look E 2=.c8 n 0)(g:Y[n]?=J (.cH j.B FZ))(o:Y.take (z O)=O):mD (z O) [.eS 2 eT 5] (J (.ef,E,Y))=J (j.av,O):=by
 have hr:aU E Y [.eS 2 eT 5]=J [j.av]:=by obtain⟨a,b,c,d,e,x,y,f1,h,i,k,l⟩:=iE j;rw[x];rw[y]at g;simp only[aU,m,g,pt,ay9,a90,a94,List.take,a07,az6,f1,h,i,k,l];rfl
 refine(Fj (vs:=[j.av]) hr (.cW j.nv .de)).trans ?_;rw[pG f (by rw[ae,show below 0 j.av=eT from j.ay];rfl) o];rfl
def abr(H:P5 C PK)(dv:RoV)(hr:Ms V0 Ll dv.B)(O:St)(k:Ok O):∃j:JV,ai C Gt [.da dv.B] O=J (j.av,O):=by
 have hn:=NVs.e (.cW (.da dv.af) .de) O;obtain⟨p1,p2,p3⟩:=aav hr;have ok0:Ok (O++[.cH dv.B FZ,.cH [.cU .u8 0,.cU r 0,.cV [],.cY,.cY] FZ]):=k.H (by
  have:AO.below 0 (.cH dv.B FZ)=eT:=dv.ay;rw[a07,this];rfl)
 obtain⟨h,i,q1⟩:=aa8 H dv.cp dv.O p1 _ ok0;obtain⟨v3,q2,k2⟩:=gZ H.eW (.cW (.cV dv.E) .de) (.cW _ _ _ _ (.ds _ (ako hr)) .de) ok0;obtain⟨f,rfl⟩:=Ji k2;obtain⟨v4,q3,k3⟩:=gZ H.cX (.cW (.cX dv.bS) .de) (.cW _ _ _ _ (.cX _) .de) ok0;obtain⟨g,rfl⟩:=Ji k3;have l3:z ([110,97,109,101]:LU)<=LB:=lbs _ (by decide);have l4:z ([116,101,114,109,105,110,97,116,105,110,103]:LU)<=LB:=lbs _ (by decide);have lp:z ([112,97,116,104,115]:LU)<=LB:=lbs _ (by decide);have lq:z ([112,97,116,104,95,104,97,115,104,95,112,114,101,102,105,120,101,115]:LU)<=LB:=lbs _ (by decide);have P:z (O++[AO.cH dv.B FZ,.cH [.cU .u8 0,.cU r 0,.cV [],.cY,.cY] FZ])=z O+2:=by simp
 obtain⟨j5,j,e,f1,D,F⟩:=five H h i (⟨_,l3⟩,f) (⟨_,l4⟩,g) _ lp dv.bb p2 P ok0;obtain⟨o,N,e',G,I,K⟩:=five H h i (⟨_,l3⟩,f) (⟨_,l4⟩,g) _ lq dv.bN p3 P ok0;have ap:=Y9 (O++[AO.cH dv.B FZ,.cH [.cU .u8 0,.cU r 0,.cV [],.cY,.cY] FZ]) (sz:=6) (bytes:=96) U (n:=2) (m:=2) (l:=dH [h,i]) (.cV [110,97,109,101]::(f.B++.cV [116,101,114,109,105,110,97,116,105,110,103]::g.B)) (by decide) (Gn _) (by decide) (by decide);have e4:dH [h,i]++(.cV [110,97,109,101]::(f.B++.cV [116,101,114,109,105,110,97,116,105,110,103]::g.B))=dH [h,i,(⟨_,l3⟩,f),(⟨_,l4⟩,g)]:=by simp[dH,elC]
 rw[e4,P]at ap;have rc:dv.B=[.cV dv.E,.cU r dv.cp,.sl (z dv.O) (dv.O.flatMap sC),.cX dv.bS,.sl (z dv.bb) (dv.bb.flatMap sC),.sl (z dv.bN) (dv.bN.flatMap sC)]:=rfl;generalize dH [h,i,(⟨_,l3⟩,f),(⟨_,l4⟩,g)]=L4 at*;generalize dH [h,i,(⟨_,l3⟩,f),(⟨_,l4⟩,g),(⟨_,lp⟩,j5)]=L5 at*;generalize dH [h,i,(⟨_,l3⟩,f),(⟨_,l4⟩,g),(⟨_,lq⟩,o)]=L6 at*;obtain⟨a3,b3,c3,d3,e3,x3,y3,q,s,t,u,v⟩:=iE f;obtain⟨a4,b4,c4,d4,e4,x4,y4,w,x,y,A,B⟩:=iE g;obtain⟨a5,b5,c5,d5,e5,x5,y5,Z,aa,ab,ac,ad⟩:=iE j5;obtain⟨a6,b6,c6,d6,e6,x6,y6,af,ah,ak,al,an⟩:=iE o;have je:=λ(E:As) (L:St)=>ae6 (E:=E) (Y:=O++L) j k (n:=z O+1);have p:=λ(E:As) (L:St)=>ae6 (E:=E) (Y:=O++L) N k (n:=z O+1);obtain⟨a,b,c,d,e0,x0,y0,z1,z2,z3,z4,z5⟩:=iE j;obtain⟨a',b',c',d',aq,Q,R,S,T,V,W,X⟩:=iE N;rw[x3]at q2;rw[x4]at q3;rw[x5]at f1;rw[x6]at G;rw[x0]at F;rw[Q]at K;rw[y3,y4]at ap;rw[y5]at D;rw[y6]at I;rw[y0]at je;rw[R]at p;simp only[rc,ay2,a09,a98,aF1,Nat.reduceAdd]at q1 q2 q3 ap f1 D F G I K hn⊢;rw[H.kk.go hn];by_cases hp:(z dv.bb:Int)>0
 ·refine⟨j,?_⟩;generalize M:mD=eR;simp only[zV,q1,q2,q3,ap,f1,D,F,hp,q,s,t,u,v,w,x,y,A,B,Z,aa,ab,ac,ad,z1,z2,z3,z4,z5,aF,dm,aN,fF,splice,AV.cH,fl5,a09,a98,EVX,seval];rw[<-M];refine je _ _ ?_ ?_ ?_;·rfl
  ·rw[aN];rfl
  ·simp
 ·refine⟨N,?_⟩;generalize M:mD=eR;simp only[zV,q1,q2,q3,ap,G,I,K,hp,q,s,t,u,v,w,x,y,A,B,af,ah,ak,al,an,S,T,V,W,X,aF,dm,aN,fF,splice,AV.cH,fl5,a09,a98,EVX,seval];rw[<-M];refine p _ _ ?_ ?_ ?_;·rfl
  ·rw[aN];rfl
  ·simp
end Go.Ev
namespace Go.Ev
open Option renaming none→U, some→J
open List renaming length→z
open Bool renaming true→eT, false→eF
open Go.IntKind renaming i64→r
set_option maxRecDepth 100000
variable{C:Ctx}
structure amB(C:Ctx):Prop where
 du:Has C Ah zX
 aL:Has C nJ nG
 ew:Has C ji qH
 hd:Has C yP yM
 cE:Has C Gw F5
def aas(H:amB C)(x:jY)(hr:Gf x.du)(hv:z x.b3<=1099511627776)(O:St)(f:Ok O):ai C Gw [.da x.B,.da x.B] O=J (.cX eT,O):=by
 have nv:=jY.af x hr.af;have i:AO.below 0 (.cH x.B FZ)=eT:=nv.cl;have g:Ok (O++[.cH x.B FZ,.cH x.B FZ]):=f.H (by rw[a07,a07,i];rfl);have h:∀b L,tidy (z O) [.cX b] (O++L)=O:=λb L=>bz f rfl L;obtain⟨n,hs,j,e,s⟩:=hr.j5;have q1:=aiy H.du H.aL H.ew n hs (by omega) j _ g;have q2:=agt H.hd x.b3 hv (O++[.cH x.B FZ,.cH x.B FZ]);obtain⟨a,b,c,d,e0,x0,l,m,o,p,q,z5⟩:=iE j;have rc:rC n hs j=[.cU r n,.sl (z hs) (hs.flatMap pC),a,b,c,d,e0]:=by unfold rC;rw[l]
 have k:x.B=[.cU .u8 x.fj,.cU .u8 x.jf,.cU .u8 x.e6,.cV x.b6,.cU r n,.sl (z hs) (hs.flatMap pC),a,b,c,d,e0,.sl (z x.b3) (x.b3.flatMap sC)]:=by unfold jY.B;rw[e,rc];rfl
 rw[H.cE.go (NVs.e (.cW (.da nv) (.cW (.da nv) .de)) _)];rw[rc]at q1;rw[k]at q1 q2⊢;simp only[F5,q1,q2,m,o,p,q,z5,h,kZ,decide_true,beq_self_eq_true,aF,dm,aN,fF,splice,AV.cH,fl5,a09,a98,EVX,seval]
def akG(m:Has C Af zW)(x:jY)(hr:Gf x.du)(O:St)(f:Ok O):ai C Af [.da x.B] O=J (.da x.B,O):=by
 have nv:=jY.af x hr.af;obtain⟨n,hs,j,e,t⟩:=hr.j5;obtain⟨a,b,c,d,e0,x0,q,h,i,k,l,z5⟩:=iE j;have rc:rC n hs j=[.cU r n,.sl (z hs) (hs.flatMap pC),a,b,c,d,e0]:=by unfold rC;rw[q]
 have p:x.B=[.cU .u8 x.fj,.cU .u8 x.jf,.cU .u8 x.e6,.cV x.b6,.cU r n,.sl (z hs) (hs.flatMap pC),a,b,c,d,e0,.sl (z x.b3) (x.b3.flatMap sC)]:=by unfold jY.B;rw[e,rc];rfl
 have g:=λL=>bz f (vs:=[.da x.B]) (NVs.cW (.da nv) .de).cl L;rw[m.go (NVs.e (.cW (.da nv) .de) _)];rw[p]at g nv⊢;generalize o:mD=s;simp only[zW,h,i,k,l,z5,aF,dm,aN,fF,splice,AV.cH,fl5,a09,a98,EVX,seval];rw[<-o];refine(Fj (vs:=[.da [.cU .u8 x.fj,.cU .u8 x.jf,.cU .u8 x.e6,.cV x.b6,.cU r n,.sl (z hs) (hs.flatMap pC),a,b,c,d,e0,.sl (z x.b3) (x.b3.flatMap sC)]]) ?_ (.cW (.da nv) .de)).trans (by rw[g];rfl);simp only[aU,aN,h,i,k,l,z5,fl5,EVX,seval]
end Go.Ev
namespace Go.Ev
open Option renaming none→U, some→J
open List renaming length→z
open Bool renaming true→eT, false→eF
open Go.IntKind renaming i64→r
set_option maxRecDepth 100000
variable{C C1:Ctx}
structure adn(C C1:Ctx):Prop where
 dr:amv C
 dv:∀(h:Bool) (l:List iK),xK l=false->∀data:LU,data.length<=LB->∃(R:lN) (e:Int),R.ok/\∀(O:St) (o:Nat),Ok O->O[o]?=some (PY h l)->ai C BH [.c8 o 0,.cV data] O=some (.df [.da (aat R e).B,.cU .i64 e],O)
 g2:∀(h:Bool) (l:List iK),xK l=false->∀(R:lN),R.ok->∃b:CG,∀now:Int,Jn C1 h l R now (b.K now)
def ak7 (H:adn C C1) {c:Bc} {path:LU} (cl:Xp c path=eF):∃(R:lN) (e:Int) (b:CG),R.ok/\(∀(now:Int),Jn C1 c.h c.l R now (b.K now))/\∀(now:Int) (fs:List PS),z fs<=1000->ED fs->∀(Y:St),Ok Y->
  (Es c.nm fs c.rc c.sc e≠0/\ai C gX [.da {c with bm:=now,fs:=fs}.B] Y=J (.df [.ev,.cU r (Es c.nm fs c.rc c.sc e)],Y))\/
  (Es c.nm fs c.rc c.sc e=0/\∃(p:Rp) (T:St),ai C gX [.da {c with bm:=now,fs:=fs}.B] Y=J (.df [.c8 p.r 0,.cU r 0],T)/\af4 C1 b {c with bm:=now,fs:=fs} R Y T p):=by
 obtain⟨v1,v2,v3,v4,v5,v6⟩:=UU cl;obtain⟨R,e,a,n⟩:=H.dv c.h c.l v1 c.am v4;obtain⟨b,g⟩:=H.g2 c.h c.l v1 R a;refine⟨R,e,b,a,g,λnow fs q t Y d=>?_⟩;rcases arl H.dr {c with bm:=now,fs:=fs} v2 q R e n d with h|⟨j,x,s,m,o,fo,T,k,h2,h3,h4,h5,h6,h7,h8,l⟩;·exact .inl h
 ·refine .inr ⟨j,⟨c.h,c.l,R,now,c.rc,c.sc,c.nm,fs,[],x,s,m,o,fo,U⟩,T,k,h2,h3,⟨rfl,rfl,rfl,rfl,rfl,rfl,rfl,rfl⟩,rfl,λi hi=>?_,l,⟨⟨g _,a,t⟩,?_,?_⟩⟩
  ·rcases hi with rfl|rfl|rfl|rfl|e|e;·exact h4
   ·exact h5
   ·exact h6
   ·exact h7
   ·exact h8 _ e
   ·cases e
  ·exactλf hf=>by cases hf
  ·exact aqf
end Go.Ev
namespace Go.Ev
open Option renaming none→U, some→J
open List renaming length→z
open Bool renaming true→eT, false→eF
open Go.IntKind renaming i64→r
set_option maxRecDepth 100000
structure ahq(x:jY):Prop where
 du:Gf x.du
 b3:x.b3.length<=80000000
def ab5(i:Bo)(hr:∀T f,i.fd T=J f->Gf f):∀(n:Nat) (ws:List Wp) (vs:List LU) (F:List bD) (x:jY) (b:List bD),vK i n ws vs F=J (x,b)->ahq x
 |0,ws,vs,F,x,b,h=>by cases h
 |n+1,ws,vs,F,x,b,h=>by
  have c:=ab5 i hr n;unfold vK at h;by_cases a:tooBig ws vs F=eT;·rw[if_pos a]at h;cases h
  rw[if_neg a]at h;have lv:z vs<80000000:=by unfold tooBig at a;simp only[aB4,decide_eq_true_eq,not_or,Nat.not_le]at a;exact a.2.2
  have d:∀w:LU,z (vs++[w])<=80000000:=λw=>by rw[a04];exact lv
  cases e:ws.getLast? with
  |none=>rw[e]at h;cases h;exact⟨uw,Nat.le_of_lt lv⟩
  |some w=>
   rw[e]at h;dsimp only at h;generalize dG i.K i.fs i.rc i.sc w.E w.W w.ak (if vs=[]then(bg i.K i.fs i.sc F).2 else F)=t at h;split at h;·exact c _ _ _ _ _ h
   split at h;·cases h;exact⟨uw,Nat.le_of_lt lv⟩
   split at h;·cases h;exact⟨uw,Nat.le_of_lt lv⟩
   split at h;·cases h;exact⟨uw,d _⟩
   split at h
   ·split at h;·exact c _ _ _ _ _ h
    ·cases h;exact⟨uw,d _⟩
   ·split at h;·next f hf=>cases h;exact⟨hr _ _ hf,d _⟩
    ·exact c _ _ _ _ _ h
def aiS(f:Bo)(hr:∀T d,f.fd T=J d->Gf d){a:Bool}{R:lN}{now:Int}{n:Nat}{F b:List bD}{x:jY}(h:JQ a R now f n F=J (x,b)):ahq x:=by
 unfold JQ at h;split at h;·cases h;exact⟨uw,a99 _⟩
 split at h;·cases h;exact⟨uw,a99 _⟩
 ·exact ab5 f hr _ _ _ _ _ _ h
variable{C:Ctx}{PK:PkI}
def abg(H:P5 C PK)(th:Int)(ids:List LU)(bits:Int)(pre:LU)(hi:TsM ids)(K:z pre<=LB)(O:St)(o:Ok O):∃j:JV,ai C Gq [.da [.cU r th,.sl (z ids) (ids.flatMap sC),.cU r bits,.cV pre]] O=J (j.av,O):=by
 have nv:NVs [.cU r th,.sl (z ids) (ids.flatMap sC),.cU r bits,.cV pre]:=.cW (.cU _ _) (.cW (nz ids) (.cW (.cU _ _) (.cW (.cV _) .de)));have F:=NVs.e (.cW (.da nv) .de) O;have ok0:Ok (O++[.cH [.cU r th,.sl (z ids) (ids.flatMap sC),.cU r bits,.cV pre] FZ,.cH [.cU .u8 0,.cU r 0,.cV [],.cY,.cY] FZ]):=o.H (by
  have:AO.below 0 (.cH [.cU r th,.sl (z ids) (ids.flatMap sC),.cU r bits,.cV pre] FZ)=eT:=nv.cl;rw[a07,this];rfl)
 obtain⟨h,i,q1⟩:=aa8 H th ids hi _ ok0;obtain⟨v3,q2,M⟩:=gZ H.ht (.cW (.cU r bits) .de) (.cW _ _ _ _ (.cU _ _) .de) ok0;obtain⟨f,rfl⟩:=Ji M;obtain⟨v4,q3,N⟩:=gZ H.eW (.cW (.cV pre) .de) (.cW _ _ _ _ (.ds _ K) .de) ok0;obtain⟨g,rfl⟩:=Ji N;have l3:z ([98,105,116,95,108,101,110,103,116,104]:LU)<=LB:=lbs _ (by decide);have l4:z ([110,97,109,101,95,112,114,101,102,105,120]:LU)<=LB:=lbs _ (by decide);have p:z (O++[AO.cH [.cU r th,.sl (z ids) (ids.flatMap sC),.cU r bits,.cV pre] FZ,.cH [.cU .u8 0,.cU r 0,.cV [],.cY,.cY] FZ])=z O+2:=by simp
 have ap:=Y9 (O++[AO.cH [.cU r th,.sl (z ids) (ids.flatMap sC),.cU r bits,.cV pre] FZ,.cH [.cU .u8 0,.cU r 0,.cV [],.cY,.cY] FZ]) (sz:=6) (bytes:=96) U (n:=2) (m:=2) (l:=dH [h,i]) (.cV [98,105,116,95,108,101,110,103,116,104]::(f.B++.cV [110,97,109,101,95,112,114,101,102,105,120]::g.B)) (by decide) (Gn _) (by decide) (by decide);have e4:dH [h,i]++(.cV [98,105,116,95,108,101,110,103,116,104]::(f.B++.cV [110,97,109,101,95,112,114,101,102,105,120]::g.B))=dH [h,i,(⟨_,l3⟩,f),(⟨_,l4⟩,g)]:=by simp[dH,elC]
 rw[e4,p]at ap;have q:Ok ((O++[AO.cH [.cU r th,.sl (z ids) (ids.flatMap sC),.cU r bits,.cV pre] FZ,.cH [.cU .u8 0,.cU r 0,.cV [],.cY,.cY] FZ])++[.cH (dH [h,i,(⟨_,l3⟩,f),(⟨_,l4⟩,g)]) FZ]):=ok0.H (by
  have:AO.below 0 (.cH (dH [h,i,(⟨_,l3⟩,f),(⟨_,l4⟩,g)]) FZ)=eT:=wG _;rw[a07,this];rfl)
 obtain⟨j,e,k⟩:=aim H [h,i,(⟨_,l3⟩,f),(⟨_,l4⟩,g)] (by simp) (by simp) (z O+2) _ q (by rw[bK p];rfl);rw[iF p]at k;change ai C jW [.dj (z O+2) 0 4 6] _=_ at k;generalize dH [h,i,(⟨_,l3⟩,f),(⟨_,l4⟩,g)]=X at*;obtain⟨a3,Z,c3,d3,e3,x3,Q,s,t,u,v,w⟩:=iE f;obtain⟨a4,b4,c4,d4,e4,x4,R,x,y,A,B,D⟩:=iE g;have G:=λ(E:As) (L:St)=>ae6 (E:=E) (Y:=O++L) j o (n:=z O+1);obtain⟨a,b,c,d,e0,x0,P,S,T,V,W,z5⟩:=iE j;rw[x3]at q2;rw[x4]at q3;rw[x0]at k;rw[Q,R]at ap;rw[P]at G;simp only[ay2,a09,a98,aE1]at q1 q2 q3 ap k F⊢;rw[H.jl.go F];refine⟨j,?_⟩;generalize I:mD=eR;simp only[FX,q1,q2,q3,ap,k,s,t,u,v,w,x,y,A,B,D,S,T,V,W,z5,aF,dm,aN,fF,splice,AV.cH,fl5,a09,a98,EVX,seval];rw[<-I];refine G _ _ ?_ ?_ ?_;·rfl
 ·rw[aN];rfl
 ·simp
def mkV(O:St)(sz bytes:Nat)(l c:AV):Option Out:=match l,c with|.cU _ 0,.cU _ c=>if 0<=c/\c<=9223372036854775807/\bytes*c<=140737488355328 then J (.ew (.dj (z O) 0 0 sz) (O++[.cH [] FZ]))else U|_,_=>U
def avY{C:Ctx}{av:XA->AV}{n0 sz bytes:Nat}{d:LA}{O:St}{l c:XA}(hs:(mkV O sz bytes (av l) (av c)).isSome=eT):aB C av n0 O (.gB d sz bytes l c)=mkV O sz bytes (av l) (av c):=by
 unfold mkV at*;split at hs
 ·rename_i a b c e1 e2;split at hs;·next h=>simp only[aB,e1,e2];rw[if_pos ⟨aG1 0,h⟩,if_pos h];rfl
  ·cases hs
 ·cases hs
def Xl:∀(l:List JV) (j:JV),aJ (l++[j])=aJ l++j.B
 |[],j=>by simp[aJ]
 |a::l,j=>by simp[aJ,Xl l j]
structure ObR(lo:Nat)(Y0 Y:St)(i q:Nat)(is:List JV):Prop where
 ok:Ok Y
 dt:is.length=i
 ed:Y[q]?=some (.cH (aJ is) FZ)
 lq:lo<=q
 dx:∀k x,k<lo->Y0[k]?=some x->Y[k]?=some x
def abX (H:P5 C PK) (l:List RoV) (G:z l<=8192) (A:∀co∈l,Ms V0 Ll co.B) (u x5:AV) (lo:Nat) (s:St):∀(n i:Nat),i+n=z l->∀(Y:St) (q:Nat) (is:List JV),ObR lo s Y i q is->∃(p:St) (t:Nat) (g:List JV),ObR lo s p (z l) t g/\
  aH C (ai C) 59 [2,5,6,28,29,30] qw [(2,u),(5,x5),(6,.dj q 0 i 5),(28,.sl (z l) (l.flatMap RoV.B)),(29,.cU r (z l)),(30,.cU r i)] Y=J (.dq 0,[(2,u),(5,x5),(6,.dj t 0 (z l) 5)],p)
 |0,i,hi,Y,q,is,I=>by have h:¬((i:Int)<(z l:Int)):=(by omega);have:i=z l:=(by omega);subst this;refine⟨Y,q,is,I,?_⟩;rw[aA (he:=rfl)];simp only[qw,h,EVX,seval]
 |n+1,i,hi,Y,q,is,I=>by
  have h:((i:Int)<(z l:Int)):=(by omega);have h2:i<z l:=(by omega);have h3:(0:Int)<=i:=(by omega);have K:=wrS i (by omega)
  have hb:l[i]?=J l[i]:=a02 h2;have fl:=bZ RoV.dt l;have fd:=kK RoV.dt hb;have w:=A l[i] (aB3 h2);obtain⟨x,M⟩:∃x,x=l[i]:=⟨_,rfl⟩;rw[<-M]at fd w;have o:Ok (Y++[.cH x.B FZ]):=I.ok.H (by
   have:AO.below 0 (.cH x.B FZ)=eT:=x.ay;rw[a07,AO.au (a99 _) _ this];rfl)
  obtain⟨j,q1⟩:=abr H x w _ o;have ap:=MR (O:=Y++[.cH x.B FZ]) (sz:=5) (bytes:=80) (n:=i) (m:=1) (q:=q) j.B (aj I.ed _) (by decide) (by rw[jF,I.dt]) (by omega) (by omega)
  rw[<-Xl]at ap;have lq:=(a00.mp I.ed).1;have D:ObR lo s ((Y++[AO.cH x.B FZ]).set q .eq++[AO.cH (aJ (is++[j])) FZ]) (i+1) (z (Y++[AO.cH x.B FZ])) (is++[j]):=
   ⟨(Ok.bd o q rfl).H (by
     have:AO.below 0 (.cH (aJ (is++[j])) FZ)=eT:=gY _;rw[a07,az6,AO.au (a99 _) _ this];rfl),by simp[I.dt],by rw[bK (by simp)];rfl,by have:=I.lq;simp;omega,λk y B e=>by
     have:=I.lq;exact aj (aG (aj (I.dx k y B e) _) (by omega) _) _⟩
  obtain⟨p,t,g,f,v⟩:=abX H l G A u x5 lo s n (i+1) (by omega) _ _ _ D;refine⟨p,t,g,f,?_⟩;obtain⟨a,b,c,d,e0,x0,P,Q,R,S,T,z5⟩:=iE j;have N:x.B=[.cV x.E,.cU r x.cp,.sl (z x.O) (x.O.flatMap sC),.cX x.bS,.sl (z x.bb) (x.bb.flatMap sC),.sl (z x.bN) (x.bN.flatMap sC)]:=rfl;rw[x0]at q1;rw[P]at ap;rw[N]at fd q1 ap v;simp only[a04,a90,a94,az5]at v ap;have E:=λL=>bK (rfl:z Y=_) L;have s1:=λL y=>iF (rfl:z Y=_) L y;rw[aA (he:=rfl)];generalize B:aH C (ai C) 59 [2,5,6,28,29,30] qw=k at*;simp only[qw,h,h2,h3,K,fl,fd,q1,ap,Q,R,S,T,z5,E,s1,v,splice,AV.cH,fl5,a09,EVX,seval]
end Go.Ev
