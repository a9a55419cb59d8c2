/- An evaluator. No conditions. -/
import Derived.Test.YtaaomenfchndjaaGreatDoorEB
import Derived.LaidMore
import Derived.OpenShut
import Derived.ChangeArms
import Derived.ChangeShapes
import Derived.Carry
import Derived.WalkSmall
import Derived.Recover
set_option linter.unusedVariables false
set_option linter.unusedSimpArgs false
set_option linter.defProp false
open And renaming intro→w8
open _root_ renaming List→X,Option→L,rfl→w9,Nat→V,Bool→R,Array→j9,String→X2,Decidable→j,False→N,decide_eq_true_eq→O,if_pos→K2,absurd→K3,Int→f,True→K5
open Go renaming FuncId→Q,World→Y,Value→K,Program→I,TypeId→B,callFunc→j8,execOp→X1,MemPlace→D,wp_mono→Z0,Oper→Z2,DataW→F,IntKind→v,Act→Z6,FrameMode→K0,recoverD→K4,results→K6
open List renaming replicate→k9,getElem_of_mem→Z3,take→k,drop→q,map→K9
open Go.DataW renaming trod→j0,trod_string→K1,trod_int→K7,TrodAll→K8
open Go.Region renaming wanted→j6
open Go.Ev renaming Goes→j7,Ctx→E,Does→H,XOp→g,below→a,same→c,hand→w,cells_func→d,tidy→h,splice→p,Env→y,look_nil→x
open Go.Value renaming okWide→l
open Decidable renaming decide→s
open Go.Calls renaming mono→Z1
open Go.Op renaming bytesLess→b
open Nat renaming ble→i
namespace Go.Ev
open Bool renaming false→eF, true→eT
open List renaming length→z
open Option renaming none→U, some→J
open Go.IntKind renaming i64→r
open Go.RowKit
noncomputable section
def H7(a b:R):R:=Bool.rec eF b a
def clo(v:AV):R:=
 AV.rec (motive_1:=λ_=>R) (motive_2:=λ_=>R)
  (λ_=>eT) (λ_ _=>eT) (λ_=>eT) eT (λ_ _=>eF) (λ_ c=>c) eT eT (λ_ _ c=>c) (λ_ _ c=>c)
  (λ_ _ _ _=>eF) (λ_=>eF) eT (λ_ _ _ a b=>H7 a b) eT (λ_ _ c=>c) eT (λ_ c=>c) (λ_ c=>c) eT (λ_ _ a b=>H7 a b) v
def apW(l:LA):R:=List.rec (motive:=λ_=>R) eT (λv _ a=>H7 (clo v) a) l
def ni(a b:R):H7 a b=(a&&b):=by cases a<;>rfl
mutual
def ak1:∀v:AV,clo v=a 0 v
 |.cW _=>w9|.cQ _ _=>w9|.cU _=>w9|.ep=>w9|.da _ _=>by simp[a];rfl
 |.ec l=>by rw[a];exact Kw l
 |.cY=>w9|.fS=>w9|.sl _ l=>by rw[a];exact Kw l
 |.eB _ l=>by rw[a];exact Kw l
 |.dj _ _ _ _=>by simp[a];rfl
 |.dz _=>by simp[a];rfl
 |.eE=>w9|.dv _ x y=>by rw[a,<-Kw x,<-Kw y,<-ni];rfl
 |.eo=>w9|.dx _ v=>by rw[a];exact ak1 v
 |.eb=>w9|.cX l=>by rw[a];exact Kw l
 |.de l=>by rw[a];exact Kw l
def Kw:∀l:LA,(AV.rec_1 (motive_1:=λ_=>R) (motive_2:=λ_=>R)
  (λ_=>eT) (λ_ _=>eT) (λ_=>eT) eT (λ_ _=>eF) (λ_ c=>c) eT eT (λ_ _ c=>c) (λ_ _ c=>c)
  (λ_ _ _ _=>eF) (λ_=>eF) eT (λ_ _ _ a b=>H7 a b) eT (λ_ _ c=>c) eT (λ_ c=>c) (λ_ c=>c) eT (λ_ _ a b=>H7 a b) l:R)=ae 0 l
 |[]=>w9|v::l=>by rw[ae,<-ak1 v,<-Kw l,<-ni];rfl
end
def am4:∀l:LA,apW l=ae 0 l|[]=>w9|v::l=>by show H7 (clo v) (apW l)=_;rw[ni,ak1,am4 l,ae]
inductive afq where
 |eV (h:LA->St->Option (AV×St))|lc (K:KF) (raw pure:Bool)|iu (h:LA->St->Option (AV×St)) (K:KF) (raw pure:Bool)|lL (h:bY->LA->St->Option (AV×St))
abbrev Tr2:=Q->L afq
def alX(C:E)(call:bY)(m:V)(K:KF)(raw:R)(args:LA)(n:V)(O1:St):L (AV×St):=
 match i (z args) K.W with
 |eF=>U
 |eT=>match kkR C call K.W m K.ap (oH 0 args) O1 with
  |U=>U
  |J q=>match q with
   |(x,e,a)=>match x with
    |.dq _=>U|.du=>match aZ e a K.an with|U=>U|J vs=>match w raw vs a with|U=>U|J p=>match p with|(vs,b)=>J (dG vs,h n vs b)
    |.ea=>match aZ e a K.an with|U=>U|J vs=>match w raw vs a with|U=>U|J p=>match p with|(vs,b)=>J (dG vs,h n vs b)
def ar1(O1:St)(d:L (AV×St)):L (AV×St):=
 match d with
 |U=>U|J p=>match p with|(v,a)=>match a with|[]=>J (v,O1)|_::_=>U
def avg(C:E)(call:bY)(m:V)(K:KF)(raw pure:R)(args:LA)(O:St):L (AV×St):=
 match w raw args O with
 |U=>U|J p=>match p with|(a,b)=>match H7 pure (apW a)with|eT=>ar1 b (alX C call m K raw a 0 [])|eF=>alX C call m K raw a (z O) b
def axb(e:L afq)(C:E)(call:bY)(m:V)(args:LA)(O:St):L (AV×St):=
 match e with
 |U=>U
 |J t=>match t with
  |.eV h=>h args O|.lc K raw pure=>avg C call m K raw pure args O|.iu h K raw pure=>match h args O with|J d=>J d|U=>avg C call m K raw pure args O
  |.lL h=>h call args O
def dA(C:E)(T:Tr2)(n:V):bY:=Nat.rec (motive:=λ_=>bY) (λ_ _ _=>U) (λm a f args O=>axb (T f) C a m args O) n
end
def POK(C:E)(f:Q)(h:LA->St->L (AV×St)):Prop:=
 ∀args O v b,h args O=J (v,b)->∀g w a,VRs g args a->WR g w O->GL C g->H C.P f a w λd e=>∃c,j7 g O w c b e/\VR c v d
def KOK(C:E)(f:Q)(K:KF):Prop:=cF C.P f=J K.ad/\(∃fn,C.P.funcs[f]?=J fn/\(fn.name== "runtime.NumGoroutine")=eF)/\K.ok=eT
def EOK(C:E)(f:Q):afq->Prop|.eV h=>POK C f h|.lc K _ _=>KOK C f K|.iu h K _ _=>POK C f h/\KOK C f K|.lL h=>∀call,fZ C call->POK C f (h call)
structure alK(C:Ctx)(T:Tr2):Prop where
 cz:∀f e,T f=some e->EOK C f e
 gl:∀n l,C.gl n=some l->ae 0 l=true
def EP.ax(c:bY):EP c c:=λ_ _ _=>Le.cx
def abe {C:Ctx} {call:bY} (s:fZ C call) (i:JX C call) {f:FuncId} {K:KF} {raw:Bool} (D:cF C.P f=J K.ad) (al:∃fn,C.P.funcs[f]?=J fn/\(fn.name== "runtime.NumGoroutine")=eF) (hok:K.ok=eT)
  {m:Nat} {args:LA} {O1:St} {v:AV} {O':St} {O0:St} (h:alX C call m K raw args (z O0) O1=J (v,O')) {B y:Gh} {g:World} {args':List Value} (G:j7 B O0 g y O1 g) (aw:WR B g O0) (hv:VRs y args args') (hg:GL C y):
  Does C.P f args' g λv' w'=>∃g',j7 B O0 g g' O' w'/\VR g' v v':=by
 obtain⟨fn,t,u⟩:=al;simp only[cF,aB4,a04,aC3,a07]at D;obtain⟨aE,o,body,hb,j,ax,hK⟩:=D;rw[t]at o;cases o;obtain⟨nargs,ntmps,results,b⟩:=K;simp only[KF.ad,XF.mk.injEq]at hK;obtain⟨aK,af,ah,ak⟩:=hK;subst ah;unfold alX at h;split at h;·cases h
 ·rename_i ad;have p:=aD3 ad;dsimp only at p h;split at h;·cases h
  ·rename_i q ac;obtain⟨x,E,O2⟩:=q;dsimp only at h;have h2:gu C call ntmps b (oH 0 args) O1=J (x,E,O2):=Qh C call ntmps m b _ O1 _ ac;unfold KF.ok at hok;obtain⟨M,hM⟩:=aE5.mp hok;have h3:=BJ (C:=C) (call:=call) b _ M _ hM (args++k9 (ntmps-z args) .dT) _ O1 (afH M ntmps args p);rw[h2]at h3;cases hs:qg C call b.ad (args++k9 (ntmps-z args) .dT) O1 with
   |none=>rw[hs]at h3;exact h3.elim
   |some co=>
    obtain⟨x',e,Y⟩:=co;rw[hs]at h3;obtain⟨R,ay,W⟩:=h3;subst R ay;obtain⟨k,F⟩:=WQ (C:=C) (cs:=λ_=>call) (L:=call) (λ_ _ _=>EP.ax call) (λf a O co h=>⟨0,h⟩) b.ad hs;have aD:∀vs d T,aZ E Y j=J vs->hand raw vs Y=J (d,T)->v=dG d->O'=tidy (z O0) d T->(x'=.du\/x'=.ea)->Does C.P f args' g λv' w'=>∃g',j7 B O0 g g' O' w'/\VR g' v v':=by
     intro vs d T hres ab an P R;have w:YH e Y j=J vs:=by have:=YI (n:=ntmps) (O:=Y) (e:=e) (A:=E) j (by rcases R with rfl|rfl<;>exact W);rw[this];exact hres
     have N:(j8 f ⟨args'⟩).run C.P g=.ok (.enter f ⟨args'⟩) g:=by have V:fn.name≠ "runtime.NumGoroutine":=(by simpa using u);simp[j8,t,V,hb]
     unfold Does;rw[N];simp only;refine calls_of_wp t hb ?_;have hl:=hv.I;have Z:AR y (args++k9 (ntmps-z args) .dT) {tmps:=(⟨args'⟩:j9 Value)++Array.replicate (fn.ntmps-(⟨args'⟩:j9 Value).size) undef,defers:=[]}:=by have V:=hv.cM (VRs.fc (ntmps-z args) (AX y));have:z args'=z args:=hl;simpa[AR,this,<-af]using V
     rw[<-ak]at F;refine Z0 (pX s i k body _ e O1 Y x' F y g _ Z G.wr hg) λex a2 S ⟨aa,hd,g2,X,c⟩=>?_;obtain⟨az,hr1,hr2⟩:=Na (C:=C) c.wr X _ j ax vs w;obtain⟨g3,H,aq⟩:=wz c.wr _ ab hr2;obtain⟨g4,I,au⟩:=OD ((G.N c).N H) aw aq;have l:a2.defers=[]/\∃v1,(K6 fn a2.tmps).run C.P S=.ok v1 S/\∃Q,Ending.returned v1=.returned Q/\∃g',j7 B O0 g g' O' S/\VR g' v Q:=
      ⟨hd,_,KY fn a2.tmps S hr1,_,w9,g4,by rw[P];exact I,by rw[an];exact YV d az au⟩
     subst aa;rcases R with rfl|rfl;·exact l
     ·exact l
    grind
def Oa{g:Gh}{w C:Y}{O:St}(u:WR g w O){g':Gh}(a:j7 (g.bh 0) [] w g' [] C):j7 g O w {g with im:=g'.im} O C/\g'.le {g with im:=g'.im}:=by
 have F:g'.n=0:=a.wr.n;have B:g'.pl=g.pl:=a.le.pl;have t:g'.le {g with im:=g'.im}:=⟨B.symm,by simp[F],λo p=>by omega,λo p=>by omega,λ_ _ _ h=>h⟩;have d:g.le {g with im:=g'.im}:=⟨w9,a09 _,λ_ _=>w9,λ_ _=>w9,λb i v h=>a.le.im b i v h⟩;have f:∀b,afC (g.bh 0) [] b:=λb o x h=>by simp at h
 refine⟨⟨d,⟨u.n,a.wr.im,λb i v hv=>(a.wr.uf b i v hv).imp (λe=>⟨(congrFun B b).symm.trans e.1,e.2⟩) id,λo x H=>?_,u.inj⟩,a.os,a.dn,a.cc,a.aq,λb hb G=>⟨G,(a.fr b hb (f b)).2.1,λi=>(a.fr b hb (f b)).2.2 i⟩⟩,t⟩;have p:=u.bA o x H;cases x with
 |em=>trivial
 |cP l L=>
  obtain⟨c,e,fr,n,h2,h3,h4,h5,h6⟩:=p;have hb:g.ob o<w.heap.size:=(aG3.mp n).1;obtain⟨_,q,A⟩:=a.fr (g.ob o) hb (f _);refine⟨c,e,fr,q.trans n,h2,h3,λi y I=>?_,h5,λi v hv=>h6 i v ?_⟩;·obtain⟨v,hv,hr⟩:=h4 i y I;exact⟨v,hv,hr.D d⟩
  ·have:=A i;exact this.symm.trans hv
 |dz K=>
  obtain⟨m,clock,n,h2⟩:=p;have hb:g.ob o<w.heap.size:=(aG3.mp n).1;obtain⟨_,q,A⟩:=a.fr (g.ob o) hb (f _);exact⟨m,clock,q.trans n,h2.aq,h2.kx,λi k v s=>by
   obtain⟨e,D,E,hv,j⟩:=h2.mo i k v s;exact⟨e,D,E.D d,hv.D d,j⟩⟩
theorem Does.D{P:I}{f:Q}{args:X K}{w:Y}{R a:K->Y->Prop}(h:H P f args w R)(hr:∀v b,R v b->a v b):H P f args w a:=by
 unfold H at h⊢;split at h;·exact h.mono λe g ⟨v,d,c⟩=>⟨v,d,hr _ _ c⟩
 ·exact hr _ _ h
 ·exact h
def acM {C:Ctx} {call:bY} (k:C.P.follows .mixedOrders=eT) (d:fZ C call) (q:∀n l,C.gl n=J l->ae 0 l=eT) {f:FuncId} {K:KF} (H:KOK C f K) {n:V} {raw pure:R} {args:LA} {O:St} {v:AV} {O':St}
  (h:avg C call n K raw pure args O=J (v,O')) {g:Gh} {w:World} {args':X Value} (I:VRs g args args') (E:WR g w O) (D:GL C g):Does C.P f args' w λv' F=>∃g',j7 g O w g' O' F/\VR g' v v':=by
 obtain⟨A,h2,h3⟩:=H;unfold avg at h;split at h;·cases h
 ·rename_i p L;obtain⟨m,N⟩:=p;dsimp only at h;obtain⟨G,a,i⟩:=wz E raw L I;split at h
  ·rename_i B;rw[ni,a02,am4]at B;unfold ar1 at h;split at h;·cases h
   ·rename_i p hb;obtain⟨v1,Y⟩:=p;dsimp only at h;split at h;·simp at h;obtain⟨rfl,rfl⟩:=h;have c:=a.wr;have j:WR (G.bh 0) w []:=⟨w9,c.im,c.uf,λo x y=>by simp at y,λo P x Q y=>by simp at y⟩;have b:=D.D a.le;have:=abe (O0:=[]) d ⟨Me k d,MH k d⟩ A h2 h3 hb (Goes.ax j) j (i.bh B.2) ⟨λn l s=>⟨(b.1 n l s).1.bh (q n l s),(b.1 n l s).2⟩,b.2⟩;refine this.D λv' F ⟨g',e,u⟩=>?_;obtain⟨hf,t⟩:=Oa c e;exact⟨_,a.N hf,u.D t⟩
    ·cases h
  ·exact abe d ⟨Me k d,MH k d⟩ A h2 h3 h a E i (D.D a.le)
def Kt{C:E}{T:Tr2}(k:C.P.follows .mixedOrders=eT)(j:alK C T):∀n,fZ C (dA C T n)
 |0=>λf args O v b h=>by cases h
 |n+1=>by
  have l:=Kt k j n;intro f args O v b h g w a d i e;change axb (T f) C (dA C T n) n args O=J (v,b)at h;unfold axb at h;split at h;·cases h
  ·rename_i t m;have c:=j.cz f t m;split at h;·exact c args O v b h g w a d i e
   ·exact acM k l j.gl c h d i e
   ·split at h;·rename_i q hr;cases h;exact c.1 args O v b hr g w a d i e
    ·exact acM k l j.gl c.2 h d i e
   ·exact c _ l args O v b h g w a d i e
def zY{g:Gh}{w d:Y}{O:St}(h:WR g w O)(hb:Below w.heap.size w d):j7 g O w g O d:=by
 refine⟨.ax g,⟨h.n,λb i v hv=>?_,λb i v hv=>?_,λk y c=>?_,h.inj⟩,hb.os,hb.tape,hb.output,hb.size,λb a f=>⟨f,hb.block b a,λ_=>w9⟩⟩;·rw[Au (hb.block b (h.cK hv))];exact h.im b i v hv
 ·rw[hb.block b (h.cK hv)];exact h.uf b i v hv
 ·exact OR.D (h.bA k y c) (.ax g) (h.lt c) (λe=>hb.block _ (h.ee c e)) (λ_ _ _ hv=>hv)
structure JR(P:Program)(f:FuncId):Prop where
 is:∃fn,P.funcs[f]?=some fn/\fn.name≠ "runtime.NumGoroutine"/\fn.body.isSome=true
def JR.jf{P:I}{f:Q}(h:JR P f)(args:X K)(w:Y):(j8 f ⟨args⟩).run P w=.ok (.enter f ⟨args⟩) w:=by obtain⟨fn,a,h2,h3⟩:=h.is;obtain⟨b,hb⟩:=aE5.mp h3;simp[j8,a,h2,hb]
def FV{P:I}{f:Q}(hf:JR P f){args:X K}{w:Y}{R:K->Y->Prop}(h:Calls P f ⟨args⟩ w λe a=>∃v,e=.returned v/\R v a):H P f args w R:=by unfold H;rw[hf.jf];exact h
def ak3 {P:I} {f:Q} (hf:JR P f) {args:X K} {w:Y} {g:Gh} {O:St} (c:WR g w O) {v:AV} {v':K} (hv:VR g v v') (h:Calls P f ⟨args⟩ w λe a=>e=.returned v'/\Below w.heap.size w a):
  H P f args w λv' a=>∃g',j7 g O w g' O a/\VR g' v v':=
 FV hf (h.mono λe a ⟨b,hb⟩=>⟨v',b,g,zY c hb,hv⟩)
def Vb(F:LU->AV)(args:LA)(O:St):L (AV×St):=
 match args with
 |[.cU s]=>if i (z s) 1099511627776 then J (F s,O)else U|_=>U
def auZ {C:E} {f:Q} (hf:JR C.P f) (F:LU->AV) (c:LU->K) (hF:∀g s,VR g (F s) (c s)) (i:∀(s:ByteArray) (w:Y),s.size<=1099511627776->Calls C.P f #[.string s] w λe k=>e=.returned (c s.data.toList)/\Below w.heap.size w k):
  POK C f (Vb F):=by
 intro args O v l h g w a d j m;unfold Vb at h;split at h
 ·rename_i s;split at h;·rename_i b;simp at h;obtain⟨rfl,rfl⟩:=h;cases d with|cV _ v1 _ l1 x y=>cases y;cases x;exact ak3 hf j (hF g s) (i ⟨⟨s⟩⟩ w (aD3 b))
  ·cases h
 ·cases h
def anY {g:Gh} {w j:Y} {O:St} (h:WR g w O) {o:V} {l:LA} {tg:L (TypeId×R)} (hx0:O[o]?=J (.cP l ⟨eF,tg⟩)) (u:j.os=w.os) (d:j.tape=w.tape) (q:j.output=w.output) (E:j.heap.size=w.heap.size)
  (p:∀k,k≠g.ob o->j.heap[k]?=w.heap[k]?):j7 g O w g (O.set o .em) j:=by
 obtain⟨c,e,fr,H,h2,h3,h4,h5,h6⟩:=h.bA o _ hx0;have D:∀i v,g.im (g.ob o) i≠J v:=λi v hv=>K3 (h6 i v hv).1 (by simp);refine⟨.ax g,⟨by simp[h.n],λb i v hv=>?_,λb i v hv=>?_,λk y s=>?_,λk F y G s x a n C=>?_⟩,u,d,q,by omega,λb hb B=>⟨λk y s a=>?_,p b (λe=>B o _ hx0 w9 e.symm),λ_=>w9⟩⟩;·grind [Au,WR]
 ·grind [WR]
 ·rcases sF s with⟨m,f⟩|⟨rfl,_,rfl⟩;·exact OR.D (h.bA k y f) (.ax g) (h.lt f) (λa=>p _ λe=>m (h.inj k o y _ f hx0 a w9 e)) (λ_ _ _ hv=>hv)
  ·trivial
 ·rcases sF s with⟨m,f⟩|⟨m,_,rfl⟩
  ·rcases sF x with⟨t,A⟩|⟨t,_,rfl⟩;·exact h.inj k F y G f A a n C
   ·cases n
  ·cases a
 ·rcases sF s with⟨m,f⟩|⟨m,_,rfl⟩;·exact B k y f a
  ·cases a
def anX {P:I} {g:Gh} {w:Y} {O:St} (h:WR g w O) {o:V} {l:LA} {tg:L (B×R)} (i:O[o]?=J (.cP l ⟨eF,tg⟩)) {off:V} {c:AV} {v:K} (f:VR g c v) (hb:off<z l) (hf:c.Q=eT):
  j7 g O w g (O.set o (.cP (p l off [c]) ⟨eF,tg⟩)) (w.setCell ⟨g.ob o,off,U⟩ v):=by
 obtain⟨k,e0,fr,e,h2,h3,h4,h5,h6⟩:=h.bA o _ i;obtain⟨m,b,d⟩:=QT (P:=P) h i (off:=off) (cs:=[c]) (vs:=[v]) (.cV _ _ _ _ f .db) (by simp;omega) (by simpa using hf)
 have a:=run_storeCells_cells (P:=P) (g.ob o) off [v] 0 w (λj hj=>by rw[cell_of_heap e,aD1 (by simp at hj;omega)];rfl) (λj hj=>by
  have:=avJ h5.1 k.size (off+0+j) (by simp at hj;omega);simpa[World.frozen?,e]using this) (VRs.ef (.cV _ _ _ _ f .db) (by simpa using hf))
 rw[b]at a;simp only[Result.ok.injEq,true_and]at a;subst a;exact d
def ai6(w:Y)(b n:V):(w.freeze ⟨b,0,U⟩ n).os=w.os/\(w.freeze ⟨b,0,U⟩ n).tape=w.tape/\(w.freeze ⟨b,0,U⟩ n).output=w.output/\(w.freeze ⟨b,0,U⟩ n).heap.size=w.heap.size/\∀k,k≠b->(w.freeze ⟨b,0,U⟩ n).heap[k]?=w.heap[k]?:=by unfold World.freeze;grind
def PR:LA->L LU
 |[]=>J []
 |v::l=>match v with
  |.cQ .u8 (.ofNat n)=>match i n 255 with
   |eT=>match PR l with|J bs=>J (UInt8.ofNat n::bs)|U=>U
   |eF=>U
  |_=>U
def abf:∀{l:LA} {s:LU},PR l=J s->z s=z l/\∀(j:V) (x:UInt8),s[j]?=J x->l[j]?=J (.cQ .u8 x.toNat)
 |[],s,h=>by simp[PR]at h;subst h;simp
 |v::l,s,h=>by
  unfold PR at h;split at h
  ·rename_i n;split at h
   ·rename_i c;have c:=aD3 c;split at h;·rename_i bs a;simp at h;subst h;obtain⟨e1,e2⟩:=abf a;refine⟨by simp[e1],λj x b=>?_⟩;cases j with|zero=>simp at b;subst b;simp;omega|succ j=>simpa using e2 j x (by simpa using b)
    ·cases h
   ·cases h
  ·cases h
def Tu(P:I)(f:Q):R:=
 match P.funcs[f]? with
 |J fn=>!(fn.name== "runtime.NumGoroutine")|U=>eF
def ja(P:I)(gl:V->L LA)(raw:Q->R)(prim:Q->L (LA->St->L (AV×St))):E:=
 {P,gl,eL:=raw,fs:=λf=>match Tu P f with|eT=>cF P f|eF=>U,eV:=prim}
def zx(P:I)(gl raw prim):ajH (ja P gl raw prim):=by intro f x h;grind [ja,Tu]
def ahD {P:I} (y:P.follows .mixedOrders=eT) {f:Q} (hf:JR P f) {n:V} {args:LA} {v:AV} (h:evF (ja P (λ_=>U) (λ_=>eF) (λ_=>U)) n f args []=J (v,[])) (w:Y) (args':X K) (v':K)
  (p:∀g,VRs g args args') (hv:∀g v2,VR g v v2->v2=v'):Calls P f ⟨args'⟩ w λe j=>e=.returned v'/\Below w.heap.size w j:=by
 have hs:=PX (C:=ja P (λ_=>U) (λ_=>eF) (λ_=>U)) y (zx _ _ _ _) (λf h s=>by simp[ja]at s) n f args [] v [] h;have A:WR ⟨λ_=>eT,0,λ_=>0,λ_=>0,λ_ _=>U⟩ w []:=⟨w9,λb i v hv=>by simp at hv,λb i v hv=>by simp at hv,λo x c=>by simp at c,λo E x F c=>by simp at c⟩;have d:=hs _ w args' (p _) A ⟨λn l u=>by simp[ja]at u,.inr λ_=>w9⟩;unfold H at d;change(match(j8 f ⟨args'⟩).run P w with|.ok (.enter B m) j=>_|.ok (.value v) j=>_|_=>N)at d;rw[hf.jf]at d;refine Z1 d λe j ⟨v2,q,D,a,hr⟩=>?_;have:=hv _ _ hr;subst this;refine⟨q,?_⟩;exact⟨a.os,a.dn,a.cc,a.aq,λk t=>(a.fr k t (λo x c=>by simp at c)).2.1⟩
noncomputable section
def fG(d:L (AV×St))(v:AV):R:=
 match d with
 |U=>eF|J p=>match p with|(a,O)=>match O with|[]=>c a v|_::_=>eF
def KX{d:L (AV×St)}{v:AV}(h:fG d v=eT):d=J (v,[]):=by unfold fG at h;grind [same_eq]
def alE(C:E)(f:Q)(args:LA)(v:AV):Prop:=POK C f λa O=>match zG a args with|eT=>J (v,O)|eF=>U
def ail{C:Ctx}{call:bY}(y:fZ C call){f:Q}{args:LA}{v:AV}(i:∀n l,C.gl n=J l->ae 0 l=eT)(d:ae 0 args=eT)(h:fG (call f args []) v=eT):alE C f args v:=by
 intro t O v1 B c g w a u p e;dsimp only at c;split at c;·rename_i A;have:=yY _ _ A;subst this;cases c;have h2:=KX h;have q:WR (g.bh 0) w []:=⟨w9,p.im,p.uf,λo x s=>by simp at s,λo E x H s=>by simp at s⟩;refine(y _ _ _ _ _ h2 (g.bh 0) w a (u.bh d) q ⟨λn l j=>⟨(e.1 n l j).1.bh (i n l j),(e.1 n l j).2⟩,e.2⟩).D λF G ⟨D,b,m⟩=>?_;obtain⟨hf,k⟩:=Oa p b;exact⟨_,hf,m.D k⟩
 ·cases c
def memo(l:X (LA×AV))(azs:LA)(O:St):L (AV×St):=
 match l with
 |[]=>U|p::l=>match p with|(args,v)=>match zG azs.reverse args.reverse with|eT=>J (v,O)|eF=>memo l azs O
def art{C:E}{f:Q}:POK C f (memo []):=λargs O v a h=>by cases h
def aok{C:E}{f:Q}{args:LA}{v:AV}{l:X (LA×AV)}(h:alE C f args v)(m:POK C f (memo l)):POK C f (memo ((args,v)::l)):=by
 intro b O v1 d c g w a e j i;unfold memo at c;dsimp only at c;cases k:zG b.reverse args.reverse with
 |true=>refine h b O v1 d ?_ g w a e j i;grind [List.reverse_inj,yY,yF]|false=>rw[k]at c;exact m b O v1 d c g w a e j i
def orP(h k:LA->St->L (AV×St))(azs:LA)(O:St):L (AV×St):=match h azs O with|J d=>J d|U=>k azs O
def akQ{C:E}{f:Q}{h k:LA->St->L (AV×St)}(l:POK C f h)(m:POK C f k):POK C f (orP h k):=by
 intro b O v1 d c g w a e j i;unfold orP at c;split at c;·rename_i q hr;cases c;exact l b O v1 d hr g w a e j i
 ·exact m b O v1 d c g w a e j i
end
def tq:c (.cX [.cU [1,2,3],.cQ r 5,.sl 1 [.cU []]]) (.cX [.cU [1,2,3],.cQ r 5,.sl 1 [.cU []]])=eT:=by decide
noncomputable section
def sU {C:E} {call:bY} (t:fZ C call) (d:∀n l,C.gl n=J l->ae 0 l=eT) {f:Q} {args:LA} {v:AV} (b:ae 0 args=eT) (h:call f args []=J (v,[])) {g:Gh} {w:Y} {O:St} {args':X K} (s:VRs g args args') (k:WR g w O) (c:GL C g):
  H C.P f args' w λv' q=>∃g',j7 g O w g' O q/\VR g' v v':=by
 have m:WR (g.bh 0) w []:=⟨w9,k.im,k.uf,λo x p=>by simp at p,λo u x y p=>by simp at p⟩;refine(t _ _ _ _ _ h (g.bh 0) w args' (s.bh b) m ⟨λn l e=>⟨(c.1 n l e).1.bh (d n l e),(c.1 n l e).2⟩,c.2⟩).D λv' q ⟨g',a,j⟩=>?_;obtain⟨hf,i⟩:=Oa k a;exact⟨_,hf,j.D i⟩
def Oi(args:LA)(O:St):L (AV×St):=
 match args with
 |[.sl 0 []]=>J (.sl 0 [],O)|_=>U
def acv{C:E}{call:bY}(j:fZ C call)(d:∀n l,C.gl n=J l->ae 0 l=eT){f:Q}(q:fG (call f [.cY] []) .cY=eT)(h2:fG (call f [.fS] []) (.eB 0 [])=eT):POK C f Oi:=by
 intro args O v A h g w i s m k;unfold Oi at h;split at h
 ·simp only[a07,aC2]at h;obtain⟨rfl,rfl⟩:=h;cases s with
  |cV _ v1 _ l1 x y=>
   cases y;cases x with
   |ia=>refine(sU j d (by rfl) (KX q) (.cV _ _ _ _ .cY .db) m k).D λo p ⟨e,c,hr⟩=>⟨e,c,?_⟩;cases hr;exact .ia|gA a cap=>refine(sU j d (by rfl) (KX h2) (.cV _ _ _ _ (.fS a cap) .db) m k).D λo p ⟨e,c,hr⟩=>⟨e,c,?_⟩;cases hr;exact .gA _ _|sl _ _ b off cap t u=>refine(sU j d (by rfl) (KX h2) (.cV _ _ _ _ (.fS ⟨b,off,U⟩ cap) .db) m k).D λo p ⟨e,c,hr⟩=>⟨e,c,?_⟩;cases hr;exact .gA _ _
 ·cases h
def auS(args:LA)(O:St):L (AV×St):=
 match args with
 |[.cU a,.cU b]=>J (.cQ r (Lib.compareBytes a b),O)|_=>U
def auY{C:E}{f:Q}(he:∀args w,(j8 f args).run C.P w=((Extern.BytealgCompare.compare args).run C.P w).andThen λv w=>.ok (.value v) w):POK C f auS:=by
 intro args O v j h g w c d e k;unfold auS at h;split at h
 ·rename_i a b;simp only[a07,aC2]at h;obtain⟨rfl,rfl⟩:=h;cases d with
  |cV _ v1 _ l1 x y=>
   cases y with
   |cV _ v2 _ l2 x2 i=>
    cases i;cases x;cases x2;unfold H;have:(j8 f ⟨[.string ⟨⟨a⟩⟩,.string ⟨⟨b⟩⟩]⟩).run C.P w=.ok (.value (.int r (Lib.compareBytes a b))) w:=by rw[he];have:=Lib.run_compareString (P:=C.P) ⟨⟨a⟩⟩ ⟨⟨b⟩⟩ w;simp_all
    rw[this];exact⟨g,.ax e,.cQ _ _⟩
 ·cases h
def acw{C:E}{call:bY}(i:fZ C call)(c:∀n l,C.gl n=J l->ae 0 l=eT){f:Q}(F:LU->AV)(h:∀s:LU,z s<=1099511627776->call f [.cU s] []=J (F s,[])):POK C f (Vb F):=by
 intro args O v m a g w b e k j;unfold Vb at a;split at a
 ·rename_i s;split at a;·rename_i d;simp only[a07,aC2]at a;obtain⟨rfl,rfl⟩:=a;exact sU i c (by rfl) (h s (aD3 d)) e k j
  ·cases a
 ·cases a
def amU(F:LU->LU->AV)(args:LA)(O:St):L (AV×St):=
 match args with
 |[.cU s,.cU t]=>match H7 (i (z s) 1099511627000) (i (z t) 1099511627000)with|eT=>J (F s t,O)|eF=>U
 |_=>U
def arZ{C:E}{call:bY}(i:fZ C call)(d:∀n l,C.gl n=J l->ae 0 l=eT){f:Q}(F:LU->LU->AV)(h:∀s t:LU,z s<=1099511627000->z t<=1099511627000->call f [.cU s,.cU t] []=J (F s t,[])):POK C f (amU F):=by
 intro args O v m a g w c e k j;unfold amU at a;split at a
 ·rename_i s t;split at a;·rename_i b;rw[ni,a02]at b;simp only[a07,aC2]at a;obtain⟨rfl,rfl⟩:=a;exact sU i d (by rfl) (h s t (aD3 b.1) (aD3 b.2)) e k j
  ·cases a
 ·cases a
theorem axw{P:I}{gl raw prim}{f:Q}{K:KF}(b:cF P f=J K.ad)(h2:Tu P f=eT)(h3:K.ok=eT):KOK (ja P gl raw prim) f K:=by
 refine⟨b,?_,h3⟩;unfold Tu at h2;split at h2;·rename_i fn a;exact⟨fn,a,by simpa using h2⟩
 ·cases h2
theorem akr{P:I}{gl raw prim}{f:Q}{K:KF}(a:cF P f=J K.ad)(h2:Tu P f=eT)(h3:K.ok=eT)(b:prim f=U)(hr:raw f=eF):Has (ja P gl raw prim) f K:=by refine⟨?_,b,hr,h3⟩;simp only[ja,h2,a]
end
noncomputable section
abbrev MM:=Q->X (LA×AV)
def MOK(C:E)(M:MM):Prop:=∀f,POK C f (memo (M f))
def M0:MM:=λ_=>[]
def ayF(C:E):MOK C M0:=λf=>art
def ig(M:MM)(f:Q)(a:LA)(v:AV):MM:=λg=>match Nat.beq g f with|eT=>(a,v)::M f|eF=>M g
def avL{C:E}{M:MM}(h:MOK C M){f:Q}{a:LA}{v:AV}(b:alE C f a v):MOK C (ig M f a v):=by
 intro g;unfold ig;cases hb:Nat.beq g f with
 |true=>have:=a95 hb;subst this;exact aok b (h g)|false=>exact h g
def arq(l:X (LA×AV))(azs:LA)(O:St):L (AV×St):=match l with|[]=>U|_::_=>match w eF azs O with|U=>U|J p=>match p with|(a,Y)=>memo l a Y
def ars{C:E}{M:MM}(h:MOK C M)(f:Q):POK C f (arq (M f)):=by
 intro j O v1 i d g w b m q n;unfold arq at d;split at d;·cases d
 ·rename_i s;split at d;·cases d
  ·rename_i p o;obtain⟨a,Y⟩:=p;obtain⟨k,c,hv⟩:=wz q eF o m;exact(h f a Y v1 i d k w b hv c.wr (n.D c.le)).D λt u ⟨l,e,hr⟩=>⟨l,c.N e,hr⟩
end
instance:Inhabited (DataW Unit):=⟨.nil⟩
def Tab(W:Y)(g:V)(l:LA):Prop:=
 ∃c e,W.heap[g]?=J (.cells c e (0,0))/\∀(i:V) (a:AV),l[i]?=J a->∃v,c[i]?=J v/\∀b:Gh,VR b a v
def agm {P:I} {W:Y}:∀{b:X (X2×F Unit)} {f:X D},DataW.LaidVars P W b f->∀{n:X2} {d:F Unit},(n,d)∈b->
  ∃g t cs a p,P.globalNamed n=J g/\(P.globals[g]?).map (·.type)=J t/\W.var? P n=J cs/\j0 (λ_=>()) P W 0 (λ_=>eT) eF a t cs.toList=J (d,p)/\∀x∈MemPlace.row ⟨g,0,U⟩ cs.size,x∈f
 |[],_,_,_,_,c=>by cases c
 |(m,j)::N,f,h,n,d,c=>by
  obtain⟨g,t,cs,a,p,q,l,h2,h3,h4,h5,rfl⟩:=h;rcases aC8.mp c with o|c;·grind
  ·obtain⟨k,B,i,e,A,s,u,v,w,y⟩:=agm h5 c;grind
def aim {P:Program} {W:World} {f:List (X2×DataW Unit)} (h:laidMet P f W) {n:X2} {t e:TypeId} {N g:Nat} {l:List (DataW Unit)} {la:LA} (I:(n,.agg l)∈f)
  (C:P.globalNamed n=J g) (h2:(P.globals[g]?).map (·.type)=J t) (h3:P.underlying t=J (.array (N+1) e)) (h4:P.cellsOf e=1) (h5:P.cellsOf t=N+1) (V:z la=N+1)
  (hv:∀(i:Nat) (a:AV) b (x:Value) p d,la[i]?=J a->l[i]?=J d->j0 (λ_=>()) P W 0 (λ_=>eT) eF b e [x]=J (d,p)->∀S:Gh,VR S a x):Tab W g la:=by
 obtain⟨R,D,_,F⟩:=h;obtain⟨T,Y,cs,b,p,L,M,X,O,Q⟩:=agm D I;obtain rfl:=aF9 (C.symm.trans L);obtain rfl:=aF9 (h2.symm.trans M);obtain⟨o,m,_,ex,j,K,s⟩:=DataW.trod_array h3 O;have A:l=o.map (·.1):=by grind
 have v:cs.size=N+1:=by rw[<-h5,<-j];simp
 have B:MemPlace.cell g 0∈R:=Q _ (by simp[MemPlace.row,v]);obtain⟨⟨c,y,H⟩,_⟩:=F g 0 B;have q:c=cs:=by grind [World.var?]
 subst q;refine⟨c,y,H,λi a E=>?_⟩;have hi:i<N+1:=by grind
 have k:=s i hi;rw[h4,aD2]at k;have u:i<c.size:=by omega
 have G:((c.toList.drop i).take 1)=[c[i]]:=by apply aD6;grind
 rw[G]at k;have w:i<z o:=by omega
 rw[a01 w]at k;refine⟨c[i],aD1 u,?_⟩;exact hv i a m c[i] o[i].2 o[i].1 E (by rw[A];simp[w]) k
def jS {P:I} {W:Y} {b:X (X2×F Unit)} (h:laidMet P b W) {n:X2} {t e:B} {N g:V} {k:v} {l:X Int} (m:(n,.agg (l.map λi=>.lit (.int k i)))∈b)
  (f:P.globalNamed n=J g) (h2:(P.globals[g]?).map (·.type)=J t) (h3:P.underlying t=J (.array (N+1) e)) (h4:P.cellsOf e=1) (h5:P.cellsOf t=N+1) (j:l.length=N+1) (h6:P.underlying e=J (.int k)):Tab W g (l.map λi=>.cQ k i):=by
 refine aim h m f h2 h3 h4 h5 (by simp[j]) λi a c x p d q s o u=>?_;obtain⟨z,e1,e2,_⟩:=K7 h6 o;grind [VR]
def Sr {P:I} {W:Y} {b:X (X2×F Unit)} (h:laidMet P b W) {n:X2} {t e:B} {N g:V} {l:X LU} (q:(n,.agg (l.map λi=>.lit (.string i)))∈b)
  (m:P.globalNamed n=J g) (h2:(P.globals[g]?).map (·.type)=J t) (h3:P.underlying t=J (.array (N+1) e)) (h4:P.cellsOf e=1) (h5:P.cellsOf t=N+1) (o:l.length=N+1) (h6:P.underlying e=J .string):Tab W g (l.map .cU):=by
 refine aim h q m h2 h3 h4 h5 (by simp[o]) λi a k x p d c j s u=>?_;obtain⟨z,e1,e2,_⟩:=K1 h6 s;rw[aF7]at c j;cases f:l[i]? with
 |none=>rw[f]at c;cases c|some y=>rw[f]at c j;simp only[aC5,a07]at c j;subst c j;simp only[List.cons.injEq,and_true]at e1;simp only[aC2,DataW.lit.injEq,Lit.string.injEq]at e2;rw[e1,e2.1];exact .cU _
def mZ{W:Y}{g:V}{k:v}{l:X f}{la:LA}(h:Tab W g (l.map λi=>.cQ k i))(e:la=l.map λi=>.cQ k i):Tab W g la:=e▸h
def XY{W:Y}{g:V}{l:X LU}{la:LA}(h:Tab W g (l.map .cU))(e:la=l.map .cU):Tab W g la:=e▸h
def aiy:K->R|.int .u8 _=>eF|_=>eT
def aiz:L K->R|J (.int r _)=>eF|_=>eT
def gh0(T:V->R)(W:Y):Gh:=⟨T,0,λ_=>0,λ_=>0,λb i=>match T b with|eT=>W.cell? ⟨b,i,U⟩|eF=>(W.cell? ⟨b,i,U⟩).filter λv=>aiy v||aiz (W.cell? ⟨b,i+1,U⟩)⟩
def im0{T:V->R}{W:Y}{b i:V}{v:K}(h:W.cell? ⟨b,i,U⟩=J v)(a:(aiy v||aiz (W.cell? ⟨b,i+1,U⟩))=eT):(gh0 T W).im b i=J v:=by show(match T b with|eT=>W.cell? ⟨b,i,U⟩|eF=>(W.cell? ⟨b,i,U⟩).filter λv=>aiy v||aiz (W.cell? ⟨b,i+1,U⟩))=_;grind
theorem aw7{T:V->R}{W:Y}{b i:V}(h:T b=eT):(gh0 T W).im b i=W.cell? ⟨b,i,U⟩:=by show(match T b with|eT=>W.cell? ⟨b,i,U⟩|eF=>(W.cell? ⟨b,i,U⟩).filter λv=>aiy v||aiz (W.cell? ⟨b,i+1,U⟩))=_;rw[h]
theorem aw6{T:V->R}{W:Y}{b i:V}(h:T b=eF):(gh0 T W).im b i=(W.cell? ⟨b,i,U⟩).filter λv=>aiy v||aiz (W.cell? ⟨b,i+1,U⟩):=by show(match T b with|eT=>W.cell? ⟨b,i,U⟩|eF=>(W.cell? ⟨b,i,U⟩).filter λv=>aiy v||aiz (W.cell? ⟨b,i+1,U⟩))=_;rw[h]
def avM{g:Gh}{a:AV}{v:K}(h:VR g a v)(hb:isByte a=eF):aiy v=eT:=by
 cases h<;>first|rfl|skip
 rename_i k n;cases k<;>first|rfl|cases hb
def wr0{T:V->R}{W:Y}(h:∀b,T b=eT->∃c e,W.heap[b]?=J (.cells c e (0,0))):WR (gh0 T W) W []:=⟨w9,λb i v hv=>(by
 grind [aw6,Option.filter_eq_some_iff,aw7]),λb i v hv=>(by
 cases d:T b with
 |false=>exact .inl ⟨d,λj n m hj f=>by
  grind [aw6,Option.filter_eq_some_iff,aiy,aiz]⟩
 |true=>
  grind),λo x a=>by simp at a,λo g x k a=>by simp at a⟩
def isI:AV->R|.cQ r _=>eT|_=>eF
def avN{g:Gh}{a:AV}{v:K}(h:VR g a v)(hb:isI a=eF):aiz (J v)=eT:=by
 cases h<;>first|rfl|skip
 rename_i k n;cases k<;>first|rfl|cases hb
def okB:LA->R|[]=>eT|[a]=>!isByte a|a::b::l=>(!isByte a|| !isI b)&&okB (b::l)
def arF:∀{l:LA},okB l=eT->∀{j:V} {a:AV},l[j]?=J a->isByte a=eT->∃c,l[j+1]?=J c/\isI c=eF
 |[],_,j,a,h,_=>by simp at h
 |[x],b,j,a,h,hb=>by grind [okB]
 |x::y::l,b,j,a,h,hb=>by
  rw[okB,a02]at b;cases j with
  |zero=>grind|succ j=>exact arF b.2 (j:=j) (by simpa using h) hb
def LX(C:E)(b:V):R:=(C.gl b).isSome
def alv{C:E}{W:Y}(a:∀g l,C.gl g=J l->Tab W g l):∀b,LX C b=eT->∃c e,W.heap[b]?=J (.cells c e (0,0)):=by intro b hb;obtain⟨l,f⟩:=aE5.mp hb;obtain⟨c,e,d,_⟩:=a b l f;exact⟨c,e,d⟩
def gl0{C:E}{W:Y}(d:C.np=eT)(a:∀g l,C.gl g=J l->Tab W g l):GL C (gh0 (LX C) W):=by refine⟨λn l b=>⟨?_,by show LX C n=eT;unfold LX;rw[b];rfl⟩,.inl d⟩;obtain⟨c,e,h,f⟩:=a n l b;grind [CR.b6,aw7,LX,World.cell?]
def Rd(T:V->R)(P:I)(W:Y)(t:B){c:Type}(Q:c->Prop)(f:c->LA):Prop:=
 ∀(H:Type) (enc:B×K->H) (d:V->R) (held:R) (b:V) (cs:X K) (x:F H×X D),j0 enc P W 0 d held b t cs=J x->∃a,Q a/\VRs (gh0 T W) (f a) cs
section
variable{T:Nat->Bool}{P:Program}{W:World}{t e:TypeId}
def acD{k:v}(b:P.underlying t=J (.int k)):Rd T P W t (λn:f=>(Lit.int k n).wf=eT) (λn=>[.cQ k n]):=by intro H enc d held a cs x h;obtain⟨n,rfl,_,c⟩:=K7 b h;exact⟨n,c,.cV _ _ _ _ (.cQ _ _) .db⟩
def av5(c:P.underlying t=J .bool):Rd T P W t (λ_:R=>K5) (λb=>[.cW b]):=by intro H enc d held a cs x h;obtain⟨n,rfl,_⟩:=DataW.trod_bool c h;exact⟨n,trivial,.cV _ _ _ _ (.cW _) .db⟩
def G6(b:P.underlying t=J .string):Rd T P W t (λs:LU=>z s<=maxLen) (λs=>[.cU s]):=by intro H enc d held a cs x h;obtain⟨⟨⟨s⟩⟩,rfl,_,c⟩:=K1 b h;exact⟨s,c,.cV _ _ _ _ (.cU _) .db⟩
def adZ{W:Y}{a:Addr}{n:V}{cs:X K}(h:W.cells? 0 a n=J cs):z cs=n/\∀j,j<n->W.cell? (a.add j)=cs[j]? /\cs[j]?.isSome:=by
 unfold World.cells? at h;split at h;·have b:=mapM_some_length h;refine⟨by simpa using b,λj hj=>?_⟩;have c:=mapM_some_get h j j (by simp[hj]);grind
 ·cases h
theorem cell_spot{W:Y}{a:Addr}{v:K}(h:W.cell? a=J v):a.spot=U:=by
 unfold World.cell? at h;split at h;·simp_all
 ·cases h
def ZC{a:Type}{R:V->a->Prop}:∀(n:V),(∀i,i<n->∃x,R i x)->∃xs:X a,z xs=n/\∀i (x:a),xs[i]?=J x->R i x|0,_=>⟨[],w9,λi x h=>by simp at h⟩|n+1,h=>by obtain⟨xs,b,h2⟩:=ZC n λi hi=>h i (by omega);obtain⟨y,d⟩:=h n (by omega);refine⟨xs++[y],by simp[b],λi x c=>?_⟩;grind
def am7{l:Gh}{g:Type}{f:g->LA}{k:V}(n:∀x,z (f x)=k){b:V}:∀(xs:X g) (off:V),(∀i (x:g),xs[i]?=J x->∀j a,(f x)[j]?=J a->∃v,l.im b (off+i*k+j)=J v/\VR l a v)->CR l (xs.flatMap f) b off
 |[],off,_=>.db _ _
 |x::xs,off,h=>by
  rw[aF0];refine CR.b6 λi a c=>?_;rw[aF4]at c;split at c;·have:=h 0 x w9 i a c;simpa using this
  ·rename_i hi;rw[n]at c hi;have q:=am7 n xs (off+k) (λp s e j o d=>by
    have:=h (p+1) s (by simpa using e) j o d;obtain⟨v,m,h2⟩:=this;exact⟨v,by rw[<-m];congr 1;rw[aJ5];omega,h2⟩)
   obtain⟨v,m,h2⟩:=q.cd c;grind
def aiP {s:Type} {Q:s->Prop} {f:s->LA} {k:Nat} (Z:P.underlying t=J (.slice e)) (R:P.cellsOf e=k) (V:∀x,z (f x)=k) (E:0<k) (hu:∀x,okB (f x)=eT) (he:Rd T P W e Q f):
  Rd T P W t (λxs:List s=>z xs<=maxLen/\∀x∈xs,Q x) (λxs=>[.sl (z xs) (xs.flatMap f)]):=by
 intro H enc sp held B cs x h;rcases DataW.trod_slice Z h with⟨rfl,_⟩|⟨a,len,cap,c,F,n,_,rfl,_,_,X,C,S,d,_,_⟩;·exact⟨[],⟨a97 _,λx q=>by cases q⟩,.cV _ _ _ _ .ia .db⟩
 ·rw[R]at d;have w:0<len->a.spot=U:=λO=>by have p:=d 0 O;rw[a01 (by omega),a04]at p;obtain⟨c1,g,_⟩:=p;obtain⟨_,D⟩:=adZ g;grind [cell_spot,Addr.add]
  have:∀i,i<len->∃y:s,Q y/\a.spot=U/\∀j av,(f y)[j]?=J av->∃v,(gh0 T W).im a.block (a.off+i*k+j)=J v/\VR (gh0 T W) av v:=by
   intro i hi;have u:i<z c:=(by omega);have p:=d i hi;rw[a01 u,a04]at p;obtain⟨o,g,hy⟩:=p;obtain⟨y,Y,hv⟩:=he H enc sp held n o _ hy;obtain⟨hl,D⟩:=adZ g;have hs:=w (by omega);refine⟨y,Y,hs,λj av b=>?_⟩;have hj:j<k:=(by grind);obtain⟨v,h4,h5⟩:=hv.cd b;have m:∀j v,o[j]?=J v->W.cell? ⟨a.block,a.off+i*k+j,U⟩=J v:=λj v e=>by have hj:j<k:=(by grind);rw[<-e,<-(D j hj).1];obtain⟨ab,ao,G⟩:=a;grind [addr_add]
   refine⟨v,im0 (m j v h4) ?_,h5⟩;cases hb:isByte av with
   |false=>rw[avM h5 hb];rfl|true=>obtain⟨a',K,L⟩:=arF (hu y) b hb;obtain⟨v',M,N⟩:=hv.cd K;rw[show a.off+i*k+j+1=a.off+i*k+(j+1)from by omega,m (j+1) v' M,avN N L,aH9]
  obtain⟨xs,A,q⟩:=ZC len this;refine⟨xs,⟨by omega,λx l=>?_⟩,.cV _ _ _ _ ?_ .db⟩;·obtain⟨i,hi,rfl⟩:=Z3 l;exact(q i _ (a01 hi)).1
  ·cases xs with
   |nil=>grind [VR]
   |cons y ys=>
    have hs:=(q 0 y w9).2.1;have I:a=⟨a.block,a.off,U⟩:=by cases a;simp_all
    rw[I,<-A];refine .sl _ _ _ _ _ (am7 V _ _ λi x l j av b=>(q i x l).2.2 j av b) (by omega)
def RdF(T:V->R)(P:I)(W:Y):X Field->V->{c:Type}->(c->Prop)->(c->LA)->Prop:=λfs off c Q f=>
 ∀(H:Type) (enc:B×K->H) (d:V->R) (held:R) (b:V) (cs:X K),(∀g∈fs,(j0 enc P W 0 d held b g.type ((cs.drop g.offset).take (P.cellsOf g.type))).isSome)->z cs=off+(fs.map λg=>P.cellsOf g.type).sum->∃a,Q a/\VRs (gh0 T W) (f a) (cs.drop off)
def XJ{off:V}:RdF T P W [] off (λ_:Unit=>K5) (λ_=>[]):=by intro H enc c held a cs _ b;refine⟨(),trivial,?_⟩;rw[aC0 (by simp at b;omega)];exact .db
def qN {k l:Type} {Q:k->Prop} {f:k->LA} {m:l->Prop} {n:l->LA} {g:Field} {fs:X Field} {off:V} (o:g.offset=off) (h:Rd T P W g.type Q f) (hf:RdF T P W fs (off+P.cellsOf g.type) m n):
  RdF T P W (g::fs) off (λx:k×l=>Q x.1/\m x.2) (λx=>f x.1++n x.2):=by
 intro H enc p held c cs d s;obtain⟨y,u⟩:=aE5.mp (d g (by simp));obtain⟨a,t,hv⟩:=h H enc p held c _ _ u;obtain⟨b,i,j⟩:=hf H enc p held c cs (λq e=>d q (by simp[e])) (by simp at s;omega);refine⟨(a,b),⟨t,i⟩,?_⟩;have:cs.drop off=(cs.drop off).take (P.cellsOf g.type)++cs.drop (off+P.cellsOf g.type):=by rw[<-aK1,List.take_append_drop]
 rw[this,<-o];exact hv.cM (by rw[o];exact j)
def MZ{d:Type}{Q:d->Prop}{f:d->LA}{fs:j9 Field}(l:P.underlying t=J (.struct fs))(e:P.cellsOf t=(fs.toList.map λg=>P.cellsOf g.type).sum)(h:RdF T P W fs.toList 0 Q f):Rd T P W t Q f:=by
 intro H enc p held c cs x m;obtain⟨q,n,_,_,k,o,a⟩:=DataW.trod_struct l m;have:=h H enc p held n cs (λg j=>by
  obtain⟨i,hi,rfl⟩:=Z3 j;have b:i<fs.size:=(by simpa using hi);have h2:=a i fs[i] (by simp[b]);grind) (by rw[k,e];omega)
 simpa using this
def Rd.dz{c d:Type}{Q:c->Prop}{f:c->LA}{e:d->Prop}{i:d->LA}(h:Rd T P W t Q f)(g:c->d)(m:∀a,Q a->e (g a))(hf:∀a,i (g a)=f a):Rd T P W t e i:=by intro H enc k held b cs x j;obtain⟨a,l,h2⟩:=h H enc k held b cs x j;grind
end
def J9 {T:V->R} {P:I} {W:Y} {t:B} {fs:j9 Field} {base:V} {v:K} (i:P.underlying t=J (.struct fs)) (hv:l P W .any base t v) {c:Type} {Q:c->Prop} {f:c->LA} (hr:Rd T P W t Q f) {H:Type} {enc:B×K->H} {b:V->R} {held:R} {d:F H} {k:X D} (h:DataW.Trod enc P W 0 b held t v d k):
  ∃a,Q a/\VR (gh0 T W) (.cX (f a)) v:=by
 simp only[l,i]at hv;obtain⟨cs,rfl,_,_⟩:=hv;obtain⟨n,e⟩:=h;obtain⟨a,g,j⟩:=hr H enc b held n _ _ e;exact⟨a,g,.cX _ _ j⟩
def QY {T:V->R} {P:I} {W:Y} {t:B} {base:V} {v:K} (b:∀cs,¬l P W .any base t (.agg cs)) (hv:l P W .any base t v) {e:Type} {Q:e->Prop} {f:e->AV} (hr:Rd T P W t Q (λa=>[f a])) {H:Type} {enc:B×K->H} {c:V->R} {held:R} {d:F H} {j:X D} (h:DataW.Trod enc P W 0 c held t v d j):
  ∃a,Q a/\VR (gh0 T W) (f a) v:=by
 obtain⟨n,g⟩:=h;obtain⟨a,i,k⟩:=hr H enc c held n _ _ g;refine⟨a,i,?_⟩;have:v.cells.toList=[v]:=by
  cases v with
  |agg cs=>exact K3 hv (b cs)|_=>rfl
 grind [VRs]
def acj{P:I}{W:Y}{t:B}{base:V}(a:P.underlying t=J .string):∀cs,¬l P W .any base t (.agg cs):=λcs h=>by simp[l,a,Cell.okWide,Cell.ok]at h
def NF {C:E} {call:bY} (m:fZ C call) {f:Q} (hf:JR C.P f) (q:C.np=eT) {azs:LA} {b:R} (h:call f azs []=J (.cW b,[])) {W:Y} (c:∀g l,C.gl g=J l->Tab W g l) {args:X K} (j:VRs (gh0 (LX C) W) azs args):
  Calls C.P f ⟨args⟩ W λe i=>e=.returned (.bool b)/\Below W.heap.size W i:=by
 have d:=m f azs [] (.cW b) [] h (gh0 (LX C) W) W args j (wr0 (alv c)) (gl0 q c);unfold H at d;rw[hf.jf]at d;refine Z1 d λe i ⟨v2,n,t,a,hr⟩=>?_;cases hr;exact⟨n,a.os,a.dn,a.cc,a.aq,λk p=>(a.fr k p (λo x s=>by simp at s)).2.1⟩
def avl{g g':Gh}{a:AV}{v:K}(h:YM a=eT)(hv:VR g a v):VR g' a v:=by cases hv<;>first|(cases h;done)|constructor
def akV {C D:Ctx} {call:bY} (G:fZ C call) (B:D.P=C.P) (t:D.gl=C.gl) (hs:∀n l,C.gl n=J l->l.all YM=eT) {f:Q} {b:R} (h:call f [] []=J (.cW b,[])):
  POK D f λargs O=>match args with|[]=>J (.cW b,O)|_=>U:=by
 intro args O v M p g w s F L I;dsimp only at p;split at p
 ·cases p;cases F;have u:WR ⟨λ_=>eT,0,g.ob,g.bs,λb i=>if g.pl b then g.im b i else U⟩ w []:=⟨w9,λb i v hv=>(by
   grind [WR]),λb i v hv=>(by
   grind [WR]),λo x m=>by simp at m,λo N x P m=>by simp at m⟩
  have j:=G f [] [] (.cW b) [] h _ w [] .db u ⟨λn l A=>⟨?_,w9⟩,.inr λ_=>w9⟩
  ·rw[<-B]at j;have mono:∀y q,(∃d,j7 ⟨λ_=>eT,0,g.ob,g.bs,λb i=>if g.pl b then g.im b i else U⟩ [] w d [] q/\VR d (.cW b) y)->∃d,j7 g O w d O q/\VR d (.cW b) y:=by rintro y q ⟨d,c,hr⟩;cases hr;exact⟨g,zY L ⟨c.os,c.dn,c.cc,c.aq,λk K=>(c.fr k K (λo x m=>by simp at m)).2.1⟩,.cW _⟩
   unfold Does at j⊢;split at j;·exact Z1 j λe q ⟨v2,H,E⟩=>⟨v2,H,mono _ _ E⟩
   ·exact mono _ _ j
   ·exact j
  ·obtain⟨h3,h4⟩:=I.1 n l (by rw[t];exact A);refine CR.b6 λi a hi=>?_;obtain⟨v,h5,h6⟩:=h3.cd hi;refine⟨v,?_,avl (aB0.mp (hs n l A) a (a06 hi)) h6⟩;grind
 ·cases p
open Go.RowKit Go.ChangeShapes
def BU {H:Type} {enc:B×K->H} {P:I} {W j:Y} (k:laidOutB P=eT) (hb:Below W.heap.size W j):∀{g:X B} {vs:X K} {e:X (F H)} {c:X D},(g.all λt=>P.readableRec t&&s (t<P.types.size))=eT->
  K8 enc P W 0 (λ_=>eT) eT g vs e c->(∀x∈c,x.block<W.heap.size)->K8 enc P j 0 (λb=>s (b<W.heap.size)) eT g vs e c
 |[],vs,e,c,_,h,_=>by obtain⟨rfl,rfl,rfl⟩:=trodAll_nil h;rfl
 |t::g,vs,e,c,f,h,a=>by obtain⟨v,n,d,l,p,q,rfl,rfl,rfl,m,h2⟩:=trodAll_cons h;simp only[a08,a02,O]at f;exact trodAll_cons_mk (Below.trod k f.1.1 f.1.2 m hb λx i=>a x (by simp[i])) (BU k hb (by simpa using f.2) h2 λx i=>a x (by simp[i]))
theorem ahb{H:Type}{enc:B×K->H}{P:I}{W:Y}{b:V}{d:V->R}{c:R}:∀(a:V) (t:B) (l:Lit) (p:X D),j0 enc P W b d c a t []≠J (.lit l,p)
 |0,t,l,p,h=>by cases h
 |a+1,t,l,p,h=>by unfold j0 at h;grind [aB5]
def arn{b c:Type}(f:b->L c){l:X b}{x:c}(h:l.mapM f=J [x]):∃a,f a=J x:=by
 cases l with
 |nil=>simp at h|cons a d=>grind [a04]
theorem aha{H:Type}{enc:B×K->H}{P:I}{W:Y}{b:V}{f:V->R}{d:R}(a:V)(t:B)(l:Lit)(p:X D)(h:j0 enc P W b f d a t []=J (.agg [.lit l],p)):N:=by
 cases a with
 |zero=>cases h
 |succ a=>
  unfold j0 at h;split at h;all_goals first
   |(cases h;done)|(rename_i c;cases c;done)|(rename_i c _;cases c;done)
   | (split at h
      ·rw[aB5]at h;obtain⟨g,c,e⟩:=h;have e1:=congrArg (λx=>match x.1 with|DataW.agg l=>l|_=>[]) e;dsimp only at e1
       match g,e1 with
       |_::_::_,e1=>simp at e1|[y],e1=>obtain⟨z,i⟩:=arn _ c;grind [ahb]
      ·cases h)
def atp {H:Type} {enc:B×K->H} {P:I} {W:Y} {b:V} {g:V->R} {c:V} {u:B} {cs:X K} {d:F H} {p:X D} (h:j0 enc P W b g eF c u cs=J (.ptr d,p)):
  ∃n e a f j,P.underlying u=J (.pointer e)/\cs=[.pointer (J a)]/\W.cells? b a (P.cellsOf e)=J f/\j0 enc P W b g eF n e f=J (d,j):=by
 cases c with
 |zero=>cases h
 |succ c=>
  unfold j0 at h;split at h
  case h_6 e a k=>rw[aB5]at h;obtain⟨x,i,e1⟩:=h;rw[a04]at i;grind
  all_goals first
   |(cases h;done)|(rw[aB5]at h;obtain⟨x,_,e⟩:=h;cases e;done)
   |(split at h<;>first
    |(cases h;done)|(rw[aB5]at h;obtain⟨x,_,e⟩:=h;cases e;done)|grind [a04,aB5]|grind [a04])
def axF{P:I}{W:Y}{t e:B}{base:V}(a:P.underlying t=J (.pointer e)):∀cs,¬l P W .any base t (.agg cs):=λcs h=>by simp[l,a,Cell.okWide,Cell.ok]at h
def GG {P:Program} {W:World} {f:List (X2×DataW Unit)} (h:laidMet P f W) {n name:X2} {s:LU} {t:TypeId} {ms:j9 (X2×TypeId)} {g:Nat} (R:(n,.iface name (.ptr (.agg [.lit (.string s)])))∈f)
  (N:P.globalNamed n=J g) (h2:(P.globals[g]?).map (·.type)=J t) (h3:P.underlying t=J (.interface ms)):∃u,Tab W g [.dx u (.ec [])]:=by
 obtain⟨X,O,_,Q⟩:=h;obtain⟨Y,t',cs,e,p,S,T,Z,d,V⟩:=agm O R;obtain rfl:=aF9 (N.symm.trans S);obtain rfl:=aF9 (h2.symm.trans T);have hv:∃H u v I,cs.toList=[.iface u v]/\j0 (λ_=>()) P W 0 (λ_=>eT) eF H u v.cells.toList=J (.ptr (.agg [.lit (.string s)]),I):=by
  generalize cs.toList=l at d;cases e with
  |zero=>cases d
  |succ e=>
   unfold j0 at d;rw[h3]at d
   match l,d with
   |[.nilIface],d=>cases d
   |[.iface u v],d=>
    dsimp only at d;cases A:P.typeName? 3 u with
    |none=>rw[A]at d;cases d|some nm=>rw[A]at d;dsimp only at d;rw[aB5]at d;grind
 obtain⟨H,u,v,I,w,hv⟩:=hv;have D:cs.size=1:=by have:=congrArg List.length w;simpa using this
 have M:MemPlace.cell g 0∈X:=V _ (by simp[MemPlace.row,D]);obtain⟨⟨c,K,G⟩,hok⟩:=Q g 0 M;have q:c=cs:=by grind [World.var?]
 subst q;have F:c[0]?=J (.iface u v):=by rw[<-Array.getElem?_toList,w];rfl
 have hok:=hok u v (by unfold World.cell?;rw[G];exact F);obtain⟨n2,e2,a,B,p2,q1,q2,q3,q4⟩:=atp hv;have L:v=.pointer (J a):=by
  cases v with
  |agg l=>exact K3 hok (axF q1 l)|_=>exact(List.cons.inj q2).1
 subst L;have y:a.spot=U:=by
  cases hs:a.spot with
  |none=>rfl
  |some k=>
   exfalso;have C:W.cell? (a.add 0)=U:=by show W.cell? a=U;grind [World.cell?]
   have:B=[]:=by
    unfold World.cells? at q3;rw[K2 (a97 _)]at q3;cases A:P.cellsOf e2 with
    |zero=>rw[A]at q3;simpa using q3.symm|succ m=>grind [List.range_succ_eq_map]
   grind [aha]
 obtain⟨b,o,sp⟩:=a;dsimp only at y;subst y;exact⟨u,c,K,G,λi x E=>by
  cases i with
  |zero=>simp only[aJ1,a07]at E;subst E;exact⟨_,F,λγ=>.dx _ _ _ (.ec _ _ _ (.db _ _))⟩|succ i=>simp at E⟩
def EVA:type_of%@x/\type_of%@Su/\type_of%@Xn/\type_of%@Sl/\type_of%@VJ/\type_of%@QZ/\type_of%@XL/\type_of%@XK/\type_of%@SS/\type_of%@ajb/\type_of%@acP/\type_of%@ajc/\type_of%@af7/\type_of%@acO/\type_of%@SN/\type_of%@XP/\type_of%@Ox/\type_of%@SQ/\type_of%@RJ/\type_of%@aaq/\type_of%@aar/\type_of%@abr/\type_of%@abt/\type_of%@aap/\type_of%@aaB/\type_of%@Xz/\type_of%@aiF/\type_of%@aeT/\type_of%@Xy/\type_of%@au3/\type_of%@au1/\type_of%@au2/\type_of%@Kr/\type_of%@H8/\type_of%@FI/\type_of%@VO/\type_of%@Rn/\type_of%@VW/\type_of%@VP/\type_of%@aba/\type_of%@V7/\type_of%@IY/\type_of%@VQ/\type_of%@VX/\type_of%@VV/\type_of%@VU/\type_of%@VT/\type_of%@VS/\type_of%@VY/\type_of%@VZ/\type_of%@V4/\type_of%@V5/\type_of%@V6/\type_of%@Ko/\type_of%@Gm/\type_of%@E5/\type_of%@Gl/\type_of%@Gn/\type_of%@Nz/\type_of%@Rl/\type_of%@NE/\type_of%@ND/\type_of%@NC/\type_of%@FT/\type_of%@Kq/\type_of%@DW/\type_of%@DV/\type_of%@yL/\type_of%@IZ/\type_of%@ahd/\type_of%@ahc/\type_of%@NG/\type_of%@RQ/\type_of%@Ru/\type_of%@WU/\type_of%@RF/\type_of%@WY/\type_of%@NI/\type_of%@RY/\type_of%@Rz/\type_of%@WX/\type_of%@NH/\type_of%@RS/\type_of%@NJ/\type_of%@RZ/\type_of%@Rt/\type_of%@WT/\type_of%@Wh/\type_of%@KL/\type_of%@RG/\type_of%@WZ/\type_of%@Ry/\type_of%@WW/\type_of%@Rw/\type_of%@WV/\type_of%@H9/\type_of%@KJ/\type_of%@d/\type_of%@RU/\type_of%@FU/\type_of%@Ic/\type_of%@Kv/\type_of%@N9/\type_of%@DZ/\type_of%@FY/\type_of%@Rq/\type_of%@Lh/\type_of%@Ld/\type_of%@aF.eq_1/\type_of%@aF.eq_2/\type_of%@aF.eq_3/\type_of%@aF.eq_4/\type_of%@aF.eq_5/\type_of%@aF.eq_6/\type_of%@aF.eq_7/\type_of%@aF.eq_8/\type_of%@aF.eq_9/\type_of%@aal/\type_of%@ab7/\type_of%@ab8/\type_of%@VL/\type_of%@Yf/\type_of%@VK/\type_of%@VM/\type_of%@afL/\type_of%@alT/\type_of%@afO/\type_of%@afN/\type_of%@afM/\type_of%@Ri/\type_of%@aam/\type_of%@Ny/\type_of%@PP/\type_of%@Gi/\type_of%@ab6/\type_of%@aF.eq_10/\type_of%@aF.eq_11/\type_of%@agi/\type_of%@aF.eq_13/\type_of%@aF.eq_14/\type_of%@aF.eq_15/\type_of%@aF.eq_16/\type_of%@aF.eq_18/\type_of%@aF.eq_19/\type_of%@aF.eq_20/\type_of%@aF.eq_21/\type_of%@aF.eq_22/\type_of%@aF.eq_23/\type_of%@aF.eq_24/\type_of%@aF.eq_25/\type_of%@aF.eq_26/\type_of%@aF.eq_27/\type_of%@aF.eq_28/\type_of%@aF.eq_29/\type_of%@aF.eq_30/\type_of%@aF.eq_31/\type_of%@aF.eq_32/\type_of%@aF.eq_33/\type_of%@aF.eq_34/\type_of%@aF.eq_35/\type_of%@aF.eq_36/\type_of%@aF.eq_37/\type_of%@Aa/\type_of%@aF.eq_39/\type_of%@aF.eq_40/\type_of%@aF.eq_41/\type_of%@aF.eq_42/\type_of%@aF.eq_43/\type_of%@aF.eq_44/\type_of%@aF.eq_45/\type_of%@aF.eq_46/\type_of%@aF.eq_47/\type_of%@Xg:=
 ⟨@x,@Su,@Xn,@Sl,@VJ,@QZ,@XL,@XK,@SS,@ajb,@acP,@ajc,@af7,@acO,@SN,@XP,@Ox,@SQ,@RJ,@aaq,@aar,@abr,@abt,@aap,@aaB,@Xz,@aiF,@aeT,@Xy,@au3,@au1,@au2,@Kr,@H8,@FI,@VO,@Rn,@VW,@VP,@aba,@V7,@IY,@VQ,@VX,@VV,@VU,@VT,@VS,@VY,@VZ,@V4,@V5,@V6,@Ko,@Gm,@E5,@Gl,@Gn,@Nz,@Rl,@NE,@ND,@NC,@FT,@Kq,@DW,@DV,@yL,@IZ,@ahd,@ahc,@NG,@RQ,@Ru,@WU,@RF,@WY,@NI,@RY,@Rz,@WX,@NH,@RS,@NJ,@RZ,@Rt,@WT,@Wh,@KL,@RG,@WZ,@Ry,@WW,@Rw,@WV,@H9,@KJ,@d,@RU,@FU,@Ic,@Kv,@N9,@DZ,@FY,@Rq,@Lh,@Ld,@aF.eq_1,@aF.eq_2,@aF.eq_3,@aF.eq_4,@aF.eq_5,@aF.eq_6,@aF.eq_7,@aF.eq_8,@aF.eq_9,@aal,@ab7,@ab8,@VL,@Yf,@VK,@VM,@afL,@alT,@afO,@afN,@afM,@Ri,@aam,@Ny,@PP,@Gi,@ab6,@aF.eq_10,@aF.eq_11,@agi,@aF.eq_13,@aF.eq_14,@aF.eq_15,@aF.eq_16,@aF.eq_18,@aF.eq_19,@aF.eq_20,@aF.eq_21,@aF.eq_22,@aF.eq_23,@aF.eq_24,@aF.eq_25,@aF.eq_26,@aF.eq_27,@aF.eq_28,@aF.eq_29,@aF.eq_30,@aF.eq_31,@aF.eq_32,@aF.eq_33,@aF.eq_34,@aF.eq_35,@aF.eq_36,@aF.eq_37,@Aa,@aF.eq_39,@aF.eq_40,@aF.eq_41,@aF.eq_42,@aF.eq_43,@aF.eq_44,@aF.eq_45,@aF.eq_46,@aF.eq_47,@Xg⟩
variable{C:Ctx}{call:bY}{n:Nat}
abbrev RX:=L (XE×As×St)
def asB(d:RX)(k:As->St->RX):RX:=match d with|J (.du,e,O)=>k e O|d=>d
def abb(id:V)(d:RX):RX:=match d with|J (.dq i,e,O)=>J (if i=id then .du else .dq i,e,O)|d=>d
def arK(d:L (As×St)):RX:=match d with|J (e,O)=>J (.du,e,O)|U=>U
noncomputable def ae1(C:E)(call:bY)(n:V)(v:AV)(a b:KC)(e:As)(O:St):RX:=match v with|.cW eT=>gu C call n a e O|.cW eF=>gu C call n b e O|_=>U
noncomputable def ogK(C:E)(call:bY)(n:V)(b:R)(d:L V)(i:XI)(l:X g)(e:As)(O:St):L (As×St):=match b with|eT=>out call d e (aF C (avA C e) n O i) (fK C call n l)|eF=>fK C call n l (Dx e d .dT) O
def aiq(d:RX)(k:As->St->RX):RX:=match d with|J (.du,e,O)=>k e O|d=>d
def apQ(d:L V)(e:As)(f:L (AV×St))(k:As->St->L (As×St)):L (As×St):=match f with|J (v,O)=>k (Dx e d v) O|U=>U
def iF(n:V)(rs:X XR)(d:RX):L (AV×St):=match d with|J (.dq _,_,_)=>U|U=>U|J (_,e,a)=>match aZ e a rs with|U=>U|J vs=>match w eF vs a with|U=>U|J (vs,b)=>J (dG vs,h n vs b)
def ZX(e O k):asB (J (.du,e,O)) k=k e O:=w9
def af8(i e O k):asB (J (.dq i,e,O)) k=J (.dq i,e,O):=w9
def ajd(e O k):asB (J (.ea,e,O)) k=J (.ea,e,O):=w9
def af9(k):asB U k=U:=w9
def TP(id e O):abb id (J (.du,e,O))=J (.du,e,O):=w9
def Ze(id i e O):abb id (J (.dq i,e,O))=J (if i=id then .du else .dq i,e,O):=w9
def abd(id e O):abb id (J (.ea,e,O))=J (.ea,e,O):=w9
def Zf(id):abb id U=U:=w9
def Xt(e O k):aiq (J (.du,e,O)) k=k e O:=w9
def acb(i e O k):aiq (J (.dq i,e,O)) k=J (.dq i,e,O):=w9
def aeC(e O k):aiq (J (.ea,e,O)) k=J (.ea,e,O):=w9
def acd(k):aiq U k=U:=w9
def aeQ(e O):arK (J (e,O))=J (.du,e,O):=w9
def aeP:arK U=U:=w9
def abj(a b e O):ae1 C call n (.cW eT) a b e O=gu C call n a e O:=w9
def Zj(a b e O):ae1 C call n (.cW eF) a b e O=gu C call n b e O:=w9
def apZ(c:R)(a b e O):ae1 C call n (.cW c) a b e O=if c=eT then gu C call n a e O else gu C call n b e O:=by cases c<;>rfl
def aiB(d i l e O):ogK C call n eT (J d) i l e O=out call (J d) e (aF C (avA C e) n O i) (fK C call n l):=w9
def aeN(d i l e O):ogK C call n eF (J d) i l e O=fK C call n l ((d,.dT)::e) O:=w9
def ajw(i l e O):ogK C call n eT U i l e O=out call U e (aF C (avA C e) n O i) (fK C call n l):=w9
def afg(i l e O):ogK C call n eF U i l e O=fK C call n l e O:=w9
def V8(b:R):yw b .dT=eF:=by cases b<;>rfl
def auc(c:R)(a b e O):ae1 C call n (.cW c) a b e O=match c with|eT=>gu C call n a e O|eF=>gu C call n b e O:=by cases c<;>rfl
def aud(c:R)(a b e O):ae1 C call n (.cW !c) a b e O=match c with|eT=>gu C call n b e O|eF=>gu C call n a e O:=by cases c<;>rfl
def azt(b d i l e O):ogK C call n b (J d) i l e O=match b with|eT=>out call (J d) e (aF C (avA C e) n O i) (fK C call n l)|eF=>fK C call n l ((d,.dT)::e) O:=by cases b<;>rfl
def azu(b d i l e O):ogK C call n (!b) (J d) i l e O=match b with|eT=>fK C call n l ((d,.dT)::e) O|eF=>out call (J d) e (aF C (avA C e) n O i) (fK C call n l):=by cases b<;>rfl
def awt(d t:V)(b:R)(i:XI)(l:X g)(e:As)(O:St):fK C call n (og d t b i::l) e O=ogK C call n (yw b (look e t)) (J d) i l e O:=by rw[abr];unfold ogK;cases yw b (look e t)<;>rfl
def awu(t:V)(b:R)(i:XI)(l:X g)(e:As)(O:St):fK C call n (ug t b i::l) e O=ogK C call n (yw b (look e t)) U i l e O:=by rw[abt];unfold ogK;cases yw b (look e t)<;>rfl
def abg(d e v O k):apQ (J d) e (J (v,O)) k=k ((d,v)::e) O:=w9
def Zh(e v O k):apQ U e (J (v,O)) k=k e O:=w9
def aeS(d:L V)(e:As)(f:Q)(args:LA)(O:St)(k):out call d e (J (.fI f args O)) k=apQ d e (call f args O) k:=w9
def zO(n rs e O):iF n rs (J (.ea,e,O))=match aZ e O rs with|U=>U|J vs=>match w eF vs O with|U=>U|J (vs,a)=>J (dG vs,h n vs a):=w9
def Zl(n rs e O):iF n rs (J (.du,e,O))=match aZ e O rs with|U=>U|J vs=>match w eF vs O with|U=>U|J (vs,a)=>J (dG vs,h n vs a):=w9
def ae7(n rs):iF n rs U=U:=w9
def asI(l:X g)(e:As)(O:St):gu C call n (.fu l) e O=arK (fK C call n l e O):=w9
def ajj(l:X g)(e:As)(O:St):gu C call n (.eZ l) e O=arK (fK C call n l e O):=w9
def aji(l:X g)(e:As)(O:St):gu C call n (.eO l) e O=arK (zU C call n l e O):=w9
def asJ(a b:KC)(e:As)(O:St):gu C call n (.eA a b) e O=asB (gu C call n a e O) (gu C call n b):=w9
def ang(c:XA)(a b:KC)(e:As)(O:St):gu C call n (.eJ c a b) e O=ae1 C call n (avA C e c) a b e O:=w9
def ajh(id:V)(b:KC)(e:As)(O:St):gu C call n (.eG id b) e O=abb id (gu C call n b e O):=w9
def aB{k:X V}{b:KC}{e:As}(he:keepA k e=e)(O:St):aG C call n k b e O=aiq (gu C call n b e O) λa O'=>aG C call n k b (keepA k a) O':=mX C call n he O
def Has.go{f:Q}{K:KF}(h:Has C f K){args args':LA}{O:St}(b:w eF args O=J (args',O))(a:i (z args') K.W=eT:=by rfl):ai C f args O=iF (z O) K.an (gu C (ai C) K.W K.ap (oH 0 args') O):=by have a:=Nat.not_lt.mpr (aD3 a);rw[h.cG];unfold GK;rw[b];dsimp only;rw[if_neg a];rfl
def nU:∀x y:LU,oU x y=s (x=y)
 |[],[]=>by simp[oU]
 |[],_::_=>by simp[oU]
 |_::_,[]=>by simp[oU]
 |a::x,b::y=>by rw[oU,nU x y];by_cases h:a=b<;>simp[h]
def ajY(x y:LU):uJ .eql x y=J (.cW (s (x=y))):=by rw[<-nU];rfl
def pW(x y:LU):uJ .neq x y=J (.cW !(s (x=y))):=by rw[<-nU];rfl
def apM(x y:LU):uJ .lss x y=J (.cW (b x y)):=w9
def apL(x y:LU):uJ .leq x y=J (.cW (b x y||s (x=y))):=by rw[<-nU];rfl
def apK(x y:LU):uJ .gtr x y=J (.cW !(b x y||s (x=y))):=by rw[<-nU];rfl
def apJ(x y:LU):uJ .geq x y=J (.cW !(b x y)):=w9
def ax3{x y:LU}(h:z x+z y<=9223372036854775807):uJ .add x y=J (.cU (x++y)):=by unfold uJ;dsimp only;rw[if_neg (by omega)]
def avh(A:As)(O:St)(v:AV)(d:L (As×St×X (As×AV)×X St)):L (As×St×X (As×AV)×X St):=match d with|J (b,a,rs,c)=>J (b,a,(A,v)::rs,O::c)|U=>U
def Z5(d:L V)(A:As)(O:St)(x:L (AV×St))(k:As->St->L (As×St×X (As×AV)×X St)):=match x with|J (v,a)=>avh A O v (k (Dx A d v) a)|U=>U
def opR(call:bY)(x:L Out):L (AV×St):=match x with|J (.ev v a)=>J (v,a)|J (.fI f args a)=>call f args a|U=>U
def as9(A:As)(O:St):qH C call n [] A O=J (A,O,[],[O]):=w9
def azJ(d:V)(i:XI)(l:X g)(A:As)(O:St):qH C call n (o d i::l) A O=Z5 (J d) A O (opR call (aF C (avA C A) n O i)) (qH C call n l):=w9
def azK(i:XI)(l:X g)(A:As)(O:St):qH C call n (u i::l) A O=Z5 U A O (opR call (aF C (avA C A) n O i)) (qH C call n l):=w9
def azI(d s:V)(l:X g)(A:As)(O:St):qH C call n (m d s::l) A O=Z5 (J d) A O (J (look A s,O)) (qH C call n l):=w9
def azL(d:L V)(i:XI)(c:X V)(l:X g)(A:As)(O:St):qH C call n (⟨d,i,U,c⟩::l) A O=Z5 d A O (opR call (aF C (avA C A) n O i)) (qH C call n l):=w9
def acV(d A O v O' k):Z5 (J d) A O (J (v,O')) k=avh A O v (k ((d,v)::A) O'):=w9
def Z7(A O v O' k):Z5 U A O (J (v,O')) k=avh A O v (k A O'):=w9
def amS(v O):opR call (J (.ev v O))=J (v,O):=w9
def aiC(f args O):opR call (J (.fI f args O))=call f args O:=w9
def af1(A O v A' O' rs ss):avh A O v (J (A',O',rs,ss))=J (A',O',(A,v)::rs,O::ss):=w9
def aw0(C:E)(n:V)(l:X g)(d:L (As×St×X (As×AV)×X St)):L (As×St):=match d with|J (a,b,rs,c)=>if fQ C n c l rs then J (a,b)else U|U=>U
def aq5(l:X g)(A:As)(O:St):zU C call n l A O=aw0 C n l (qH C call n l A O):=w9
def ama(l:X g)(A' O' rs ss):aw0 C n l (J (A',O',rs,ss))=if fQ C n ss l rs then J (A',O')else U:=w9
def as6(ss:X St)(l):fQ C n ss [] l=eT:=w9
def azD(d:V)(i:XI)(l:X g)(ss:X St)(A:As)(v:AV)(rs):fQ C n ss (o d i::l) ((A,v)::rs)=fQ C n ss l rs:=by show((!lK (o d i) A||lG C n (o d i) A v ss [])&&_)=_;rw[lG,aH9,aE0]
def azE(i:XI)(l:X g)(ss:X St)(A:As)(v:AV)(rs):fQ C n ss (u i::l) ((A,v)::rs)=fQ C n ss l rs:=by show((!lK (u i) A||lG C n (u i) A v ss [])&&_)=_;rw[lG,aH9,aE0]
def azC(d s:V)(l:X g)(ss:X St)(A:As)(v:AV)(rs):fQ C n ss (m d s::l) ((A,v)::rs)=fQ C n ss l rs:=by show((!lK (m d s) A||lG C n (m d s) A v ss [])&&_)=_;rw[lG,aH9,aE0]
def reR(C:E)(n:V)(A:As)(i:XI)(v:AV)(s a:L St):R:=match s,a with|J s,J a=>(match aF C (avA C A) n s i,aF C (avA C A) n a i with|J (.ev v1 _),J (.ev v2 _)=>c v1 v&&c v2 v|_,_=>eF)|_,_=>eF
def reO(v:AV)(x y:L Out):R:=match x,y with|J (.ev v1 _),J (.ev v2 _)=>c v1 v&&c v2 v|_,_=>eF
def aiQ(A:As)(i:XI)(v:AV)(s a:St):reR C n A i v (J s) (J a)=reO v (aF C (avA C A) n s i) (aF C (avA C A) n a i):=w9
def an0(v v1 v2:AV)(s1 s2:St):reO v (J (.ev v1 s1)) (J (.ev v2 s2))=(c v1 v&&c v2 v):=w9
def azF(d:L V)(i:XI)(c:X V)(l:X g)(ss:X St)(A:As)(v:AV)(rs):fQ C n ss (⟨d,i,U,c⟩::l) ((A,v)::rs)=((c.all λc=>reR C n A i v ss[c]? ss[c+1]?)&&fQ C n ss l rs):=by
 show((!lK ⟨d,i,U,c⟩ A||lG C n ⟨d,i,U,c⟩ A v ss c)&&_)=_;have:∀a:X V,lG C n ⟨d,i,U,c⟩ A v ss a=a.all λc=>reR C n A i v ss[c]? ss[c+1]?:=by
  intro a
  induction a with
  |nil=>rfl|cons x a b=>rw[lG,b,a08];rfl
 rw[this];rfl
def QD(k:v)(a:f):c (.cQ k a) (.cQ k a)=eT:=by cases k<;>simp[c]<;>rfl
def QE(s:LU):c (.cU s) (.cU s)=eT:=by simp[c,nU]
def SL(b:R):c (.cW b) (.cW b)=eT:=by simp[c]
def aA(O L:St):(O++L)[z O]?=L[0]?:=by grind
def aI(O L:St)(k:V):(O++L)[z O+k]?=L[k]?:=by grind
def aS(O L:St)(x:AO):(O++L).set (z O) x=O++L.set 0 x:=by grind
def cZ(O L:St)(k:V)(x:AO):(O++L).set (z O+k) x=O++L.set k x:=by grind
def st_len(O L:St):z (O++L)=z O+z L:=a03
def atb(O L M:St):O++L++M=O++(L++M):=aB2 _ _ _
theorem bP(O:St)(vs:LA):h (z O) vs O=O:=FI O vs
def bu{O:St}(a:Ok O){vs:LA}(hv:ae 0 vs=eT)(l:St):h (z O) vs (O++l)=O:=ED a (aP (a97 _) _ hv) l
def QJ{O:St}(a:Ok O){L:St}(b:L.all (AO.below (z O+z L))=eT):Ok (O++L):=a.eD b
def amN(O d)(b:R):cu O d (.cW b)=J (.cW b,[]):=w9
def GZ(O d)(k:v)(i:f):cu O d (.cQ k i)=J (.cQ k i,[]):=w9
def Oh(O d)(s:LU):cu O d (.cU s)=J (.cU s,[]):=w9
def awl(O d)(i:V)(l:LA):cu O d (.sl i l)=J (.sl i l,[]):=w9
structure NV(v:AV):Prop where
 nf:∀O r,cu O r v=some (v,[])
 cl:below 0 v=true
def NVs(l:LA):Prop:=∀v∈l,NV v
def NVs.db:NVs []:=λv h=>nomatch h
def NVs.cV{v l}(h:NV v)(k:NVs l):NVs (v::l):=λx a=>by
 rcases aC8.mp a with rfl|a;·exact h
 ·exact k x a
def NVs.eD{a b}(h:NVs a)(k:NVs b):NVs (a++b):=λx c=>by
 rcases aE4.mp c with c|c;·exact h x c
 ·exact k x c
def NVs.nf:∀{l:LA},NVs l->∀O d,bI O d l=J (l,[])|[],_,_,_=>w9|v::l,h,O,d=>by show(match cu O d v,bI O d l with|J (v,fs),J (l,a)=>J (v::l,fs++a)|_,_=>U)=_;rw[(h v (by simp)).nf,NVs.nf (λx b=>h x (by simp[b]))];rfl
def NVs.cl:∀{l:LA},NVs l->ae 0 l=eT|[],_=>w9|v::l,h=>by rw[ae,(h v (by simp)).cl,NVs.cl (λx a=>h x (by simp[a]))];rfl
def NV.cW(b:R):NV (.cW b):=⟨λ_ _=>w9,w9⟩
def NV.cQ(k:v)(i:f):NV (.cQ k i):=⟨λ_ _=>w9,w9⟩
def NV.cU(s:LU):NV (.cU s):=⟨λ_ _=>w9,w9⟩
def NV.sl(i:V){l:LA}(h:ae 0 l=eT):NV (.sl i l):=⟨λ_ _=>w9,by rw[a];exact h⟩
def NV.cX{l:LA}(h:NVs l):NV (.cX l):=⟨λO d=>by
 show(match bI O d l with|J (l,fs)=>J (AV.cX l,fs)|U=>U)=_;rw[h.nf],by rw[a];exact h.cl⟩
def NV.de{l:LA}(h:NVs l):NV (.de l):=⟨λO d=>by
 show(match bI O d l with|J (l,fs)=>J (AV.de l,fs)|U=>U)=_;rw[h.nf],by rw[a];exact h.cl⟩
def NVs.E{l:LA}(h:NVs l)(O:St):w eF l O=J (l,O):=by show(match eX O 12 l with|J (l,fs)=>J (l,freeze O fs)|U=>U)=_;rw[show eX O 12 l=bI O (eX O 11) l from w9,h.nf];rfl
def anh(a x:AV)(l v:LA):p (a::l) 0 (x::v)=x::p l 0 v:=by simp[p]
def at6(l:LA):p l 0 []=l:=by simp[p]
def alP(O:St)(sz bytes:V)(a)(i:V)(l cs:LA):uD O sz bytes a (.sl i l) 0 cs=J (.sl i l,O):=w9
def aht(O:St)(sz bytes:V)(a)(cs:LA):uD O sz bytes a .cY 0 cs=J (.cY,O):=w9
def Nw(O:St){sz bytes:V}(a){m:V}(cs:LA)(c:¬m=0)(b:m*bytes<=70368744177664)(h2:m<=70368744177664):uD O sz bytes a .cY m cs=J (.dj (z O) 0 m sz,O++[.cP cs ⟨eF,a⟩]):=by unfold uD;grind
def PI(O:St){sz bytes:V}(a){n m:V}{l:LA}(cs:LA)(d:¬m=0)(c:z l=n*sz)(b:(n+m)*bytes<=70368744177664)(h2:n+m<=70368744177664):uD O sz bytes a (.eB n l) m cs=J (.dj (z O) 0 (n+m) sz,O++[.cP (l++cs) ⟨eF,a⟩]):=by unfold uD;grind
def PE(C:E)(f:Q)(sz:V):Prop:=∀(n:V) (l:LA) (O:St),z l=n*sz->n<=1099511627776->l.all YM=eT->ai C f [.sl n l] O=J (.sl n l,O)
end Go.Ev
namespace Go.Ev
open Bool renaming false→eF, true→eT
open List renaming length→z
open Option renaming none→U, some→J
open Go.IntKind renaming i64→r
def EVB:type_of%@x/\type_of%@Su/\type_of%@Xn/\type_of%@Sl/\type_of%@VJ/\type_of%@QZ/\type_of%@XL/\type_of%@XK/\type_of%@SS/\type_of%@SN/\type_of%@XP/\type_of%@Ox/\type_of%@SQ/\type_of%@RJ/\type_of%@aaq/\type_of%@aar/\type_of%@aap/\type_of%@aaB/\type_of%@Xz/\type_of%@Xy/\type_of%@au3/\type_of%@au1/\type_of%@au2/\type_of%@Kr/\type_of%@H8/\type_of%@VO/\type_of%@Rn/\type_of%@VW/\type_of%@VP/\type_of%@aba/\type_of%@V7/\type_of%@IY/\type_of%@VQ/\type_of%@VX/\type_of%@VV/\type_of%@VU/\type_of%@VT/\type_of%@VS/\type_of%@VY/\type_of%@VZ/\type_of%@V4/\type_of%@V5/\type_of%@V6/\type_of%@Ko/\type_of%@Gm/\type_of%@E5/\type_of%@Gl/\type_of%@Gn/\type_of%@Nz/\type_of%@Rl/\type_of%@NE/\type_of%@ND/\type_of%@NC/\type_of%@FT/\type_of%@Kq/\type_of%@DW/\type_of%@DV/\type_of%@yL/\type_of%@IZ/\type_of%@ahd/\type_of%@ahc/\type_of%@NG/\type_of%@RQ/\type_of%@Ru/\type_of%@WU/\type_of%@RF/\type_of%@WY/\type_of%@NI/\type_of%@RY/\type_of%@Rz/\type_of%@WX/\type_of%@NH/\type_of%@RS/\type_of%@NJ/\type_of%@RZ/\type_of%@Rt/\type_of%@WT/\type_of%@Wh/\type_of%@KL/\type_of%@RG/\type_of%@WZ/\type_of%@Ry/\type_of%@WW/\type_of%@Rw/\type_of%@WV/\type_of%@H9/\type_of%@KJ/\type_of%@d/\type_of%@RU/\type_of%@FU/\type_of%@Ic/\type_of%@Kv/\type_of%@N9/\type_of%@DZ/\type_of%@FY/\type_of%@Rq/\type_of%@Lh/\type_of%@Ld/\type_of%@aF.eq_1/\type_of%@aF.eq_2/\type_of%@aF.eq_3/\type_of%@aF.eq_4/\type_of%@aF.eq_5/\type_of%@aF.eq_6/\type_of%@aF.eq_7/\type_of%@aF.eq_8/\type_of%@aF.eq_9/\type_of%@aal/\type_of%@ab7/\type_of%@ab8/\type_of%@VL/\type_of%@Yf/\type_of%@VK/\type_of%@VM/\type_of%@afL/\type_of%@alT/\type_of%@afO/\type_of%@afN/\type_of%@afM/\type_of%@Ri/\type_of%@aam/\type_of%@Ny/\type_of%@PP/\type_of%@Gi/\type_of%@ab6/\type_of%@aF.eq_10/\type_of%@aF.eq_11/\type_of%@agi/\type_of%@aF.eq_13/\type_of%@aF.eq_14/\type_of%@aF.eq_15/\type_of%@aF.eq_16/\type_of%@aF.eq_18/\type_of%@aF.eq_19/\type_of%@aF.eq_20/\type_of%@aF.eq_21/\type_of%@aF.eq_22/\type_of%@aF.eq_23/\type_of%@aF.eq_24/\type_of%@aF.eq_25/\type_of%@aF.eq_26/\type_of%@aF.eq_27/\type_of%@aF.eq_28/\type_of%@aF.eq_29/\type_of%@aF.eq_30/\type_of%@aF.eq_31/\type_of%@aF.eq_32/\type_of%@aF.eq_33/\type_of%@aF.eq_34/\type_of%@aF.eq_35/\type_of%@aF.eq_36/\type_of%@aF.eq_37/\type_of%@Aa/\type_of%@aF.eq_39/\type_of%@aF.eq_40/\type_of%@aF.eq_41/\type_of%@aF.eq_42/\type_of%@aF.eq_43/\type_of%@aF.eq_44/\type_of%@aF.eq_45/\type_of%@aF.eq_46/\type_of%@aF.eq_47/\type_of%@Xg/\type_of%@ZX/\type_of%@af8/\type_of%@ajd/\type_of%@af9/\type_of%@TP/\type_of%@Ze/\type_of%@abd/\type_of%@Zf/\type_of%@Xt/\type_of%@acb/\type_of%@aeC/\type_of%@acd/\type_of%@aeQ/\type_of%@aeP/\type_of%@abj/\type_of%@Zj/\type_of%@aiB/\type_of%@aeN/\type_of%@ajw/\type_of%@afg/\type_of%@awt/\type_of%@awu/\type_of%@abg/\type_of%@Zh/\type_of%@aeS/\type_of%@zO/\type_of%@Zl/\type_of%@ae7/\type_of%@asI/\type_of%@ajj/\type_of%@aji/\type_of%@asJ/\type_of%@ang/\type_of%@ajh/\type_of%@ajY/\type_of%@pW/\type_of%@apM/\type_of%@apL/\type_of%@apK/\type_of%@apJ/\type_of%@amN/\type_of%@GZ/\type_of%@Oh/\type_of%@awl/\type_of%@V8/\type_of%@anh/\type_of%@at6/\type_of%@alP/\type_of%@aht/\type_of%@as9/\type_of%@azJ/\type_of%@azK/\type_of%@azI/\type_of%@azL/\type_of%@acV/\type_of%@Z7/\type_of%@amS/\type_of%@aiC/\type_of%@af1/\type_of%@aq5/\type_of%@ama/\type_of%@as6/\type_of%@azD/\type_of%@azE/\type_of%@azC/\type_of%@azF/\type_of%@aiQ/\type_of%@an0/\type_of%@QD/\type_of%@QE/\type_of%@SL/\type_of%@aA/\type_of%@aI/\type_of%@aS/\type_of%@cZ/\type_of%@st_len/\type_of%@atb/\type_of%@bP:=
 ⟨@x,@Su,@Xn,@Sl,@VJ,@QZ,@XL,@XK,@SS,@SN,@XP,@Ox,@SQ,@RJ,@aaq,@aar,@aap,@aaB,@Xz,@Xy,@au3,@au1,@au2,@Kr,@H8,@VO,@Rn,@VW,@VP,@aba,@V7,@IY,@VQ,@VX,@VV,@VU,@VT,@VS,@VY,@VZ,@V4,@V5,@V6,@Ko,@Gm,@E5,@Gl,@Gn,@Nz,@Rl,@NE,@ND,@NC,@FT,@Kq,@DW,@DV,@yL,@IZ,@ahd,@ahc,@NG,@RQ,@Ru,@WU,@RF,@WY,@NI,@RY,@Rz,@WX,@NH,@RS,@NJ,@RZ,@Rt,@WT,@Wh,@KL,@RG,@WZ,@Ry,@WW,@Rw,@WV,@H9,@KJ,@d,@RU,@FU,@Ic,@Kv,@N9,@DZ,@FY,@Rq,@Lh,@Ld,@aF.eq_1,@aF.eq_2,@aF.eq_3,@aF.eq_4,@aF.eq_5,@aF.eq_6,@aF.eq_7,@aF.eq_8,@aF.eq_9,@aal,@ab7,@ab8,@VL,@Yf,@VK,@VM,@afL,@alT,@afO,@afN,@afM,@Ri,@aam,@Ny,@PP,@Gi,@ab6,@aF.eq_10,@aF.eq_11,@agi,@aF.eq_13,@aF.eq_14,@aF.eq_15,@aF.eq_16,@aF.eq_18,@aF.eq_19,@aF.eq_20,@aF.eq_21,@aF.eq_22,@aF.eq_23,@aF.eq_24,@aF.eq_25,@aF.eq_26,@aF.eq_27,@aF.eq_28,@aF.eq_29,@aF.eq_30,@aF.eq_31,@aF.eq_32,@aF.eq_33,@aF.eq_34,@aF.eq_35,@aF.eq_36,@aF.eq_37,@Aa,@aF.eq_39,@aF.eq_40,@aF.eq_41,@aF.eq_42,@aF.eq_43,@aF.eq_44,@aF.eq_45,@aF.eq_46,@aF.eq_47,@Xg,@ZX,@af8,@ajd,@af9,@TP,@Ze,@abd,@Zf,@Xt,@acb,@aeC,@acd,@aeQ,@aeP,@abj,@Zj,@aiB,@aeN,@ajw,@afg,@awt,@awu,@abg,@Zh,@aeS,@zO,@Zl,@ae7,@asI,@ajj,@aji,@asJ,@ang,@ajh,@ajY,@pW,@apM,@apL,@apK,@apJ,@amN,@GZ,@Oh,@awl,@V8,@anh,@at6,@alP,@aht,@as9,@azJ,@azK,@azI,@azL,@acV,@Z7,@amS,@aiC,@af1,@aq5,@ama,@as6,@azD,@azE,@azC,@azF,@aiQ,@an0,@QD,@QE,@SL,@aA,@aI,@aS,@cZ,@st_len,@atb,@bP⟩
set_option maxRecDepth 100000
variable{C:Ctx}
def kV(f:Q)(x y args:LA)(O:St):Ku C (.dv (.func f) x y) args O=J (.fI f (x++args++y) O):=w9
def axJ(O d)(a b:V):cu O d (.da a b)=J (.da a b,[]):=w9
def auM(O d)(f:Fn)(x y:LA):cu O d (.dv f x y)=match bI O d x,bI O d y with|J (x,fs),J (y,a)=>J (.dv f x y,fs++a)|_,_=>U:=w9
def arC(O d)(n:V)(l:LA):cu O d (.eB n l)=match bI O d l with|J (l,fs)=>J (.sl n l,fs)|U=>U:=w9
def mg(O d):bI O d []=J ([],[]):=w9
def aN(O d)(v:AV)(l:LA):bI O d (v::l)=match cu O d v,bI O d l with|J (v,fs),J (l,a)=>J (v::l,fs++a)|_,_=>U:=w9
def iY(l:LA)(O:St):w eF l O=match bI O (eX O 11) l with|J (l,fs)=>J (l,freeze O fs)|U=>U:=w9
def bK(O d)(l:LA):cu O d (.cX l)=match bI O d l with|J (l,fs)=>J (.cX l,fs)|U=>U:=w9
def dQ(O d):cu O d .cY=J (.sl 0 [],[]):=w9
def drop_at{l:LA}{i:V}{v:AV}(h:l[i]?=J v):∃d,l.drop i=v::d:=by have hi:=(a00.mp h).1;refine⟨l.drop (i+1),?_⟩;rw[aB6 hi];grind
def bz{a:Type}{f:a->LA}{k:V}(h:∀x,z (f x)=k):∀l:X a,z (l.flatMap f)=z l*k
 |[]=>by simp
 |x::l=>by simp[h,bz h l,aJ5,aM1]
theorem aeh{a:Type}{f:a->LA}{k:V}(h:∀x,z (f x)=k):∀(l:X a) (i:V),(l.flatMap f).drop (i*k)=(l.drop i).flatMap f
 |l,0=>by simp
 |[],i+1=>by simp
 |x::l,i+1=>by rw[aF0,aJ4,<-aeh h l i,aJ5,Nat.one_mul,aM1];rw[<-h x,List.drop_append];simp
def dP{d:Type}{f:d->LA}(h:∀x,ae 0 (f x)=eT):∀l:X d,ae 0 (l.flatMap f)=eT
 |[]=>w9
 |x::l=>by
  rw[aF0];have:=dP h l;revert this;have e:=h x;revert e;generalize f x=a;generalize l.flatMap f=b;intro c hb
  induction a with
  |nil=>exact hb|cons v a g=>rw[ae,a02]at c;rw[a05,ae,c.1,g c.2];rfl
def aei{a:Type}{f:a->LA}(h:∀x,(f x).all YM=eT)(l:X a):(l.flatMap f).all YM=eT:=by grind
def iy{a:Type}{f:a->LA}{k:V}(h:∀x,z (f x)=k){l:X a}{i:V}{x:a}(b:l[i]?=J x):(l.flatMap f).drop (i*k)=f x++(l.drop (i+1)).flatMap f:=by have hi:i<z l:=(a00.mp b).1;grind [aB6,aeh]
def EVC:
 (∀{c:Type} (a:c),(a=a)=K5)
 /\(∀{c:Type} {a:c} {azs bs:X c},a::azs++bs=a::(azs++bs))
 /\(∀{c:Type} (azs:X c),[]++azs=azs)
 /\(∀{c:Type} (azs:X c),azs++[]=azs)
 /\(∀{c:Type} {a:c} {azs:X c},z (a::azs)=z azs+1)
 /\(∀{c:Type},z ([]:X c)=0)
 /\(∀{c d:Type} {f:c->d} {a:c} {l:X c},K9 f (a::l)=f a::K9 f l)
 /\(∀{c d:Type} {f:c->d},K9 f []=[])
 /\(∀{c:Type} {_:j K5} (t e:c),(if K5 then t else e)=t)
 /\(∀{c:Type} {_:j N} (t e:c),(if N then t else e)=e)
 /\(∀{c d:Type} (a:c) (f:c->d),Option.map f (J a)=J (f a))
 /\(∀{c d:Type} (f:c->d),Option.map f U=U)
 /\(!eT)=eF
 /\(!eF)=eT
 /\(eF=eT)=N
 /\(∀(h:j K5),s K5=eT)
 /\(∀(h:j N),s N=eF)
 /\(∀{p:Prop} [j p],(s p=eT)=p)
 /\(∀(b:R),((!b)=eT)=(b=eF))
 /\(∀{p:Prop} {x:j p},s p=eF↔¬p)
 /\(∀{c:Type} {a:c} {l:X c},(a::l)[0]?=J a)
 /\(∀{c:Type} {a:c} {i:V} {l:X c},(a::l)[i+1]?=l[i]?)
 /\(∀{c d:Type},(bind:L c->(c->L d)->L d)=Option.bind)
 /\(∀{c d:Type} (a:c) (f:c->L d),(J a).bind f=f a)
 /\(∀{c:Type},(pure:c->L c)=J)
 /\(∀(p:Prop),(p/\p)=p)
 /\(∀(p:Prop),(K5/\p)=p)
 /\(∀(p:Prop),(p/\K5)=p)
 /\(∀{c:Type} {a:c} {l:X c} {f:c->R},(a::l).all f=(f a&&l.all f))
 /\(∀{c:Type} {f:c->R},[].all f=eT)
 /\(∀(b:R),(b&&b)=b)
 /\(∀(b:R),(b&&eT)=b)
 /\(∀(b:R),(eT&&b)=b)
 /\(∀{c:Type} {a:c} {azs:X c} {i:V},k (i+1) (a::azs)=a::k i azs)
 /\(∀{c:Type} {l:X c},k 0 l=[])
 /\(∀{c:Type} {i:V},k i ([]:X c)=[])
 /\(∀{c:Type} {a:c} {l:X c} {i:V},q (i+1) (a::l)=q i l)
 /\(∀{c:Type} {l:X c},q 0 l=l)
 /\(∀{c:Type} {i:V},q i ([]:X c)=[])
 /\(∀(n:V),0+n=n)
 /\(∀(n:V),n+0=n)
 /\(∀{c:Type} [BEq c] [LawfulBEq c] (a:c),(a !=a)=eF)
 /\(∀(b:R),(b||eF)=b)
 /\(∀(b:R),(eF||b)=b)
 /\(∀(n:V),n*1=n)
 /\(∀(n:V),1*n=n)
 /\(∀(n:V),n<=n)
 /\(∀{c:Type} [LT c] {x y:c},x>y↔y<x)
 /\(∀{c:Type} {a:c} {l:X c},(a::l).head? =J a)
 /\∀{n:V},@Nat.cast Int instNatCastInt (no_index (OfNat.ofNat n))=OfNat.ofNat n:=w8 @eq_self.{1} (w8 @List.cons_append.{0} (w8 @List.nil_append.{0} (w8 @List.append_nil.{0} (w8 @List.length_cons.{0} (w8 @List.length_nil.{0} (w8 @List.map_cons.{0,0} (w8 @List.map_nil.{0,0} (w8 @if_true.{1} (w8 @if_false.{1} (w8 @Option.map_some.{0,0} (w8 @Option.map_none.{0,0} (w8 @Bool.not_true (w8 @Bool.not_false (w8 @Bool.false_eq_true (w8 @decide_true (w8 @decide_false (w8 @O (w8 @Bool.not_eq_true' (w8 @decide_eq_false_iff_not (w8 @List.getElem?_cons_zero.{0} (w8 @List.getElem?_cons_succ.{0} (w8 @Option.bind_eq_bind.{0} (w8 @Option.bind_some.{0,0} (w8 @Option.pure_def.{0} (w8 @and_self (w8 @true_and (w8 @and_true (w8 @List.all_cons.{0} (w8 @List.all_nil.{0} (w8 @Bool.and_self (w8 @Bool.and_true (w8 @Bool.true_and (w8 @List.take_succ_cons.{0} (w8 @List.take_zero.{0} (w8 @List.take_nil.{0} (w8 @List.drop_succ_cons.{0} (w8 @List.drop_zero.{0} (w8 @List.drop_nil.{0} (w8 @Nat.zero_add (w8 @Nat.add_zero (w8 @bne_self_eq_false.{0} (w8 @Bool.or_false (w8 @Bool.false_or (w8 @Nat.mul_one (w8 @Nat.one_mul (w8 @Nat.le_refl (w8 @gt_iff_lt.{0} (w8 @List.head?_cons.{0} (@Int.cast_ofNat_Int)))))))))))))))))))))))))))))))))))))))))))))))))
def EVD:
 (∀(n:V),((n:f)).toNat=n)
 /\Int.toNat 0=0
 /\(∀{b:Type} (a:b) (l:X b),a::l≠[])
 /\(∀{b:Type} [LE b] {x y:b},x>=y↔y<=x)
 /\(∀(a:f),a<=a)
 /\(∀{b:Type} [BEq b] [ReflBEq b] (a:b),(a==a)=eT)
 /\(∀{b:Type} {x:b} {xs:X b} {i:V} {a:b},(x::xs).set (i+1) a=x::xs.set i a)
 /\(∀{b:Type} {x:b} {xs:X b} {a:b},(x::xs).set 0 a=a::xs)
 /\∀(n m:V),n<=m+n:=w8 @Int.toNat_natCast (w8 @Int.toNat_zero (w8 @List.cons_ne_nil.{0} (w8 @ge_iff_le.{0} (w8 @Int.le_refl (w8 @beq_self_eq_true.{0} (w8 @List.set_cons_succ.{0} (w8 @List.set_cons_zero.{0} (@Nat.le_add_left))))))))
def ckQ(l:X g)(c:KC):KC:=.eA (.fu l) c
def cqL(d n x:V):g:=o d (.iv eT n (.t x))
def cqF(d x:V):g:=o d (.iv eF 1 (.t x))
def cqA(d n x:V):g:=o d (.ga n (.t x))
def cqE(d x n:V):g:=o d (.ib (.t x) n)
def cqS(n x y:V):g:=u (.fR n (.t x) (.t y))
def cqB(d:V)(b:BinOp)(k:V)(c:R)(x y:V):g:=o d (.e9 b k c (.t x) (.t y))
def cqC(d:V)(b:BinOp)(k:V)(c:R)(x:V)(n:f):g:=o d (.e9 b k c (.t x) (.c (.cQ r n)))
def cqK(d f:V)(l:X V):g:=o d (.gR f (l.map .t))
def cqN(d k x:V):g:=o d (.dt k (.t x))
def cqI(d:V)(n:f):g:=o d (.mv (.c (.cQ r n)))
def cqT(d:V)(b:R):g:=o d (.mv (.c (.cW b)))
def cvI(n:f):AV:=.cQ r n
def cvU(n:f):AV:=.cQ .u8 n
def cvE:AV:=.cU []
def ccI(n:f):XA:=.c (.cQ r n)
def ccU(n:f):XA:=.c (.cQ .u8 n)
def ccS(l:LU):XA:=.c (.cU l)
def cqR:V->AV->LA->LA|0,_,l=>l|n+1,x,l=>x::cqR n x l
def EVQ:type_of%@cqR.eq_1/\type_of%@cqR.eq_2/\type_of%@ckQ.eq_1/\type_of%@cqL.eq_1/\type_of%@cqF.eq_1/\type_of%@cqA.eq_1/\type_of%@cqE.eq_1/\type_of%@cqS.eq_1/\type_of%@cqB.eq_1/\type_of%@cqC.eq_1/\type_of%@cqK.eq_1/\type_of%@cqN.eq_1/\type_of%@cqI.eq_1/\type_of%@cqT.eq_1/\type_of%@cvI.eq_1/\type_of%@cvU.eq_1/\type_of%@cvE.eq_1/\type_of%@ccI.eq_1/\type_of%@ccU.eq_1/\type_of%@ccS.eq_1:=⟨@cqR.eq_1,@cqR.eq_2,@ckQ.eq_1,@cqL.eq_1,@cqF.eq_1,@cqA.eq_1,@cqE.eq_1,@cqS.eq_1,@cqB.eq_1,@cqC.eq_1,@cqK.eq_1,@cqN.eq_1,@cqI.eq_1,@cqT.eq_1,@cvI.eq_1,@cvU.eq_1,@cvE.eq_1,@ccI.eq_1,@ccU.eq_1,@ccS.eq_1⟩
def EVU:type_of%@zQ.eq_1/\type_of%@zQ.eq_2/\type_of%@zQ.eq_3/\type_of%@eqA.eq_1/\type_of%@eqA.eq_2/\type_of%@eqA.eq_3/\type_of%@eqA.eq_4/\type_of%@eqA.eq_5/\type_of%@dW.eq_1/\type_of%@dW.eq_2/\type_of%@dW.eq_3/\type_of%@dW.eq_4/\type_of%@dW.eq_5/\type_of%@dW.eq_6/\type_of%@dW.eq_7/\type_of%@dW.eq_8/\type_of%@dW.eq_9/\type_of%@dW.eq_10/\type_of%@dW.eq_11/\type_of%@dW.eq_12/\type_of%@dW.eq_13/\type_of%@dW.eq_14/\type_of%@dW.eq_15/\type_of%@dW.eq_16/\type_of%@dW.eq_17/\type_of%@dW.eq_18/\type_of%@dW.eq_19/\type_of%@dW.eq_20/\type_of%@dW.eq_21/\type_of%@dW.eq_22/\type_of%@dW.eq_23/\type_of%@dW.eq_24/\type_of%@dW.eq_25/\type_of%@dW.eq_26/\type_of%@bC.eq_1/\type_of%@bC.eq_2/\type_of%@bC.eq_3/\type_of%@bC.eq_4/\type_of%@bC.eq_5/\type_of%@bC.eq_6/\type_of%@bC.eq_7/\type_of%@bC.eq_8/\type_of%@bC.eq_9/\type_of%@bC.eq_10/\type_of%@bC.eq_11/\type_of%@uq.eq_1/\type_of%@uq.eq_2/\type_of%@jI.eq_1/\type_of%@jI.eq_2/\type_of%@pt.eq_1/\type_of%@dG.eq_1/\type_of%@dG.eq_2/\type_of%@hand.eq_1/\type_of%@eX.eq_1/\type_of%@eX.eq_2/\type_of%@bI.eq_1/\type_of%@bI.eq_2/\type_of%@cu.eq_1/\type_of%@cu.eq_2/\type_of%@cu.eq_3/\type_of%@cu.eq_4/\type_of%@cu.eq_5/\type_of%@cu.eq_6/\type_of%@cu.eq_7/\type_of%@cu.eq_8/\type_of%@cu.eq_9/\type_of%@freeze.eq_1/\type_of%@freeze.eq_2/\type_of%@lJ.eq_1/\type_of%@lJ.eq_2/\type_of%@jU.eq_1/\type_of%@jU.eq_2/\type_of%@jU.eq_3/\type_of%@jU.eq_4/\type_of%@jU.eq_5/\type_of%@jU.eq_6/\type_of%@isStr.eq_1/\type_of%@isStr.eq_2/\type_of%@EN.eq_1/\type_of%@EN.eq_2/\type_of%@rep.eq_1/\type_of%@rep.eq_2/\type_of%@DU.eq_1/\type_of%@DU.eq_2/\type_of%@Es.eq_1/\type_of%@Es.eq_2/\type_of%@Es.eq_3:=⟨@zQ.eq_1,@zQ.eq_2,@zQ.eq_3,@eqA.eq_1,@eqA.eq_2,@eqA.eq_3,@eqA.eq_4,@eqA.eq_5,@dW.eq_1,@dW.eq_2,@dW.eq_3,@dW.eq_4,@dW.eq_5,@dW.eq_6,@dW.eq_7,@dW.eq_8,@dW.eq_9,@dW.eq_10,@dW.eq_11,@dW.eq_12,@dW.eq_13,@dW.eq_14,@dW.eq_15,@dW.eq_16,@dW.eq_17,@dW.eq_18,@dW.eq_19,@dW.eq_20,@dW.eq_21,@dW.eq_22,@dW.eq_23,@dW.eq_24,@dW.eq_25,@dW.eq_26,@bC.eq_1,@bC.eq_2,@bC.eq_3,@bC.eq_4,@bC.eq_5,@bC.eq_6,@bC.eq_7,@bC.eq_8,@bC.eq_9,@bC.eq_10,@bC.eq_11,@uq.eq_1,@uq.eq_2,@jI.eq_1,@jI.eq_2,@pt.eq_1,@dG.eq_1,@dG.eq_2,@hand.eq_1,@eX.eq_1,@eX.eq_2,@bI.eq_1,@bI.eq_2,@cu.eq_1,@cu.eq_2,@cu.eq_3,@cu.eq_4,@cu.eq_5,@cu.eq_6,@cu.eq_7,@cu.eq_8,@cu.eq_9,@freeze.eq_1,@freeze.eq_2,@lJ.eq_1,@lJ.eq_2,@jU.eq_1,@jU.eq_2,@jU.eq_3,@jU.eq_4,@jU.eq_5,@jU.eq_6,@isStr.eq_1,@isStr.eq_2,@EN.eq_1,@EN.eq_2,@rep.eq_1,@rep.eq_2,@DU.eq_1,@DU.eq_2,@Es.eq_1,@Es.eq_2,@Es.eq_3⟩
def EVY:type_of%@EVQ/\type_of%@EVC/\type_of%@EVA/\type_of%@EVU:=⟨@EVQ,@EVC,@EVA,@EVU⟩
def EVX:type_of%@EVQ/\type_of%@EVC/\type_of%@EVD/\type_of%@EVB/\type_of%@EVU:=⟨@EVQ,@EVC,@EVD,@EVB,@EVU⟩
open Go.RowKit
inductive Ans where
 |ea (v:AV)|f9 (v:AV)
abbrev Bq:=Q->LA->St->L (Ans×St)
inductive TOp where
 |op (o:XOp)|iQ (x:XA)|ij (d:Nat) (t:TypeId) (x:XA)
inductive TC where
 |eI|fu (l:List TOp)|eO (l:List XOp)|eA (a b:TC)|eJ (c:XA) (a b:TC)|ea|eC
inductive TX where
 |du|ea|f9 (v:AV)
structure TF where
 W:Nat
 an:List XR
 ap:TC
def age(P:I)(t:B):R:=match P.underlying t with|J (.interface _)=>eF|J _=>eT|U=>eF
def ayP(P:I)(ops:j9 Z2)(o:Z2):L TOp:=
 match Lu ops o with
 |U=>U|J gd=>match o.op,o.dst,gd with|.panic x,_,U=>(cA x).map .iQ|.typeAssert x _ t eT,J d,U=>if age P t then(cA x).map (.ij d t)else U|_,_,_=>J (.op {ba:=o.dst,i:=(cI P o).getD .eC,bm:=gd})
def ahz(P:I)(ops:j9 Z2):X Z2->L (X TOp)|[]=>J []|o::l=>match ayP P ops o,ahz P ops l with|J a,J b=>J (a::b)|_,_=>U
def cT(P:I):Code->TC
 |.skip=>.eI
 |.region _ ops d=>if d then(match afS P ops with
  |J l=>.eO l|U=>.eC)else(match ahz P ops ops.toList with
  |J l=>.fu l|U=>.eC)
 |.seq a b=>.eA (cT P a) (cT P b)|.cond c a b=>match cA c with|J c=>.eJ c (cT P a) (cT P b)|U=>.eC
 |.ret=>.ea|_=>.eC
def cTF(P:I)(f:Q):L TF:=do
 let fn<-P.funcs[f]?
 let b<-fn.body
 pure {W:=fn.ntmps,an:=<-cR P fn.results.toList,ap:=cT P b}
def CJ(C:E)(ct:Bq):X TOp->y->St->L (TX×y×St)
 |[],e,O=>J (.du,e,O)
 |.op o::l,e,O=>match sJ o e with
  |eT=>match evI C e O o.i with
   |J (.ev v b)=>CJ C ct l (put e o.ba v) b|J (.fI f args b)=>match ct f args b with|J (.ea v,a)=>CJ C ct l (put e o.ba v) a|J (.f9 v,a)=>J (.f9 v,e,a)|U=>U
   |U=>U
  |eF=>CJ C ct l (put e o.ba .dT) O
 |.iQ x::l,e,O=>match av C e x with|.dx t v=>J (.f9 (.dx t v),e,O)|_=>U
 |.ij d t x::l,e,O=>match av C e x with
  |.dx c v=>match Nat.beq c t with|eT=>CJ C ct l (put e (J d) (.de [v,.cW eT])) O|eF=>U
  |_=>U
def evT(C:E)(call:bY)(ct:Bq):TC->y->St->L (TX×y×St)
 |.eI,e,O=>J (.du,e,O)|.fu l,e,O=>CJ C ct l e O|.eO l,e,O=>match wK C call l e O with|J (f,d)=>J (.du,f,d)|U=>U
 |.eA a b,e,O=>match evT C call ct a e O with|J (.du,f,d)=>evT C call ct b f d|h=>h
 |.eJ c a b,e,O=>match av C e c with|.cW eT=>evT C call ct a e O|.cW eF=>evT C call ct b e O|_=>U
 |.ea,e,O=>J (.ea,e,O)|.eC,_,_=>U
def ahR(O0:St)(rs:X XR)(e:y)(O:St):L (AV×St):=match YH e O rs with|U=>U|J vs=>match w eF vs O with|U=>U|J (vs,a)=>J (dG vs,h (z O0) vs a)
def runT(C:E)(call:bY)(ct:Bq)(x:TF)(args:LA)(O:St):L (Ans×St):=
 match w eF args O with
 |U=>U|J (a,d)=>match i (z a) x.W with|eF=>U|eT=>match evT C call ct x.ap (a++k9 (x.W-z a) .dT) d with|U=>U|J (.f9 v,_,b)=>J (.f9 v,h (z O) [v] b)|J (_,e,b)=>match ahR O x.an e b with|J (v,c)=>J (.ea v,c)|U=>U
def sS(C:E)(call:bY)(T:Q->L TF):V->Bq
 |0,f,args,O=>match call f args O with|J (v,a)=>J (.ea v,a)|U=>U
 |n+1,f,args,O=>match T f with|J x=>runT C call (sS C call T n) x args O|U=>match call f args O with|J (v,a)=>J (.ea v,a)|U=>U
def O9(ct:Bq):bY:=λf args O=>match ct f args O with|J (.ea v,a)=>J (v,a)|_=>U
def YX(P:I)(f:Q)(args:X K)(w:Y)(R g:K->Y->Prop):Prop:=
 match(j8 f ⟨args⟩).run P w with
 |.ok (.enter h c) d=>Calls P h c d λe b=>(∃v,e=.returned v/\R v b)\/∃v,e=.panicked [{v,recovered:=eF}]/\g v b|.ok (.value v) d=>R v d|_=>N
def Nk(C:E)(ct:Bq):Prop:=
 ∀f args O a d,ct f args O=J (a,d)->∀g w b,VRs g args b->WR g w O->GL C g->
  YX C.P f b w (λe h=>∃v,a=.ea v/\∃c,j7 g O w c d h/\VR c v e) λe h=>∃v,a=.f9 v/\∃c,j7 g O w c d h/\VR c v e
def ahM{P:I}{f:Q}{args:X K}{w:Y}{R b c:K->Y->Prop}(h:H P f args w R)(hr:∀v a,R v a->b v a):YX P f args w b c:=by
 unfold H at h;unfold YX;generalize(j8 f ⟨args⟩).run P w=d at h⊢;cases d with
 |halt x a=>exact h
 |ok n a=>
  cases n<;>first|exact h.elim|skip
  ·exact hr _ _ h
  grind [Z1]
def aq2{P:I}{f:Q}{args:X K}{w:Y}{R b c:K->Y->Prop}(h:YX P f args w R c)(hr:∀v a,R v a->b v a)(d:∀v a,c v a->N):H P f args w b:=by
 unfold YX at h;unfold H;generalize(j8 f ⟨args⟩).run P w=i at h⊢;cases i with
 |halt x a=>exact h
 |ok n a=>
  cases n<;>first|exact h.elim|skip
  ·exact hr _ _ h
  grind [Z1]
section
variable{call:bY}{ct:Bq}
def aiY(h:Nk C ct):fZ C (O9 ct):=by
 intro f args O v m b g w a d j i;unfold O9 at b;split at b;·rename_i v1 n c;simp only[a07,aC2]at b;obtain⟨rfl,rfl⟩:=b;exact aq2 (h f args O _ _ c g w a d j i) (λk l ⟨v2,e,x⟩=>by cases e;exact x) (λk l ⟨v2,e,x⟩=>by cases e)
 ·cases b
def PostT(g:Gh)(O:St)(w:Y)(a:Z6)(x:TX)(f:y)(O':St):Exit->Z6->Y->Prop:=
 λex d h=>d.defers=a.defers/\∃c,AR c f d/\j7 g O w c O' h/\match x with|.du=>ex=.normal|.ea=>ex=.ret|.f9 v=>∃e,VR c v e/\ex=.panic [{v:=e,recovered:=eF}]
def PostT.N{g e:Gh}{O O1 O':St}{w i:Y}{a a1:Z6}{x:TX}{d:y}(l:a1.defers=a.defers)(b:j7 g O w e O1 i){ex:Exit}{c:Z6}{f:Y}(h:PostT e O1 i a1 x d O' ex c f):PostT g O w a x d O' ex c f:=by obtain⟨k,j,h2,h3,h4⟩:=h;exact⟨k.trans l,j,h2,b.N h3,h4⟩
theorem ah9 (D:Nk C ct) {o:Z2} {g:Gh} {e:Env} {O:St} {w:Y} {a:Z6} (G:AR g e a) (F:WR g w O) (E:GL C g) {Q:Exit->Z6->Y->Prop} {next:Z6->Y->Prop}
  {out:Out} (j:evI C e O ((cI C.P o).getD .eC)=J out) (u:match out with|.ev v l=>∀k d c,j7 g O w c l d->VR c v k->next (a.put o.dst k) d|.fI f args y=>∃A l,ct f args y=J (A,l)/\match A with|.ea v=>∀k d c,j7 g O w c l d->VR c v k->next (a.put o.dst k) d|.f9 v=>∀k d c,j7 g O w c l d->VR c v k->Q (.panic [{v:=k,recovered:=eF}]) a d):o.wp C.P a w next Q:=by
 cases B:cI C.P o with
 |none=>rw[B]at j;simp[evI,aF]at j
 |some H=>
  rw[B]at j;simp only[aG9]at j;have hs:=aec (C:=C) F E.2 (λx b hb=>G.el E x b hb) o B j;cases out with
  |ev v0 y=>
   obtain⟨d,c,t,hr⟩:=hs;unfold Oper.wp;rcases hr with⟨k,p,h2⟩|⟨rfl,p⟩;·rw[p];exact u k d c t h2
   ·rw[p];exact u undef d c t (AX c)
  |fI f args y=>
   obtain⟨rfl,i,p,h2⟩:=hs;obtain⟨A,l,q,u⟩:=u;have s:=D f args y A l q g w i p F E;unfold Oper.wp;rw[h2];unfold YX at s;generalize(j8 f ⟨i⟩).run C.P w=N at s;cases N with
   |halt h d=>exact s.elim
   |ok n d=>
    cases n<;>first|exact s.elim|skip
    ·obtain⟨v,rfl,c,h3,h4⟩:=s;exact u _ _ c h3 h4
    grind [Oper.upon,Z1]
def ala{P:I}{t b:B}(h:age P t=eT)(v:K)(w:Y):(Instr.typeAssert (.iface t v) b t eT).run P w=.ok (.tuple #[v,.bool eT]) w:=by
 unfold age at h;unfold Instr.typeAssert;cases a:P.underlying t with
 |none=>rw[a]at h;cases h|some d=>rw[a]at h;cases d<;>first|(cases h;done)|(simp[go_sem,underlying,a];done)|skip
def ad9 (L:Nk C ct) (ops:j9 Z2) {Q:Exit->Z6->World->Prop}:∀(l:List Z2) (k:Nat) (xs:List TOp),ops.toList.drop k=l->ahz C.P ops l=J xs->∀(e F:Env) (O O':St) (x:TX),CJ C ct xs e O=J (x,F,O')->
  ∀(g:Gh) (w:World) (a:Z6),AR g e a->WR g w O->GL C g->(∀ex R P,PostT g O w a x F O' ex R P->Q ex R P)->wpOps C.P ops Q (List.range' k l.length) a w
 |[],k,xs,hk,q,e,F,O,O',x,c,g,w,a,p,G,N,K=>by simp[ahz]at q;subst q;simp[CJ]at c;obtain⟨rfl,rfl,rfl⟩:=c;simp only[a96,List.range'_zero,wpOps];exact K _ _ _ ⟨w9,g,p,.ax G,w9⟩
 |o::l,k,xs,hk,q,e,F,O,O',x,c,g,w,a,p,G,N,K=>by
  simp only[ahz]at q;split at q
  ·rename_i xo I j h2;simp at q;subst q;have hok:ops[k]?=J o:=by have:=congrArg (λz:List Z2=>z[0]?) hk;simpa using this
   have aa:ops.toList.drop (k+1)=l:=by rw[<-aK1,hk];rfl
   rw[a94,List.range'_succ];simp only[wpOps,hok];have s:∀v u T S H,CJ C ct I (put e o.dst v) H=J (x,F,O')->j7 g O w S H T->VR S v u->wpOps C.P ops Q (List.range' (k+1) l.length) (a.put o.dst u) T:=λv u T S H ab h hv=>by refine ad9 L ops (Q:=Q) l (k+1) I aa h2 (put e o.dst v) F H O' x ab S T (a.put o.dst u) ((p.D h.le).cn hv o.dst) h.wr (N.D h.le) λex R P hp=>K ex R P (hp.N ?_ h);cases o.dst<;>rfl
   unfold ayP at j;cases B:Lu ops o with
   |none=>rw[B]at j;cases j
   |some gd=>
    rw[B]at j;simp only at j;have hy:=adh p ops o B;split at j
    ·
     rename_i y D;simp only[aB5]at j;obtain⟨b,hb,rfl⟩:=j;simp only[CJ]at c;rw[K2 (by rw[hy])];refine .inl ?_;have hv:=p.el N y b hb;split at c
     ·rename_i t v A;simp at c;obtain⟨rfl,rfl,rfl⟩:=c;rw[A]at hv;unfold Oper.wp;have:(X1 a.eval o).run C.P w=((Instr.panic (a.eval y)).run C.P w).andThen λv w=>.ok (.value v) w:=by simp only[X1,D];rw[Sem.run_bind];rfl
      rw[this];generalize a.eval y=vy at hv;cases hv with
      |dx _ _ u E=>rw[run_panic_iface];exact K _ _ _ ⟨w9,g,p,.ax G,_,.dx _ _ _ E,w9⟩
     ·cases c
    ·
     rename_i y t0 t d D M;split at j
     ·rename_i Z;simp only[aB5]at j;obtain⟨b,hb,rfl⟩:=j;simp only[CJ]at c;rw[K2 (by rw[hy])];refine .inl ?_;have hv:=p.el N y b hb;split at c
      ·rename_i t' v A;split at c
       ·rename_i W;have:=a95 W;subst this;rw[A]at hv;unfold Oper.wp;have:(X1 a.eval o).run C.P w=((Instr.typeAssert (a.eval y) t0 t' eT).run C.P w).andThen λv w=>.ok (.value v) w:=by simp only[X1,D];rw[Sem.run_bind];rfl
        rw[this];generalize a.eval y=vy at hv;cases hv with
        |dx _ _ u E=>rw[ala Z];rw[<-M]at c;exact s _ _ w g O c (.ax G) (.de _ _ (.cV _ _ _ _ E (.cV _ _ _ _ (.cW _) .db)))
       ·cases c
      ·cases c
     ·cases j
    ·simp only[a07]at j;subst j;simp only[CJ]at c;rename_i V _ _ _ _ _;have m:sJ {ba:=o.dst,i:=(cI C.P o).getD .eC,bm:=V} e=j6 o (yielded ops a.tmps):=(by grind [sJ]);split at c
     ·rename_i n;rw[m]at n;rw[K2 n];refine .inl ?_;split at c;·grind [ah9]
      ·rename_i f args H Y;split at c;·grind [ah9]
       ·rename_i v O2 X;simp at c;obtain⟨rfl,rfl,rfl⟩:=c;exact ah9 L p G N Y ⟨_,_,X,λu P g' h hv=>K _ _ _ ⟨w9,g',p.D h.le,h,u,hv,w9⟩⟩
       ·cases c
      ·cases c
     ·rename_i n;rw[m]at n;rw[if_neg (by rw[n];simp)];exact s .dT undef w g O c (.ax G) (AX g)
  ·cases q
def JM (i:fZ C call) (f:JX C call) (q:Nk C ct):∀(c:Code) (e j:Env) (O O':St) (x:TX),evT C call ct (cT C.P c) e O=J (x,j,O')->∀(g:Gh) (w:Y) (a:Z6),AR g e a->WR g w O->GL C g->
  c.wp C.P (PostT g O w a x j O') a w
 |.skip,e,j,O,O',x,d,g,w,a,k,n,m=>by simp[cT,evT]at d;obtain⟨rfl,rfl,rfl⟩:=d;exact wp_skip ⟨w9,g,k,.ax n,w9⟩
 |.ret,e,j,O,O',x,d,g,w,a,k,n,m=>by simp[cT,evT]at d;obtain⟨rfl,rfl,rfl⟩:=d;exact wp_ret ⟨w9,g,k,.ax n,w9⟩
 |.region id ops B,e,j,O,O',x,d,g,w,a,k,n,m=>by
  simp only[cT]at d;cases B with
  |true=>
   simp only[if_true]at d;split at d
   ·rename_i l H;simp only[evT]at d;split at d;·rename_i e1 D s;simp at d;obtain⟨rfl,rfl,rfl⟩:=d;refine Z0 (f.1 id ops l H e e1 O D s g w a k n m) λex a1 K ⟨t,s,u,p,o⟩=>⟨s,u,p,o,t⟩
    ·cases d
   ·simp[evT]at d
  |false=>
   simp only[aF3,if_false]at d;split at d;·rename_i l H;simp only[evT]at d;refine wp_region ?_;have:=ad9 q ops (Q:=PostT g O w a x j O') ops.toList 0 l w9 H e j O O' x d g w a k n m (λex P R h=>h);rw[List.range_eq_range'];simpa using this
   ·simp[evT]at d
 |.seq E F,e,j,O,O',x,d,g,w,a,k,n,m=>by
  simp only[cT,evT]at d;refine wp_seq ?_;split at d;·rename_i e1 D M;refine Z0 (JM i f q E e e1 O D .du M g w a k n m) λex a1 K A=>?_;obtain⟨s,u,p,o,t⟩:=A;simp only at t;subst t;exact Z0 (JM i f q F e1 j D O' x d u K a1 p o.wr (m.D o.le)) λex a2 S A=>A.N s o
  ·rename_i I;refine Z0 (JM i f q E e j O O' x d g w a k n m) λex a1 K A=>?_;cases x with
   |du=>exact(I _ _ d).elim|ea=>obtain⟨s,u,p,o,t⟩:=A;simp only at t;subst t;exact⟨s,u,p,o,w9⟩
   |f9 v=>obtain⟨s,u,p,o,N,hv,t⟩:=A;subst t;exact⟨s,u,p,o,N,hv,w9⟩
 |.cond c E F,e,j,O,O',x,d,g,w,a,k,n,m=>by
  simp only[cT]at d;cases G:cA c with
  |none=>rw[G]at d;simp[evT]at d
  |some b=>
   rw[G]at d;simp only[evT]at d;have hv:=k.el m c b G;split at d;·rename_i hb;rw[hb]at hv;generalize y:a.eval c=L at hv;cases hv;exact wp_cond_true y (JM i f q E e j O O' x d g w a k n m)
   ·rename_i hb;rw[hb]at hv;generalize y:a.eval c=L at hv;cases hv;exact wp_cond_false y (JM i f q F e j O O' x d g w a k n m)
   ·cases d
 |.label _,e,j,O,O',x,d,g,w,a,k,n,m=>by simp[cT,evT]at d
 |.exit _,e,j,O,O',x,d,g,w,a,k,n,m=>by simp[cT,evT]at d
 |.block _ _,e,j,O,O',x,d,g,w,a,k,n,m=>by simp[cT,evT]at d
 |.loop _,e,j,O,O',x,d,g,w,a,k,n,m=>by simp[cT,evT]at d
 |.scope _,e,j,O,O',x,d,g,w,a,k,n,m=>by simp[cT,evT]at d
 |.rangeFunc ..,e,j,O,O',x,d,g,w,a,k,n,m=>by simp[cT,evT]at d
 |.goto _,e,j,O,O',x,d,g,w,a,k,n,m=>by simp[cT,evT]at d
 |.refuse _,e,j,O,O',x,d,g,w,a,k,n,m=>by simp[cT,evT]at d
end
section
variable{call:bY}{ct:Bq}
def UN {fn:Func} {c:X XR} (m:cR C.P fn.results.toList=J c) {i g:Gh} {p w:Y} {O0 O:St} (s:WR i p O0) (b:j7 i O0 p g O w) {e:y} {a:Z6} (t:AR g e a) {v:AV} {O':St} (h:ahR O0 c e O=J (v,O')):
  ∃v',(K6 fn a.tmps).run C.P w=.ok v' w/\∃g',j7 i O0 p g' O' w/\VR g' v v':=by
 unfold ahR at h;split at h;·cases h
 ·rename_i vs hres;split at h;·cases h
  ·rename_i o u j;simp at h;obtain⟨rfl,rfl⟩:=h;obtain⟨n,hr1,hr2⟩:=Na (C:=C) b.wr t _ c m vs hres;obtain⟨x,d,k⟩:=wz b.wr _ j hr2;obtain⟨q,f,l⟩:=OD (b.N d) s k;exact⟨_,KY fn a.tmps w hr1,q,f,YV o n l⟩
def UJ(C:E)(f:Q):Prop:=∃fn,C.P.funcs[f]?=J fn/\(fn.name== "runtime.NumGoroutine")=eF
def Yk{f:Q}{fn:Func}(c:C.P.funcs[f]?=J fn)(a:(fn.name== "runtime.NumGoroutine")=eF){b:Code}(hb:fn.body=J b)(args':X K)(w:Y):(j8 f ⟨args'⟩).run C.P w=.ok (.enter f ⟨args'⟩) w:=by
 have d:fn.name≠ "runtime.NumGoroutine":=by simpa using a
 simp[j8,c,d,hb]
def afJ{g:Gh}{args:LA}{args':X K}(hv:VRs g args args')(n:V)(a:X Deferred):AR g (args++k9 (n-z args) .dT) {tmps:=(⟨args'⟩:j9 K)++Array.replicate (n-(⟨args'⟩:j9 K).size) undef,defers:=a}:=by have b:=hv.cM (VRs.fc (n-z args) (AX g));have:z args'=z args:=hv.I;simpa[AR,this]using b
def al9 (j:fZ C call) (d:JX C call) (D:Nk C ct) {f:FuncId} {x:TF} (i:cTF C.P f=J x) (S:UJ C f) {args:LA} {O:St} {A:Ans} {O':St} (h:runT C call ct x args O=J (A,O')) {g:Gh} {w:Y} {args':X Value} (Q:VRs g args args') (u:WR g w O) (R:GL C g):
  YX C.P f args' w (λv' I=>∃v,A=.ea v/\∃g',j7 g O w g' O' I/\VR g' v v') λv' I=>∃v,A=.f9 v/\∃g',j7 g O w g' O' I/\VR g' v v':=by
 obtain⟨fn,m,n⟩:=S;simp only[cTF,aB4,a04,aC3,a07]at i;obtain⟨M,e,body,hb,t,s,rfl⟩:=i;rw[m]at e;cases e;unfold runT at h;split at h;·cases h
 ·rename_i b K F;split at h;·cases h
  ·obtain⟨N,a,H⟩:=wz u _ F Q;unfold YX;rw[Yk m n hb];simp only;cases l:evT C call ct (cT C.P body) (b++k9 (fn.ntmps-z b) .dT) K with
   |none=>simp only at h;rw[l]at h;cases h
   |some cB=>
    obtain⟨tx,e2,y⟩:=cB;simp only at h;rw[l]at h;refine calls_of_wp m hb ?_;refine Z0 (JM j d D body _ e2 K y tx l N w _ (afJ H fn.ntmps []) a.wr (R.D a.le)) λex a2 W T=>?_;obtain⟨E,V,p,c,i⟩:=T;cases tx with
    |f9 v=>
     simp at h;obtain⟨rfl,rfl⟩:=h;obtain⟨v',G,rfl⟩:=i;obtain⟨P,q,o⟩:=OD (a.N c) u (.cV _ _ _ _ G .db);cases o with
     |cV _ _ _ _ o _=>exact⟨E,.inr ⟨_,w9,_,w9,P,q,o⟩⟩
    |du=>
     simp only at i h;subst i;cases k:ahR O t e2 y with
     |none=>rw[k]at h;cases h|some cB=>obtain⟨v,L⟩:=cB;rw[k]at h;simp at h;obtain⟨rfl,rfl⟩:=h;obtain⟨v',B,g',h2,h3⟩:=UN s u (a.N c) p k;exact⟨E,_,B,.inl ⟨_,w9,_,w9,g',h2,h3⟩⟩
    |ea=>
     simp only at i h;subst i;cases k:ahR O t e2 y with
     |none=>rw[k]at h;cases h|some cB=>obtain⟨v,L⟩:=cB;rw[k]at h;simp at h;obtain⟨rfl,rfl⟩:=h;obtain⟨v',B,g',h2,h3⟩:=UN s u (a.N c) p k;exact⟨E,_,B,.inl ⟨_,w9,_,w9,g',h2,h3⟩⟩
def awP(C:E)(T:Q->L TF):Prop:=∀f x,T f=J x->cTF C.P f=J x/\UJ C f
def Zi(k:C.P.follows .mixedOrders=eT)(b:fZ C call){T:Q->L TF}(l:awP C T):∀n,Nk C (sS C call T n)
 |0=>by
  intro f args O a m h g w c d i e;unfold sS at h;split at h;·rename_i v o j;simp at h;obtain⟨rfl,rfl⟩:=h;exact ahM (b f args O _ _ j g w c d i e) λs t hr=>⟨_,w9,hr⟩
  ·cases h
 |n+1=>by
  intro f args O a m h g w c d i e;unfold sS at h;split at h;·rename_i x q;obtain⟨p,h2⟩:=l f x q;exact al9 b ⟨Me k b,MH k b⟩ (Zi k b l n) p h2 h d i e
  ·split at h;·rename_i v o j;simp at h;obtain⟨rfl,rfl⟩:=h;exact ahM (b f args O _ _ j g w c d i e) λs t hr=>⟨_,w9,hr⟩
   ·cases h
end
structure CFn where
 W:Nat
 an:List XR
 dr:List XOp
 d:Nat
 hw:FuncId
 ck:List XA
 ap:TC
structure KFn where
 W:Nat
 r:Nat
 m:Nat
 ap:XC
def avZ(a b:Z2):L (V×Q×X XA):=
 match a.dst,a.op,a.guard with
 |J d,.makeFunc (.func g) ⟨[]⟩ cs,U=>match b.dst,b.op,b.guard with|U,.defer ⟨.value (.tmp c),⟨[]⟩,_⟩,U=>if c=d then(cAs cs.toList).map λl=>(d,g,l)else U|_,_,_=>U
 |_,_,_=>U
def cCF(P:I)(f:Q):L CFn:=
 match P.funcs[f]? with
 |J fn=>match fn.body with
  |J (.seq (.region _ a eF) (.seq (.region _ ⟨[b,e]⟩ eF) c))=>match adp P eF a 0 a.toList,avZ b e,cR P fn.results.toList with|J l,J (d,g,cs),J rs=>if d<fn.ntmps then J ⟨fn.ntmps,rs,l,d,g,cs,cT P c⟩else U|_,_,_=>U
  |_=>U
 |U=>U
def recOf(a b:Z2):L (V×V):=
 match a.dst,a.op,a.guard with
 |J d,.call ⟨.builtin .recover,⟨[]⟩,_⟩,U=>match b.dst,b.op,b.guard with|J m,.assign (.tmp c),U=>if c=d then J (d,m)else U|_,_,_=>U
 |_,_,_=>U
def cKF(P:I)(f:Q):L KFn:=
 match P.funcs[f]? with
 |J fn=>match fn.body with
  |J (.seq (.region _ ⟨[a,b]⟩ eF) c)=>match recOf a b,fn.results with|J (d,m),⟨[]⟩=>if d<fn.ntmps then J ⟨fn.ntmps,d,m,cC P c⟩else U|_,_=>U
  |_=>U
 |U=>U
def thrown:TX->AV|.f9 v=>v|_=>.eb
def C9(C:E)(call:bY)(ct:Bq)(x:CFn)(k:KFn)(args:LA)(O:St):L (AV×St):=
 match w eF args O with
 |U=>U|J (a,c)=>match wG C call x.dr (a++k9 (x.W-z a) .dT) c with|U=>U|J (e0,b)=>match evT C call ct x.ap (e0.set x.d (.dv (.func x.hw) [] (x.ck.map (av C e0)))) b with|U=>U|J (tx,e2,d)=>match evC C (O9 ct) 1 k.ap ((((x.ck.map (av C e0))++k9 (k.W-z x.ck) AV.dT).set k.r (thrown tx)).set k.m (thrown tx)) d with|J (.dq _,_,_)=>U|U=>U|J (_,_,e)=>ahR O x.an e2 e
section
variable{call:bY}{ct:Bq}
def agT{g:Gh}{e:y}{a:Z6}(b:AR g e a){v:AV}{v':K}(hv:VR g v v')(d:V):AR g (e.set d v) (a.put (J d) v'):=b.cn hv (J d)
def Md(g:Gh)(u:K0)(d:AV)(b:K)(c:K0):Prop:=VR g d b/\settle c=.returning/\((u=.returning/\b=.nilIface/\c=.returning)\/(u=.panicking [{v:=b,recovered:=eF}]/\c=.panicking [{v:=b,recovered:=eT}]))
def anJ (s:fZ C call) (m:JX C call) {f:FuncId} {k:KFn} (j:cKF C.P f=J k) {g:Gh} {O:St} {w:World} (hw:WR g w O) (hg:GL C g) {E:LA} {h:List Value} (Q:VRs g E h) {u B:K0} {x:AV} {X:Value} (W:Md g u x X B)
  {L:XE} {e3:Env} {O3:St} (F:evC C call 1 k.ap (((E++k9 (k.W-z E) AV.dT).set k.r x).set k.m x) O=J (L,e3,O3)) (T:∀id,L≠ .dq id):
  CallsD C.P f ⟨h⟩ u w λe u1 Y=>∃v,e=.returned v/\u1=B/\∃g',j7 g O w g' O3 Y:=by
 unfold cKF at j;split at j
 ·rename_i fn S;split at j
  ·rename_i id y A c hb;split at j
   ·rename_i r0 m0 b hres;have H:r0<fn.ntmps:=(by grind);rw[K2 H]at j;simp only[a07]at j;subst j;simp only at F;refine callsD_of_wpS S hb λd cs p=>?_;unfold recOf at b;split at b
    ·rename_i rr aa h1 h2 h3;split at b
     ·rename_i mm i h4 h5 h6;split at b
      ·rename_i V;simp only[a07,aC2]at b;obtain⟨rfl,rfl⟩:=b;subst V;refine wpS_seq (wpS_region ?_);have w1:∀l,j6 y l=eT:=λl=>by simp[j6,h3]
       have D:∀l,j6 A l=eT:=λl=>by simp[j6,h6]
       have r1:∀a:Z6,(X1 a.eval y).run C.P w=.ok .recover w:=λa=>by simp[X1,h2,resolve,invoke,go_sem]
       have r2:∀a:Z6,(X1 a.eval A).run C.P w=.ok (.value (a.eval (.tmp i))) w:=λa=>by simp[X1,h5,go_sem]
       have N:=afJ Q fn.ntmps [];have hs:∀K:Frame,K={d with mode:=B}->∀a1:Z6,a1.defers=[]->AR g (((E++k9 (fn.ntmps-z E) AV.dT).set i x).set mm x) a1->c.wpS C.P (bodyPostS C.P fn d cs λe u1 Y=>∃v,e=.returned v/\u1=B/\∃g',j7 g O w g' O3 Y) a1 (K::cs) w:=by
        intro K P a1 R M;refine wpS_of_wp (Z0 (pX s m 1 c _ e3 O O3 L F g w a1 M hw hg) λex a2 D ⟨hx,hd,g2,ab,G⟩=>?_);subst hx;have fin:a2.defers=[]/\∃u1,K::cs={d with mode:=u1}::cs/\∃v,(K6 fn a2.tmps).run C.P D=.ok v D/\∃v1,Ending.returned v=.returned v1/\u1=B/\∃g',j7 g O w g' O3 D:=by refine⟨hd.trans R,B,by rw[P],_,KY fn a2.tmps D (vs:=[]) ?_,_,w9,w9,g2,G⟩;rw[hres];rfl
        cases L with
        |du=>exact fin|ea=>exact fin|dq id=>exact(T id w9).elim
       have e0:(⟨[y,A]⟩:j9 Z2)[0]?=J y:=w9;have e1:(⟨[y,A]⟩:j9 Z2)[1]?=J A:=w9;have sz:List.range (⟨[y,A]⟩:j9 Z2).size=[0,1]:=w9;rw[sz];simp only[wpOpsS,e0,e1,w1,D,if_true,r1,r2,Oper.upon];obtain⟨hr,Z,W⟩:=W;rw[h1,h4];have I:∀q:Value,((⟨(⟨h⟩:j9 Value)++Array.replicate (fn.ntmps-(⟨h⟩:j9 Value).size) undef,[]⟩:Z6).put (J i) q).eval (.tmp i)=q:=λq=>by have:i<z h+(fn.ntmps-z h):=aG2 H (by omega);simp[Act.put,Act.eval,this]
       simp only[I];have n:=agT (agT N hr i) hr mm;rcases W with⟨rfl,rfl,rfl⟩|⟨rfl,rfl⟩;·have t:K4 (d::cs)=U:=(by simp[K4,p]);rw[t];exact hs _ (by rw[<-p]) _ w9 n
       ·have t:K4 (d::cs)=J (X,{d with mode:=.panicking [{v:=X,recovered:=eT}]}::cs):=(by simp[K4,p]);rw[t];exact hs _ w9 _ w9 n
      ·cases b
     ·cases b
    ·cases b
   ·cases j
  ·cases j
 ·cases j
def aee:∀{l:X g} {e a:y} {O O':St},wG C call l e O=J (a,O')->z a=z e
 |[],e,a,O,O',h=>by simp[wG]at h;rw[h.1]
 |o::l,e,a,O,O',h=>by
  unfold wG at h;split at h;·rw[aee h];unfold put;split<;>simp
  ·cases h
def am0{g:Gh}{e:y}{a:Z6}(c:AR g e a)(d:GL C g):∀(l:X Operand) (xs:X XA),cAs l=J xs->VRs g (xs.map (av C e)) (l.map a.eval)
 |[],xs,h=>by simp[cAs]at h;subst h;exact .db
 |x::l,xs,h=>by
  simp only[cAs]at h;split at h;·rename_i b bs f h2;simp at h;subst h;exact .cV _ _ _ _ (c.el d x b f) (am0 c d l bs h2)
  ·cases h
def agv(t:fZ C call)(m:JX C call)(R:Nk C ct)(an:JX C (O9 ct)){f:FuncId}{x:CFn}{k:KFn}(A:cCF C.P f=J x)(hn:UJ C f)(hk:cKF C.P x.hw=J k)(ay:UJ C x.hw):POK C f (C9 C call ct x k):=by
 intro args O v O' h g w ab ha hw hg;obtain⟨aL,E,B⟩:=ay;have I:∃b,aL.body=J b:=by grind [cKF]
 obtain⟨kb,I⟩:=I;obtain⟨fn,G,K⟩:=hn;unfold cCF at A;rw[G]at A;simp only at A;split at A
 ·rename_i aK Z bb M N c hb;split at A
  ·rename_i l0 d gf cs rs hl a az;have aw:d<fn.ntmps:=(by grind);rw[K2 aw]at A;simp only[a07]at A;subst A;simp only at hk E;unfold avZ at a;split at a
   ·rename_i dd s i h1 h2 h3;split at a
    ·rename_i q ba h4 h5 h6;split at a
     ·rename_i ak;subst ak;simp only[aB5,aC2]at a;obtain⟨xs,hxs,rfl,rfl,rfl⟩:=a;unfold C9 at h;split at h;·cases h
      ·rename_i j O1 au;split at h;·cases h
       ·rename_i e0 O0 T;split at h;·cases h
        ·rename_i tx e2 O2 V;obtain⟨g1,o,aD⟩:=wz hw _ au ha;unfold Does;rw[Yk G K hb];simp only;refine calls_of_wp_defers G hb (wp_seq ?_);have ad:evC C call 1 (cC C.P (.region aK Z eF)) (j++k9 (fn.ntmps-z j) .dT) O1=J (.du,e0,O0):=by simp only[cC,aF3,if_false,hl,evC];grind
         refine Z0 (pX t m 1 _ _ e0 O1 O0 .du ad g1 w _ (afJ aD fn.ntmps []) o.wr (hg.D o.le)) λex a1 w1 ⟨hx1,af,g2,F,y⟩=>?_;subst hx1;refine wp_seq (wp_region ?_);have aR:∀l,j6 M l=eT:=λl=>by simp[j6,h3]
         have aX:∀l,j6 N l=eT:=λl=>by simp[j6,h6]
         have q0:(⟨[M,N]⟩:j9 Z2)[0]?=J M:=w9;have q1:(⟨[M,N]⟩:j9 Z2)[1]?=J N:=w9;have sz:List.range (⟨[M,N]⟩:j9 Z2).size=[0,1]:=w9;have H:=(hg.D o.le).D y.le;have Q:=am0 F H _ _ hxs;have hmap:i.map a1.eval=⟨i.toList.map a1.eval⟩:=(by grind);have aq:VR g2 (.dv (.func s) [] (xs.map (av C e0))) (.func (.func s) ⟨[]⟩ ⟨i.toList.map a1.eval⟩):=VR.dv (.func s) [] (xs.map (av C e0)) [] (i.toList.map a1.eval) .db Q;have r1:(X1 a1.eval M).run C.P w1=.ok (.value (.func (.func s) ⟨[]⟩ ⟨i.toList.map a1.eval⟩)) w1:=by rw[<-hmap];simp only[X1,h2];rw[show Array.map a1.eval ⟨[]⟩=⟨[]⟩from by simp,Sem.run_bind];rfl
         have al:q<a1.tmps.size:=by
          have:=VRs.I F;have h0:z e0=z j+(fn.ntmps-z j):=by rw[aee T];simp
          grind
         have r2:(X1 (a1.put (J q) (.func (.func s) ⟨[]⟩ ⟨i.toList.map a1.eval⟩)).eval N).run C.P w1=.ok (.defer {target:=.fn (.func s) ⟨i.toList.map a1.eval⟩,args:=⟨[]⟩}) w1:=(by simp[X1,h5,resolve,Act.put,Act.eval,al,Deferred.ofValue]);rw[sz];simp only[wpOps,q0,q1,aR,aX,if_true,Oper.wp,r1,h1,r2,h4,Oper.upon];refine .inl (.inl ?_);have P:AR g2 (e0.set q (.dv (.func s) [] (xs.map (av C e0)))) ({a1.put (J q) (.func (.func s) ⟨[]⟩ ⟨i.toList.map a1.eval⟩)with defers:={target:=.fn (.func s) ⟨i.toList.map a1.eval⟩,args:=⟨[]⟩}::(a1.put (J q) (.func (.func s) ⟨[]⟩ ⟨i.toList.map a1.eval⟩)).defers}):=agT F aq q;refine Z0 (JM t m R c _ e2 O0 O2 tx V g2 w1 _ P y.wr H) λex a4 w4 hp=>?_;obtain⟨ah,g4,ac,p,hx4⟩:=hp;have S:a4.defers=[{target:=.fn (.func s) ⟨i.toList.map a1.eval⟩,args:=⟨[]⟩}]:=by rw[ah];show _::a1.defers=_;rw[af]
         have fin:∀(u u':K0) (cB:AV) (r':Value),u≠ .run->Md g4 u cB r' u'->cB=(thrown tx)->Leaves C.P fn a4.tmps (λe aM=>∃v1,e=.returned v1/\∃g',j7 g O w g' O' aM/\VR g' v v1) a4.defers u w4:=by
          intro u u' cB r' ax hu hr;rw[S];split at h;·cases h
          ·cases h
          ·rename_i xe e3 O3 X n;refine leaves_cons (f:=s) (args:=⟨i.toList.map a1.eval⟩) ax ?_ ?_;·have:=Yk E B I (i.toList.map a1.eval) w4;grind [invoke]
           ·have Y:=hu.2.1;have W:z (xs.map (av C e0))=z xs:=(by simp);rw[<-hr]at n;simp only at n;rw[<-W]at n;refine(anJ (aiY R) an hk p.wr (H.D p.le) (Q.D p.le) hu n (λid he=>by subst he;exact X _ w9)).mono ?_;rintro e u1 w5 ⟨v5,rfl,rfl,g5,D⟩;simp only;rw[Y];obtain⟨v',k1,g',k2,k3⟩:=UN az hw (((o.N y).N p).N D) (ac.D D.le) h;exact⟨v',k1,v',w9,g',k2,k3⟩
         cases tx with
         |du=>simp only at hx4;subst hx4;exact fin .returning .returning .eb .nilIface (by simp) ⟨.eb,w9,.inl ⟨w9,w9,w9⟩⟩ w9|ea=>simp only at hx4;subst hx4;exact fin .returning .returning .eb .nilIface (by simp) ⟨.eb,w9,.inl ⟨w9,w9,w9⟩⟩ w9|f9 vp=>obtain⟨aa,aE,rfl⟩:=hx4;exact fin _ (.panicking [{v:=aa,recovered:=eT}]) vp aa (by simp) ⟨aE,w9,.inr ⟨w9,w9⟩⟩ w9
     ·cases a
    ·cases a
   ·cases a
  ·cases A
 ·cases A
def aeU(a:C.P.follows .mixedOrders=eT){T:Q->L TF}(e:awP C T)(n:V){f:Q}{x:CFn}{k:KFn}(i:cCF C.P f=J x)(h:UJ C f)(g:cKF C.P x.hw=J k)(c:UJ C x.hw)(call:bY)(b:fZ C call):POK C f (C9 C call (sS C call T n) x k):=by have d:=Zi a b e n;have hr:=aiY d;exact agv b ⟨Me a b,MH a b⟩ d ⟨Me a hr,MH a hr⟩ i h g c
end
def aqs {g:Gh} {w q:Y} {O:St} (h:WR g w O) {o:V} {l G:LA} {tg:L (TypeId×R)} (hx0:O[o]?=J (.cP l ⟨eF,tg⟩)) (C:q.os=w.os) (n:q.tape=w.tape) (t:q.output=w.output) (D:w.heap.size<=q.heap.size)
  (m:∀k,k<w.heap.size->k≠g.ob o->q.heap[k]?=w.heap[k]?) (I:OR g q o (.cP G ⟨eF,tg⟩)):j7 g O w g (O.set o (.cP G ⟨eF,tg⟩)) q:=by
 obtain⟨c,e,fr,K,h2,h3,h4,h5,h6⟩:=h.bA o _ hx0;have B:∀i v,g.im (g.ob o) i≠J v:=λi v hv=>K3 (h6 i v hv).1 (by simp);refine⟨.ax g,⟨by simp[h.n],λb i v hv=>?_,λb i v hv=>?_,λk y u=>?_,λk F y H u x j s A=>?_⟩,C,n,t,D,λb hb E=>⟨λk y u j=>?_,m b hb (λe=>E o _ hx0 w9 e.symm),λ_=>w9⟩⟩;·have hb:b≠g.ob o:=λhb=>B i v (hb▸hv);rw[Au (m b (h.cK hv) hb)];exact h.im b i v hv
 ·grind [WR]
 ·rcases sF u with⟨d,f⟩|⟨rfl,_,rfl⟩;·exact OR.D (h.bA k y f) (.ax g) (h.lt f) (λj=>m _ (h.ee f j) λe=>d (h.inj k o y _ f hx0 j w9 e)) (λ_ _ _ hv=>hv)
  ·exact I
 ·rcases sF u with⟨d,f⟩|⟨d,_,rfl⟩
  ·rcases sF x with⟨a,p⟩|⟨a,_,rfl⟩;·exact h.inj k F y H f p j s A
   ·subst a;exact K3 (h.inj k F y _ f hx0 j w9 A) d
  ·rcases sF x with⟨a,p⟩|⟨a,_,rfl⟩;·subst d;exact K3 (h.inj F k H _ p hx0 s w9 A.symm) a
   ·rw[d,a]
 ·rcases sF u with⟨d,f⟩|⟨d,_,rfl⟩;·exact E k y f j
  ·subst d;exact E k _ hx0 w9
end Go.Ev
