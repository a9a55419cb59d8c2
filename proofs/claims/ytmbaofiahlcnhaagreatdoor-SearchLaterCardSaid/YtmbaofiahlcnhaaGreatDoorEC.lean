/- An evaluator. No conditions. -/
import Derived.Test.YtmbaofiahlcnhaaGreatDoorEB
import Derived.Lib.Bytealg
import Derived.LaidMore
import Derived.OpenShut
import Derived.ChangeArms
import Derived.ChangeShapes
import Derived.Carry
import Derived.WalkSmall
import Derived.Recover
set_option linter.unusedVariables false
set_option linter.unusedSimpArgs false
set_option linter.defProp false
namespace Go.Ev
open Bool renaming false→eF, true→eT
open List renaming length→z
open Option renaming none→U, some→J
open Go.IntKind renaming i64→r
open Go.RowKit
noncomputable section
def Fe(a b:Bool):Bool:=Bool.rec eF b a
def clo(v:AV):Bool:=
 AV.rec (motive_1:=λ_=>Bool) (motive_2:=λ_=>Bool)
  (λ_=>eT) (λ_ _=>eT) (λ_=>eT) eT (λ_ _=>eF) (λ_ c=>c) eT eT (λ_ _ c=>c) (λ_ _ c=>c)
  (λ_ _ _ _=>eF) (λ_=>eF) eT (λ_ _ _ a b=>Fe a b) eT (λ_ _ c=>c) eT (λ_ c=>c) (λ_ c=>c) eT (λ_ _ a b=>Fe a b) v
def an9(l:LA):Bool:=List.rec (motive:=λ_=>Bool) eT (λv _ a=>Fe (clo v) a) l
def kX(a b:Bool):Fe a b=(a&&b):=by cases a<;>rfl
mutual
def ahD:∀v:AV,clo v=below 0 v
 |.cX _=>rfl|.cU _ _=>rfl|.cV _=>rfl|.ev=>rfl|.c8 _ _=>by simp[below];rfl
 |.em l=>by rw[below];exact Ig l
 |.cY=>rfl|.fu=>rfl|.sl _ l=>by rw[below];exact Ig l
 |.eC _ l=>by rw[below];exact Ig l
 |.dj _ _ _ _=>by simp[below];rfl
 |.ec _=>by simp[below];rfl
 |.eA=>rfl|.ea _ x y=>by rw[below,<-Ig x,<-Ig y,<-kX];rfl
 |.ep=>rfl|.eb _ v=>by rw[below];exact ahD v
 |.ej=>rfl|.da l=>by rw[below];exact Ig l
 |.df l=>by rw[below];exact Ig l
def Ig:∀l:LA,(AV.rec_1 (motive_1:=λ_=>Bool) (motive_2:=λ_=>Bool)
  (λ_=>eT) (λ_ _=>eT) (λ_=>eT) eT (λ_ _=>eF) (λ_ c=>c) eT eT (λ_ _ c=>c) (λ_ _ c=>c)
  (λ_ _ _ _=>eF) (λ_=>eF) eT (λ_ _ _ a b=>Fe a b) eT (λ_ _ c=>c) eT (λ_ c=>c) (λ_ c=>c) eT (λ_ _ a b=>Fe a b) l:Bool)=ae 0 l
 |[]=>rfl|v::l=>by rw[ae,<-ahD v,<-Ig l,<-kX];rfl
end
def ajt:∀l:LA,an9 l=ae 0 l|[]=>rfl|v::l=>by show Fe (clo v) (an9 l)=_;rw[kX,ahD,ajt l,ae]
inductive adg where
 |fg (h:LA->St->Option (AV×St))|ju (K:KF) (raw pure:Bool)|ib (h:LA->St->Option (AV×St)) (K:KF) (raw pure:Bool)|kh (h:bH->LA->St->Option (AV×St))
abbrev Tr2:=FuncId->Option adg
def ajn(C:Ctx)(call:bH)(m:Nat)(K:KF)(raw:Bool)(args:LA)(n:Nat)(O1:St):Option (AV×St):=
 match Nat.ble (z args) K.L with
 |eF=>U
 |eT=>match kkR C call K.L m K.aE (lQ 0 args) O1 with
  |U=>U
  |J q=>match q with
   |(x,e,a)=>match x with
    |.dq _=>U|.dp=>match aU e a K.Y with|U=>U|J vs=>match hand raw vs a with|U=>U|J p=>match p with|(vs,b)=>J (bW vs,tidy n vs b)
    |.ef=>match aU e a K.Y with|U=>U|J vs=>match hand raw vs a with|U=>U|J p=>match p with|(vs,b)=>J (bW vs,tidy n vs b)
def aog(O1:St)(d:Option (AV×St)):Option (AV×St):=
 match d with
 |U=>U|J p=>match p with|(v,a)=>match a with|[]=>J (v,O1)|_::_=>U
def arR(C:Ctx)(call:bH)(m:Nat)(K:KF)(raw pure:Bool)(args:LA)(O:St):Option (AV×St):=
 match hand raw args O with
 |U=>U|J p=>match p with|(a,b)=>match Fe pure (an9 a)with|eT=>aog b (ajn C call m K raw a 0 [])|eF=>ajn C call m K raw a (z O) b
def atU(e:Option adg)(C:Ctx)(call:bH)(m:Nat)(args:LA)(O:St):Option (AV×St):=
 match e with
 |U=>U
 |J t=>match t with
  |.fg h=>h args O|.ju K raw pure=>arR C call m K raw pure args O|.ib h K raw pure=>match h args O with|J d=>J d|U=>arR C call m K raw pure args O
  |.kh h=>h call args O
def bM(C:Ctx)(T:Tr2)(n:Nat):bH:=Nat.rec (motive:=λ_=>bH) (λ_ _ _=>U) (λm a f args O=>atU (T f) C a m args O) n
end
def POK(C:Ctx)(f:FuncId)(h:LA->St->Option (AV×St)):Prop:=
 ∀args O v b,h args O=J (v,b)->∀g w a,VRs g args a->WR g w O->GL C g->Does C.P f a w λd e=>∃c,Goes g O w c b e/\VR c v d
def KOK(C:Ctx)(f:FuncId)(K:KF):Prop:=cF C.P f=J K.V/\(∃fn,C.P.funcs[f]?=J fn/\(fn.name== "runtime.NumGoroutine")=eF)/\K.ok=eT
def EOK(C:Ctx)(f:FuncId):adg->Prop|.fg h=>POK C f h|.ju K _ _=>KOK C f K|.ib h K _ _=>POK C f h/\KOK C f K|.kh h=>∀call,eY C call->POK C f (h call)
structure aj9(C:Ctx)(T:Tr2):Prop where
 cG:∀f e,T f=some e->EOK C f e
 gl:∀n l,C.gl n=some l->ae 0 l=true
def CX.ah(c:bH):CX c c:=λ_ _ _=>Le.cf
def Zh {C:Ctx} {call:bH} (s:eY C call) (i:Hw C call) {f:FuncId} {K:KF} {raw:Bool} (D:cF C.P f=J K.V) (al:∃fn,C.P.funcs[f]?=J fn/\(fn.name== "runtime.NumGoroutine")=eF) (hok:K.ok=eT)
  {m:Nat} {args:LA} {O1:St} {v:AV} {O':St} {O0:St} (h:ajn C call m K raw args (z O0) O1=J (v,O')) {B y:Gh} {g:World} {args':List Value} (G:Goes B O0 g y O1 g) (aw:WR B g O0) (hv:VRs y args args') (hg:GL C y):
  Does C.P f args' g λv' w'=>∃g',Goes B O0 g g' O' w'/\VR g' v v':=by
 obtain⟨fn,t,u⟩:=al;simp only[cF,ay3,a03,ay7,a05]at D;obtain⟨aE,o,body,hb,j,ax,hK⟩:=D;rw[t]at o;cases o;obtain⟨nargs,ntmps,results,b⟩:=K;simp only[KF.V,XF.mk.injEq]at hK;obtain⟨aL,af,ah,ak⟩:=hK;subst ah;unfold ajn at h;split at h;·cases h
 ·rename_i ad;have p:=az7 ad;dsimp only at p h;split at h;·cases h
  ·rename_i q ac;obtain⟨x,E,O2⟩:=q;dsimp only at h;have h2:eX C call ntmps b (lQ 0 args) O1=J (x,E,O2):=NH C call ntmps m b _ O1 _ ac;unfold KF.ok at hok;obtain⟨M,hM⟩:=aA7.mp hok;have h3:=zx (C:=C) (call:=call) b _ M _ hM (args++List.replicate (ntmps-z args) .dT) _ O1 (adx M ntmps args p);rw[h2]at h3;cases hs:ni C call b.V (args++List.replicate (ntmps-z args) .dT) O1 with
   |none=>rw[hs]at h3;exact h3.elim
   |some co=>
    obtain⟨x',e,Y⟩:=co;rw[hs]at h3;obtain⟨R,ay,W⟩:=h3;subst R ay;obtain⟨k,F⟩:=Uo (C:=C) (cs:=λ_=>call) (L:=call) (λ_ _ _=>CX.ah call) (λf a O co h=>⟨0,h⟩) b.V hs;have aD:∀vs d T,aU E Y j=J vs->hand raw vs Y=J (d,T)->v=bW d->O'=tidy (z O0) d T->(x'=.dp\/x'=.ef)->Does C.P f args' g λv' w'=>∃g',Goes B O0 g g' O' w'/\VR g' v v':=by
     intro vs d T hres ab an P R;have w:V9 e Y j=J vs:=by have:=We (n:=ntmps) (O:=Y) (e:=e) (A:=E) j (by rcases R with rfl|rfl<;>exact W);rw[this];exact hres
     have N:(callFunc f ⟨args'⟩).run C.P g=.ok (.enter f ⟨args'⟩) g:=by have V:fn.name≠ "runtime.NumGoroutine":=(by simpa using u);simp[callFunc,t,V,hb]
     unfold Does;rw[N];simp only;refine calls_of_wp t hb ?_;have hl:=hv.I;have Z:AR y (args++List.replicate (ntmps-z args) .dT) {tmps:=(⟨args'⟩:Array Value)++Array.replicate (fn.ntmps-(⟨args'⟩:Array Value).size) undef,defers:=[]}:=by have V:=hv.cv (VRs.dQ (ntmps-z args) (yI y));have:z args'=z args:=hl;simpa[AR,this,<-af]using V
     rw[<-ak]at F;refine wp_mono (mY s i k body _ e O1 Y x' F y g _ Z G.wr hg) λex a2 S ⟨aa,hd,g2,X,c⟩=>?_;obtain⟨az,hr1,hr2⟩:=JK (C:=C) c.wr X _ j ax vs w;obtain⟨g3,H,aq⟩:=tJ c.wr _ ab hr2;obtain⟨g4,I,au⟩:=LD ((G.N c).N H) aw aq;have l:a2.defers=[]/\∃v1,(Go.results fn a2.tmps).run C.P S=.ok v1 S/\∃Q,Ending.returned v1=.returned Q/\∃g',Goes B O0 g g' O' S/\VR g' v Q:=
      ⟨hd,_,IP fn a2.tmps S hr1,_,rfl,g4,by rw[P];exact I,by rw[an];exact WB d az au⟩
     subst aa;rcases R with rfl|rfl;·exact l
     ·exact l
    grind
def KT{g:Gh}{w C:World}{O:St}(u:WR g w O){g':Gh}(a:Goes (g.aP 0) [] w g' [] C):Goes g O w {g with im:=g'.im} O C/\g'.le {g with im:=g'.im}:=by
 have F:g'.n=0:=a.wr.n;have B:g'.pl=g.pl:=a.le.pl;have t:g'.le {g with im:=g'.im}:=⟨B.symm,by simp[F],λo p=>by omega,λo p=>by omega,λ_ _ _ h=>h⟩;have d:g.le {g with im:=g'.im}:=⟨rfl,a06 _,λ_ _=>rfl,λ_ _=>rfl,λb i v h=>a.le.im b i v h⟩;have f:∀b,ads (g.aP 0) [] b:=λb o x h=>by simp at h
 refine⟨⟨d,⟨u.n,a.wr.im,λb i v hv=>(a.wr.uf b i v hv).imp (λe=>⟨(congrFun B b).symm.trans e.1,e.2⟩) id,λo x H=>?_,u.inj⟩,a.os,a.cO,a.bX,a.al,λb hb G=>⟨G,(a.fr b hb (f b)).2.1,λi=>(a.fr b hb (f b)).2.2 i⟩⟩,t⟩;have p:=u.bx o x H;cases x with
 |eq=>trivial
 |cH l L=>
  obtain⟨c,e,fr,n,h2,h3,h4,h5,h6⟩:=p;have hb:g.ob o<w.heap.size:=(aD0.mp n).1;obtain⟨_,q,A⟩:=a.fr (g.ob o) hb (f _);refine⟨c,e,fr,q.trans n,h2,h3,λi y I=>?_,h5,λi v hv=>h6 i v ?_⟩;·obtain⟨v,hv,hr⟩:=h4 i y I;exact⟨v,hv,hr.D d⟩
  ·have:=A i;exact this.symm.trans hv
 |ec K=>
  obtain⟨m,clock,n,h2⟩:=p;have hb:g.ob o<w.heap.size:=(aD0.mp n).1;obtain⟨_,q,A⟩:=a.fr (g.ob o) hb (f _);exact⟨m,clock,q.trans n,h2.al,h2.jr,λi k v s=>by
   obtain⟨e,D,E,hv,j⟩:=h2.lT i k v s;exact⟨e,D,E.D d,hv.D d,j⟩⟩
theorem Does.D{P:Program}{f:FuncId}{args:List Value}{w:World}{R a:Value->World->Prop}(h:Does P f args w R)(hr:∀v b,R v b->a v b):Does P f args w a:=by
 unfold Does at h⊢;split at h;·exact h.mono λe g ⟨v,d,c⟩=>⟨v,d,hr _ _ c⟩
 ·exact hr _ _ h
 ·exact h
def aaB {C:Ctx} {call:bH} (k:C.P.follows .mixedOrders=eT) (d:eY C call) (q:∀n l,C.gl n=J l->ae 0 l=eT) {f:FuncId} {K:KF} (H:KOK C f K) {n:Nat} {raw pure:Bool} {args:LA} {O:St} {v:AV} {O':St}
  (h:arR C call n K raw pure args O=J (v,O')) {g:Gh} {w:World} {args':List Value} (I:VRs g args args') (E:WR g w O) (D:GL C g):Does C.P f args' w λv' F=>∃g',Goes g O w g' O' F/\VR g' v v':=by
 obtain⟨A,h2,h3⟩:=H;unfold arR at h;split at h;·cases h
 ·rename_i p L;obtain⟨m,N⟩:=p;dsimp only at h;obtain⟨G,a,i⟩:=tJ E raw L I;split at h
  ·rename_i B;rw[kX,a01,ajt]at B;unfold aog at h;split at h;·cases h
   ·rename_i p hb;obtain⟨v1,Y⟩:=p;dsimp only at h;split at h;·simp at h;obtain⟨rfl,rfl⟩:=h;have c:=a.wr;have j:WR (G.aP 0) w []:=⟨rfl,c.im,c.uf,λo x y=>by simp at y,λo P x Q y=>by simp at y⟩;have b:=D.D a.le;have:=Zh (O0:=[]) d ⟨Jr k d,Jw k d⟩ A h2 h3 hb (Goes.ah j) j (i.aP B.2) ⟨λn l s=>⟨(b.1 n l s).1.aP (q n l s),(b.1 n l s).2⟩,b.2⟩;refine this.D λv' F ⟨g',e,u⟩=>?_;obtain⟨hf,t⟩:=KT c e;exact⟨_,a.N hf,u.D t⟩
    ·cases h
  ·exact Zh d ⟨Jr k d,Jw k d⟩ A h2 h3 h a E i (D.D a.le)
def Ib{C:Ctx}{T:Tr2}(k:C.P.follows .mixedOrders=eT)(j:aj9 C T):∀n,eY C (bM C T n)
 |0=>λf args O v b h=>by cases h
 |n+1=>by
  have l:=Ib k j n;intro f args O v b h g w a d i e;change atU (T f) C (bM C T n) n args O=J (v,b)at h;unfold atU at h;split at h;·cases h
  ·rename_i t m;have c:=j.cG f t m;split at h;·exact c args O v b h g w a d i e
   ·exact aaB k l j.gl c h d i e
   ·split at h;·rename_i q hr;cases h;exact c.1 args O v b hr g w a d i e
    ·exact aaB k l j.gl c.2 h d i e
   ·exact c _ l args O v b h g w a d i e
def xH{g:Gh}{w d:World}{O:St}(h:WR g w O)(hb:Below w.heap.size w d):Goes g O w g O d:=by
 refine⟨.ah g,⟨h.n,λb i v hv=>?_,λb i v hv=>?_,λk y c=>?_,h.inj⟩,hb.os,hb.tape,hb.output,hb.size,λb a f=>⟨f,hb.block b a,λ_=>rfl⟩⟩;·rw[yh (hb.block b (h.ct hv))];exact h.im b i v hv
 ·rw[hb.block b (h.ct hv)];exact h.uf b i v hv
 ·exact OR.D (h.bx k y c) (.ah g) (h.lt c) (λe=>hb.block _ (h.db c e)) (λ_ _ _ hv=>hv)
structure JX(P:Program)(f:FuncId):Prop where
 is:∃fn,P.funcs[f]?=some fn/\fn.name≠ "runtime.NumGoroutine"/\fn.body.isSome=true
def JX.hF{P:Program}{f:FuncId}(h:JX P f)(args:List Value)(w:World):(callFunc f ⟨args⟩).run P w=.ok (.enter f ⟨args⟩) w:=by obtain⟨fn,a,h2,h3⟩:=h.is;obtain⟨b,hb⟩:=aA7.mp h3;simp[callFunc,a,h2,hb]
def Fh{P:Program}{f:FuncId}(hf:JX P f){args:List Value}{w:World}{R:Value->World->Prop}(h:Calls P f ⟨args⟩ w λe a=>∃v,e=.returned v/\R v a):Does P f args w R:=by unfold Does;rw[hf.hF];exact h
def ahF {P:Program} {f:FuncId} (hf:JX P f) {args:List Value} {w:World} {g:Gh} {O:St} (c:WR g w O) {v:AV} {v':Value} (hv:VR g v v') (h:Calls P f ⟨args⟩ w λe a=>e=.returned v'/\Below w.heap.size w a):
  Does P f args w λv' a=>∃g',Goes g O w g' O a/\VR g' v v':=
 Fh hf (h.mono λe a ⟨b,hb⟩=>⟨v',b,g,xH c hb,hv⟩)
def RH(F:LU->AV)(args:LA)(O:St):Option (AV×St):=
 match args with
 |[.cV s]=>if Nat.ble (z s) 1099511627776 then J (F s,O)else U|_=>U
def arA {C:Ctx} {f:FuncId} (hf:JX C.P f) (F:LU->AV) (c:LU->Value) (d:∀g s,VR g (F s) (c s)) (j:∀(s:ByteArray) (w:World),s.size<=1099511627776->Calls C.P f #[.string s] w λe l=>e=.returned (c s.data.toList)/\Below w.heap.size w l):
  POK C f (RH F):=by
 intro args O v m h g w a i k n;unfold RH at h;split at h
 ·rename_i s;split at h;·rename_i b;simp at h;obtain⟨rfl,rfl⟩:=h;cases i with|cW _ v1 _ l1 x y=>cases y;cases x;exact ahF hf k (d g s) (j ⟨⟨s⟩⟩ w (az7 b))
  ·cases h
 ·cases h
def alg {g:Gh} {w j:World} {O:St} (h:WR g w O) {o:Nat} {l:LA} {tg:Option (TypeId×Bool)} (hx0:O[o]?=J (.cH l ⟨eF,tg⟩)) (u:j.os=w.os) (d:j.tape=w.tape) (q:j.output=w.output) (E:j.heap.size=w.heap.size)
  (p:∀k,k≠g.ob o->j.heap[k]?=w.heap[k]?):Goes g O w g (O.set o .eq) j:=by
 obtain⟨c,e,fr,H,h2,h3,h4,h5,h6⟩:=h.bx o _ hx0;have D:∀i v,g.im (g.ob o) i≠J v:=λi v hv=>absurd (h6 i v hv).1 (by simp);refine⟨.ah g,⟨by simp[h.n],λb i v hv=>?_,λb i v hv=>?_,λk y s=>?_,λk F y G s x a n C=>?_⟩,u,d,q,by omega,λb hb B=>⟨λk y s a=>?_,p b (λe=>B o _ hx0 rfl e.symm),λ_=>rfl⟩⟩;·grind [yh,WR]
 ·grind [WR]
 ·rcases pO s with⟨m,f⟩|⟨rfl,_,rfl⟩;·exact OR.D (h.bx k y f) (.ah g) (h.lt f) (λa=>p _ λe=>m (h.inj k o y _ f hx0 a rfl e)) (λ_ _ _ hv=>hv)
  ·trivial
 ·rcases pO s with⟨m,f⟩|⟨m,_,rfl⟩
  ·rcases pO x with⟨t,A⟩|⟨t,_,rfl⟩;·exact h.inj k F y G f A a n C
   ·cases n
  ·cases a
 ·rcases pO s with⟨m,f⟩|⟨m,_,rfl⟩;·exact B k y f a
  ·cases a
def alf {P:Program} {g:Gh} {w:World} {O:St} (h:WR g w O) {o:Nat} {l:LA} {tg:Option (TypeId×Bool)} (i:O[o]?=J (.cH l ⟨eF,tg⟩)) {off:Nat} {c:AV} {v:Value} (f:VR g c v) (hb:off<z l) (hf:c.C=eT):
  Goes g O w g (O.set o (.cH (splice l off [c]) ⟨eF,tg⟩)) (w.setCell ⟨g.ob o,off,U⟩ v):=by
 obtain⟨k,e0,fr,e,h2,h3,h4,h5,h6⟩:=h.bx o _ i;obtain⟨m,b,d⟩:=Ou (P:=P) h i (off:=off) (cs:=[c]) (vs:=[v]) (.cW _ _ _ _ f .de) (by simp;omega) (by simpa using hf)
 have a:=run_storeCells_cells (P:=P) (g.ob o) off [v] 0 w (λj hj=>by rw[cell_of_heap e,aA0 (by simp at hj;omega)];rfl) (λj hj=>by
  have:=asl h5.1 k.size (off+0+j) (by simp at hj;omega);simpa[World.frozen?,e]using this) (VRs.eo (.cW _ _ _ _ f .de) (by simpa using hf))
 rw[b]at a;simp only[Result.ok.injEq,true_and]at a;subst a;exact d
def afJ(w:World)(b n:Nat):(w.freeze ⟨b,0,U⟩ n).os=w.os/\(w.freeze ⟨b,0,U⟩ n).tape=w.tape/\(w.freeze ⟨b,0,U⟩ n).output=w.output/\(w.freeze ⟨b,0,U⟩ n).heap.size=w.heap.size/\∀k,k≠b->(w.freeze ⟨b,0,U⟩ n).heap[k]?=w.heap[k]?:=by unfold World.freeze;grind
def Nb:LA->Option LU
 |[]=>J []
 |v::l=>match v with
  |.cU .u8 (.ofNat n)=>match Nat.ble n 255 with
   |eT=>match Nb l with|J bs=>J (UInt8.ofNat n::bs)|U=>U
   |eF=>U
  |_=>U
def Zi:∀{l:LA} {s:LU},Nb l=J s->z s=z l/\∀(j:Nat) (x:UInt8),s[j]?=J x->l[j]?=J (.cU .u8 x.toNat)
 |[],s,h=>by simp[Nb]at h;subst h;simp
 |v::l,s,h=>by
  unfold Nb at h;split at h
  ·rename_i n;split at h
   ·rename_i c;have c:=az7 c;split at h;·rename_i bs a;simp at h;subst h;obtain⟨e1,e2⟩:=Zi a;refine⟨by simp[e1],λj x b=>?_⟩;cases j with|zero=>simp at b;subst b;simp;omega|succ j=>simpa using e2 j x (by simpa using b)
    ·cases h
   ·cases h
  ·cases h
def Ri(P:Program)(f:FuncId):Bool:=
 match P.funcs[f]? with
 |J fn=>!(fn.name== "runtime.NumGoroutine")|U=>eF
def iW(P:Program)(gl:Nat->Option LA)(raw:FuncId->Bool)(prim:FuncId->Option (LA->St->Option (AV×St))):Ctx:=
 {P,gl,dF:=raw,fs:=λf=>match Ri P f with|eT=>cF P f|eF=>U,fg:=prim}
def yF(P:Program)(gl raw prim):ahj (iW P gl raw prim):=by intro f x h;grind [iW,Ri]
def afi {P:Program} (y:P.follows .mixedOrders=eT) {f:FuncId} (hf:JX P f) {n:Nat} {args:LA} {v:AV} (h:evF (iW P (λ_=>U) (λ_=>eF) (λ_=>U)) n f args []=J (v,[])) (w:World) (args':List Value) (v':Value)
  (p:∀g,VRs g args args') (hv:∀g v2,VR g v v2->v2=v'):Calls P f ⟨args'⟩ w λe j=>e=.returned v'/\Below w.heap.size w j:=by
 have hs:=Nl (C:=iW P (λ_=>U) (λ_=>eF) (λ_=>U)) y (yF _ _ _ _) (λf h s=>by simp[iW]at s) n f args [] v [] h;have A:WR ⟨λ_=>eT,0,λ_=>0,λ_=>0,λ_ _=>U⟩ w []:=⟨rfl,λb i v hv=>by simp at hv,λb i v hv=>by simp at hv,λo x c=>by simp at c,λo E x F c=>by simp at c⟩;have d:=hs _ w args' (p _) A ⟨λn l u=>by simp[iW]at u,.inr λ_=>rfl⟩;unfold Does at d;change(match(callFunc f ⟨args'⟩).run P w with|.ok (.enter B m) j=>_|.ok (.value v) j=>_|_=>False)at d;rw[hf.hF]at d;refine Calls.mono d λe j ⟨v2,q,D,a,hr⟩=>?_;have:=hv _ _ hr;subst this;refine⟨q,?_⟩;exact⟨a.os,a.cO,a.bX,a.al,λk t=>(a.fr k t (λo x c=>by simp at c)).2.1⟩
noncomputable section
def dW(d:Option (AV×St))(v:AV):Bool:=
 match d with
 |U=>eF|J p=>match p with|(a,O)=>match O with|[]=>same a v|_::_=>eF
def IM{d:Option (AV×St)}{v:AV}(h:dW d v=eT):d=J (v,[]):=by unfold dW at h;grind [same_eq]
def aj2(C:Ctx)(f:FuncId)(args:LA)(v:AV):Prop:=POK C f λa O=>match xk a args with|eT=>J (v,O)|eF=>U
def afW{C:Ctx}{call:bH}(y:eY C call){f:FuncId}{args:LA}{v:AV}(i:∀n l,C.gl n=J l->ae 0 l=eT)(d:ae 0 args=eT)(h:dW (call f args []) v=eT):aj2 C f args v:=by
 intro t O v1 B c g w a u p e;dsimp only at c;split at c;·rename_i A;have:=wM _ _ A;subst this;cases c;have h2:=IM h;have q:WR (g.aP 0) w []:=⟨rfl,p.im,p.uf,λo x s=>by simp at s,λo E x H s=>by simp at s⟩;refine(y _ _ _ _ _ h2 (g.aP 0) w a (u.aP d) q ⟨λn l j=>⟨(e.1 n l j).1.aP (i n l j),(e.1 n l j).2⟩,e.2⟩).D λF G ⟨D,b,m⟩=>?_;obtain⟨hf,k⟩:=KT p b;exact⟨_,hf,m.D k⟩
 ·cases c
def memo(l:List (LA×AV))(azs:LA)(O:St):Option (AV×St):=
 match l with
 |[]=>U|p::l=>match p with|(args,v)=>match xk azs.reverse args.reverse with|eT=>J (v,O)|eF=>memo l azs O
def aoF{C:Ctx}{f:FuncId}:POK C f (memo []):=λargs O v a h=>by cases h
def alD{C:Ctx}{f:FuncId}{args:LA}{v:AV}{l:List (LA×AV)}(h:aj2 C f args v)(m:POK C f (memo l)):POK C f (memo ((args,v)::l)):=by
 intro b O v1 d c g w a e j i;unfold memo at c;dsimp only at c;cases k:xk b.reverse args.reverse with
 |true=>refine h b O v1 d ?_ g w a e j i;grind [List.reverse_inj,wM,vX]|false=>rw[k]at c;exact m b O v1 d c g w a e j i
def orP(h k:LA->St->Option (AV×St))(azs:LA)(O:St):Option (AV×St):=match h azs O with|J d=>J d|U=>k azs O
def aio{C:Ctx}{f:FuncId}{h k:LA->St->Option (AV×St)}(l:POK C f h)(m:POK C f k):POK C f (orP h k):=by
 intro b O v1 d c g w a e j i;unfold orP at c;split at c;·rename_i q hr;cases c;exact l b O v1 d hr g w a e j i
 ·exact m b O v1 d c g w a e j i
end
def tq:same (.da [.cV [1,2,3],.cU r 5,.sl 1 [.cV []]]) (.da [.cV [1,2,3],.cU r 5,.sl 1 [.cV []]])=eT:=by decide
noncomputable section
def qg {C:Ctx} {call:bH} (t:eY C call) (d:∀n l,C.gl n=J l->ae 0 l=eT) {f:FuncId} {args:LA} {v:AV} (b:ae 0 args=eT) (h:call f args []=J (v,[])) {g:Gh} {w:World} {O:St} {args':List Value} (s:VRs g args args') (k:WR g w O) (c:GL C g):
  Does C.P f args' w λv' q=>∃g',Goes g O w g' O q/\VR g' v v':=by
 have m:WR (g.aP 0) w []:=⟨rfl,k.im,k.uf,λo x p=>by simp at p,λo u x y p=>by simp at p⟩;refine(t _ _ _ _ _ h (g.aP 0) w args' (s.aP b) m ⟨λn l e=>⟨(c.1 n l e).1.aP (d n l e),(c.1 n l e).2⟩,c.2⟩).D λv' q ⟨g',a,j⟩=>?_;obtain⟨hf,i⟩:=KT k a;exact⟨_,hf,j.D i⟩
def KZ(args:LA)(O:St):Option (AV×St):=
 match args with
 |[.sl 0 []]=>J (.sl 0 [],O)|_=>U
def aal{C:Ctx}{call:bH}(j:eY C call)(d:∀n l,C.gl n=J l->ae 0 l=eT){f:FuncId}(q:dW (call f [.cY] []) .cY=eT)(h2:dW (call f [.fu] []) (.eC 0 [])=eT):POK C f KZ:=by
 intro args O v A h g w i s m k;unfold KZ at h;split at h
 ·simp only[a05,ay8]at h;obtain⟨rfl,rfl⟩:=h;cases s with
  |cW _ v1 _ l1 x y=>
   cases y;cases x with
   |hD=>refine(qg j d (by rfl) (IM q) (.cW _ _ _ _ .cY .de) m k).D λo p ⟨e,c,hr⟩=>⟨e,c,?_⟩;cases hr;exact .hD|gc a cap=>refine(qg j d (by rfl) (IM h2) (.cW _ _ _ _ (.fu a cap) .de) m k).D λo p ⟨e,c,hr⟩=>⟨e,c,?_⟩;cases hr;exact .gc _ _|sl _ _ b off cap t u=>refine(qg j d (by rfl) (IM h2) (.cW _ _ _ _ (.fu ⟨b,off,U⟩ cap) .de) m k).D λo p ⟨e,c,hr⟩=>⟨e,c,?_⟩;cases hr;exact .gc _ _
 ·cases h
def aru(args:LA)(O:St):Option (AV×St):=
 match args with
 |[.cV a,.cV b]=>J (.cU r (Lib.compareBytes a b),O)|_=>U
def arz{C:Ctx}{f:FuncId}(he:∀args w,(callFunc f args).run C.P w=((Extern.BytealgCompare.compare args).run C.P w).andThen λv w=>.ok (.value v) w):POK C f aru:=by
 intro args O v j h g w c d e k;unfold aru at h;split at h
 ·rename_i a b;simp only[a05,ay8]at h;obtain⟨rfl,rfl⟩:=h;cases d with
  |cW _ v1 _ l1 x y=>
   cases y with
   |cW _ v2 _ l2 x2 i=>
    cases i;cases x;cases x2;unfold Does;have:(callFunc f ⟨[.string ⟨⟨a⟩⟩,.string ⟨⟨b⟩⟩]⟩).run C.P w=.ok (.value (.int r (Lib.compareBytes a b))) w:=by rw[he];have:=Lib.run_compareString (P:=C.P) ⟨⟨a⟩⟩ ⟨⟨b⟩⟩ w;simp_all
    rw[this];exact⟨g,.ah e,.cU _ _⟩
 ·cases h
def aan{C:Ctx}{call:bH}(i:eY C call)(c:∀n l,C.gl n=J l->ae 0 l=eT){f:FuncId}(F:LU->AV)(h:∀s:LU,z s<=1099511627776->call f [.cV s] []=J (F s,[])):POK C f (RH F):=by
 intro args O v m a g w b e k j;unfold RH at a;split at a
 ·rename_i s;split at a;·rename_i d;simp only[a05,ay8]at a;obtain⟨rfl,rfl⟩:=a;exact qg i c (by rfl) (h s (az7 d)) e k j
  ·cases a
 ·cases a
def akf(F:LU->LU->AV)(args:LA)(O:St):Option (AV×St):=
 match args with
 |[.cV s,.cV t]=>match Fe (Nat.ble (z s) 1099511627000) (Nat.ble (z t) 1099511627000)with|eT=>J (F s t,O)|eF=>U
 |_=>U
def apc{C:Ctx}{call:bH}(i:eY C call)(d:∀n l,C.gl n=J l->ae 0 l=eT){f:FuncId}(F:LU->LU->AV)(h:∀s t:LU,z s<=1099511627000->z t<=1099511627000->call f [.cV s,.cV t] []=J (F s t,[])):POK C f (akf F):=by
 intro args O v m a g w c e k j;unfold akf at a;split at a
 ·rename_i s t;split at a;·rename_i b;rw[kX,a01]at b;simp only[a05,ay8]at a;obtain⟨rfl,rfl⟩:=a;exact qg i d (by rfl) (h s t (az7 b.1) (az7 b.2)) e k j
  ·cases a
 ·cases a
theorem aud{P:Program}{gl raw prim}{f:FuncId}{K:KF}(b:cF P f=J K.V)(h2:Ri P f=eT)(h3:K.ok=eT):KOK (iW P gl raw prim) f K:=by
 refine⟨b,?_,h3⟩;unfold Ri at h2;split at h2;·rename_i fn a;exact⟨fn,a,by simpa using h2⟩
 ·cases h2
theorem ahZ{P:Program}{gl raw prim}{f:FuncId}{K:KF}(a:cF P f=J K.V)(h2:Ri P f=eT)(h3:K.ok=eT)(b:prim f=U)(hr:raw f=eF):Has (iW P gl raw prim) f K:=by refine⟨?_,b,hr,h3⟩;simp only[iW,h2,a]
end
noncomputable section
abbrev MM:=FuncId->List (LA×AV)
def MOK(C:Ctx)(M:MM):Prop:=∀f,POK C f (memo (M f))
def M0:MM:=λ_=>[]
def avm(C:Ctx):MOK C M0:=λf=>aoF
def fM(M:MM)(f:FuncId)(a:LA)(v:AV):MM:=λg=>match Nat.beq g f with|eT=>(a,v)::M f|eF=>M g
def aso{C:Ctx}{M:MM}(h:MOK C M){f:FuncId}{a:LA}{v:AV}(b:aj2 C f a v):MOK C (fM M f a v):=by
 intro g;unfold fM;cases hb:Nat.beq g f with
 |true=>have:=ay0 hb;subst this;exact alD b (h g)|false=>exact h g
def aoD(l:List (LA×AV))(azs:LA)(O:St):Option (AV×St):=match l with|[]=>U|_::_=>match hand eF azs O with|U=>U|J p=>match p with|(a,Y)=>memo l a Y
def aoE{C:Ctx}{M:MM}(h:MOK C M)(f:FuncId):POK C f (aoD (M f)):=by
 intro j O v1 i d g w b m q n;unfold aoD at d;split at d;·cases d
 ·rename_i s;split at d;·cases d
  ·rename_i p o;obtain⟨a,Y⟩:=p;obtain⟨k,c,hv⟩:=tJ q eF o m;exact(h f a Y v1 i d k w b hv c.wr (n.D c.le)).D λt u ⟨l,e,hr⟩=>⟨l,c.N e,hr⟩
end
instance:Inhabited (DataW Unit):=⟨.nil⟩
def Tab(W:World)(g:Nat)(l:LA):Prop:=
 ∃c e,W.heap[g]?=J (.cells c e (0,0))/\∀(i:Nat) (a:AV),l[i]?=J a->∃v,c[i]?=J v/\∀b:Gh,VR b a v
def ae8 {P:Program} {W:World}:∀{a:List (String×DataW Unit)} {e:List MemPlace},DataW.LaidVars P W a e->∀{n:String} {d:DataW Unit},(n,d)∈a->
  ∃g t cs fuel p,P.globalNamed n=J g/\(P.globals[g]?).map (·.type)=J t/\W.var? P n=J cs/\DataW.trod (λ_=>()) P W 0 (λ_=>eT) eF fuel t cs.toList=J (d,p)/\∀x∈MemPlace.row ⟨g,0,U⟩ cs.size,x∈e
 |[],_,_,_,_,b=>by cases b
 |(m,i)::N,e,h,n,d,b=>by
  obtain⟨g,t,cs,fuel,p,q,k,h2,h3,h4,h5,rfl⟩:=h;rcases az4.mp b with l|b;·grind
  ·obtain⟨j,A,f,c,y,o,s,u,v,w⟩:=ae8 h5 b;grind
def afX {P:Program} {W:World} {b:List (String×DataW Unit)} (h:laidMet P b W) {n:String} {t e:TypeId} {N g:Nat} {l:List (DataW Unit)} {la:LA} (H:(n,.agg l)∈b)
  (B:P.globalNamed n=J g) (h2:(P.globals[g]?).map (·.type)=J t) (h3:P.underlying t=J (.array (N+1) e)) (h4:P.cellsOf e=1) (h5:P.cellsOf t=N+1) (T:z la=N+1)
  (hv:∀(i:Nat) (a:AV) fuel (x:Value) p d,la[i]?=J a->l[i]?=J d->DataW.trod (λ_=>()) P W 0 (λ_=>eT) eF fuel e [x]=J (d,p)->∀R:Gh,VR R a x):Tab W g la:=by
 obtain⟨Q,C,_,E⟩:=h;obtain⟨S,X,cs,fuel,p,K,L,V,M,O⟩:=ae8 C H;obtain rfl:=aE0 (B.symm.trans K);obtain rfl:=aE0 (h2.symm.trans L);obtain⟨k,m,_,ex,f,I,q⟩:=DataW.trod_array h3 M;have y:l=k.map (·.1):=by grind
 have u:cs.size=N+1:=by rw[<-h5,<-f];simp
 have A:MemPlace.cell g 0∈Q:=O _ (by simp[MemPlace.row,u]);obtain⟨⟨c,w,G⟩,_⟩:=E g 0 A;have o:c=cs:=by grind [World.var?]
 subst o;refine⟨c,w,G,λi a D=>?_⟩;have hi:i<N+1:=by grind
 have j:=q i hi;rw[h4,aB5]at j;have s:i<c.size:=by omega
 have F:((c.toList.drop i).take 1)=[c[i]]:=by apply aA9;grind
 rw[F]at j;have v:i<z k:=by omega
 rw[a02 v]at j;refine⟨c[i],aA0 s,?_⟩;exact hv i a m c[i] k[i].2 k[i].1 D (by rw[y];simp[v]) j
def wV {P:Program} {W:World} {b:List (String×DataW Unit)} (h:laidMet P b W) {n:String} {t e:TypeId} {N g:Nat} {k:IntKind} {l:List Int} (m:(n,.agg (l.map λi=>.lit (.int k i)))∈b)
  (f:P.globalNamed n=J g) (h2:(P.globals[g]?).map (·.type)=J t) (h3:P.underlying t=J (.array (N+1) e)) (h4:P.cellsOf e=1) (h5:P.cellsOf t=N+1) (j:z l=N+1) (h6:P.underlying e=J (.int k)):Tab W g (l.map λi=>.cU k i):=by
 refine afX h m f h2 h3 h4 h5 (by simp[j]) λi a c x p d q s o u=>?_;obtain⟨y,e1,e2,_⟩:=DataW.trod_int h6 o;grind [VR]
def acr {P:Program} {W:World} {b:List (String×DataW Unit)} (h:laidMet P b W) {n:String} {t e:TypeId} {N g:Nat} {l:List LU} (q:(n,.agg (l.map λi=>.lit (.string i)))∈b)
  (m:P.globalNamed n=J g) (h2:(P.globals[g]?).map (·.type)=J t) (h3:P.underlying t=J (.array (N+1) e)) (h4:P.cellsOf e=1) (h5:P.cellsOf t=N+1) (o:z l=N+1) (h6:P.underlying e=J .string):Tab W g (l.map .cV):=by
 refine afX h q m h2 h3 h4 h5 (by simp[o]) λi a k x p d c j s u=>?_;obtain⟨R,e1,e2,_⟩:=DataW.trod_string h6 s;rw[aC6]at c j;cases f:l[i]? with
 |none=>rw[f]at c;cases c|some y=>rw[f]at c j;simp only[az2,a05]at c j;subst c j;simp only[List.cons.injEq,and_true]at e1;simp only[ay8,DataW.lit.injEq,Lit.string.injEq]at e2;rw[e1,e2.1];exact .cV _
def zG{W:World}{g:Nat}{k:IntKind}{l:List Int}{la:LA}(h:Tab W g (l.map λi=>.cU k i))(e:la=l.map λi=>.cU k i):Tab W g la:=e▸h
def ah1{W:World}{g:Nat}{l:List LU}{la:LA}(h:Tab W g (l.map .cV))(e:la=l.map .cV):Tab W g la:=e▸h
def ag8:Value->Bool|.int .u8 _=>eF|_=>eT
def ag9:Option Value->Bool|J (.int r _)=>eF|_=>eT
def gh0(T:Nat->Bool)(W:World):Gh:=⟨T,0,λ_=>0,λ_=>0,λb i=>match T b with|eT=>W.cell? ⟨b,i,U⟩|eF=>(W.cell? ⟨b,i,U⟩).filter λv=>ag8 v||ag9 (W.cell? ⟨b,i+1,U⟩)⟩
def im0{T:Nat->Bool}{W:World}{b i:Nat}{v:Value}(h:W.cell? ⟨b,i,U⟩=J v)(a:(ag8 v||ag9 (W.cell? ⟨b,i+1,U⟩))=eT):(gh0 T W).im b i=J v:=by show(match T b with|eT=>W.cell? ⟨b,i,U⟩|eF=>(W.cell? ⟨b,i,U⟩).filter λv=>ag8 v||ag9 (W.cell? ⟨b,i+1,U⟩))=_;grind
theorem asH{T:Nat->Bool}{W:World}{b i:Nat}(h:T b=eT):(gh0 T W).im b i=W.cell? ⟨b,i,U⟩:=by show(match T b with|eT=>W.cell? ⟨b,i,U⟩|eF=>(W.cell? ⟨b,i,U⟩).filter λv=>ag8 v||ag9 (W.cell? ⟨b,i+1,U⟩))=_;rw[h]
theorem asG{T:Nat->Bool}{W:World}{b i:Nat}(h:T b=eF):(gh0 T W).im b i=(W.cell? ⟨b,i,U⟩).filter λv=>ag8 v||ag9 (W.cell? ⟨b,i+1,U⟩):=by show(match T b with|eT=>W.cell? ⟨b,i,U⟩|eF=>(W.cell? ⟨b,i,U⟩).filter λv=>ag8 v||ag9 (W.cell? ⟨b,i+1,U⟩))=_;rw[h]
def asq{g:Gh}{a:AV}{v:Value}(h:VR g a v)(hb:isByte a=eF):ag8 v=eT:=by
 cases h<;>first|rfl|skip
 rename_i k n;cases k<;>first|rfl|cases hb
def wr0{T:Nat->Bool}{W:World}(h:∀b,T b=eT->∃c e,W.heap[b]?=J (.cells c e (0,0))):WR (gh0 T W) W []:=⟨rfl,λb i v hv=>(by
 grind [asG,Option.filter_eq_some_iff,asH]),λb i v hv=>(by
 cases d:T b with
 |false=>exact .inl ⟨d,λj n m hj f=>by
  grind [asG,Option.filter_eq_some_iff,ag8,ag9]⟩
 |true=>
  grind),λo x a=>by simp at a,λo g x k a=>by simp at a⟩
def isI:AV->Bool|.cU r _=>eT|_=>eF
def asr{g:Gh}{a:AV}{v:Value}(h:VR g a v)(hb:isI a=eF):ag9 (J v)=eT:=by
 cases h<;>first|rfl|skip
 rename_i k n;cases k<;>first|rfl|cases hb
def okB:LA->Bool|[]=>eT|[a]=>!isByte a|a::b::l=>(!isByte a|| !isI b)&&okB (b::l)
def aoS:∀{l:LA},okB l=eT->∀{j:Nat} {a:AV},l[j]?=J a->isByte a=eT->∃c,l[j+1]?=J c/\isI c=eF
 |[],_,j,a,h,_=>by simp at h
 |[x],b,j,a,h,hb=>by grind [okB]
 |x::y::l,b,j,a,h,hb=>by
  rw[okB,a01]at b;cases j with
  |zero=>grind|succ j=>exact aoS b.2 (j:=j) (by simpa using h) hb
def PX(C:Ctx)(b:Nat):Bool:=(C.gl b).isSome
def aiV{C:Ctx}{W:World}(tabs:∀g l,C.gl g=J l->Tab W g l):∀b,PX C b=eT->∃c e,W.heap[b]?=J (.cells c e (0,0)):=by intro b hb;obtain⟨l,d⟩:=aA7.mp hb;obtain⟨c,e,a,_⟩:=tabs b l d;exact⟨c,e,a⟩
def gl0{C:Ctx}{W:World}(b:C.np=eT)(tabs:∀g l,C.gl g=J l->Tab W g l):GL C (gh0 (PX C) W):=by refine⟨λn l a=>⟨?_,by show PX C n=eT;unfold PX;rw[a];rfl⟩,.inl b⟩;obtain⟨c,e,f,d⟩:=tabs n l a;grind [CR.bO,asH,PX,World.cell?]
def Rd(T:Nat->Bool)(P:Program)(W:World)(t:TypeId){c:Type}(Q:c->Prop)(f:c->LA):Prop:=
 ∀(H:Type) (enc:TypeId×Value->H) (d:Nat->Bool) (held:Bool) (b:Nat) (cs:List Value) (x:DataW H×List MemPlace),DataW.trod enc P W 0 d held b t cs=J x->∃a,Q a/\VRs (gh0 T W) (f a) cs
section
variable{T:Nat->Bool}{P:Program}{W:World}{t e:TypeId}
def N8{k:IntKind}(b:P.underlying t=J (.int k)):Rd T P W t (λn:Int=>(Lit.int k n).wf=eT) (λn=>[.cU k n]):=by intro H enc d held a cs x h;obtain⟨n,rfl,_,c⟩:=DataW.trod_int b h;exact⟨n,c,.cW _ _ _ _ (.cU _ _) .de⟩
def arG(c:P.underlying t=J .bool):Rd T P W t (λ_:Bool=>True) (λb=>[.cX b]):=by intro H enc d held a cs x h;obtain⟨n,rfl,_⟩:=DataW.trod_bool c h;exact⟨n,trivial,.cW _ _ _ _ (.cX _) .de⟩
def Lc(b:P.underlying t=J .string):Rd T P W t (λs:LU=>z s<=maxLen) (λs=>[.cV s]):=by intro H enc d held a cs x h;obtain⟨⟨⟨s⟩⟩,rfl,_,c⟩:=DataW.trod_string b h;exact⟨s,c,.cW _ _ _ _ (.cV _) .de⟩
def abU{W:World}{a:Addr}{n:Nat}{cs:List Value}(h:W.cells? 0 a n=J cs):z cs=n/\∀j,j<n->W.cell? (a.add j)=cs[j]? /\cs[j]?.isSome:=by
 unfold World.cells? at h;split at h;·have b:=mapM_some_length h;refine⟨by simpa using b,λj hj=>?_⟩;have c:=mapM_some_get h j j (by simp[hj]);grind
 ·cases h
theorem cell_spot{W:World}{a:Addr}{v:Value}(h:W.cell? a=J v):a.spot=U:=by
 unfold World.cell? at h;split at h;·simp_all
 ·cases h
def Xo{a:Type}{R:Nat->a->Prop}:∀(n:Nat),(∀i,i<n->∃x,R i x)->∃xs:List a,z xs=n/\∀i (x:a),xs[i]?=J x->R i x|0,_=>⟨[],rfl,λi x h=>by simp at h⟩|n+1,h=>by obtain⟨xs,b,h2⟩:=Xo n λi hi=>h i (by omega);obtain⟨y,d⟩:=h n (by omega);refine⟨xs++[y],by simp[b],λi x c=>?_⟩;grind
def ajw{l:Gh}{g:Type}{f:g->LA}{k:Nat}(n:∀x,z (f x)=k){b:Nat}:∀(xs:List g) (off:Nat),(∀i (x:g),xs[i]?=J x->∀j a,(f x)[j]?=J a->∃v,l.im b (off+i*k+j)=J v/\VR l a v)->CR l (xs.flatMap f) b off
 |[],off,_=>.de _ _
 |x::xs,off,h=>by
  rw[aC7];refine CR.bO λi a c=>?_;rw[aC0]at c;split at c;·have:=h 0 x rfl i a c;simpa using this
  ·rename_i hi;rw[n]at c hi;have q:=ajw n xs (off+k) (λp s e j o d=>by
    have:=h (p+1) s (by simpa using e) j o d;obtain⟨v,m,h2⟩:=this;exact⟨v,by rw[<-m];congr 1;rw[aF9];omega,h2⟩)
   obtain⟨v,m,h2⟩:=q.b2 c;grind
def agq {s:Type} {Q:s->Prop} {f:s->LA} {k:Nat} (Z:P.underlying t=J (.slice e)) (R:P.cellsOf e=k) (V:∀x,z (f x)=k) (E:0<k) (hu:∀x,okB (f x)=eT) (he:Rd T P W e Q f):
  Rd T P W t (λxs:List s=>z xs<=maxLen/\∀x∈xs,Q x) (λxs=>[.sl (z xs) (xs.flatMap f)]):=by
 intro H enc sp held B cs x h;rcases DataW.trod_slice Z h with⟨rfl,_⟩|⟨a,len,cap,c,F,n,_,rfl,_,_,X,C,S,d,_,_⟩;·exact⟨[],⟨a99 _,λx q=>by cases q⟩,.cW _ _ _ _ .hD .de⟩
 ·rw[R]at d;have w:0<len->a.spot=U:=λO=>by have p:=d 0 O;rw[a02 (by omega),a03]at p;obtain⟨c1,g,_⟩:=p;obtain⟨_,D⟩:=abU g;grind [cell_spot,Addr.add]
  have:∀i,i<len->∃y:s,Q y/\a.spot=U/\∀j av,(f y)[j]?=J av->∃v,(gh0 T W).im a.block (a.off+i*k+j)=J v/\VR (gh0 T W) av v:=by
   intro i hi;have u:i<z c:=(by omega);have p:=d i hi;rw[a02 u,a03]at p;obtain⟨o,g,hy⟩:=p;obtain⟨y,Y,hv⟩:=he H enc sp held n o _ hy;obtain⟨hl,D⟩:=abU g;have hs:=w (by omega);refine⟨y,Y,hs,λj av b=>?_⟩;have hj:j<k:=(by grind);obtain⟨v,h4,h5⟩:=hv.b2 b;have m:∀j v,o[j]?=J v->W.cell? ⟨a.block,a.off+i*k+j,U⟩=J v:=λj v e=>by have hj:j<k:=(by grind);rw[<-e,<-(D j hj).1];obtain⟨ab,ao,G⟩:=a;grind [addr_add]
   refine⟨v,im0 (m j v h4) ?_,h5⟩;cases hb:isByte av with
   |false=>rw[asq h5 hb];rfl|true=>obtain⟨a',K,L⟩:=aoS (hu y) b hb;obtain⟨v',M,N⟩:=hv.b2 K;rw[show a.off+i*k+j+1=a.off+i*k+(j+1)from by omega,m (j+1) v' M,asr N L,aE4]
  obtain⟨xs,A,q⟩:=Xo len this;refine⟨xs,⟨by omega,λx l=>?_⟩,.cW _ _ _ _ ?_ .de⟩;·obtain⟨i,hi,rfl⟩:=List.getElem_of_mem l;exact(q i _ (a02 hi)).1
  ·cases xs with
   |nil=>grind [VR]
   |cons y ys=>
    have hs:=(q 0 y rfl).2.1;have I:a=⟨a.block,a.off,U⟩:=by cases a;simp_all
    rw[I,<-A];refine .sl _ _ _ _ _ (ajw V _ _ λi x l j av b=>(q i x l).2.2 j av b) (by omega)
def RdF(T:Nat->Bool)(P:Program)(W:World):List Field->Nat->{c:Type}->(c->Prop)->(c->LA)->Prop:=λfs off c Q f=>
 ∀(H:Type) (enc:TypeId×Value->H) (d:Nat->Bool) (held:Bool) (b:Nat) (cs:List Value),(∀g∈fs,(DataW.trod enc P W 0 d held b g.type ((cs.drop g.offset).take (P.cellsOf g.type))).isSome)->z cs=off+(fs.map λg=>P.cellsOf g.type).sum->∃a,Q a/\VRs (gh0 T W) (f a) (cs.drop off)
def U6{off:Nat}:RdF T P W [] off (λ_:Unit=>True) (λ_=>[]):=by intro H enc c held a cs _ b;refine⟨(),trivial,?_⟩;rw[az1 (by simp at b;omega)];exact .de
def oz {k l:Type} {Q:k->Prop} {f:k->LA} {m:l->Prop} {n:l->LA} {g:Field} {fs:List Field} {off:Nat} (o:g.offset=off) (h:Rd T P W g.type Q f) (hf:RdF T P W fs (off+P.cellsOf g.type) m n):
  RdF T P W (g::fs) off (λx:k×l=>Q x.1/\m x.2) (λx=>f x.1++n x.2):=by
 intro H enc p held c cs d s;obtain⟨y,u⟩:=aA7.mp (d g (by simp));obtain⟨a,t,hv⟩:=h H enc p held c _ _ u;obtain⟨b,i,j⟩:=hf H enc p held c cs (λq e=>d q (by simp[e])) (by simp at s;omega);refine⟨(a,b),⟨t,i⟩,?_⟩;have:cs.drop off=(cs.drop off).take (P.cellsOf g.type)++cs.drop (off+P.cellsOf g.type):=by rw[<-aG4,List.take_append_drop]
 rw[this,<-o];exact hv.cv (by rw[o];exact j)
def JJ{d:Type}{Q:d->Prop}{f:d->LA}{fs:Array Field}(l:P.underlying t=J (.struct fs))(e:P.cellsOf t=(fs.toList.map λg=>P.cellsOf g.type).sum)(h:RdF T P W fs.toList 0 Q f):Rd T P W t Q f:=by
 intro H enc p held c cs x m;obtain⟨q,n,_,_,k,o,a⟩:=DataW.trod_struct l m;have:=h H enc p held n cs (λg j=>by
  obtain⟨i,hi,rfl⟩:=List.getElem_of_mem j;have b:i<fs.size:=(by simpa using hi);have h2:=a i fs[i] (by simp[b]);grind) (by rw[k,e];omega)
 simpa using this
def Rd.ec{c d:Type}{Q:c->Prop}{f:c->LA}{e:d->Prop}{i:d->LA}(h:Rd T P W t Q f)(g:c->d)(m:∀a,Q a->e (g a))(hf:∀a,i (g a)=f a):Rd T P W t e i:=by intro H enc k held b cs x j;obtain⟨a,l,h2⟩:=h H enc k held b cs x j;grind
end
def Yk {T:Nat->Bool} {P:Program} {W:World} {t:TypeId} {fs:Array Field} {base:Nat} {v:Value} (i:P.underlying t=J (.struct fs)) (hv:Value.okWide P W .any base t v) {c:Type} {Q:c->Prop} {f:c->LA} (hr:Rd T P W t Q f) {H:Type} {enc:TypeId×Value->H} {b:Nat->Bool} {held:Bool} {d:DataW H} {k:List MemPlace} (h:DataW.Trod enc P W 0 b held t v d k):
  ∃a,Q a/\VR (gh0 T W) (.da (f a)) v:=by
 simp only[Value.okWide,i]at hv;obtain⟨cs,rfl,_,_⟩:=hv;obtain⟨n,e⟩:=h;obtain⟨a,g,j⟩:=hr H enc b held n _ _ e;exact⟨a,g,.da _ _ j⟩
def SQ {T:Nat->Bool} {P:Program} {W:World} {t:TypeId} {base:Nat} {v:Value} (b:∀cs,¬Value.okWide P W .any base t (.agg cs)) (hv:Value.okWide P W .any base t v) {e:Type} {Q:e->Prop} {f:e->AV} (hr:Rd T P W t Q (λa=>[f a])) {H:Type} {enc:TypeId×Value->H} {c:Nat->Bool} {held:Bool} {d:DataW H} {j:List MemPlace} (h:DataW.Trod enc P W 0 c held t v d j):
  ∃a,Q a/\VR (gh0 T W) (f a) v:=by
 obtain⟨n,g⟩:=h;obtain⟨a,i,k⟩:=hr H enc c held n _ _ g;refine⟨a,i,?_⟩;have:v.cells.toList=[v]:=by
  cases v with
  |agg cs=>exact absurd hv (b cs)|_=>rfl
 grind [VRs]
def aoJ{P:Program}{W:World}{t:TypeId}{base:Nat}(a:P.underlying t=J .string):∀cs,¬Value.okWide P W .any base t (.agg cs):=λcs h=>by simp[Value.okWide,a,Cell.okWide,Cell.ok]at h
def aii{P:Program}{W:World}{t:TypeId}{base:Nat}{k:IntKind}(a:P.underlying t=J (.int k)):∀cs,¬Value.okWide P W .any base t (.agg cs):=λcs h=>by simp[Value.okWide,a,Cell.okWide,Cell.ok]at h
def Zk {C:Ctx} {call:bH} (j:eY C call) {f:FuncId} (hf:JX C.P f) (p:C.np=eT) {azs:LA} {b:Bool} (h:call f azs []=J (.cX b,[])) {W:World} (tabs:∀g l,C.gl g=J l->Tab W g l) {args:List Value} (i:VRs (gh0 (PX C) W) azs args):
  Calls C.P f ⟨args⟩ W λe d=>e=.returned (.bool b)/\Below W.heap.size W d:=by
 have c:=j f azs [] (.cX b) [] h (gh0 (PX C) W) W args i (wr0 (aiV tabs)) (gl0 p tabs);unfold Does at c;rw[hf.hF]at c;refine Calls.mono c λe d ⟨v2,m,s,a,hr⟩=>?_;cases hr;exact⟨m,a.os,a.cO,a.bX,a.al,λk n=>(a.fr k n (λo x q=>by simp at q)).2.1⟩
def arV{g g':Gh}{a:AV}{v:Value}(h:Wl a=eT)(hv:VR g a v):VR g' a v:=by cases hv<;>first|(cases h;done)|constructor
def ais {C D:Ctx} {call:bH} (G:eY C call) (B:D.P=C.P) (t:D.gl=C.gl) (hs:∀n l,C.gl n=J l->l.all Wl=eT) {f:FuncId} {b:Bool} (h:call f [] []=J (.cX b,[])):
  POK D f λargs O=>match args with|[]=>J (.cX b,O)|_=>U:=by
 intro args O v M p g w s F L I;dsimp only at p;split at p
 ·cases p;cases F;have u:WR ⟨λ_=>eT,0,g.ob,g.bs,λb i=>if g.pl b then g.im b i else U⟩ w []:=⟨rfl,λb i v hv=>(by
   grind [WR]),λb i v hv=>(by
   grind [WR]),λo x m=>by simp at m,λo N x P m=>by simp at m⟩
  have j:=G f [] [] (.cX b) [] h _ w [] .de u ⟨λn l A=>⟨?_,rfl⟩,.inr λ_=>rfl⟩
  ·rw[<-B]at j;have mono:∀y q,(∃d,Goes ⟨λ_=>eT,0,g.ob,g.bs,λb i=>if g.pl b then g.im b i else U⟩ [] w d [] q/\VR d (.cX b) y)->∃d,Goes g O w d O q/\VR d (.cX b) y:=by rintro y q ⟨d,c,hr⟩;cases hr;exact⟨g,xH L ⟨c.os,c.cO,c.bX,c.al,λk K=>(c.fr k K (λo x m=>by simp at m)).2.1⟩,.cX _⟩
   unfold Does at j⊢;split at j;·exact Calls.mono j λe q ⟨v2,H,E⟩=>⟨v2,H,mono _ _ E⟩
   ·exact mono _ _ j
   ·exact j
  ·obtain⟨h3,h4⟩:=I.1 n l (by rw[t];exact A);refine CR.bO λi a hi=>?_;obtain⟨v,h5,h6⟩:=h3.b2 hi;refine⟨v,?_,arV (a97.mp (hs n l A) a (a08 hi)) h6⟩;grind
 ·cases p
open Go.RowKit Go.ChangeShapes
def Jl {H:Type} {enc:TypeId×Value->H} {P:Program} {W j:World} (k:laidOutB P=eT) (hb:Below W.heap.size W j):∀{g:List TypeId} {vs:List Value} {e:List (DataW H)} {c:List MemPlace},(g.all λt=>P.readableRec t&&decide (t<P.types.size))=eT->
  DataW.TrodAll enc P W 0 (λ_=>eT) eT g vs e c->(∀x∈c,x.block<W.heap.size)->DataW.TrodAll enc P j 0 (λb=>decide (b<W.heap.size)) eT g vs e c
 |[],vs,e,c,_,h,_=>by obtain⟨rfl,rfl,rfl⟩:=trodAll_nil h;rfl
 |t::g,vs,e,c,f,h,a=>by obtain⟨v,n,d,l,p,q,rfl,rfl,rfl,m,h2⟩:=trodAll_cons h;simp only[a07,a01,decide_eq_true_eq]at f;exact trodAll_cons_mk (Below.trod k f.1.1 f.1.2 m hb λx i=>a x (by simp[i])) (Jl k hb (by simpa using f.2) h2 λx i=>a x (by simp[i]))
theorem aeR{H:Type}{enc:TypeId×Value->H}{P:Program}{W:World}{b:Nat}{c:Nat->Bool}{a:Bool}:∀(fuel:Nat) (t:TypeId) (l:Lit) (p:List MemPlace),DataW.trod enc P W b c a fuel t []≠J (.lit l,p)
 |0,t,l,p,h=>by cases h
 |fuel+1,t,l,p,h=>by unfold DataW.trod at h;grind [ay4]
def aoA{b c:Type}(f:b->Option c){l:List b}{x:c}(h:l.mapM f=J [x]):∃a,f a=J x:=by
 cases l with
 |nil=>simp at h|cons a d=>grind [a03]
theorem aeQ{H:Type}{enc:TypeId×Value->H}{P:Program}{W:World}{b:Nat}{d:Nat->Bool}{c:Bool}(fuel:Nat)(t:TypeId)(l:Lit)(p:List MemPlace)(h:DataW.trod enc P W b d c fuel t []=J (.agg [.lit l],p)):False:=by
 cases fuel with
 |zero=>cases h
 |succ fuel=>
  unfold DataW.trod at h;split at h;all_goals first
   |(cases h;done)|(rename_i a;cases a;done)|(rename_i a _;cases a;done)
   | (split at h
      ·rw[ay4]at h;obtain⟨f,a,e⟩:=h;have e1:=congrArg (λx=>match x.1 with|DataW.agg l=>l|_=>[]) e;dsimp only at e1
       match f,e1 with
       |_::_::_,e1=>simp at e1|[y],e1=>obtain⟨i,g⟩:=aoA _ a;grind [aeR]
      ·cases h)
def aqc {H:Type} {enc:TypeId×Value->H} {P:Program} {W:World} {b:Nat} {f:Nat->Bool} {fuel:Nat} {u:TypeId} {cs:List Value} {d:DataW H} {p:List MemPlace} (h:DataW.trod enc P W b f eF fuel u cs=J (.ptr d,p)):
  ∃n e a c i,P.underlying u=J (.pointer e)/\cs=[.pointer (J a)]/\W.cells? b a (P.cellsOf e)=J c/\DataW.trod enc P W b f eF n e c=J (d,i):=by
 cases fuel with
 |zero=>cases h
 |succ fuel=>
  unfold DataW.trod at h;split at h
  case h_6 e a j=>rw[ay4]at h;obtain⟨x,g,e1⟩:=h;rw[a03]at g;grind
  all_goals first
   |(cases h;done)|(rw[ay4]at h;obtain⟨x,_,e⟩:=h;cases e;done)
   |(split at h<;>first
    |(cases h;done)|(rw[ay4]at h;obtain⟨x,_,e⟩:=h;cases e;done)|grind [a03,ay4]|grind [a03])
def auo{P:Program}{W:World}{t e:TypeId}{base:Nat}(a:P.underlying t=J (.pointer e)):∀cs,¬Value.okWide P W .any base t (.agg cs):=λcs h=>by simp[Value.okWide,a,Cell.okWide,Cell.ok]at h
def UO {P:Program} {W:World} {f:List (String×DataW Unit)} (h:laidMet P f W) {n name:String} {s:LU} {t:TypeId} {ms:Array (String×TypeId)} {g:Nat} (R:(n,.iface name (.ptr (.agg [.lit (.string s)])))∈f)
  (N:P.globalNamed n=J g) (h2:(P.globals[g]?).map (·.type)=J t) (h3:P.underlying t=J (.interface ms)):∃u,Tab W g [.eb u (.em [])]:=by
 obtain⟨X,O,_,Q⟩:=h;obtain⟨Y,t',cs,e,p,S,T,Z,d,V⟩:=ae8 O R;obtain rfl:=aE0 (N.symm.trans S);obtain rfl:=aE0 (h2.symm.trans T);have hv:∃H u v I,cs.toList=[.iface u v]/\DataW.trod (λ_=>()) P W 0 (λ_=>eT) eF H u v.cells.toList=J (.ptr (.agg [.lit (.string s)]),I):=by
  generalize cs.toList=l at d;cases e with
  |zero=>cases d
  |succ e=>
   unfold DataW.trod at d;rw[h3]at d
   match l,d with
   |[.nilIface],d=>cases d
   |[.iface u v],d=>
    dsimp only at d;cases A:P.typeName? 3 u with
    |none=>rw[A]at d;cases d|some nm=>rw[A]at d;dsimp only at d;rw[ay4]at d;grind
 obtain⟨H,u,v,I,w,hv⟩:=hv;have D:cs.size=1:=by have:=congrArg List.length w;simpa using this
 have M:MemPlace.cell g 0∈X:=V _ (by simp[MemPlace.row,D]);obtain⟨⟨c,K,G⟩,hok⟩:=Q g 0 M;have q:c=cs:=by grind [World.var?]
 subst q;have F:c[0]?=J (.iface u v):=by rw[<-Array.getElem?_toList,w];rfl
 have hok:=hok u v (by unfold World.cell?;rw[G];exact F);obtain⟨n2,e2,a,B,p2,q1,q2,q3,q4⟩:=aqc hv;have L:v=.pointer (J a):=by
  cases v with
  |agg l=>exact absurd hok (auo q1 l)|_=>exact(List.cons.inj q2).1
 subst L;have y:a.spot=U:=by
  cases hs:a.spot with
  |none=>rfl
  |some k=>
   exfalso;have C:W.cell? (a.add 0)=U:=by show W.cell? a=U;grind [World.cell?]
   have:B=[]:=by
    unfold World.cells? at q3;rw[if_pos (a99 _)]at q3;cases A:P.cellsOf e2 with
    |zero=>rw[A]at q3;simpa using q3.symm|succ m=>grind [List.range_succ_eq_map]
   grind [aeQ]
 obtain⟨b,o,sp⟩:=a;dsimp only at y;subst y;exact⟨u,c,K,G,λi x E=>by
  cases i with
  |zero=>simp only[aF5,a05]at E;subst E;exact⟨_,F,λγ=>.eb _ _ _ (.em _ _ _ (.de _ _))⟩|succ i=>simp at E⟩
def EVA:type_of%@look_nil/\type_of%@Pi/\type_of%@UM/\type_of%@Ph/\type_of%@SS/\type_of%@OA/\type_of%@U8/\type_of%@U7/\type_of%@PI/\type_of%@agJ/\type_of%@aaF/\type_of%@agK/\type_of%@acV/\type_of%@aaE/\type_of%@PG/\type_of%@Ve/\type_of%@Lp/\type_of%@PH/\type_of%@OY/\type_of%@Yt/\type_of%@Yu/\type_of%@Zu/\type_of%@Zv/\type_of%@Yr/\type_of%@YC/\type_of%@U1/\type_of%@agf/\type_of%@acN/\type_of%@U0/\type_of%@aqJ/\type_of%@aqH/\type_of%@aqI/\type_of%@Ia/\type_of%@Ff/\type_of%@DD/\type_of%@Tf/\type_of%@OG/\type_of%@Tu/\type_of%@Ti/\type_of%@Ze/\type_of%@TG/\type_of%@Gl/\type_of%@Tj/\type_of%@Tv/\type_of%@Tt/\type_of%@Tq/\type_of%@Tn/\type_of%@Tm/\type_of%@Tz/\type_of%@TA/\type_of%@TB/\type_of%@TD/\type_of%@TE/\type_of%@H8/\type_of%@Ea/\type_of%@Dk/\type_of%@D9/\type_of%@Eb/\type_of%@J9/\type_of%@OE/\type_of%@Kr/\type_of%@Kq/\type_of%@Ko/\type_of%@DN/\type_of%@H9/\type_of%@Bz/\type_of%@Bv/\type_of%@wC/\type_of%@Gm/\type_of%@aeT/\type_of%@aeS/\type_of%@Kt/\type_of%@O6/\type_of%@OM/\type_of%@Ut/\type_of%@OV/\type_of%@Uy/\type_of%@Kv/\type_of%@O9/\type_of%@OU/\type_of%@Ux/\type_of%@Ku/\type_of%@O7/\type_of%@Kw/\type_of%@Pe/\type_of%@OL/\type_of%@Us/\type_of%@TM/\type_of%@Iz/\type_of%@OW/\type_of%@Uz/\type_of%@OQ/\type_of%@Uw/\type_of%@OO/\type_of%@Uu/\type_of%@Fg/\type_of%@Iy/\type_of%@cells_func/\type_of%@O8/\type_of%@DR/\type_of%@Fq/\type_of%@Ie/\type_of%@KR/\type_of%@BC/\type_of%@DV/\type_of%@OJ/\type_of%@IW/\type_of%@IV/\type_of%@aB.eq_1/\type_of%@aB.eq_2/\type_of%@aB.eq_3/\type_of%@aB.eq_4/\type_of%@aB.eq_5/\type_of%@aB.eq_6/\type_of%@aB.eq_7/\type_of%@aB.eq_8/\type_of%@aB.eq_9/\type_of%@Ym/\type_of%@Zb/\type_of%@Zc/\type_of%@SX/\type_of%@VG/\type_of%@SV/\type_of%@SY/\type_of%@adA/\type_of%@aji/\type_of%@adD/\type_of%@adC/\type_of%@adB/\type_of%@OD/\type_of%@Yn/\type_of%@J8/\type_of%@MZ/\type_of%@D7/\type_of%@Za/\type_of%@aB.eq_10/\type_of%@aB.eq_11/\type_of%@ae4/\type_of%@aB.eq_13/\type_of%@aB.eq_14/\type_of%@aB.eq_15/\type_of%@aB.eq_16/\type_of%@aB.eq_18/\type_of%@aB.eq_19/\type_of%@aB.eq_20/\type_of%@aB.eq_21/\type_of%@aB.eq_22/\type_of%@aB.eq_23/\type_of%@aB.eq_24/\type_of%@aB.eq_25/\type_of%@aB.eq_26/\type_of%@aB.eq_27/\type_of%@aB.eq_28/\type_of%@aB.eq_29/\type_of%@aB.eq_30/\type_of%@aB.eq_31/\type_of%@aB.eq_32/\type_of%@aB.eq_33/\type_of%@aB.eq_34/\type_of%@aB.eq_35/\type_of%@aB.eq_36/\type_of%@aB.eq_37/\type_of%@xJ/\type_of%@aB.eq_39/\type_of%@aB.eq_40/\type_of%@aB.eq_41/\type_of%@aB.eq_42/\type_of%@aB.eq_43/\type_of%@aB.eq_44/\type_of%@aB.eq_45/\type_of%@aB.eq_46/\type_of%@aB.eq_47/\type_of%@UG:=
 ⟨@look_nil,@Pi,@UM,@Ph,@SS,@OA,@U8,@U7,@PI,@agJ,@aaF,@agK,@acV,@aaE,@PG,@Ve,@Lp,@PH,@OY,@Yt,@Yu,@Zu,@Zv,@Yr,@YC,@U1,@agf,@acN,@U0,@aqJ,@aqH,@aqI,@Ia,@Ff,@DD,@Tf,@OG,@Tu,@Ti,@Ze,@TG,@Gl,@Tj,@Tv,@Tt,@Tq,@Tn,@Tm,@Tz,@TA,@TB,@TD,@TE,@H8,@Ea,@Dk,@D9,@Eb,@J9,@OE,@Kr,@Kq,@Ko,@DN,@H9,@Bz,@Bv,@wC,@Gm,@aeT,@aeS,@Kt,@O6,@OM,@Ut,@OV,@Uy,@Kv,@O9,@OU,@Ux,@Ku,@O7,@Kw,@Pe,@OL,@Us,@TM,@Iz,@OW,@Uz,@OQ,@Uw,@OO,@Uu,@Fg,@Iy,@cells_func,@O8,@DR,@Fq,@Ie,@KR,@BC,@DV,@OJ,@IW,@IV,@aB.eq_1,@aB.eq_2,@aB.eq_3,@aB.eq_4,@aB.eq_5,@aB.eq_6,@aB.eq_7,@aB.eq_8,@aB.eq_9,@Ym,@Zb,@Zc,@SX,@VG,@SV,@SY,@adA,@aji,@adD,@adC,@adB,@OD,@Yn,@J8,@MZ,@D7,@Za,@aB.eq_10,@aB.eq_11,@ae4,@aB.eq_13,@aB.eq_14,@aB.eq_15,@aB.eq_16,@aB.eq_18,@aB.eq_19,@aB.eq_20,@aB.eq_21,@aB.eq_22,@aB.eq_23,@aB.eq_24,@aB.eq_25,@aB.eq_26,@aB.eq_27,@aB.eq_28,@aB.eq_29,@aB.eq_30,@aB.eq_31,@aB.eq_32,@aB.eq_33,@aB.eq_34,@aB.eq_35,@aB.eq_36,@aB.eq_37,@xJ,@aB.eq_39,@aB.eq_40,@aB.eq_41,@aB.eq_42,@aB.eq_43,@aB.eq_44,@aB.eq_45,@aB.eq_46,@aB.eq_47,@UG⟩
variable{C:Ctx}{call:bH}{n:Nat}
abbrev RX:=Option (XE×As×St)
def apG(d:RX)(k:As->St->RX):RX:=match d with|J (.dp,e,O)=>k e O|d=>d
def Zf(id:Nat)(d:RX):RX:=match d with|J (.dq i,e,O)=>J (if i=id then .dp else .dq i,e,O)|d=>d
def aoW(d:Option (As×St)):RX:=match d with|J (e,O)=>J (.dp,e,O)|U=>U
noncomputable def abV(C:Ctx)(call:bH)(n:Nat)(v:AV)(a b:KC)(e:As)(O:St):RX:=match v with|.cX eT=>eX C call n a e O|.cX eF=>eX C call n b e O|_=>U
noncomputable def ogK(C:Ctx)(call:bH)(n:Nat)(b:Bool)(d:Option Nat)(i:XI)(l:List XOp)(e:As)(O:St):Option (As×St):=match b with|eT=>out call d e (aB C (avA C e) n O i) (dY C call n l)|eF=>dY C call n l (A8 e d .dT) O
def ag1(d:RX)(k:As->St->RX):RX:=match d with|J (.dp,e,O)=>k e O|d=>d
def an3(d:Option Nat)(e:As)(f:Option (AV×St))(k:As->St->Option (As×St)):Option (As×St):=match f with|J (v,O)=>k (A8 e d v) O|U=>U
def mD(n:Nat)(rs:List XR)(d:RX):Option (AV×St):=match d with|J (.dq _,_,_)=>U|U=>U|J (_,e,a)=>match aU e a rs with|U=>U|J vs=>match hand eF vs a with|U=>U|J (vs,b)=>J (bW vs,tidy n vs b)
def XP(e O k):apG (J (.dp,e,O)) k=k e O:=rfl
def acW(i e O k):apG (J (.dq i,e,O)) k=J (.dq i,e,O):=rfl
def agL(e O k):apG (J (.ef,e,O)) k=J (.ef,e,O):=rfl
def acX(k):apG U k=U:=rfl
def Qd(id e O):Zf id (J (.dp,e,O))=J (.dp,e,O):=rfl
def WQ(id i e O):Zf id (J (.dq i,e,O))=J (if i=id then .dp else .dq i,e,O):=rfl
def Zg(id e O):Zf id (J (.ef,e,O))=J (.ef,e,O):=rfl
def WS(id):Zf id U=U:=rfl
def UV(e O k):ag1 (J (.dp,e,O)) k=k e O:=rfl
def aa4(i e O k):ag1 (J (.dq i,e,O)) k=J (.dq i,e,O):=rfl
def acv(e O k):ag1 (J (.ef,e,O)) k=J (.ef,e,O):=rfl
def aa5(k):ag1 U k=U:=rfl
def acK(e O):aoW (J (e,O))=J (.dp,e,O):=rfl
def acJ:aoW U=U:=rfl
def Zm(a b e O):abV C call n (.cX eT) a b e O=eX C call n a e O:=rfl
def WW(a b e O):abV C call n (.cX eF) a b e O=eX C call n b e O:=rfl
def anc(c:Bool)(a b e O):abV C call n (.cX c) a b e O=if c=eT then eX C call n a e O else eX C call n b e O:=by cases c<;>rfl
def agb(d i l e O):ogK C call n eT (J d) i l e O=out call (J d) e (aB C (avA C e) n O i) (dY C call n l):=rfl
def acH(d i l e O):ogK C call n eF (J d) i l e O=dY C call n l ((d,.dT)::e) O:=rfl
def ah4(i l e O):ogK C call n eT U i l e O=out call U e (aB C (avA C e) n O i) (dY C call n l):=rfl
def ad5(i l e O):ogK C call n eF U i l e O=dY C call n l e O:=rfl
def TJ(b:Bool):vM b .dT=eF:=by cases b<;>rfl
def aqR(c:Bool)(a b e O):abV C call n (.cX c) a b e O=match c with|eT=>eX C call n a e O|eF=>eX C call n b e O:=by cases c<;>rfl
def aqS(c:Bool)(a b e O):abV C call n (.cX !c) a b e O=match c with|eT=>eX C call n b e O|eF=>eX C call n a e O:=by cases c<;>rfl
def awf(b d i l e O):ogK C call n b (J d) i l e O=match b with|eT=>out call (J d) e (aB C (avA C e) n O i) (dY C call n l)|eF=>dY C call n l ((d,.dT)::e) O:=by cases b<;>rfl
def awg(b d i l e O):ogK C call n (!b) (J d) i l e O=match b with|eT=>dY C call n l ((d,.dT)::e) O|eF=>out call (J d) e (aB C (avA C e) n O i) (dY C call n l):=by cases b<;>rfl
def atb(d t:Nat)(b:Bool)(i:XI)(l:List XOp)(e:As)(O:St):dY C call n (og d t b i::l) e O=ogK C call n (vM b (look e t)) (J d) i l e O:=by rw[Zu];unfold ogK;cases vM b (look e t)<;>rfl
def atc(t:Nat)(b:Bool)(i:XI)(l:List XOp)(e:As)(O:St):dY C call n (ug t b i::l) e O=ogK C call n (vM b (look e t)) U i l e O:=by rw[Zv];unfold ogK;cases vM b (look e t)<;>rfl
def Zj(d e v O k):an3 (J d) e (J (v,O)) k=k ((d,v)::e) O:=rfl
def WU(e v O k):an3 U e (J (v,O)) k=k e O:=rfl
def acM(d:Option Nat)(e:As)(f:FuncId)(args:LA)(O:St)(k):out call d e (J (.fh f args O)) k=an3 d e (call f args O) k:=rfl
def xx(n rs e O):mD n rs (J (.ef,e,O))=match aU e O rs with|U=>U|J vs=>match hand eF vs O with|U=>U|J (vs,a)=>J (bW vs,tidy n vs a):=rfl
def WY(n rs e O):mD n rs (J (.dp,e,O))=match aU e O rs with|U=>U|J vs=>match hand eF vs O with|U=>U|J (vs,a)=>J (bW vs,tidy n vs a):=rfl
def abZ(n rs):mD n rs U=U:=rfl
def apN(l:List XOp)(e:As)(O:St):eX C call n (.fe l) e O=aoW (dY C call n l e O):=rfl
def agS(l:List XOp)(e:As)(O:St):eX C call n (.eO l) e O=aoW (dY C call n l e O):=rfl
def agR(l:List XOp)(e:As)(O:St):eX C call n (.eL l) e O=aoW (xA C call n l e O):=rfl
def apO(a b:KC)(e:As)(O:St):eX C call n (.eK a b) e O=apG (eX C call n a e O) (eX C call n b):=rfl
def aky(c:XA)(a b:KC)(e:As)(O:St):eX C call n (.eJ c a b) e O=abV C call n (avA C e c) a b e O:=rfl
def agQ(id:Nat)(b:KC)(e:As)(O:St):eX C call n (.eE id b) e O=Zf id (eX C call n b e O):=rfl
def aA{k:List Nat}{b:KC}{e:As}(he:keepA k e=e)(O:St):aH C call n k b e O=ag1 (eX C call n b e O) λa O'=>aH C call n k b (keepA k a) O':=kF C call n he O
def Has.go{f:FuncId}{K:KF}(h:Has C f K){args args':LA}{O:St}(b:hand eF args O=J (args',O))(a:Nat.ble (z args') K.L=eT:=by rfl):ai C f args O=mD (z O) K.Y (eX C (ai C) K.L K.aE (lQ 0 args') O):=by have a:=Nat.not_lt.mpr (az7 a);rw[h.cm];unfold Ey;rw[b];dsimp only;rw[if_neg a];rfl
def kZ:∀x y:LU,mF x y=decide (x=y)
 |[],[]=>by simp[mF]
 |[],_::_=>by simp[mF]
 |_::_,[]=>by simp[mF]
 |a::x,b::y=>by rw[mF,kZ x y];by_cases h:a=b<;>simp[h]
def ahB(x y:LU):sV .eql x y=J (.cX (decide (x=y))):=by rw[<-kZ];rfl
def mX(x y:LU):sV .neq x y=J (.cX !(decide (x=y))):=by rw[<-kZ];rfl
def amZ(x y:LU):sV .lss x y=J (.cX (Op.bytesLess x y)):=rfl
def amY(x y:LU):sV .leq x y=J (.cX (Op.bytesLess x y||decide (x=y))):=by rw[<-kZ];rfl
def amX(x y:LU):sV .gtr x y=J (.cX !(Op.bytesLess x y||decide (x=y))):=by rw[<-kZ];rfl
def amW(x y:LU):sV .geq x y=J (.cX !(Op.bytesLess x y)):=rfl
def atL{x y:LU}(h:z x+z y<=9223372036854775807):sV .add x y=J (.cV (x++y)):=by unfold sV;dsimp only;rw[if_neg (by omega)]
def arS(A:As)(O:St)(v:AV)(d:Option (As×St×List (As×AV)×List St)):Option (As×St×List (As×AV)×List St):=match d with|J (b,a,rs,c)=>J (b,a,(A,v)::rs,O::c)|U=>U
def aaM(d:Option Nat)(A:As)(O:St)(x:Option (AV×St))(k:As->St->Option (As×St×List (As×AV)×List St)):=match x with|J (v,a)=>arS A O v (k (A8 A d v) a)|U=>U
def opR(call:bH)(x:Option Out):Option (AV×St):=match x with|J (.ew v a)=>J (v,a)|J (.fh f args a)=>call f args a|U=>U
def api(A:As)(O:St):qM C call n [] A O=J (A,O,[],[O]):=rfl
def awu(d:Nat)(i:XI)(l:List XOp)(A:As)(O:St):qM C call n (o d i::l) A O=aaM (J d) A O (opR call (aB C (avA C A) n O i)) (qM C call n l):=rfl
def awv(i:XI)(l:List XOp)(A:As)(O:St):qM C call n (u i::l) A O=aaM U A O (opR call (aB C (avA C A) n O i)) (qM C call n l):=rfl
def awt(d s:Nat)(l:List XOp)(A:As)(O:St):qM C call n (m d s::l) A O=aaM (J d) A O (J (look A s,O)) (qM C call n l):=rfl
def aww(d:Option Nat)(i:XI)(c:List Nat)(l:List XOp)(A:As)(O:St):qM C call n (⟨d,i,U,c⟩::l) A O=aaM d A O (opR call (aB C (avA C A) n O i)) (qM C call n l):=rfl
def aaN(d A O v O' k):aaM (J d) A O (J (v,O')) k=arS A O v (k ((d,v)::A) O'):=rfl
def XU(A O v O' k):aaM U A O (J (v,O')) k=arS A O v (k A O'):=rfl
def akd(v O):opR call (J (.ew v O))=J (v,O):=rfl
def agc(f args O):opR call (J (.fh f args O))=call f args O:=rfl
def acT(A O v A' O' rs ss):arS A O v (J (A',O',rs,ss))=J (A',O',(A,v)::rs,O::ss):=rfl
def asz(C:Ctx)(n:Nat)(l:List XOp)(d:Option (As×St×List (As×AV)×List St)):Option (As×St):=match d with|J (a,b,rs,c)=>if gG C n c l rs then J (a,b)else U|U=>U
def ani(l:List XOp)(A:As)(O:St):xA C call n l A O=asz C n l (qM C call n l A O):=rfl
def ajz(l:List XOp)(A' O' rs ss):asz C n l (J (A',O',rs,ss))=if gG C n ss l rs then J (A',O')else U:=rfl
def apf(ss:List St)(l):gG C n ss [] l=eT:=rfl
def awp(d:Nat)(i:XI)(l:List XOp)(ss:List St)(A:As)(v:AV)(rs):gG C n ss (o d i::l) ((A,v)::rs)=gG C n ss l rs:=by show((!lH (o d i) A||oC C n (o d i) A v ss [])&&_)=_;rw[oC,aE4,aA6]
def awq(i:XI)(l:List XOp)(ss:List St)(A:As)(v:AV)(rs):gG C n ss (u i::l) ((A,v)::rs)=gG C n ss l rs:=by show((!lH (u i) A||oC C n (u i) A v ss [])&&_)=_;rw[oC,aE4,aA6]
def awo(d s:Nat)(l:List XOp)(ss:List St)(A:As)(v:AV)(rs):gG C n ss (m d s::l) ((A,v)::rs)=gG C n ss l rs:=by show((!lH (m d s) A||oC C n (m d s) A v ss [])&&_)=_;rw[oC,aE4,aA6]
def reR(C:Ctx)(n:Nat)(A:As)(i:XI)(v:AV)(s a:Option St):Bool:=match s,a with|J s,J a=>(match aB C (avA C A) n s i,aB C (avA C A) n a i with|J (.ew v1 _),J (.ew v2 _)=>same v1 v&&same v2 v|_,_=>eF)|_,_=>eF
def reO(v:AV)(x y:Option Out):Bool:=match x,y with|J (.ew v1 _),J (.ew v2 _)=>same v1 v&&same v2 v|_,_=>eF
def agr(A:As)(i:XI)(v:AV)(s a:St):reR C n A i v (J s) (J a)=reO v (aB C (avA C A) n s i) (aB C (avA C A) n a i):=rfl
def akj(v v1 v2:AV)(s1 s2:St):reO v (J (.ew v1 s1)) (J (.ew v2 s2))=(same v1 v&&same v2 v):=rfl
def awr(d:Option Nat)(i:XI)(c:List Nat)(l:List XOp)(ss:List St)(A:As)(v:AV)(rs):gG C n ss (⟨d,i,U,c⟩::l) ((A,v)::rs)=((c.all λc=>reR C n A i v ss[c]? ss[c+1]?)&&gG C n ss l rs):=by
 show((!lH ⟨d,i,U,c⟩ A||oC C n ⟨d,i,U,c⟩ A v ss c)&&_)=_;have:∀a:List Nat,oC C n ⟨d,i,U,c⟩ A v ss a=a.all λc=>reR C n A i v ss[c]? ss[c+1]?:=by
  intro a
  induction a with
  |nil=>rfl|cons x a b=>rw[oC,b,a07];rfl
 rw[this];rfl
def Oc(k:IntKind)(a:Int):same (.cU k a) (.cU k a)=eT:=by cases k<;>simp[same]<;>rfl
def Oe(s:LU):same (.cV s) (.cV s)=eT:=by simp[same,kZ]
def Pz(b:Bool):same (.cX b) (.cX b)=eT:=by simp[same]
def aF(O L:St):(O++L)[z O]?=L[0]?:=by grind
def aN(O L:St)(k:Nat):(O++L)[z O+k]?=L[k]?:=by grind
def dm(O L:St)(x:AO):(O++L).set (z O) x=O++L.set 0 x:=by grind
def fF(O L:St)(k:Nat)(x:AO):(O++L).set (z O+k) x=O++L.set k x:=by grind
def st_len(O L:St):z (O++L)=z O+z L:=a04
def aq2(O L M:St):O++L++M=O++(L++M):=ay2 _ _ _
theorem bi(O:St)(vs:LA):tidy (z O) vs O=O:=DD O vs
def bz{O:St}(a:Ok O){vs:LA}(hv:ae 0 vs=eT)(l:St):tidy (z O) vs (O++l)=O:=Cj a (aK (a99 _) _ hv) l
def Vj{O:St}(a:Ok O){L:St}(b:L.all (AO.below (z O+z L))=eT):Ok (O++L):=a.eG b
def ak8(O d)(b:Bool):bI O d (.cX b)=J (.cX b,[]):=rfl
def VY(O d)(k:IntKind)(i:Int):bI O d (.cU k i)=J (.cU k i,[]):=rfl
def aae(O d)(s:LU):bI O d (.cV s)=J (.cV s,[]):=rfl
def asU(O d)(i:Nat)(l:LA):bI O d (.sl i l)=J (.sl i l,[]):=rfl
structure NV(v:AV):Prop where
 nf:∀O r,bI O r v=some (v,[])
 cl:below 0 v=true
def NVs(l:LA):Prop:=∀v∈l,NV v
def NVs.de:NVs []:=λv h=>nomatch h
def NVs.cW{v l}(h:NV v)(k:NVs l):NVs (v::l):=λx a=>by
 rcases az4.mp a with rfl|a;·exact h
 ·exact k x a
def NVs.eG{a b}(h:NVs a)(k:NVs b):NVs (a++b):=λx c=>by
 rcases aD3.mp c with c|c;·exact h x c
 ·exact k x c
def NVs.nf:∀{l:LA},NVs l->∀O d,aZ O d l=J (l,[])|[],_,_,_=>rfl|v::l,h,O,d=>by show(match bI O d v,aZ O d l with|J (v,fs),J (l,a)=>J (v::l,fs++a)|_,_=>U)=_;rw[(h v (by simp)).nf,NVs.nf (λx b=>h x (by simp[b]))];rfl
def NVs.cl:∀{l:LA},NVs l->ae 0 l=eT|[],_=>rfl|v::l,h=>by rw[ae,(h v (by simp)).cl,NVs.cl (λx a=>h x (by simp[a]))];rfl
def NV.cX(b:Bool):NV (.cX b):=⟨λ_ _=>rfl,rfl⟩
def NV.cU(k:IntKind)(i:Int):NV (.cU k i):=⟨λ_ _=>rfl,rfl⟩
def NV.cV(s:LU):NV (.cV s):=⟨λ_ _=>rfl,rfl⟩
def NV.sl(i:Nat){l:LA}(h:ae 0 l=eT):NV (.sl i l):=⟨λ_ _=>rfl,by rw[below];exact h⟩
def NV.da{l:LA}(h:NVs l):NV (.da l):=⟨λO d=>by
 show(match aZ O d l with|J (l,fs)=>J (AV.da l,fs)|U=>U)=_;rw[h.nf],by rw[below];exact h.cl⟩
def NV.df{l:LA}(h:NVs l):NV (.df l):=⟨λO d=>by
 show(match aZ O d l with|J (l,fs)=>J (AV.df l,fs)|U=>U)=_;rw[h.nf],by rw[below];exact h.cl⟩
def NVs.e{l:LA}(h:NVs l)(O:St):hand eF l O=J (l,O):=by show(match dS O 12 l with|J (l,fs)=>J (l,freeze O fs)|U=>U)=_;rw[show dS O 12 l=aZ O (dS O 11) l from rfl,h.nf];rfl
def akz(a x:AV)(l v:LA):splice (a::l) 0 (x::v)=x::splice l 0 v:=by simp[splice]
def aq0(l:LA):splice l 0 []=l:=by simp[splice]
def aje(O:St)(sz bytes:Nat)(a)(i:Nat)(l cs:LA):tX O sz bytes a (.sl i l) 0 cs=J (.sl i l,O):=rfl
def af9(O:St)(sz bytes:Nat)(a)(cs:LA):tX O sz bytes a .cY 0 cs=J (.cY,O):=rfl
def J7(O:St){sz bytes:Nat}(a){m:Nat}(cs:LA)(c:¬m=0)(b:m*bytes<=70368744177664)(h2:m<=70368744177664):tX O sz bytes a .cY m cs=J (.dj (z O) 0 m sz,O++[.cH cs ⟨eF,a⟩]):=by unfold tX;grind
def Y9(O:St){sz bytes:Nat}(a){n m:Nat}{l:LA}(cs:LA)(d:¬m=0)(c:z l=n*sz)(b:(n+m)*bytes<=70368744177664)(h2:n+m<=70368744177664):tX O sz bytes a (.eC n l) m cs=J (.dj (z O) 0 (n+m) sz,O++[.cH (l++cs) ⟨eF,a⟩]):=by unfold tX;grind
def VD(C:Ctx)(f:FuncId)(sz:Nat):Prop:=∀(n:Nat) (l:LA) (O:St),z l=n*sz->n<=1099511627776->l.all Wl=eT->ai C f [.sl n l] O=J (.sl n l,O)
end Go.Ev
namespace Go.Ev
open Bool renaming false→eF, true→eT
open List renaming length→z
open Option renaming none→U, some→J
open Go.IntKind renaming i64→r
def EVB:type_of%@look_nil/\type_of%@Pi/\type_of%@UM/\type_of%@Ph/\type_of%@SS/\type_of%@OA/\type_of%@U8/\type_of%@U7/\type_of%@PI/\type_of%@PG/\type_of%@Ve/\type_of%@Lp/\type_of%@PH/\type_of%@OY/\type_of%@Yt/\type_of%@Yu/\type_of%@Yr/\type_of%@YC/\type_of%@U1/\type_of%@U0/\type_of%@aqJ/\type_of%@aqH/\type_of%@aqI/\type_of%@Ia/\type_of%@Ff/\type_of%@Tf/\type_of%@OG/\type_of%@Tu/\type_of%@Ti/\type_of%@Ze/\type_of%@TG/\type_of%@Gl/\type_of%@Tj/\type_of%@Tv/\type_of%@Tt/\type_of%@Tq/\type_of%@Tn/\type_of%@Tm/\type_of%@Tz/\type_of%@TA/\type_of%@TB/\type_of%@TD/\type_of%@TE/\type_of%@H8/\type_of%@Ea/\type_of%@Dk/\type_of%@D9/\type_of%@Eb/\type_of%@J9/\type_of%@OE/\type_of%@Kr/\type_of%@Kq/\type_of%@Ko/\type_of%@DN/\type_of%@H9/\type_of%@Bz/\type_of%@Bv/\type_of%@wC/\type_of%@Gm/\type_of%@aeT/\type_of%@aeS/\type_of%@Kt/\type_of%@O6/\type_of%@OM/\type_of%@Ut/\type_of%@OV/\type_of%@Uy/\type_of%@Kv/\type_of%@O9/\type_of%@OU/\type_of%@Ux/\type_of%@Ku/\type_of%@O7/\type_of%@Kw/\type_of%@Pe/\type_of%@OL/\type_of%@Us/\type_of%@TM/\type_of%@Iz/\type_of%@OW/\type_of%@Uz/\type_of%@OQ/\type_of%@Uw/\type_of%@OO/\type_of%@Uu/\type_of%@Fg/\type_of%@Iy/\type_of%@cells_func/\type_of%@O8/\type_of%@DR/\type_of%@Fq/\type_of%@Ie/\type_of%@KR/\type_of%@BC/\type_of%@DV/\type_of%@OJ/\type_of%@IW/\type_of%@IV/\type_of%@aB.eq_1/\type_of%@aB.eq_2/\type_of%@aB.eq_3/\type_of%@aB.eq_4/\type_of%@aB.eq_5/\type_of%@aB.eq_6/\type_of%@aB.eq_7/\type_of%@aB.eq_8/\type_of%@aB.eq_9/\type_of%@Ym/\type_of%@Zb/\type_of%@Zc/\type_of%@SX/\type_of%@VG/\type_of%@SV/\type_of%@SY/\type_of%@adA/\type_of%@aji/\type_of%@adD/\type_of%@adC/\type_of%@adB/\type_of%@OD/\type_of%@Yn/\type_of%@J8/\type_of%@MZ/\type_of%@D7/\type_of%@Za/\type_of%@aB.eq_10/\type_of%@aB.eq_11/\type_of%@ae4/\type_of%@aB.eq_13/\type_of%@aB.eq_14/\type_of%@aB.eq_15/\type_of%@aB.eq_16/\type_of%@aB.eq_18/\type_of%@aB.eq_19/\type_of%@aB.eq_20/\type_of%@aB.eq_21/\type_of%@aB.eq_22/\type_of%@aB.eq_23/\type_of%@aB.eq_24/\type_of%@aB.eq_25/\type_of%@aB.eq_26/\type_of%@aB.eq_27/\type_of%@aB.eq_28/\type_of%@aB.eq_29/\type_of%@aB.eq_30/\type_of%@aB.eq_31/\type_of%@aB.eq_32/\type_of%@aB.eq_33/\type_of%@aB.eq_34/\type_of%@aB.eq_35/\type_of%@aB.eq_36/\type_of%@aB.eq_37/\type_of%@xJ/\type_of%@aB.eq_39/\type_of%@aB.eq_40/\type_of%@aB.eq_41/\type_of%@aB.eq_42/\type_of%@aB.eq_43/\type_of%@aB.eq_44/\type_of%@aB.eq_45/\type_of%@aB.eq_46/\type_of%@aB.eq_47/\type_of%@UG/\type_of%@XP/\type_of%@acW/\type_of%@agL/\type_of%@acX/\type_of%@Qd/\type_of%@WQ/\type_of%@Zg/\type_of%@WS/\type_of%@UV/\type_of%@aa4/\type_of%@acv/\type_of%@aa5/\type_of%@acK/\type_of%@acJ/\type_of%@Zm/\type_of%@WW/\type_of%@agb/\type_of%@acH/\type_of%@ah4/\type_of%@ad5/\type_of%@atb/\type_of%@atc/\type_of%@Zj/\type_of%@WU/\type_of%@acM/\type_of%@xx/\type_of%@WY/\type_of%@abZ/\type_of%@apN/\type_of%@agS/\type_of%@agR/\type_of%@apO/\type_of%@aky/\type_of%@agQ/\type_of%@ahB/\type_of%@mX/\type_of%@amZ/\type_of%@amY/\type_of%@amX/\type_of%@amW/\type_of%@ak8/\type_of%@VY/\type_of%@aae/\type_of%@asU/\type_of%@TJ/\type_of%@akz/\type_of%@aq0/\type_of%@aje/\type_of%@af9/\type_of%@api/\type_of%@awu/\type_of%@awv/\type_of%@awt/\type_of%@aww/\type_of%@aaN/\type_of%@XU/\type_of%@akd/\type_of%@agc/\type_of%@acT/\type_of%@ani/\type_of%@ajz/\type_of%@apf/\type_of%@awp/\type_of%@awq/\type_of%@awo/\type_of%@awr/\type_of%@agr/\type_of%@akj/\type_of%@Oc/\type_of%@Oe/\type_of%@Pz/\type_of%@aF/\type_of%@aN/\type_of%@dm/\type_of%@fF/\type_of%@st_len/\type_of%@aq2/\type_of%@bi:=
 ⟨@look_nil,@Pi,@UM,@Ph,@SS,@OA,@U8,@U7,@PI,@PG,@Ve,@Lp,@PH,@OY,@Yt,@Yu,@Yr,@YC,@U1,@U0,@aqJ,@aqH,@aqI,@Ia,@Ff,@Tf,@OG,@Tu,@Ti,@Ze,@TG,@Gl,@Tj,@Tv,@Tt,@Tq,@Tn,@Tm,@Tz,@TA,@TB,@TD,@TE,@H8,@Ea,@Dk,@D9,@Eb,@J9,@OE,@Kr,@Kq,@Ko,@DN,@H9,@Bz,@Bv,@wC,@Gm,@aeT,@aeS,@Kt,@O6,@OM,@Ut,@OV,@Uy,@Kv,@O9,@OU,@Ux,@Ku,@O7,@Kw,@Pe,@OL,@Us,@TM,@Iz,@OW,@Uz,@OQ,@Uw,@OO,@Uu,@Fg,@Iy,@cells_func,@O8,@DR,@Fq,@Ie,@KR,@BC,@DV,@OJ,@IW,@IV,@aB.eq_1,@aB.eq_2,@aB.eq_3,@aB.eq_4,@aB.eq_5,@aB.eq_6,@aB.eq_7,@aB.eq_8,@aB.eq_9,@Ym,@Zb,@Zc,@SX,@VG,@SV,@SY,@adA,@aji,@adD,@adC,@adB,@OD,@Yn,@J8,@MZ,@D7,@Za,@aB.eq_10,@aB.eq_11,@ae4,@aB.eq_13,@aB.eq_14,@aB.eq_15,@aB.eq_16,@aB.eq_18,@aB.eq_19,@aB.eq_20,@aB.eq_21,@aB.eq_22,@aB.eq_23,@aB.eq_24,@aB.eq_25,@aB.eq_26,@aB.eq_27,@aB.eq_28,@aB.eq_29,@aB.eq_30,@aB.eq_31,@aB.eq_32,@aB.eq_33,@aB.eq_34,@aB.eq_35,@aB.eq_36,@aB.eq_37,@xJ,@aB.eq_39,@aB.eq_40,@aB.eq_41,@aB.eq_42,@aB.eq_43,@aB.eq_44,@aB.eq_45,@aB.eq_46,@aB.eq_47,@UG,@XP,@acW,@agL,@acX,@Qd,@WQ,@Zg,@WS,@UV,@aa4,@acv,@aa5,@acK,@acJ,@Zm,@WW,@agb,@acH,@ah4,@ad5,@atb,@atc,@Zj,@WU,@acM,@xx,@WY,@abZ,@apN,@agS,@agR,@apO,@aky,@agQ,@ahB,@mX,@amZ,@amY,@amX,@amW,@ak8,@VY,@aae,@asU,@TJ,@akz,@aq0,@aje,@af9,@api,@awu,@awv,@awt,@aww,@aaN,@XU,@akd,@agc,@acT,@ani,@ajz,@apf,@awp,@awq,@awo,@awr,@agr,@akj,@Oc,@Oe,@Pz,@aF,@aN,@dm,@fF,@st_len,@aq2,@bi⟩
set_option maxRecDepth 100000
variable{C:Ctx}
def jH(f:FuncId)(x y args:LA)(O:St):Ic C (.ea (.func f) x y) args O=J (.fh f (x++args++y) O):=rfl
def aut(O d)(a b:Nat):bI O d (.c8 a b)=J (.c8 a b,[]):=rfl
def aro(O d)(f:Fn)(x y:LA):bI O d (.ea f x y)=match aZ O d x,aZ O d y with|J (x,fs),J (y,a)=>J (.ea f x y,fs++a)|_,_=>U:=rfl
def aoP(O d)(n:Nat)(l:LA):bI O d (.eC n l)=match aZ O d l with|J (l,fs)=>J (.sl n l,fs)|U=>U:=rfl
def qY(O d):aZ O d []=J ([],[]):=rfl
def aO(O d)(v:AV)(l:LA):aZ O d (v::l)=match bI O d v,aZ O d l with|J (v,fs),J (l,a)=>J (v::l,fs++a)|_,_=>U:=rfl
def lF(l:LA)(O:St):hand eF l O=match aZ O (dS O 11) l with|J (l,fs)=>J (l,freeze O fs)|U=>U:=rfl
def bG(O d)(l:LA):bI O d (.da l)=match aZ O d l with|J (l,fs)=>J (.da l,fs)|U=>U:=rfl
def dO(O d):bI O d .cY=J (.sl 0 [],[]):=rfl
def drop_at{l:LA}{i:Nat}{v:AV}(h:l[i]?=J v):∃d,l.drop i=v::d:=by have hi:=(a00.mp h).1;refine⟨l.drop (i+1),?_⟩;rw[ay6 hi];grind
def bZ{a:Type}{f:a->LA}{k:Nat}(h:∀x,z (f x)=k):∀l:List a,z (l.flatMap f)=z l*k
 |[]=>by simp
 |x::l=>by simp[h,bZ h l,aF9,aI3]
theorem ac9{a:Type}{f:a->LA}{k:Nat}(h:∀x,z (f x)=k):∀(l:List a) (i:Nat),(l.flatMap f).drop (i*k)=(l.drop i).flatMap f
 |l,0=>by simp
 |[],i+1=>by simp
 |x::l,i+1=>by rw[aC7,aF8,<-ac9 h l i,aF9,Nat.one_mul,aI3];rw[<-h x,List.drop_append];simp
def gu{d:Type}{f:d->LA}(h:∀x,ae 0 (f x)=eT):∀l:List d,ae 0 (l.flatMap f)=eT
 |[]=>rfl
 |x::l=>by
  rw[aC7];have:=gu h l;revert this;have e:=h x;revert e;generalize f x=a;generalize l.flatMap f=b;intro c hb
  induction a with
  |nil=>exact hb|cons v a g=>rw[ae,a01]at c;rw[a09,ae,c.1,g c.2];rfl
def alb{a:Type}{f:a->LA}(h:∀x,(f x).all Wl=eT)(l:List a):(l.flatMap f).all Wl=eT:=by grind
def kK{a:Type}{f:a->LA}{k:Nat}(h:∀x,z (f x)=k){l:List a}{i:Nat}{x:a}(b:l[i]?=J x):(l.flatMap f).drop (i*k)=f x++(l.drop (i+1)).flatMap f:=by have hi:i<z l:=(a00.mp b).1;grind [ay6,ac9]
def EVC:
 (∀{c:Type} (a:c),(a=a)=True)
 /\(∀{c:Type} {a:c} {azs bs:List c},a::azs++bs=a::(azs++bs))
 /\(∀{c:Type} (azs:List c),[]++azs=azs)
 /\(∀{c:Type} (azs:List c),azs++[]=azs)
 /\(∀{c:Type} {a:c} {azs:List c},z (a::azs)=z azs+1)
 /\(∀{c:Type},z ([]:List c)=0)
 /\(∀{c d:Type} {f:c->d} {a:c} {l:List c},List.map f (a::l)=f a::List.map f l)
 /\(∀{c d:Type} {f:c->d},List.map f []=[])
 /\(∀{c:Type} {_:Decidable True} (t e:c),(if True then t else e)=t)
 /\(∀{c:Type} {_:Decidable False} (t e:c),(if False then t else e)=e)
 /\(∀{c d:Type} (a:c) (f:c->d),Option.map f (J a)=J (f a))
 /\(∀{c d:Type} (f:c->d),Option.map f U=U)
 /\(!eT)=eF
 /\(!eF)=eT
 /\(eF=eT)=False
 /\(∀(h:Decidable True),decide True=eT)
 /\(∀(h:Decidable False),decide False=eF)
 /\(∀{p:Prop} [Decidable p],(decide p=eT)=p)
 /\(∀(b:Bool),((!b)=eT)=(b=eF))
 /\(∀{p:Prop} {x:Decidable p},decide p=eF↔¬p)
 /\(∀{c:Type} {a:c} {l:List c},(a::l)[0]?=J a)
 /\(∀{c:Type} {a:c} {i:Nat} {l:List c},(a::l)[i+1]?=l[i]?)
 /\(∀{c d:Type},(bind:Option c->(c->Option d)->Option d)=Option.bind)
 /\(∀{c d:Type} (a:c) (f:c->Option d),(J a).bind f=f a)
 /\(∀{c:Type},(pure:c->Option c)=J)
 /\(∀(p:Prop),(p/\p)=p)
 /\(∀(p:Prop),(True/\p)=p)
 /\(∀(p:Prop),(p/\True)=p)
 /\(∀{c:Type} {a:c} {l:List c} {f:c->Bool},(a::l).all f=(f a&&l.all f))
 /\(∀{c:Type} {f:c->Bool},[].all f=eT)
 /\(∀(b:Bool),(b&&b)=b)
 /\(∀(b:Bool),(b&&eT)=b)
 /\(∀(b:Bool),(eT&&b)=b)
 /\(∀{c:Type} {a:c} {azs:List c} {i:Nat},List.take (i+1) (a::azs)=a::List.take i azs)
 /\(∀{c:Type} {l:List c},List.take 0 l=[])
 /\(∀{c:Type} {i:Nat},List.take i ([]:List c)=[])
 /\(∀{c:Type} {a:c} {l:List c} {i:Nat},List.drop (i+1) (a::l)=List.drop i l)
 /\(∀{c:Type} {l:List c},List.drop 0 l=l)
 /\(∀{c:Type} {i:Nat},List.drop i ([]:List c)=[])
 /\(∀(n:Nat),0+n=n)
 /\(∀(n:Nat),n+0=n)
 /\(∀{c:Type} [BEq c] [LawfulBEq c] (a:c),(a !=a)=eF)
 /\(∀(b:Bool),(b||eF)=b)
 /\(∀(b:Bool),(eF||b)=b)
 /\(∀(n:Nat),n*1=n)
 /\(∀(n:Nat),1*n=n)
 /\(∀(n:Nat),n<=n)
 /\(∀{c:Type} [LT c] {x y:c},x>y↔y<x)
 /\(∀{c:Type} {a:c} {l:List c},(a::l).head? =J a)
 /\∀{n:Nat},@Nat.cast Int instNatCastInt (no_index (OfNat.ofNat n))=OfNat.ofNat n:=And.intro @eq_self.{1} (And.intro @List.cons_append.{0} (And.intro @List.nil_append.{0} (And.intro @List.append_nil.{0} (And.intro @List.length_cons.{0} (And.intro @List.length_nil.{0} (And.intro @List.map_cons.{0,0} (And.intro @List.map_nil.{0,0} (And.intro @if_true.{1} (And.intro @if_false.{1} (And.intro @Option.map_some.{0,0} (And.intro @Option.map_none.{0,0} (And.intro @Bool.not_true (And.intro @Bool.not_false (And.intro @Bool.false_eq_true (And.intro @decide_true (And.intro @decide_false (And.intro @decide_eq_true_eq (And.intro @Bool.not_eq_true' (And.intro @decide_eq_false_iff_not (And.intro @List.getElem?_cons_zero.{0} (And.intro @List.getElem?_cons_succ.{0} (And.intro @Option.bind_eq_bind.{0} (And.intro @Option.bind_some.{0,0} (And.intro @Option.pure_def.{0} (And.intro @and_self (And.intro @true_and (And.intro @and_true (And.intro @List.all_cons.{0} (And.intro @List.all_nil.{0} (And.intro @Bool.and_self (And.intro @Bool.and_true (And.intro @Bool.true_and (And.intro @List.take_succ_cons.{0} (And.intro @List.take_zero.{0} (And.intro @List.take_nil.{0} (And.intro @List.drop_succ_cons.{0} (And.intro @List.drop_zero.{0} (And.intro @List.drop_nil.{0} (And.intro @Nat.zero_add (And.intro @Nat.add_zero (And.intro @bne_self_eq_false.{0} (And.intro @Bool.or_false (And.intro @Bool.false_or (And.intro @Nat.mul_one (And.intro @Nat.one_mul (And.intro @Nat.le_refl (And.intro @gt_iff_lt.{0} (And.intro @List.head?_cons.{0} (@Int.cast_ofNat_Int)))))))))))))))))))))))))))))))))))))))))))))))))
def EVD:
 (∀(n:Nat),((n:Int)).toNat=n)
 /\Int.toNat 0=0
 /\(∀{b:Type} (a:b) (l:List b),a::l≠[])
 /\(∀{b:Type} [LE b] {x y:b},x>=y↔y<=x)
 /\(∀(a:Int),a<=a)
 /\(∀{b:Type} [BEq b] [ReflBEq b] (a:b),(a==a)=eT)
 /\(∀{b:Type} {x:b} {xs:List b} {i:Nat} {a:b},(x::xs).set (i+1) a=x::xs.set i a)
 /\(∀{b:Type} {x:b} {xs:List b} {a:b},(x::xs).set 0 a=a::xs)
 /\∀(n m:Nat),n<=m+n:=And.intro @Int.toNat_natCast (And.intro @Int.toNat_zero (And.intro @List.cons_ne_nil.{0} (And.intro @ge_iff_le.{0} (And.intro @Int.le_refl (And.intro @beq_self_eq_true.{0} (And.intro @List.set_cons_succ.{0} (And.intro @List.set_cons_zero.{0} (@Nat.le_add_left))))))))
def ckQ(l:List XOp)(c:KC):KC:=.eK (.fe l) c
def cqL(d n x:Nat):XOp:=o d (.ii eT n (.t x))
def cqF(d x:Nat):XOp:=o d (.ii eF 1 (.t x))
def cqA(d n x:Nat):XOp:=o d (.fW n (.t x))
def cqE(d x n:Nat):XOp:=o d (.hG (.t x) n)
def cqS(n x y:Nat):XOp:=u (.fI n (.t x) (.t y))
def cqB(d:Nat)(b:BinOp)(k:Nat)(c:Bool)(x y:Nat):XOp:=o d (.e9 b k c (.t x) (.t y))
def cqC(d:Nat)(b:BinOp)(k:Nat)(c:Bool)(x:Nat)(n:Int):XOp:=o d (.e9 b k c (.t x) (.c (.cU r n)))
def cqK(d f:Nat)(l:List Nat):XOp:=o d (.gM f (l.map .t))
def cqN(d k x:Nat):XOp:=o d (.dt k (.t x))
def cqI(d:Nat)(n:Int):XOp:=o d (.mv (.c (.cU r n)))
def cqT(d:Nat)(b:Bool):XOp:=o d (.mv (.c (.cX b)))
def cvI(n:Int):AV:=.cU r n
def cvU(n:Int):AV:=.cU .u8 n
def cvE:AV:=.cV []
def ccI(n:Int):XA:=.c (.cU r n)
def ccU(n:Int):XA:=.c (.cU .u8 n)
def ccS(l:LU):XA:=.c (.cV l)
def cqR:Nat->AV->LA->LA|0,_,l=>l|n+1,x,l=>x::cqR n x l
def EVQ:type_of%@cqR.eq_1/\type_of%@cqR.eq_2/\type_of%@ckQ.eq_1/\type_of%@cqL.eq_1/\type_of%@cqF.eq_1/\type_of%@cqA.eq_1/\type_of%@cqE.eq_1/\type_of%@cqS.eq_1/\type_of%@cqB.eq_1/\type_of%@cqC.eq_1/\type_of%@cqK.eq_1/\type_of%@cqN.eq_1/\type_of%@cqI.eq_1/\type_of%@cqT.eq_1/\type_of%@cvI.eq_1/\type_of%@cvU.eq_1/\type_of%@cvE.eq_1/\type_of%@ccI.eq_1/\type_of%@ccU.eq_1/\type_of%@ccS.eq_1:=⟨@cqR.eq_1,@cqR.eq_2,@ckQ.eq_1,@cqL.eq_1,@cqF.eq_1,@cqA.eq_1,@cqE.eq_1,@cqS.eq_1,@cqB.eq_1,@cqC.eq_1,@cqK.eq_1,@cqN.eq_1,@cqI.eq_1,@cqT.eq_1,@cvI.eq_1,@cvU.eq_1,@cvE.eq_1,@ccI.eq_1,@ccU.eq_1,@ccS.eq_1⟩
def EVU:type_of%@xy.eq_1/\type_of%@xy.eq_2/\type_of%@xy.eq_3/\type_of%@eqA.eq_1/\type_of%@eqA.eq_2/\type_of%@eqA.eq_3/\type_of%@eqA.eq_4/\type_of%@eqA.eq_5/\type_of%@dI.eq_1/\type_of%@dI.eq_2/\type_of%@dI.eq_3/\type_of%@dI.eq_4/\type_of%@dI.eq_5/\type_of%@dI.eq_6/\type_of%@dI.eq_7/\type_of%@dI.eq_8/\type_of%@dI.eq_9/\type_of%@dI.eq_10/\type_of%@dI.eq_11/\type_of%@dI.eq_12/\type_of%@dI.eq_13/\type_of%@dI.eq_14/\type_of%@dI.eq_15/\type_of%@dI.eq_16/\type_of%@dI.eq_17/\type_of%@dI.eq_18/\type_of%@dI.eq_19/\type_of%@dI.eq_20/\type_of%@dI.eq_21/\type_of%@dI.eq_22/\type_of%@dI.eq_23/\type_of%@dI.eq_24/\type_of%@dI.eq_25/\type_of%@dI.eq_26/\type_of%@bP.eq_1/\type_of%@bP.eq_2/\type_of%@bP.eq_3/\type_of%@bP.eq_4/\type_of%@bP.eq_5/\type_of%@bP.eq_6/\type_of%@bP.eq_7/\type_of%@bP.eq_8/\type_of%@bP.eq_9/\type_of%@bP.eq_10/\type_of%@bP.eq_11/\type_of%@qK.eq_1/\type_of%@qK.eq_2/\type_of%@iR.eq_1/\type_of%@iR.eq_2/\type_of%@pt.eq_1/\type_of%@bW.eq_1/\type_of%@bW.eq_2/\type_of%@hand.eq_1/\type_of%@dS.eq_1/\type_of%@dS.eq_2/\type_of%@aZ.eq_1/\type_of%@aZ.eq_2/\type_of%@bI.eq_1/\type_of%@bI.eq_2/\type_of%@bI.eq_3/\type_of%@bI.eq_4/\type_of%@bI.eq_5/\type_of%@bI.eq_6/\type_of%@bI.eq_7/\type_of%@bI.eq_8/\type_of%@bI.eq_9/\type_of%@freeze.eq_1/\type_of%@freeze.eq_2/\type_of%@jQ.eq_1/\type_of%@jQ.eq_2/\type_of%@iZ.eq_1/\type_of%@iZ.eq_2/\type_of%@iZ.eq_3/\type_of%@iZ.eq_4/\type_of%@iZ.eq_5/\type_of%@iZ.eq_6/\type_of%@isStr.eq_1/\type_of%@isStr.eq_2/\type_of%@CW.eq_1/\type_of%@CW.eq_2/\type_of%@rep.eq_1/\type_of%@rep.eq_2/\type_of%@Bq.eq_1/\type_of%@Bq.eq_2/\type_of%@BX.eq_1/\type_of%@BX.eq_2/\type_of%@BX.eq_3:=⟨@xy.eq_1,@xy.eq_2,@xy.eq_3,@eqA.eq_1,@eqA.eq_2,@eqA.eq_3,@eqA.eq_4,@eqA.eq_5,@dI.eq_1,@dI.eq_2,@dI.eq_3,@dI.eq_4,@dI.eq_5,@dI.eq_6,@dI.eq_7,@dI.eq_8,@dI.eq_9,@dI.eq_10,@dI.eq_11,@dI.eq_12,@dI.eq_13,@dI.eq_14,@dI.eq_15,@dI.eq_16,@dI.eq_17,@dI.eq_18,@dI.eq_19,@dI.eq_20,@dI.eq_21,@dI.eq_22,@dI.eq_23,@dI.eq_24,@dI.eq_25,@dI.eq_26,@bP.eq_1,@bP.eq_2,@bP.eq_3,@bP.eq_4,@bP.eq_5,@bP.eq_6,@bP.eq_7,@bP.eq_8,@bP.eq_9,@bP.eq_10,@bP.eq_11,@qK.eq_1,@qK.eq_2,@iR.eq_1,@iR.eq_2,@pt.eq_1,@bW.eq_1,@bW.eq_2,@hand.eq_1,@dS.eq_1,@dS.eq_2,@aZ.eq_1,@aZ.eq_2,@bI.eq_1,@bI.eq_2,@bI.eq_3,@bI.eq_4,@bI.eq_5,@bI.eq_6,@bI.eq_7,@bI.eq_8,@bI.eq_9,@freeze.eq_1,@freeze.eq_2,@jQ.eq_1,@jQ.eq_2,@iZ.eq_1,@iZ.eq_2,@iZ.eq_3,@iZ.eq_4,@iZ.eq_5,@iZ.eq_6,@isStr.eq_1,@isStr.eq_2,@CW.eq_1,@CW.eq_2,@rep.eq_1,@rep.eq_2,@Bq.eq_1,@Bq.eq_2,@BX.eq_1,@BX.eq_2,@BX.eq_3⟩
def EVY:type_of%@EVQ/\type_of%@EVC/\type_of%@EVA/\type_of%@EVU:=⟨@EVQ,@EVC,@EVA,@EVU⟩
def EVX:type_of%@EVQ/\type_of%@EVC/\type_of%@EVD/\type_of%@EVB/\type_of%@EVU:=⟨@EVQ,@EVC,@EVD,@EVB,@EVU⟩
open Go.RowKit
inductive Ans where
 |ef (v:AV)|fT (v:AV)
abbrev yY:=FuncId->LA->St->Option (Ans×St)
inductive TOp where
 |op (o:XOp)|ir (x:XA)|hU (d:Nat) (t:TypeId) (x:XA)
inductive TC where
 |eI|fe (l:List TOp)|eL (l:List XOp)|eK (a b:TC)|eJ (c:XA) (a b:TC)|ef|eD
inductive TX where
 |dp|ef|fT (v:AV)
structure TF where
 L:Nat
 Y:List XR
 aE:TC
def ae2(P:Program)(t:TypeId):Bool:=match P.underlying t with|J (.interface _)=>eF|J _=>eT|U=>eF
def avx(P:Program)(ops:Array Oper)(o:Oper):Option TOp:=
 match I8 ops o with
 |U=>U|J gd=>match o.op,o.dst,gd with|.panic x,_,U=>(cA x).map .ir|.typeAssert x _ t eT,J d,U=>if ae2 P t then(cA x).map (.hU d t)else U|_,_,_=>J (.op {aM:=o.dst,i:=(cI P o).getD .eD,aS:=gd})
def afe(P:Program)(ops:Array Oper):List Oper->Option (List TOp)|[]=>J []|o::l=>match avx P ops o,afe P ops l with|J a,J b=>J (a::b)|_,_=>U
def cT(P:Program):Code->TC
 |.skip=>.eI
 |.region _ ops d=>if d then(match adH P ops with
  |J l=>.eL l|U=>.eD)else(match afe P ops ops.toList with
  |J l=>.fe l|U=>.eD)
 |.seq a b=>.eK (cT P a) (cT P b)|.cond c a b=>match cA c with|J c=>.eJ c (cT P a) (cT P b)|U=>.eD
 |.ret=>.ef|_=>.eD
def cTF(P:Program)(f:FuncId):Option TF:=do
 let fn<-P.funcs[f]?
 let b<-fn.body
 pure {L:=fn.ntmps,Y:=<-cR P fn.results.toList,aE:=cT P b}
def Ad(C:Ctx)(ct:yY):List TOp->Env->St->Option (TX×Env×St)
 |[],e,O=>J (.dp,e,O)
 |.op o::l,e,O=>match pW o e with
  |eT=>match evI C e O o.i with
   |J (.ew v b)=>Ad C ct l (put e o.aM v) b|J (.fh f args b)=>match ct f args b with|J (.ef v,a)=>Ad C ct l (put e o.aM v) a|J (.fT v,a)=>J (.fT v,e,a)|U=>U
   |U=>U
  |eF=>Ad C ct l (put e o.aM .dT) O
 |.ir x::l,e,O=>match av C e x with|.eb t v=>J (.fT (.eb t v),e,O)|_=>U
 |.hU d t x::l,e,O=>match av C e x with
  |.eb c v=>match Nat.beq c t with|eT=>Ad C ct l (put e (J d) (.df [v,.cX eT])) O|eF=>U
  |_=>U
def evT(C:Ctx)(call:bH)(ct:yY):TC->Env->St->Option (TX×Env×St)
 |.eI,e,O=>J (.dp,e,O)|.fe l,e,O=>Ad C ct l e O|.eL l,e,O=>match uh C call l e O with|J (f,d)=>J (.dp,f,d)|U=>U
 |.eK a b,e,O=>match evT C call ct a e O with|J (.dp,f,d)=>evT C call ct b f d|h=>h
 |.eJ c a b,e,O=>match av C e c with|.cX eT=>evT C call ct a e O|.cX eF=>evT C call ct b e O|_=>U
 |.ef,e,O=>J (.ef,e,O)|.eD,_,_=>U
def afv(O0:St)(rs:List XR)(e:Env)(O:St):Option (AV×St):=match V9 e O rs with|U=>U|J vs=>match hand eF vs O with|U=>U|J (vs,a)=>J (bW vs,tidy (z O0) vs a)
def runT(C:Ctx)(call:bH)(ct:yY)(x:TF)(args:LA)(O:St):Option (Ans×St):=
 match hand eF args O with
 |U=>U|J (a,d)=>match Nat.ble (z a) x.L with|eF=>U|eT=>match evT C call ct x.aE (a++List.replicate (x.L-z a) .dT) d with|U=>U|J (.fT v,_,b)=>J (.fT v,tidy (z O) [v] b)|J (_,e,b)=>match afv O x.Y e b with|J (v,c)=>J (.ef v,c)|U=>U
def qf(C:Ctx)(call:bH)(T:FuncId->Option TF):Nat->yY
 |0,f,args,O=>match call f args O with|J (v,a)=>J (.ef v,a)|U=>U
 |n+1,f,args,O=>match T f with|J x=>runT C call (qf C call T n) x args O|U=>match call f args O with|J (v,a)=>J (.ef v,a)|U=>U
def MC(ct:yY):bH:=λf args O=>match ct f args O with|J (.ef v,a)=>J (v,a)|_=>U
def WG(P:Program)(f:FuncId)(args:List Value)(w:World)(R g:Value->World->Prop):Prop:=
 match(callFunc f ⟨args⟩).run P w with
 |.ok (.enter h c) d=>Calls P h c d λe b=>(∃v,e=.returned v/\R v b)\/∃v,e=.panicked [{v,recovered:=eF}]/\g v b|.ok (.value v) d=>R v d|_=>False
def JS(C:Ctx)(ct:yY):Prop:=
 ∀f args O a d,ct f args O=J (a,d)->∀g w b,VRs g args b->WR g w O->GL C g->
  WG C.P f b w (λe h=>∃v,a=.ef v/\∃c,Goes g O w c d h/\VR c v e) λe h=>∃v,a=.fT v/\∃c,Goes g O w c d h/\VR c v e
def afp{P:Program}{f:FuncId}{args:List Value}{w:World}{R b c:Value->World->Prop}(h:Does P f args w R)(hr:∀v a,R v a->b v a):WG P f args w b c:=by
 unfold Does at h;unfold WG;generalize(callFunc f ⟨args⟩).run P w=d at h⊢;cases d with
 |halt x a=>exact h
 |ok n a=>
  cases n<;>first|exact h.elim|skip
  ·exact hr _ _ h
  grind [Calls.mono]
def ang{P:Program}{f:FuncId}{args:List Value}{w:World}{R b c:Value->World->Prop}(h:WG P f args w R c)(hr:∀v a,R v a->b v a)(d:∀v a,c v a->False):Does P f args w b:=by
 unfold WG at h;unfold Does;generalize(callFunc f ⟨args⟩).run P w=i at h⊢;cases i with
 |halt x a=>exact h
 |ok n a=>
  cases n<;>first|exact h.elim|skip
  ·exact hr _ _ h
  grind [Calls.mono]
section
variable{call:bH}{ct:yY}
def agz(h:JS C ct):eY C (MC ct):=by
 intro f args O v m b g w a d j i;unfold MC at b;split at b;·rename_i v1 n c;simp only[a05,ay8]at b;obtain⟨rfl,rfl⟩:=b;exact ang (h f args O _ _ c g w a d j i) (λk l ⟨v2,e,x⟩=>by cases e;exact x) (λk l ⟨v2,e,x⟩=>by cases e)
 ·cases b
def PostT(g:Gh)(O:St)(w:World)(a:Act)(x:TX)(f:Env)(O':St):Exit->Act->World->Prop:=
 λex d h=>d.defers=a.defers/\∃c,AR c f d/\Goes g O w c O' h/\match x with|.dp=>ex=.normal|.ef=>ex=.ret|.fT v=>∃e,VR c v e/\ex=.panic [{v:=e,recovered:=eF}]
def PostT.N{g e:Gh}{O O1 O':St}{w i:World}{a a1:Act}{x:TX}{d:Env}(l:a1.defers=a.defers)(b:Goes g O w e O1 i){ex:Exit}{c:Act}{f:World}(h:PostT e O1 i a1 x d O' ex c f):PostT g O w a x d O' ex c f:=by obtain⟨k,j,h2,h3,h4⟩:=h;exact⟨k.trans l,j,h2,b.N h3,h4⟩
theorem aeP (D:JS C ct) {o:Oper} {g:Gh} {e:Env} {O:St} {w:World} {a:Act} (G:AR g e a) (F:WR g w O) (E:GL C g) {Q:Exit->Act->World->Prop} {next:Act->World->Prop}
  {out:Out} (j:evI C e O ((cI C.P o).getD .eD)=J out) (u:match out with|.ew v l=>∀k d c,Goes g O w c l d->VR c v k->next (a.put o.dst k) d|.fh f args y=>∃A l,ct f args y=J (A,l)/\match A with|.ef v=>∀k d c,Goes g O w c l d->VR c v k->next (a.put o.dst k) d|.fT v=>∀k d c,Goes g O w c l d->VR c v k->Q (.panic [{v:=k,recovered:=eF}]) a d):o.wp C.P a w next Q:=by
 cases B:cI C.P o with
 |none=>rw[B]at j;simp[evI,aB]at j
 |some H=>
  rw[B]at j;simp only[aD7]at j;have hs:=ac3 (C:=C) F E.2 (λx b hb=>G.dk E x b hb) o B j;cases out with
  |ew v0 y=>
   obtain⟨d,c,t,hr⟩:=hs;unfold Oper.wp;rcases hr with⟨k,p,h2⟩|⟨rfl,p⟩;·rw[p];exact u k d c t h2
   ·rw[p];exact u undef d c t (yI c)
  |fh f args y=>
   obtain⟨rfl,i,p,h2⟩:=hs;obtain⟨A,l,q,u⟩:=u;have s:=D f args y A l q g w i p F E;unfold Oper.wp;rw[h2];unfold WG at s;generalize(callFunc f ⟨i⟩).run C.P w=N at s;cases N with
   |halt h d=>exact s.elim
   |ok n d=>
    cases n<;>first|exact s.elim|skip
    ·obtain⟨v,rfl,c,h3,h4⟩:=s;exact u _ _ c h3 h4
    grind [Oper.upon,Calls.mono]
def aiG{P:Program}{t b:TypeId}(h:ae2 P t=eT)(v:Value)(w:World):(Instr.typeAssert (.iface t v) b t eT).run P w=.ok (.tuple #[v,.bool eT]) w:=by
 unfold ae2 at h;unfold Instr.typeAssert;cases a:P.underlying t with
 |none=>rw[a]at h;cases h|some d=>rw[a]at h;cases d<;>first|(cases h;done)|(simp[go_sem,underlying,a];done)|skip
def ab1 (L:JS C ct) (ops:Array Oper) {Q:Exit->Act->World->Prop}:∀(l:List Oper) (k:Nat) (xs:List TOp),ops.toList.drop k=l->afe C.P ops l=J xs->∀(e F:Env) (O O':St) (x:TX),Ad C ct xs e O=J (x,F,O')->
  ∀(g:Gh) (w:World) (a:Act),AR g e a->WR g w O->GL C g->(∀ex R P,PostT g O w a x F O' ex R P->Q ex R P)->wpOps C.P ops Q (List.range' k (z l)) a w
 |[],k,xs,hk,q,e,F,O,O',x,c,g,w,a,p,G,N,K=>by simp[afe]at q;subst q;simp[Ad]at c;obtain⟨rfl,rfl,rfl⟩:=c;simp only[a94,List.range'_zero,wpOps];exact K _ _ _ ⟨rfl,g,p,.ah G,rfl⟩
 |o::l,k,xs,hk,q,e,F,O,O',x,c,g,w,a,p,G,N,K=>by
  simp only[afe]at q;split at q
  ·rename_i xo I j h2;simp at q;subst q;have hok:ops[k]?=J o:=by have:=congrArg (λdu:List Oper=>du[0]?) hk;simpa using this
   have aa:ops.toList.drop (k+1)=l:=by rw[<-aG4,hk];rfl
   rw[a90,List.range'_succ];simp only[wpOps,hok];have s:∀v u T S H,Ad C ct I (put e o.dst v) H=J (x,F,O')->Goes g O w S H T->VR S v u->wpOps C.P ops Q (List.range' (k+1) (z l)) (a.put o.dst u) T:=λv u T S H ab h hv=>by refine ab1 L ops (Q:=Q) l (k+1) I aa h2 (put e o.dst v) F H O' x ab S T (a.put o.dst u) ((p.D h.le).b9 hv o.dst) h.wr (N.D h.le) λex R P hp=>K ex R P (hp.N ?_ h);cases o.dst<;>rfl
   unfold avx at j;cases B:I8 ops o with
   |none=>rw[B]at j;cases j
   |some gd=>
    rw[B]at j;simp only at j;have hy:=ab9 p ops o B;split at j
    ·
     rename_i y D;simp only[ay4]at j;obtain⟨b,hb,rfl⟩:=j;simp only[Ad]at c;rw[if_pos (by rw[hy])];refine .inl ?_;have hv:=p.dk N y b hb;split at c
     ·rename_i t v A;simp at c;obtain⟨rfl,rfl,rfl⟩:=c;rw[A]at hv;unfold Oper.wp;have:(execOp a.eval o).run C.P w=((Instr.panic (a.eval y)).run C.P w).andThen λv w=>.ok (.value v) w:=by simp only[execOp,D];rw[Sem.run_bind];rfl
      rw[this];generalize a.eval y=vy at hv;cases hv with
      |eb _ _ u E=>rw[run_panic_iface];exact K _ _ _ ⟨rfl,g,p,.ah G,_,.eb _ _ _ E,rfl⟩
     ·cases c
    ·
     rename_i y t0 t d D M;split at j
     ·rename_i Z;simp only[ay4]at j;obtain⟨b,hb,rfl⟩:=j;simp only[Ad]at c;rw[if_pos (by rw[hy])];refine .inl ?_;have hv:=p.dk N y b hb;split at c
      ·rename_i t' v A;split at c
       ·rename_i W;have:=ay0 W;subst this;rw[A]at hv;unfold Oper.wp;have:(execOp a.eval o).run C.P w=((Instr.typeAssert (a.eval y) t0 t' eT).run C.P w).andThen λv w=>.ok (.value v) w:=by simp only[execOp,D];rw[Sem.run_bind];rfl
        rw[this];generalize a.eval y=vy at hv;cases hv with
        |eb _ _ u E=>rw[aiG Z];rw[<-M]at c;exact s _ _ w g O c (.ah G) (.df _ _ (.cW _ _ _ _ E (.cW _ _ _ _ (.cX _) .de)))
       ·cases c
      ·cases c
     ·cases j
    ·simp only[a05]at j;subst j;simp only[Ad]at c;rename_i V _ _ _ _ _;have m:pW {aM:=o.dst,i:=(cI C.P o).getD .eD,aS:=V} e=Region.wanted o (yielded ops a.tmps):=(by grind [pW]);split at c
     ·rename_i n;rw[m]at n;rw[if_pos n];refine .inl ?_;split at c;·grind [aeP]
      ·rename_i f args H Y;split at c;·grind [aeP]
       ·rename_i v O2 X;simp at c;obtain⟨rfl,rfl,rfl⟩:=c;exact aeP L p G N Y ⟨_,_,X,λu P g' h hv=>K _ _ _ ⟨rfl,g',p.D h.le,h,u,hv,rfl⟩⟩
       ·cases c
      ·cases c
     ·rename_i n;rw[m]at n;rw[if_neg (by rw[n];simp)];exact s .dT undef w g O c (.ah G) (yI g)
  ·cases q
def Ho (i:eY C call) (f:Hw C call) (q:JS C ct):∀(c:Code) (e j:Env) (O O':St) (x:TX),evT C call ct (cT C.P c) e O=J (x,j,O')->∀(g:Gh) (w:World) (a:Act),AR g e a->WR g w O->GL C g->
  c.wp C.P (PostT g O w a x j O') a w
 |.skip,e,j,O,O',x,d,g,w,a,k,n,m=>by simp[cT,evT]at d;obtain⟨rfl,rfl,rfl⟩:=d;exact wp_skip ⟨rfl,g,k,.ah n,rfl⟩
 |.ret,e,j,O,O',x,d,g,w,a,k,n,m=>by simp[cT,evT]at d;obtain⟨rfl,rfl,rfl⟩:=d;exact wp_ret ⟨rfl,g,k,.ah n,rfl⟩
 |.region id ops B,e,j,O,O',x,d,g,w,a,k,n,m=>by
  simp only[cT]at d;cases B with
  |true=>
   simp only[if_true]at d;split at d
   ·rename_i l H;simp only[evT]at d;split at d;·rename_i e1 D s;simp at d;obtain⟨rfl,rfl,rfl⟩:=d;refine wp_mono (f.1 id ops l H e e1 O D s g w a k n m) λex a1 K ⟨t,s,u,p,o⟩=>⟨s,u,p,o,t⟩
    ·cases d
   ·simp[evT]at d
  |false=>
   simp only[aC3,if_false]at d;split at d;·rename_i l H;simp only[evT]at d;refine wp_region ?_;have:=ab1 q ops (Q:=PostT g O w a x j O') ops.toList 0 l rfl H e j O O' x d g w a k n m (λex P R h=>h);rw[List.range_eq_range'];simpa using this
   ·simp[evT]at d
 |.seq E F,e,j,O,O',x,d,g,w,a,k,n,m=>by
  simp only[cT,evT]at d;refine wp_seq ?_;split at d;·rename_i e1 D M;refine wp_mono (Ho i f q E e e1 O D .dp M g w a k n m) λex a1 K A=>?_;obtain⟨s,u,p,o,t⟩:=A;simp only at t;subst t;exact wp_mono (Ho i f q F e1 j D O' x d u K a1 p o.wr (m.D o.le)) λex a2 S A=>A.N s o
  ·rename_i I;refine wp_mono (Ho i f q E e j O O' x d g w a k n m) λex a1 K A=>?_;cases x with
   |dp=>exact(I _ _ d).elim|ef=>obtain⟨s,u,p,o,t⟩:=A;simp only at t;subst t;exact⟨s,u,p,o,rfl⟩
   |fT v=>obtain⟨s,u,p,o,N,hv,t⟩:=A;subst t;exact⟨s,u,p,o,N,hv,rfl⟩
 |.cond c E F,e,j,O,O',x,d,g,w,a,k,n,m=>by
  simp only[cT]at d;cases G:cA c with
  |none=>rw[G]at d;simp[evT]at d
  |some b=>
   rw[G]at d;simp only[evT]at d;have hv:=k.dk m c b G;split at d;·rename_i hb;rw[hb]at hv;generalize y:a.eval c=L at hv;cases hv;exact wp_cond_true y (Ho i f q E e j O O' x d g w a k n m)
   ·rename_i hb;rw[hb]at hv;generalize y:a.eval c=L at hv;cases hv;exact wp_cond_false y (Ho i f q F e j O O' x d g w a k n m)
   ·cases d
 |.label _,e,j,O,O',x,d,g,w,a,k,n,m=>by simp[cT,evT]at d
 |.exit _,e,j,O,O',x,d,g,w,a,k,n,m=>by simp[cT,evT]at d
 |.block _ _,e,j,O,O',x,d,g,w,a,k,n,m=>by simp[cT,evT]at d
 |.loop _,e,j,O,O',x,d,g,w,a,k,n,m=>by simp[cT,evT]at d
 |.scope _,e,j,O,O',x,d,g,w,a,k,n,m=>by simp[cT,evT]at d
 |.rangeFunc ..,e,j,O,O',x,d,g,w,a,k,n,m=>by simp[cT,evT]at d
 |.goto _,e,j,O,O',x,d,g,w,a,k,n,m=>by simp[cT,evT]at d
 |.refuse _,e,j,O,O',x,d,g,w,a,k,n,m=>by simp[cT,evT]at d
end
section
variable{call:bH}{ct:yY}
def QU {fn:Func} {c:List XR} (m:cR C.P fn.results.toList=J c) {i g:Gh} {p w:World} {O0 O:St} (s:WR i p O0) (b:Goes i O0 p g O w) {e:Env} {a:Act} (t:AR g e a) {v:AV} {O':St} (h:afv O0 c e O=J (v,O')):
  ∃v',(Go.results fn a.tmps).run C.P w=.ok v' w/\∃g',Goes i O0 p g' O' w/\VR g' v v':=by
 unfold afv at h;split at h;·cases h
 ·rename_i vs hres;split at h;·cases h
  ·rename_i o u j;simp at h;obtain⟨rfl,rfl⟩:=h;obtain⟨n,hr1,hr2⟩:=JK (C:=C) b.wr t _ c m vs hres;obtain⟨x,d,k⟩:=tJ b.wr _ j hr2;obtain⟨q,f,l⟩:=LD (b.N d) s k;exact⟨_,IP fn a.tmps w hr1,q,f,WB o n l⟩
def QQ(C:Ctx)(f:FuncId):Prop:=∃fn,C.P.funcs[f]?=J fn/\(fn.name== "runtime.NumGoroutine")=eF
def VL{f:FuncId}{fn:Func}(c:C.P.funcs[f]?=J fn)(a:(fn.name== "runtime.NumGoroutine")=eF){b:Code}(hb:fn.body=J b)(args':List Value)(w:World):(callFunc f ⟨args'⟩).run C.P w=.ok (.enter f ⟨args'⟩) w:=by
 have d:fn.name≠ "runtime.NumGoroutine":=by simpa using a
 simp[callFunc,c,d,hb]
def adz{g:Gh}{args:LA}{args':List Value}(hv:VRs g args args')(n:Nat)(a:List Deferred):AR g (args++List.replicate (n-z args) .dT) {tmps:=(⟨args'⟩:Array Value)++Array.replicate (n-(⟨args'⟩:Array Value).size) undef,defers:=a}:=by have b:=hv.cv (VRs.dQ (n-z args) (yI g));have:z args'=z args:=hv.I;simpa[AR,this]using b
def aiF (j:eY C call) (d:Hw C call) (D:JS C ct) {f:FuncId} {x:TF} (i:cTF C.P f=J x) (S:QQ C f) {args:LA} {O:St} {A:Ans} {O':St} (h:runT C call ct x args O=J (A,O')) {g:Gh} {w:World} {args':List Value} (Q:VRs g args args') (u:WR g w O) (R:GL C g):
  WG C.P f args' w (λv' I=>∃v,A=.ef v/\∃g',Goes g O w g' O' I/\VR g' v v') λv' I=>∃v,A=.fT v/\∃g',Goes g O w g' O' I/\VR g' v v':=by
 obtain⟨fn,m,n⟩:=S;simp only[cTF,ay3,a03,ay7,a05]at i;obtain⟨M,e,body,hb,t,s,rfl⟩:=i;rw[m]at e;cases e;unfold runT at h;split at h;·cases h
 ·rename_i b K F;split at h;·cases h
  ·obtain⟨N,a,H⟩:=tJ u _ F Q;unfold WG;rw[VL m n hb];simp only;cases l:evT C call ct (cT C.P body) (b++List.replicate (fn.ntmps-z b) .dT) K with
   |none=>simp only at h;rw[l]at h;cases h
   |some du=>
    obtain⟨tx,e2,y⟩:=du;simp only at h;rw[l]at h;refine calls_of_wp m hb ?_;refine wp_mono (Ho j d D body _ e2 K y tx l N w _ (adz H fn.ntmps []) a.wr (R.D a.le)) λex a2 W T=>?_;obtain⟨E,V,p,c,i⟩:=T;cases tx with
    |fT v=>
     simp at h;obtain⟨rfl,rfl⟩:=h;obtain⟨v',G,rfl⟩:=i;obtain⟨P,q,o⟩:=LD (a.N c) u (.cW _ _ _ _ G .de);cases o with
     |cW _ _ _ _ o _=>exact⟨E,.inr ⟨_,rfl,_,rfl,P,q,o⟩⟩
    |dp=>
     simp only at i h;subst i;cases k:afv O t e2 y with
     |none=>rw[k]at h;cases h|some du=>obtain⟨v,L⟩:=du;rw[k]at h;simp at h;obtain⟨rfl,rfl⟩:=h;obtain⟨v',B,g',h2,h3⟩:=QU s u (a.N c) p k;exact⟨E,_,B,.inl ⟨_,rfl,_,rfl,g',h2,h3⟩⟩
    |ef=>
     simp only at i h;subst i;cases k:afv O t e2 y with
     |none=>rw[k]at h;cases h|some du=>obtain⟨v,L⟩:=du;rw[k]at h;simp at h;obtain⟨rfl,rfl⟩:=h;obtain⟨v',B,g',h2,h3⟩:=QU s u (a.N c) p k;exact⟨E,_,B,.inl ⟨_,rfl,_,rfl,g',h2,h3⟩⟩
def atw(C:Ctx)(T:FuncId->Option TF):Prop:=∀f x,T f=J x->cTF C.P f=J x/\QQ C f
def WV(k:C.P.follows .mixedOrders=eT)(b:eY C call){T:FuncId->Option TF}(l:atw C T):∀n,JS C (qf C call T n)
 |0=>by
  intro f args O a m h g w c d i e;unfold qf at h;split at h;·rename_i v o j;simp at h;obtain⟨rfl,rfl⟩:=h;exact afp (b f args O _ _ j g w c d i e) λs t hr=>⟨_,rfl,hr⟩
  ·cases h
 |n+1=>by
  intro f args O a m h g w c d i e;unfold qf at h;split at h;·rename_i x q;obtain⟨p,h2⟩:=l f x q;exact aiF b ⟨Jr k b,Jw k b⟩ (WV k b l n) p h2 h d i e
  ·split at h;·rename_i v o j;simp at h;obtain⟨rfl,rfl⟩:=h;exact afp (b f args O _ _ j g w c d i e) λs t hr=>⟨_,rfl,hr⟩
   ·cases h
end
structure CFn where
 L:Nat
 Y:List XR
 cP:List XOp
 d:Nat
 g3:FuncId
 b8:List XA
 aE:TC
structure KFn where
 L:Nat
 r:Nat
 m:Nat
 aE:XC
def asy(a b:Oper):Option (Nat×FuncId×List XA):=
 match a.dst,a.op,a.guard with
 |J d,.makeFunc (.func g) ⟨[]⟩ cs,U=>match b.dst,b.op,b.guard with|U,.defer ⟨.value (.tmp c),⟨[]⟩,_⟩,U=>if c=d then(cAs cs.toList).map λl=>(d,g,l)else U|_,_,_=>U
 |_,_,_=>U
def cCF(P:Program)(f:FuncId):Option CFn:=
 match P.funcs[f]? with
 |J fn=>match fn.body with
  |J (.seq (.region _ a eF) (.seq (.region _ ⟨[b,e]⟩ eF) c))=>match abh P eF a 0 a.toList,asy b e,cR P fn.results.toList with|J l,J (d,g,cs),J rs=>if d<fn.ntmps then J ⟨fn.ntmps,rs,l,d,g,cs,cT P c⟩else U|_,_,_=>U
  |_=>U
 |U=>U
def at6(a b:Oper):Option (Nat×Nat):=
 match a.dst,a.op,a.guard with
 |J d,.call ⟨.builtin .recover,⟨[]⟩,_⟩,U=>match b.dst,b.op,b.guard with|J m,.assign (.tmp c),U=>if c=d then J (d,m)else U|_,_,_=>U
 |_,_,_=>U
def cKF(P:Program)(f:FuncId):Option KFn:=
 match P.funcs[f]? with
 |J fn=>match fn.body with
  |J (.seq (.region _ ⟨[a,b]⟩ eF) c)=>match at6 a b,fn.results with|J (d,m),⟨[]⟩=>if d<fn.ntmps then J ⟨fn.ntmps,d,m,cC P c⟩else U|_,_=>U
  |_=>U
 |U=>U
def thrown:TX->AV|.fT v=>v|_=>.ej
def Ar(C:Ctx)(call:bH)(ct:yY)(x:CFn)(k:KFn)(args:LA)(O:St):Option (AV×St):=
 match hand eF args O with
 |U=>U|J (a,c)=>match tV C call x.cP (a++List.replicate (x.L-z a) .dT) c with|U=>U|J (e0,b)=>match evT C call ct x.aE (e0.set x.d (.ea (.func x.g3) [] (x.b8.map (av C e0)))) b with|U=>U|J (tx,e2,d)=>match evC C (MC ct) 1 k.aE ((((x.b8.map (av C e0))++List.replicate (k.L-z x.b8) AV.dT).set k.r (thrown tx)).set k.m (thrown tx)) d with|J (.dq _,_,_)=>U|U=>U|J (_,_,e)=>afv O x.Y e2 e
section
variable{call:bH}{ct:yY}
def aeA{g:Gh}{e:Env}{a:Act}(b:AR g e a){v:AV}{v':Value}(hv:VR g v v')(d:Nat):AR g (e.set d v) (a.put (J d) v'):=b.b9 hv (J d)
def Md(g:Gh)(u:FrameMode)(d:AV)(b:Value)(c:FrameMode):Prop:=VR g d b/\settle c=.returning/\((u=.returning/\b=.nilIface/\c=.returning)\/(u=.panicking [{v:=b,recovered:=eF}]/\c=.panicking [{v:=b,recovered:=eT}]))
def al1 (s:eY C call) (m:Hw C call) {f:FuncId} {k:KFn} (j:cKF C.P f=J k) {g:Gh} {O:St} {w:World} (hw:WR g w O) (hg:GL C g) {E:LA} {h:List Value} (Q:VRs g E h) {u B:FrameMode} {x:AV} {X:Value} (W:Md g u x X B)
  {L:XE} {e3:Env} {O3:St} (F:evC C call 1 k.aE (((E++List.replicate (k.L-z E) AV.dT).set k.r x).set k.m x) O=J (L,e3,O3)) (T:∀id,L≠ .dq id):
  CallsD C.P f ⟨h⟩ u w λe u1 Y=>∃v,e=.returned v/\u1=B/\∃g',Goes g O w g' O3 Y:=by
 unfold cKF at j;split at j
 ·rename_i fn S;split at j
  ·rename_i id y A c hb;split at j
   ·rename_i r0 m0 b hres;have H:r0<fn.ntmps:=(by grind);rw[if_pos H]at j;simp only[a05]at j;subst j;simp only at F;refine callsD_of_wpS S hb λd cs p=>?_;unfold at6 at b;split at b
    ·rename_i rr aa h1 h2 h3;split at b
     ·rename_i mm i h4 h5 h6;split at b
      ·rename_i V;simp only[a05,ay8]at b;obtain⟨rfl,rfl⟩:=b;subst V;refine wpS_seq (wpS_region ?_);have w1:∀l,Region.wanted y l=eT:=λl=>by simp[Region.wanted,h3]
       have D:∀l,Region.wanted A l=eT:=λl=>by simp[Region.wanted,h6]
       have r1:∀a:Act,(execOp a.eval y).run C.P w=.ok .recover w:=λa=>by simp[execOp,h2,resolve,invoke,go_sem]
       have r2:∀a:Act,(execOp a.eval A).run C.P w=.ok (.value (a.eval (.tmp i))) w:=λa=>by simp[execOp,h5,go_sem]
       have N:=adz Q fn.ntmps [];have hs:∀K:Frame,K={d with mode:=B}->∀a1:Act,a1.defers=[]->AR g (((E++List.replicate (fn.ntmps-z E) AV.dT).set i x).set mm x) a1->c.wpS C.P (bodyPostS C.P fn d cs λe u1 Y=>∃v,e=.returned v/\u1=B/\∃g',Goes g O w g' O3 Y) a1 (K::cs) w:=by
        intro K P a1 R M;refine wpS_of_wp (wp_mono (mY s m 1 c _ e3 O O3 L F g w a1 M hw hg) λex a2 D ⟨hx,hd,g2,ab,G⟩=>?_);subst hx;have fin:a2.defers=[]/\∃u1,K::cs={d with mode:=u1}::cs/\∃v,(Go.results fn a2.tmps).run C.P D=.ok v D/\∃v1,Ending.returned v=.returned v1/\u1=B/\∃g',Goes g O w g' O3 D:=by refine⟨hd.trans R,B,by rw[P],_,IP fn a2.tmps D (vs:=[]) ?_,_,rfl,rfl,g2,G⟩;rw[hres];rfl
        cases L with
        |dp=>exact fin|ef=>exact fin|dq id=>exact(T id rfl).elim
       have e0:(⟨[y,A]⟩:Array Oper)[0]?=J y:=rfl;have e1:(⟨[y,A]⟩:Array Oper)[1]?=J A:=rfl;have sz:List.range (⟨[y,A]⟩:Array Oper).size=[0,1]:=rfl;rw[sz];simp only[wpOpsS,e0,e1,w1,D,if_true,r1,r2,Oper.upon];obtain⟨hr,Z,W⟩:=W;rw[h1,h4];have I:∀q:Value,((⟨(⟨h⟩:Array Value)++Array.replicate (fn.ntmps-(⟨h⟩:Array Value).size) undef,[]⟩:Act).put (J i) q).eval (.tmp i)=q:=λq=>by have:i<z h+(fn.ntmps-z h):=aC9 H (by omega);simp[Act.put,Act.eval,this]
       simp only[I];have n:=aeA (aeA N hr i) hr mm;rcases W with⟨rfl,rfl,rfl⟩|⟨rfl,rfl⟩;·have t:recoverD (d::cs)=U:=(by simp[recoverD,p]);rw[t];exact hs _ (by rw[<-p]) _ rfl n
       ·have t:recoverD (d::cs)=J (X,{d with mode:=.panicking [{v:=X,recovered:=eT}]}::cs):=(by simp[recoverD,p]);rw[t];exact hs _ rfl _ rfl n
      ·cases b
     ·cases b
    ·cases b
   ·cases j
  ·cases j
 ·cases j
def ac5:∀{l:List XOp} {e a:Env} {O O':St},tV C call l e O=J (a,O')->z a=z e
 |[],e,a,O,O',h=>by simp[tV]at h;rw[h.1]
 |o::l,e,a,O,O',h=>by
  unfold tV at h;split at h;·rw[ac5 h];unfold put;split<;>simp
  ·cases h
def ajq{g:Gh}{e:Env}{a:Act}(c:AR g e a)(d:GL C g):∀(l:List Operand) (xs:List XA),cAs l=J xs->VRs g (xs.map (av C e)) (l.map a.eval)
 |[],xs,h=>by simp[cAs]at h;subst h;exact .de
 |x::l,xs,h=>by
  simp only[cAs]at h;split at h;·rename_i b bs f h2;simp at h;subst h;exact .cW _ _ _ _ (c.dk d x b f) (ajq c d l bs h2)
  ·cases h
def aee(t:eY C call)(m:Hw C call)(R:JS C ct)(an:Hw C (MC ct)){f:FuncId}{x:CFn}{k:KFn}(A:cCF C.P f=J x)(hn:QQ C f)(hk:cKF C.P x.g3=J k)(ay:QQ C x.g3):POK C f (Ar C call ct x k):=by
 intro args O v O' h g w ab ha hw hg;obtain⟨aM,E,B⟩:=ay;have I:∃b,aM.body=J b:=by grind [cKF]
 obtain⟨kb,I⟩:=I;obtain⟨fn,G,K⟩:=hn;unfold cCF at A;rw[G]at A;simp only at A;split at A
 ·rename_i aL Z be M N c hb;split at A
  ·rename_i l0 d gf cs rs hl a az;have aw:d<fn.ntmps:=(by grind);rw[if_pos aw]at A;simp only[a05]at A;subst A;simp only at hk E;unfold asy at a;split at a
   ·rename_i dd s i h1 h2 h3;split at a
    ·rename_i q bd h4 h5 h6;split at a
     ·rename_i ak;subst ak;simp only[ay4,ay8]at a;obtain⟨xs,hxs,rfl,rfl,rfl⟩:=a;unfold Ar at h;split at h;·cases h
      ·rename_i j O1 au;split at h;·cases h
       ·rename_i e0 O0 T;split at h;·cases h
        ·rename_i tx e2 O2 V;obtain⟨g1,o,aD⟩:=tJ hw _ au ha;unfold Does;rw[VL G K hb];simp only;refine calls_of_wp_defers G hb (wp_seq ?_);have ad:evC C call 1 (cC C.P (.region aL Z eF)) (j++List.replicate (fn.ntmps-z j) .dT) O1=J (.dp,e0,O0):=by simp only[cC,aC3,if_false,hl,evC];grind
         refine wp_mono (mY t m 1 _ _ e0 O1 O0 .dp ad g1 w _ (adz aD fn.ntmps []) o.wr (hg.D o.le)) λex a1 w1 ⟨hx1,af,g2,F,y⟩=>?_;subst hx1;refine wp_seq (wp_region ?_);have ba:∀l,Region.wanted M l=eT:=λl=>by simp[Region.wanted,h3]
         have bb:∀l,Region.wanted N l=eT:=λl=>by simp[Region.wanted,h6]
         have q0:(⟨[M,N]⟩:Array Oper)[0]?=J M:=rfl;have q1:(⟨[M,N]⟩:Array Oper)[1]?=J N:=rfl;have sz:List.range (⟨[M,N]⟩:Array Oper).size=[0,1]:=rfl;have H:=(hg.D o.le).D y.le;have Q:=ajq F H _ _ hxs;have hmap:i.map a1.eval=⟨i.toList.map a1.eval⟩:=(by grind);have aq:VR g2 (.ea (.func s) [] (xs.map (av C e0))) (.func (.func s) ⟨[]⟩ ⟨i.toList.map a1.eval⟩):=VR.ea (.func s) [] (xs.map (av C e0)) [] (i.toList.map a1.eval) .de Q;have r1:(execOp a1.eval M).run C.P w1=.ok (.value (.func (.func s) ⟨[]⟩ ⟨i.toList.map a1.eval⟩)) w1:=by rw[<-hmap];simp only[execOp,h2];rw[show Array.map a1.eval ⟨[]⟩=⟨[]⟩from by simp,Sem.run_bind];rfl
         have al:q<a1.tmps.size:=by
          have:=VRs.I F;have h0:z e0=z j+(fn.ntmps-z j):=by rw[ac5 T];simp
          grind
         have r2:(execOp (a1.put (J q) (.func (.func s) ⟨[]⟩ ⟨i.toList.map a1.eval⟩)).eval N).run C.P w1=.ok (.defer {target:=.fn (.func s) ⟨i.toList.map a1.eval⟩,args:=⟨[]⟩}) w1:=(by simp[execOp,h5,resolve,Act.put,Act.eval,al,Deferred.ofValue]);rw[sz];simp only[wpOps,q0,q1,ba,bb,if_true,Oper.wp,r1,h1,r2,h4,Oper.upon];refine .inl (.inl ?_);have P:AR g2 (e0.set q (.ea (.func s) [] (xs.map (av C e0)))) ({a1.put (J q) (.func (.func s) ⟨[]⟩ ⟨i.toList.map a1.eval⟩)with defers:={target:=.fn (.func s) ⟨i.toList.map a1.eval⟩,args:=⟨[]⟩}::(a1.put (J q) (.func (.func s) ⟨[]⟩ ⟨i.toList.map a1.eval⟩)).defers}):=aeA F aq q;refine wp_mono (Ho t m R c _ e2 O0 O2 tx V g2 w1 _ P y.wr H) λex a4 w4 hp=>?_;obtain⟨ah,g4,ac,p,hx4⟩:=hp;have S:a4.defers=[{target:=.fn (.func s) ⟨i.toList.map a1.eval⟩,args:=⟨[]⟩}]:=by rw[ah];show _::a1.defers=_;rw[af]
         have fin:∀(u u':FrameMode) (du:AV) (r':Value),u≠ .run->Md g4 u du r' u'->du=(thrown tx)->Leaves C.P fn a4.tmps (λe aR=>∃v1,e=.returned v1/\∃g',Goes g O w g' O' aR/\VR g' v v1) a4.defers u w4:=by
          intro u u' du r' ax hu hr;rw[S];split at h;·cases h
          ·cases h
          ·rename_i xe e3 O3 X n;refine leaves_cons (f:=s) (args:=⟨i.toList.map a1.eval⟩) ax ?_ ?_;·have:=VL E B I (i.toList.map a1.eval) w4;grind [invoke]
           ·have Y:=hu.2.1;have W:z (xs.map (av C e0))=z xs:=(by simp);rw[<-hr]at n;simp only at n;rw[<-W]at n;refine(al1 (agz R) an hk p.wr (H.D p.le) (Q.D p.le) hu n (λid he=>by subst he;exact X _ rfl)).mono ?_;rintro e u1 w5 ⟨v5,rfl,rfl,g5,D⟩;simp only;rw[Y];obtain⟨v',k1,g',k2,k3⟩:=QU az hw (((o.N y).N p).N D) (ac.D D.le) h;exact⟨v',k1,v',rfl,g',k2,k3⟩
         cases tx with
         |dp=>simp only at hx4;subst hx4;exact fin .returning .returning .ej .nilIface (by simp) ⟨.ej,rfl,.inl ⟨rfl,rfl,rfl⟩⟩ rfl|ef=>simp only at hx4;subst hx4;exact fin .returning .returning .ej .nilIface (by simp) ⟨.ej,rfl,.inl ⟨rfl,rfl,rfl⟩⟩ rfl|fT vp=>obtain⟨aa,aE,rfl⟩:=hx4;exact fin _ (.panicking [{v:=aa,recovered:=eT}]) vp aa (by simp) ⟨aE,rfl,.inr ⟨rfl,rfl⟩⟩ rfl
     ·cases a
    ·cases a
   ·cases a
  ·cases A
 ·cases A
def acO(a:C.P.follows .mixedOrders=eT){T:FuncId->Option TF}(e:atw C T)(n:Nat){f:FuncId}{x:CFn}{k:KFn}(i:cCF C.P f=J x)(h:QQ C f)(g:cKF C.P x.g3=J k)(c:QQ C x.g3)(call:bH)(b:eY C call):POK C f (Ar C call (qf C call T n) x k):=by have d:=WV a b e n;have hr:=agz d;exact aee b ⟨Jr a b,Jw a b⟩ d ⟨Jr a hr,Jw a hr⟩ i h g c
end
def anI {g:Gh} {w q:World} {O:St} (h:WR g w O) {o:Nat} {l G:LA} {tg:Option (TypeId×Bool)} (hx0:O[o]?=J (.cH l ⟨eF,tg⟩)) (C:q.os=w.os) (n:q.tape=w.tape) (t:q.output=w.output) (D:w.heap.size<=q.heap.size)
  (m:∀k,k<w.heap.size->k≠g.ob o->q.heap[k]?=w.heap[k]?) (I:OR g q o (.cH G ⟨eF,tg⟩)):Goes g O w g (O.set o (.cH G ⟨eF,tg⟩)) q:=by
 obtain⟨c,e,fr,K,h2,h3,h4,h5,h6⟩:=h.bx o _ hx0;have B:∀i v,g.im (g.ob o) i≠J v:=λi v hv=>absurd (h6 i v hv).1 (by simp);refine⟨.ah g,⟨by simp[h.n],λb i v hv=>?_,λb i v hv=>?_,λk y u=>?_,λk F y H u x j s A=>?_⟩,C,n,t,D,λb hb E=>⟨λk y u j=>?_,m b hb (λe=>E o _ hx0 rfl e.symm),λ_=>rfl⟩⟩;·have hb:b≠g.ob o:=λhb=>B i v (hb▸hv);rw[yh (m b (h.ct hv) hb)];exact h.im b i v hv
 ·grind [WR]
 ·rcases pO u with⟨d,f⟩|⟨rfl,_,rfl⟩;·exact OR.D (h.bx k y f) (.ah g) (h.lt f) (λj=>m _ (h.db f j) λe=>d (h.inj k o y _ f hx0 j rfl e)) (λ_ _ _ hv=>hv)
  ·exact I
 ·rcases pO u with⟨d,f⟩|⟨d,_,rfl⟩
  ·rcases pO x with⟨a,p⟩|⟨a,_,rfl⟩;·exact h.inj k F y H f p j s A
   ·subst a;exact absurd (h.inj k F y _ f hx0 j rfl A) d
  ·rcases pO x with⟨a,p⟩|⟨a,_,rfl⟩;·subst d;exact absurd (h.inj F k H _ p hx0 s rfl A.symm) a
   ·rw[d,a]
 ·rcases pO u with⟨d,f⟩|⟨d,_,rfl⟩;·exact E k y f j
  ·subst d;exact E k _ hx0 rfl
end Go.Ev
