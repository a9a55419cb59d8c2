/- Code. No conditions. -/
import Derived.Test.YtaaomenfchndjaaGreatDoorCA
import Derived.Test.YtaaomenfchndjaaGreatDoorProg
set_option linter.unusedVariables false
set_option linter.unusedSimpArgs false
set_option linter.defProp false
set_option maxRecDepth 1000000
open Go renaming FuncId→n,TypeId→W,Program→g
open _root_ renaming rfl→w8,Nat→T,List→R,Int→F,beq_iff_eq→B,decide_eq_true_eq→w9,Option→P,Bool→I,absurd→j8,UInt8→j,decide_eq_false→X2,beq_eq_false_iff_ne→N,if_neg→K0
open Go.Ev renaming EVX→K,splice→k9,ckQ→a,opened→j0,tidy→Q,cqC→b,look→Z0,a02→Z1,Has→y,hand→L,avA→H,a01→Z2,Hab→Z3,cqS→e,ccS→f,a09→Z6,freeze→i,same→h,Val→p,methodOf→k,Cfg→q,Ctx→w
open Decidable renaming decide→D
open List renaming mem_cons_self→t,mem_singleton_self→j6,range→j7,getElem?_range→X1,takeWhile_cons→d,foldr_cons→s
open Go.Ev.JV renaming av→j9
open Int renaming toNat_one→v
open OfNat renaming ofNat→c
namespace Go.Ev
open Option renaming some→J, none→U
open Bool renaming false→eF, true→eT
open List renaming length→z
open Go.IntKind renaming i64→r
def Ms.mR{V:p}{t:Sh}{v:AV}(h:Ms V [t] [v]):M V t v:=by
 generalize a:[v]=w at h;cases h with
 |ef _ _ x b c h2 h3=>cases a;exact h2|jv _ j b hb=>have:=congrArg List.length a;rw[a03,j.dt]at this;simp at this;omega|jg _ _ _ j b hj hb=>have:=congrArg List.length a;rw[a03,j.dt]at this;simp at this;omega
section
variable{C:Ctx}{X:Cfg}{PK:PkI}{O0:Frm}{V:Vo}{A:Ab}{E:As}{Y:St}
structure Op(V:Vo)(A:Ab)(V':Vo)(A':Ab):Prop where
 le:V.toVal.le V'.toVal
 ah:V'.ah=V.ah
 ρ:V'.ρ=V.ρ
 wr:A'.wr=A.wr
 ls:A'.ls=A.ls
 aR:A'.aR=A.aR
 X:A'.X=A.X
def Op.ax:Op V A V A:=⟨.cx,w8,w8,w8,w8,w8,w8⟩
def Op.N{V' b:Vo}{A' a:Ab}(h:Op V A V' A')(k:Op V' A' b a):Op V A b a:=⟨h.le.N k.le,k.ah.trans h.ah,k.ρ.trans h.ρ,k.wr.trans h.wr,k.ls.trans h.ls,k.aR.trans h.aR,k.X.trans h.X⟩
def Op.ch{V':Vo}{A':Ab}(h:Op V A V' A'):Ch V A Y V' A' Y:=
 ⟨h.le,λk a=>by rw[h.wr];exact a,h.ls,h.aR,λk l a _=>⟨by rw[h.X];exact a,by rw[h.ah],λ_ _ _ _=>w8⟩⟩
def MS(h:G PK O0 V A E Y){l:R Sh}{v:LA}(b:Ms V.toVal l v):∃V':Vo,Op V A V' (j0 A l).2/\G PK O0 V' (j0 A l).2 E Y/\Ms V'.toVal (j0 A l).1 v:=by obtain⟨V',a,h2,h3,h4,h5⟩:=aeO h b;exact⟨V',⟨a,h2,h3,w8,w8,w8,w8⟩,h4,h5⟩
def aiE(h:G PK O0 V A E Y){s:Sh}{v:AV}(a:M V.toVal s v):∃V':Vo,Op V A V' (aiD A s).2/\G PK O0 V' (aiD A s).2 E Y/\M V'.toVal (aiD A s).1 v:=by
 have one:∀s:Sh,M V.toVal s v->∃V':Vo,Op V A V' (if s.ef then(match j0 A [s]with|([t],A)=>(t,A)|_=>(s,A))else(s,A)).2/\G PK O0 V' (if s.ef then(match j0 A [s]with|([t],A)=>(t,A)|_=>(s,A))else(s,A)).2 E Y/\M V'.toVal (if s.ef then(match j0 A [s]with|([t],A)=>(t,A)|_=>(s,A))else(s,A)).1 v:=by
  intro s a;cases d:s.ef with
  |false=>exact⟨V,.ax,h,a⟩
  |true=>
   simp only[if_true];obtain⟨V',b,h2,h3⟩:=MS h (Ms.ef s [] v [] d a .db);revert b h2 h3;generalize j0 A [s]=q;obtain⟨t,e⟩:=q;intro b h2 h3;rcases t with _|⟨t,_|⟨f,l⟩⟩;·exact⟨V,.ax,h,a⟩
   ·exact⟨V',b,h2,Ms.mR h3⟩
   ·exact⟨V,.ax,h,a⟩
 cases s with
 |cX l=>obtain⟨w,rfl,c⟩:=aw4 a;obtain⟨V',b,h2,h3⟩:=MS h c;exact⟨V',b,h2,.cX _ _ h3⟩
 |jv=>obtain⟨w,rfl,c⟩:=aAh a;obtain⟨V',b,h2,h3⟩:=MS h c;exact⟨V',b,h2,U9 h3⟩
 |_=>exact one _ a
def MR:∀{l:R Sh} {w:LA} {V:Vo} {A:Ab},G PK O0 V A E Y->Mt V.toVal l w->∃V':Vo,Op V A V' (MQ A l).2/\G PK O0 V' (MQ A l).2 E Y/\Mt V'.toVal (MQ A l).1 w|[],_,V,A,h,.db=>⟨V,.ax,h,.db⟩|s::l,_,V,A,h,.cV _ _ v b g h2=>by obtain⟨k,a,e,i⟩:=aiE h g;obtain⟨d,c,f,j⟩:=MR e (Mt.D a.le h2);exact⟨d,a.N c,f,.cV _ _ _ _ (i.D c.le) j⟩
def acp(h:G PK O0 V A E Y){s:Sh}{v:AV}(a:M V.toVal s v):∃V':Vo,Op V A V' (MP A s).2/\G PK O0 V' (MP A s).2 E Y/\M V'.toVal (MP A s).1 v:=by
 cases s with
 |de l=>obtain⟨w,rfl,c⟩:=aqG a;obtain⟨V',b,h2,h3⟩:=MR h c;exact⟨V',b,h2,.de _ _ h3⟩
 |_=>exact aiE h a
theorem aom{O:St}{d:LA->P (LA×R T)}{v:AV}{o f:T}{fs:R T}(h:cu O d v=J (.da o f,fs)):v=.da o f:=by
 cases v<;>simp only[cu]at h<;>(first|(cases h;done)|skip);all_goals (repeat' split at h)<;>cases h
 all_goals rfl
def aid{O O1:St}{azs b:LA}{o f:T}(h:L eF azs O=J (.da o f::b,O1)):∃bs,azs=.da o f::bs:=by
 have h:(match eX O 12 azs with|J (l,fs)=>J (l,i O fs)|U=>U)=J (.da o f::b,O1):=h;rw[show eX O 12 azs=bI O (eX O 11) azs from w8]at h;cases azs with
 |nil=>cases h|cons a bs=>grind [bI,aom]
def G.mE (h:G PK O0 V A E Y) {L:St} {o:T} {ms:R T} (hok:Ok (Y++L)) (hr:∀i∈o::ms,Y.length<=i/\i<(Y++L).length) (D:PK.ok (Y++L) o ms):
  ∃V':Vo,Ch V A Y V' (A.cv .pk) (Y++L)/\G PK O0 V' (A.cv .pk) E (Y++L)/\M V'.toVal (.pk A.X.length) (.da o 0):=by
 have g:V.toVal.le (⟨⟨V.ν,V.ρ++[J o]⟩,V.ah++[o::ms]⟩:Vo).toVal:=⟨λi a e=>e,λi a e=>by
  grind⟩
 have p:(V.ρ++[J o])[A.X.length]?=J (J o):=by rw[<-h.lρ];simp
 have n:(V.ah++[o::ms])[A.X.length]?=J (o::ms):=by rw[<-h.lo];simp
 have m:∀(k:T) a,(V.ah++[o::ms])[k]?=J a->V.ah[k]?=J a\/k=A.X.length/\a=o::ms:=λk a e=>by grind [G]
 have d:∀(i:T),i<Y.length->(Y++L)[i]?=Y[i]?:=λi hi=>aC1 hi;have y:Y.length<=(Y++L).length:=by simp
 refine⟨⟨⟨V.ν,V.ρ++[J o]⟩,V.ah++[o::ms]⟩,⟨g,λ_ c=>c,w8,w8,λk l c _=>?_⟩,⟨λt s F=>(h.aR t s F).D g,h.lν,by simp[h.lρ,Ab.cv],by simp[h.lo,Ab.cv],h.ab,λf hf=>(h.aa f hf).D g,λk z c=>?_,λk B a b j e hb i hi u=>?_,λk a e i hi=>?_,λk q c=>?_,?_,hok⟩,.pk _ _ p⟩
 ·have w:k<A.X.length:=(a00.mp c).1;refine⟨?_,?_,λ_ q _ x=>d q (h.dg k _ x q (by simp)).2⟩;·show(A.X++[.pk])[k]?=_;grind
  grind
 ·have c:(A.X++[.pk])[k]?=J z:=c;rw[aF4]at c;split at c;·rename_i w;refine HM.D (V:=V) (Y:=Y) g ?_ (λa e i hi=>d i (h.dg k a e i hi).2) (λi hi _=>d i (aG2 hi h.dt)) (h.X k z c);grind
  ·rename_i C;have:=(a00.mp c).1;simp at this;have v:k=A.X.length:=(by omega);subst v;simp at c;subst c;exact⟨o,ms,p,n,D⟩
 ·rcases m k a e with e|⟨rfl,rfl⟩<;>rcases m B b hb with hb|⟨rfl,rfl⟩;·exact h.ez k B a b j e hb i hi u
  ·grind [G]
  ·grind [G]
  ·exact j w8
 ·grind [G]
 ·have c:(V.ρ++[J o])[k]?=J (J q):=c;rw[aF4]at c;grind [G,Val.le]
 grind [G]
def G.mH (h:G PK O0 V A E Y) {k o:T} {ms:R T} {b:St} (q:A.X[k]?=J .pk) (t:V.ρ[k]?=J (J o)) (p:V.ah[k]?=J (o::ms)) (hok:Ok b) (n:b.length=Y.length) (hr:∀i,i∉o::ms->b[i]?=Y[i]?) (v:PK.ok b o ms):
  Ch V A Y V {A with wr:=k::A.wr} b/\G PK O0 V {A with wr:=k::A.wr} E b:=by
 have f:∀i∈o::ms,i<O0.I->i∉O0.w->False:=λi hi w h2=>by grind [G]
 refine⟨⟨.cx,λj hj=>by simp[hj],w8,w8,λj x hj s=>⟨hj,w8,λl m y u=>hr m λd=>?_⟩⟩,⟨h.aR,h.lν,h.lρ,h.lo,h.ab,h.aa,λj z hj=>?_,h.ez,λj a e i hi=>by rw[n];exact h.dg j a e i hi,λj m hj=>by rw[n];exact h.ρl j m hj,?_,hok⟩⟩;·grind [G]
 ·by_cases c:k=j;·subst c;rw[q]at hj;cases hj;exact⟨o,ms,t,p,v⟩
  ·refine HM.D (V:=V) (Y:=Y) .cx w8 (λa e i hi=>hr i λd=>h.ez k j _ _ c p e i d hi) (λi hi g=>hr i λd=>f i d hi g) (h.X j z hj)
 grind [G]
def Xx{F:Frm}:∀{m:R I} {H:R HO} {k0:T} {V:Vo} {A:Ab},G PK F V A E Y->(∀(j:T) h,H[j]?=J h->HM PK V F Y (k0+j) h)->∃V':Vo,Op V A V' (lF A m H).2/\G PK F V' (lF A m H).2 E Y/\(lF A m H).1.length=z H/\∀(j:T) h,(lF A m H).1[j]?=J h->HM PK V' F Y (k0+j) h
 |m,[],k0,V,A,g,_=>by have f:lF A m []=([],A):=(by cases m<;>simp[lF]);rw[f];exact⟨V,.ax,g,w8,λj h hj=>by simp at hj⟩
 |[],x::H,k0,V,A,g,i=>by have f:lF A [] (x::H)=(x::H,A):=(by simp[lF]);rw[f];exact⟨V,.ax,g,w8,i⟩
 |b::m,x::H,k0,V,A,g,i=>by
  have p:=i 0 x w8;have c:∀(j:T) h,H[j]?=J h->HM PK V F Y (k0+1+j) h:=λj h hj=>by have:=i (j+1) h (by simpa using hj);grind
  have keep:lF A (b::m) (x::H)=(x::(lF A m H).1,(lF A m H).2)->∃V':Vo,Op V A V' (lF A (b::m) (x::H)).2/\G PK F V' (lF A (b::m) (x::H)).2 E Y/\(lF A (b::m) (x::H)).1.length=z (x::H)/\∀(j:T) h,(lF A (b::m) (x::H)).1[j]?=J h->HM PK V' F Y (k0+j) h:=λf=>by
   obtain⟨V',d,n,l1,q⟩:=Xx (m:=m) (k0:=k0+1) g c;rw[f];refine⟨V',d,n,by simp[l1],λj h hj=>?_⟩;cases j with
   |zero=>simp at hj;subst hj;exact HM.D (V:=V) (Y:=Y) d.le (by rw[d.ah]) (λ_ _ _ _=>w8) (λ_ _ _=>w8) p|succ j=>grind
  cases b with
  |false=>exact keep (by simp[lF])
  |true=>
   cases x with
   |cP l=>
    obtain⟨o,cs,q1,q2,q3,q4⟩:=p;obtain⟨u,d,n,q⟩:=MS g q4;obtain⟨s,k,t,l2,w⟩:=Xx (m:=m) (k0:=k0+1) n (λj h hj=>HM.D (V:=V) (Y:=Y) d.le (by rw[d.ah]) (λ_ _ _ _=>w8) (λ_ _ _=>w8) (c j h hj));refine⟨s,d.N k,t,by simp[lF,l2],λj h hj=>?_⟩;cases j with
    |zero=>simp only[lF,aJ1,a07]at hj;subst hj;exact⟨o,cs,k.le.ρ _ _ (d.le.ρ _ _ q1),by rw[k.ah,d.ah];exact q2,q3,q.D k.le⟩|succ j=>grind [lF]
   |ro l=>exact keep w8|hY a e=>exact keep w8|fX a e=>exact keep w8|dz v=>exact keep w8|pk=>exact keep w8|em=>exact keep w8
def Va:∀{m:R I} {H:R HO} {A:Ab} {k:T},m[k]?≠J eT->(lF A m H).1[k]?=H[k]?
 |m,[],A,k,_=>by cases m<;>simp[lF]
 |[],x::H,A,k,_=>by simp[lF]
 |b::m,x::H,A,0,h=>by
  cases b with
  |true=>simp at h|false=>simp[lF]
 |b::m,x::H,A,k+1,h=>by
  cases b with
  |false=>simp only[lF,aF1];exact Va h|true=>cases x<;>(simp only[lF,aF1];exact Va h)
def G.hT{F:Frm}(h:G PK F V A E Y){H:R HO}(a:z H=z A.X)(b:∀(k:T) x,H[k]?=J x->HM PK V F Y k x):G PK F V {A with X:=H} E Y:=
 ⟨h.aR,h.lν,by rw[a];exact h.lρ,by rw[a];exact h.lo,h.ab,h.aa,b,h.ez,h.dg,h.ρl,h.b3,h.ok⟩
theorem Qx:∀(H l:R HO),z (FB H l)=z l|[],l=>w8|h::H,[]=>w8|h::H,x::l=>by simp[FB,Qx H l]
def agE:∀{H l:R HO} {k:T} {z:HO},(FB H l)[k]?=J z->(∃h,H[k]?=J h/\oh h=eF/\z=h)\/(l[k]?=J z/\∀h,H[k]?=J h->oh h=eT)
 |[],l,k,z,a=>.inr ⟨a,λh b=>by simp at b⟩|h::H,[],k,z,a=>by simp[FB]at a
 |h::H,x::l,0,z,a=>by simp only[FB,aJ1,a07]at a;grind
 |h::H,x::l,k+1,z,a=>by simp only[FB,aF1]at a;have:=agE a;simpa using this
def agj:∀{H:R HO} {j k:T} {h:HO},H[k]?=J h->oh h=eF->j+k∈ixs j H
 |[],_,_,_,a,_=>by simp at a
 |c::H,j,0,h,a,b=>by grind [ixs]
 |c::H,j,k+1,h,a,b=>by have:=agj (j:=j+1) (by simpa using a) b;grind [ixs]
theorem HM.gE{V W:Vo}{F:Frm}(a:W.toVal.le V.toVal){k:T}(b:V.ah[k]?=W.ah[k]?){Y:St}{x:HO}(h:HM PK W F Y k x):HM PK V F Y k x:=HM.D a b (λ_ _ _ _=>w8) (λ_ _ _=>w8) h
def G.k5 (h:G PK O0 V A E Y) {H:List HO} {W:Vo} (hs:H.length<=A.X.length) (P:W.ν=νθ V.toVal [(0,0)]) (L:W.ρ=ρθ V.toVal (j7 H.length)) (m:W.ah=adw V (j7 H.length) H) {g:St} (hok:Ok g) (C:g.length=Y.length) (hr:∀i,(∀(k:T) a,W.ah[k]?=J a->i∉a)->g[i]?=Y[i]?) (S:∀(k:T) h,H[k]?=J h->HM PK W O0 g k h):
  W.toVal.le V.toVal/\Ch V A Y V {A with X:=FB H A.X,wr:=ixs 0 H++A.wr} g/\G PK O0 V {A with X:=FB H A.X,wr:=ixs 0 H++A.wr} E g:=by
 have I:(j7 H.length).length=H.length:=by simp
 have R:∀(k:T) a,W.ah[k]?=J a->a=[]\/V.ah[k]?=J a/\∃x,H[k]?=J x/\oh x=eF:=λk a d=>by
  rw[m]at d;have e:k<H.length:=by have:=(a00.mp d).1;rwa[XD I]at this
  rw[XB (X1 e) (Z2 e)]at d;grind
 have N:∀(k:T) x,H[k]?=J x->oh x=eF->k<V.ah.length->V.ah[k]?=W.ah[k]?:=λk x K s e=>by have w:=(a00.mp K).1;rw[m,XB (X1 w) K,s,Z2 e];rfl
 have D:W.toVal.le V.toVal:=by
  refine⟨λi a d=>?_,λi a d=>?_⟩;·grind [νθ,h.ab]
  ·rw[L]at d;have hi:i<H.length:=(by grind [ρθ]);unfold ρθ at d;grind [G]
 have q:∀(k:T) a,V.ah[k]?=J a->(∀x,H[k]?=J x->oh x=eT)->∀i∈a,g[i]?=Y[i]?:=λk a d s i hi=>hr i λQ b hb u=>by grind [G]
 have t:∀i,i<O0.I->i∉O0.w->g[i]?=Y[i]?:=λi hi v=>hr i λQ b hb u=>by grind [G]
 refine⟨D,⟨.cx,λk e=>aH1 _ e,w8,w8,λk x e B=>?_⟩,⟨h.aR,h.lν,by simp[Qx,h.lρ],by simp[Qx,h.lo],h.ab,h.aa,λk z e=>?_,h.ez,λk a d i hi=>by rw[C];exact h.dg k a d i hi,λk o F=>by rw[C];exact h.ρl k o F,⟨by rw[C];exact h.dt,λi hi v=>by grind [G]⟩,hok⟩⟩
 ·have c:∀y,H[k]?=J y->oh y=eT:=λy n=>by
   cases s:oh y with
   |true=>rfl|false=>exact j8 (aG1 _ (by have:=agj (j:=0) n s;rwa[aC4]at this)) B
  refine⟨?_,w8,λl o K F=>q k _ F c o (by simp)⟩;cases O:(FB H A.X)[k]? with
  |none=>grind [Qx]
  |some z=>
   rcases agE O with⟨y,n,p,rfl⟩|⟨n,_⟩;·rw[c _ n]at p;cases p
   grind
 ·have e:(FB H A.X)[k]?=J z:=e;have M:k<V.ah.length:=by rw[h.lo,<-Qx H A.X];grind
  rcases agE e with⟨y,n,p,rfl⟩|⟨n,c⟩;·grind [HM.gE]
  ·exact HM.D (V:=V) (Y:=Y) .cx w8 (λa d i hi=>q k a d c i hi) t (h.X k z n)
def atw(h:G PK O0 V A E Y){f:FuncId}{m:Sm}(hs:bZ C PK f m){ss S:List Sh}{azs:LA}(B:Mt V.toVal ss azs)(hh:OW A.X ss=J S){s:Sh}{A':Ab}(b:adb A S m=J (s,A')):Res PK O0 V A E Y (ai C f azs Y) s A':=by
 obtain⟨n,w,e1,e2,g,Z⟩:=amq h B hh;have fin:∀{cB:Option (AV×St)} {v:AV} {res:Sh},cB=J (v,w)->M V0 res v->Res PK O0 V A E Y cB (MP A res).1 (MP A res).2:=λ{cB v res} hr hv=>by obtain⟨F,e,N,O⟩:=acp g (hv.D (adM h.ab));exact⟨v,w,F,hr,Z.N e.ch,N,O⟩
 cases m with
 |dp args res=>
  simp only[adb]at b;split at b;·rename_i a;obtain⟨v,hv,t⟩:=hs Y azs n w h.ok e1 g.ok (XX (Sb.gE h.ab h.aa) e2 a);grind
  ·cases b
 |ro l args res=>
  simp only[adb]at b;split at b
  ·rename_i k T;obtain⟨X,d,rfl⟩:∃X d,n=X::d:=by cases e2;exact⟨_,_,w8⟩
   cases e2 with
   |cV _ _ _ _ m1 m2=>
    obtain⟨o,u,rfl⟩:=Xh m1;obtain⟨bs,rfl⟩:=aid e1;have key:∀(R:List Sh) (cs:LA) (fz:Fz),w[o]?=J (.cP cs fz)->Ms V.toVal R cs->(if subs A.aa [] [] l R&&Vs A.aa [] [] args T then J (MP A res)else U)=J (s,A')->Res PK O0 V A E Y (ai C f (.da o 0::bs) Y) s A':=by
     intro R cs fz aa ab b;split at b;·rename_i a;rw[Z1]at a;obtain⟨v,hv,t⟩:=hs Y o bs d w cs fz h.ok e1 g.ok aa (Ip (Sb.gE h.ab h.aa) ab a.1) (XX (Sb.gE h.ab h.aa) m2 a.2);grind
     ·cases b
    split at b;·rename_i R I;obtain⟨o',cs,fz,h1,h2,h3,h4,h5⟩:=g.X _ _ I;grind
    ·rename_i R I;obtain⟨o',cs,h1,h2,h4,h5⟩:=g.X _ _ I;grind
    ·cases b
  ·cases b
 |iB args=>
  simp only[adb]at b;split at b;·rename_i a;cases b;obtain⟨L,o,ms,hv,hok,hr,D⟩:=hs Y azs n w h.ok e1 g.ok (XX (Sb.gE h.ab h.aa) e2 a);obtain⟨F,e,N,O⟩:=g.mE hok hr D;exact⟨_,_,F,hv,Z.N e,N,O⟩
  ·cases b
 |pk args res=>
  simp only[adb]at b;split at b
  ·rename_i k T;split at b
   ·rename_i a;obtain⟨X,d,rfl⟩:∃X d,n=X::d:=by cases e2;exact⟨_,_,w8⟩
    cases e2 with
    |cV _ _ _ _ m1 m2=>
     simp only[Z1]at a;obtain⟨o,u,rfl⟩:=az4 m1;obtain⟨bs,rfl⟩:=aid e1;have Q:A.X[k]?=J .pk:=by
      cases K:A.X[k]? with
      |none=>rw[K]at a;cases a.1|some y=>rw[K]at a;cases y<;>first|rfl|cases a.1
     obtain⟨o',ms,h1,h2,h3⟩:=g.X _ _ Q;rw[u]at h1;cases h1;obtain⟨v,P,hv,t,hok,p,hr,D⟩:=hs Y o ms bs d w h.ok e1 g.ok h3 (XX (Sb.gE h.ab h.aa) m2 a.2);obtain⟨c2,g2⟩:=g.mH Q u h2 hok p hr D;obtain⟨F,e,N,O⟩:=acp g2 (t.D (adM h.ab));cases K:MP {A with wr:=k::A.wr} res;rw[K]at b e N O;cases b;exact⟨v,P,F,hv,Z.N (c2.N e.ch),N,O⟩
   ·cases b
  ·cases b
 |eK H args res=>
  simp only[adb]at b;split at b
  ·rename_i a;simp only[Z1,w9]at a;obtain⟨W,gW,w1,w2,w3,_⟩:=Lj g a.1.2;have ac:Sb A.aa [] (j7 (z H)) V.toVal W.toVal:=⟨h.ab,h.aa,λj i c u=>by simp[Ep]at u,λk k' o u ad=>by
    cases D:(j7 (z H))[k]? with
    |none=>rw[D]at u;cases u
    |some q=>
     rw[D]at u;simp only[eqO,beq_iff_eq]at u;subst u;rw[w2];unfold ρθ;grind⟩
   obtain⟨v,P,hv,t,hok,p,hr,D⟩:=hs Y azs n w h.ok e1 g.ok O0 W E gW (XX ac e2 a.2);obtain⟨_,c2,g2⟩:=g.k5 a.1.1 w1 w2 w3 hok p hr D;obtain⟨V1,e,g3,l3,m3⟩:=Xx (m:=H.map λh=>!oh h) (k0:=0) g2 (H:=FB H A.X) (λj x hj=>by rw[aC4];exact g2.X j x hj);have g4:=g3.hT (H:=(lF {A with X:=FB H A.X,wr:=ixs 0 H++A.wr} (H.map λh=>!oh h) (FB H A.X)).1) (by rw[l3,e.X]) (λk x hk=>by grind);have c3:Ch V {A with X:=FB H A.X,wr:=ixs 0 H++A.wr} P V1 {(lF {A with X:=FB H A.X,wr:=ixs 0 H++A.wr} (H.map λh=>!oh h) (FB H A.X)).2 with X:=(lF {A with X:=FB H A.X,wr:=ixs 0 H++A.wr} (H.map λh=>!oh h) (FB H A.X)).1} P:=by
    refine⟨e.le,λk hk=>by show k∈(lF _ _ _).2.wr;rw[e.wr];exact hk,e.ls,e.aR,λk x hk hw=>⟨?_,by rw[e.ah],λ_ _ _ _=>w8⟩⟩;have hw:k∉(lF {A with X:=FB H A.X,wr:=ixs 0 H++A.wr} (H.map λh=>!oh h) (FB H A.X)).2.wr:=hw;rw[e.wr]at hw;refine(Va λB=>hw ?_).trans hk;rw[aF7]at B;cases hy:H[k]? with
    |none=>rw[hy]at B;cases B|some y=>rw[hy]at B;simp only[aC5,a07,aJ2]at B;exact aG1 _ (by have:=agj (j:=0) hy B;rwa[aC4]at this)
   obtain⟨F,o4,o5,o6⟩:=acp g4 ((t.D (adM h.ab)).D e.le);cases K:MP {(lF {A with X:=FB H A.X,wr:=ixs 0 H++A.wr} (H.map λh=>!oh h) (FB H A.X)).2 with X:=(lF {A with X:=FB H A.X,wr:=ixs 0 H++A.wr} (H.map λh=>!oh h) (FB H A.X)).1} res;rw[K]at b o4 o5 o6;cases b;exact⟨v,P,F,hv,Z.N (c2.N (c3.N o4.ch)),o5,o6⟩
  ·cases b
def TK(C:w)(X:q)(PK:PkI):Prop:=∀f m,m∈X.sm f->bZ C PK f m
def afh(h:G PK O0 V A E Y){f:n}{ss b:R Sh}{azs:LA}(c:Mt V.toVal ss azs)(d:OW A.X ss=J b){s:Sh}{A':Ab}:∀(l:R Sm),(∀m∈l,bZ C PK f m)->ahf A b l=J (s,A')->Res PK O0 V A E Y (ai C f azs Y) s A'
 |[],_,a=>by cases a
 |m::l,hs,a=>by
  unfold ahf at a;split at a;·rename_i i hr;cases a;exact atw h (hs m (by simp)) c d hr
  ·exact afh h c d l (λm c=>hs m (by simp[c])) a
def ahE(hs:TK C X PK):JU C X PK O0:=λV A E Y f i b s g h d a=>by
 unfold ab1 at a;split at a;·rename_i e c;exact afh h d c _ (hs f) a
 ·cases a
end
section
variable{C:Ctx}{X:Cfg}{PK:PkI}{O0:Frm}{V:Vo}{A:Ab}{E:As}{Y:St}
theorem aez(h:G PK O0 V A E Y){c:XA}{b:I}(hb:H C E c=.cW b):G PK O0 V (ways.kn c A b) E Y:=by
 cases c with
 |t n=>
  refine h.ha λt s a=>?_;simp only[la]at a;split at a;·rename_i d;cases a;subst d;have:Z0 E n=.cW b:=hb;rw[this];exact .bc b
  ·exact h.aR t s a
 |c v=>exact h|g n=>exact h
structure Same(A A':Ab):Prop where
 nx:A'.nx=A.nx
 X:A'.X=A.X
 wr:A'.wr=A.wr
 ls:A'.ls=A.ls
theorem Same.facts(A:Ab)(fs:Fs):Same A {A with aa:=fs}:=⟨w8,w8,w8,w8⟩
theorem Same.kn{A B:Ab}(h:Same A B)(c:XA)(b:I):Same A (ways.kn c B b):=by cases c<;>exact⟨h.nx,h.X,h.wr,h.ls⟩
def ahh(l:LY C X)(h:G PK O0 V A E Y){c:XA}{s:R (I×Ab)}(j:ways X A c=J s):∃b A',(b,A')∈s/\H C E c=.cW b/\G PK O0 V A' E Y/\Same A A':=by
 unfold ways at j;split at j;·rename_i b hb;cases j;exact⟨b,A,by simp,az3 (dE l h hb),h,⟨w8,w8,w8,w8⟩⟩
 ·rename_i hb;cases j;have o:=dE l h hb;obtain⟨b,a⟩:∃b,H C E c=.cW b:=(by grind [M]);refine⟨b,ways.kn c A b,?_,a,aez h a,Same.kn ⟨w8,w8,w8,w8⟩ c b⟩;cases b<;>simp
 ·rename_i x d y hb;cases j;have o:=dE l h hb;obtain⟨p,q,g,i,a⟩:∃p q:T,V.ν[x]?=J p/\V.ν[y]?=J q/\H C E c=.cW (D ((p:F)+d<=q)):=(by grind [M]);by_cases k:(p:F)+d<=q;·rw[decide_eq_true k]at a;have n:=h.ho (f:=(x,d,y)) ⟨p,q,g,i,k⟩;grind [aez,Same.kn,Same.facts]
  ·rw[X2 k]at a;have n:=h.ho (f:=(y,1-d,x)) ⟨q,p,i,g,by simp only;omega⟩;grind [aez,Same.kn,Same.facts]
 ·rename_i e x d y hb;cases j;have o:=dE l h hb;obtain⟨p,q,g,i,a⟩:∃p q:T,V.ν[x]?=J p/\V.ν[y]?=J q/\H C E c=.cW (D ((p:F)+d=q)==e):=(by grind [M]);by_cases k:(p:F)+d=q;·rw[decide_eq_true k,show(eT==e)=e by cases e<;>rfl]at a;have n:=(h.ho (f:=(y,-d,x)) ⟨q,p,i,g,by simp only;omega⟩).ho (f:=(x,d,y)) ⟨p,q,g,i,by simp only;omega⟩;grind [aez,Same.kn,Same.facts]
  ·rw[X2 k,show(eF==e)= !e by cases e<;>rfl]at a;refine⟨!e,_,aI9 _ t,a,?_,?_⟩
   ·split;·rename_i m;simp only[Z1,B]at m;obtain⟨rfl,m⟩:=m;rw[h.ab]at i;cases i;have:=JB h.ab h.aa m h.ab g;exact aez (h.ho (f:=(0,1-d,x)) ⟨0,p,h.ab,g,by simp only;omega⟩) a
    ·exact aez h a
   ·split;·exact Same.kn (Same.facts A _) c _
    ·exact Same.kn ⟨w8,w8,w8,w8⟩ c _
 ·cases j
def G.mI(h:G PK O0 V A E Y){s:Sh}{v:AV}(hv:M V.toVal s v)(d:P T):G PK O0 V (ptS A d s) (Dx E d v) Y:=by
 cases d with
 |none=>exact h|some d=>exact h.cn hv d
def G.g0(h:G PK O0 V A E Y)(k:R T):G PK O0 V (A.g0 k) E Y:=⟨h.aR,h.lν,h.lρ,h.lo,h.ab,h.aa,h.X,h.ez,h.dg,h.ρl,h.b3,h.ok⟩
structure Cr(V:Vo)(A:Ab)(Y:St)(V':Vo)(A':Ab)(Y':St):Prop where
 le:V.toVal.le V'.toVal
 wr:∀k∈A.wr,k∈A'.wr
 ls:∀k∈A.ls,k∈A'.ls
 c:∀k x,A.X[k]?=some x->k∉A'.wr->A'.X[k]?=some x/\V'.ah[k]?=V.ah[k]? /\∀l o,x=.cP l->V.ah[k]?=some [o]->Y'[o]?=Y[o]?
def Cr.ax:Cr V A Y V A Y:=⟨.cx,λ_ h=>h,λ_ h=>h,λ_ _ h _=>⟨h,w8,λ_ _ _ _=>w8⟩⟩
def Cr.N{V' b:Vo}{A' a:Ab}{e c:St}(h:Cr V A Y V' A' e)(k:Cr V' A' e b a c):Cr V A Y b a c:=by refine⟨h.le.N k.le,λq d=>k.wr q (h.wr q d),λq d=>k.ls q (h.ls q d),λq l d f=>?_⟩;grind [Cr]
def Ch.cr{V':Vo}{A':Ab}{a:St}(h:Ch V A Y V' A' a):Cr V A Y V' A' a:=⟨h.le,h.wr,λk b=>by rw[h.ls];exact b,h.c⟩
def Same.cr{A':Ab}(h:Same A A'):Cr V A Y V A' Y:=⟨.cx,λk a=>by rw[h.wr];exact a,λk a=>by rw[h.ls];exact a,λk l a _=>⟨by rw[h.X];exact a,w8,λ_ _ _ _=>w8⟩⟩
def Cr.cn{V':Vo}{A':Ab}{a:St}(h:Cr V A Y V' A' a)(d:P T)(s:Sh):Cr V A Y V' (ptS A' d s) a:=by
 cases d with
 |none=>exact h|some d=>exact⟨h.le,h.wr,h.ls,h.c⟩
def Cr.g0{V':Vo}{A':Ab}{a:St}(h:Cr V A Y V' A' a)(k:R T):Cr V A Y V' (A'.g0 k) a:=⟨h.le,h.wr,λq b=>aH1 _ (h.ls q b),h.c⟩
mutual
theorem Vl:∀v:AV,h v v=eT
 |.cW b=>SL b|.cQ k a=>QD k a|.cU s=>QE s|.ep=>w8|.da a b=>by simp[h]
 |.ec a=>by rw[h];exact xY a
 |.cY=>w8|.fS=>w8|.sl n a=>by rw[h,xY a];simp
 |.eB n a=>by rw[h,xY a];simp
 |.dj a b c d=>by simp[h]
 |.dz a=>by simp[h]
 |.eE=>w8|.dv f a b=>by rw[h,xY a,xY b];simp
 |.eo=>w8|.dx t a=>by rw[h,Vl a];simp
 |.eb=>w8|.cX a=>by rw[h];exact xY a
 |.de a=>by rw[h];exact xY a
theorem xY:∀l:LA,zG l l=eT|[]=>w8|a::l=>by rw[zG,Vl a,xY l];rfl
end
end
section
variable{C:Ctx}{X:Cfg}{PK:PkI}{O0:Frm}{V:Vo}{A:Ab}{E:As}{Y:St}
def alN (l:LY C X) (g:VC C X) (b:JU C X PK O0) (h:G PK O0 V A E Y) {n:T} {i:I} {o:XOp} {e:Ab} (a:afG X n i o A=J e):
  ∃v c d,opR (ai C) (aF C (H C E) n Y o.i)=J (v,c)/\Cr V A Y d e c/\G PK O0 d e (Dx E o.ba v) c/\(i=eT->o.bo≠[]->∃ks,GH X A o.i=J ks/\∀k∈ks,k∈e.ls):=by
 unfold afG at a;split at a
 ·rename_i s j hi;obtain⟨v,c,d,e1,e2,e3,e4⟩:=awS l g b h hi;split at a
  ·split at a
   ·rename_i ks f;cases a;exact⟨v,c,d,e1,(e2.cr.g0 ks).cn _ _,(e3.g0 ks).mI e4 _,λ_ _=>⟨ks,f,λk m=>by
     have:k∈(j.g0 ks).ls:=aG1 _ m;cases o.ba<;>exact this⟩⟩
   ·cases a
  ·rename_i q;cases a;refine⟨v,c,d,e1,e2.cr.cn _ _,e3.mI e4 _,λp h2=>?_⟩;grind
 ·cases a
def look_ok(e:LY C X)(h:G PK O0 V A E Y){n:T}{i:XI}{ks:R T}(a:GH X A i=J ks){v:AV}{g:St}(hr:opR (ai C) (aF C (H C E) n Y i)=J (v,g)){z:St}(m:∀k∈ks,∀o,V.ρ[k]?=J (J o)->z[o]?=Y[o]?):aF C (H C E) n z i=J (.ev v z):=by
 unfold GH at a;split at a
 ·rename_i ag f x;split at a
  ·rename_i k off d;cases a;obtain⟨o,j,c⟩:=Xh (dE e h d);rw[aF.eq_7,c]at hr⊢;dsimp only at hr⊢;rw[m k (by simp) o j];split at hr;·rename_i l p q;cases b:pt ag f (l.drop off)with|none=>rw[b]at hr;cases hr|some y=>rw[b]at hr;cases hr;rfl
   ·cases hr
  ·rename_i off l d;cases a;obtain⟨w,N,c,_⟩:=agc (dE e h d);rw[aF.eq_7,c]at hr⊢;dsimp only at hr⊢;cases b:pt ag f ((w++N).drop off)with|none=>rw[b]at hr;cases hr|some y=>rw[b]at hr;cases hr;rfl
  ·cases a
 ·rename_i x;rw[Aa]at hr⊢;have:bC z 0 (H C E x)=bC Y 0 (H C E x):=w8;rw[this];split at hr;·cases hr;rfl
  ·cases hr
 ·rename_i x;rw[Aa]at hr⊢;have:bC z 1 (H C E x)=bC Y 1 (H C E x):=w8;rw[this];split at hr;·cases hr;rfl
  ·cases hr
 ·cases a
theorem ZE(d:LY C X)(h:G PK O0 V A E Y){n:T}{i:XI}{s:Sh}{A':Ab}(hi:abI X n A i=J (s,A')){ks:R T}(b:GH X A i=J ks):∀k∈ks,(∃l,A.X[k]?=J (.cP l))\/(∃l,A.X[k]?=J (.ro l)):=by
 intro k a;unfold GH at b;split at b
 ·rename_i ag f x;split at b;·rename_i e off c;cases b;simp at a;subst a;simp only[abI,c]at hi;grind
  ·cases b;simp at a
  ·cases b
 ·cases b;simp at a
 ·cases b;simp at a
 ·cases b
def aed{n:T}{o:XOp}{E:As}{Y:St}(h:lK o E=eT):wZ C (ai C) n o E Y=opR (ai C) (aF C (H C E) n Y o.i):=by
 unfold wZ;rw[if_pos h];cases aF C (H C E) n Y o.i with
 |none=>rfl|some d=>cases d<;>rfl
def ahY{n:T}{o:XOp}{E:As}{Y:St}(h:lK o E=eF):wZ C (ai C) n o E Y=J (.dT,Y):=by unfold wZ;rw[h];rfl
def Yp{c d e:Type}{f:c->P d}{g:d->P (R e)}:∀{b:R c} {As:R e},b.foldr (λw q=>stepM (f w) g q) (J [])=J As->∀w∈b,∃A azs,f w=J A/\g A=J azs/\∀B∈azs,B∈As
 |[],_,_,w,a=>by simp at a
 |m::b,As,h,w,a=>by
  rw[s]at h;unfold stepM at h;split at h
  ·rename_i A l;split at h
   ·rename_i azs bs k h2;cases h;rcases aC8.mp a with rfl|a;·grind
    ·obtain⟨j,i,e1,e2,e3⟩:=Yp h2 w a;grind
   ·cases h
  ·cases h
def step_ok (Q:LY C X) (Z:VC C X) (x:JU C X PK O0) (h:G PK O0 V A E Y) {n:Nat} {u:Bool} {o:XOp} {l:List XOp} {As:List Ab} (H:TL X n u (o::l) A=J As):
  ∃v e i d azs,wZ C (ai C) n o E Y=J (v,e)/\Cr V A Y i d e/\G PK O0 i d (Dx E o.ba v) e/\TL X n u l d=J azs/\(∀B∈azs,B∈As)/\
   (u=eT->lK o E=eT->o.bo≠[]->∃ks:List Nat,(∀k∈ks,k∈d.ls/\((∃l,A.X[k]?=J (.cP l))\/(∃l,A.X[k]?=J (.ro l))))/\∀z:St,(∀k∈ks,∀o:Nat,V.ρ[k]?=J (J o)->z[o]?=Y[o]?)->aF C (avA C E) n z o.i=J (.ev v z)):=by
 have wanted:∀{M:Vo} {a:Ab},G PK O0 M a E Y->M.ρ=V.ρ->a.X=A.X->lK o E=eT->∀{d:Ab},afG X n u o a=J d->∃v e i,wZ C (ai C) n o E Y=J (v,e)/\Cr M a Y i d e/\G PK O0 i d (Dx E o.ba v) e/\(u=eT->lK o E=eT->o.bo≠[]->∃ks:List Nat,(∀k∈ks,k∈d.ls/\((∃l,A.X[k]?=J (.cP l))\/(∃l,A.X[k]?=J (.ro l))))/\∀z:St,(∀k∈ks,∀o:Nat,V.ρ[k]?=J (J o)->z[o]?=Y[o]?)->aF C (avA C E) n z o.i=J (.ev v z)):=by intro M a N ab hh y d O;obtain⟨v,e,i,e1,e2,e3,e4⟩:=alN Q Z x N O;refine⟨v,e,i,by rw[aed y];exact e1,e2,e3,λhd _ hl=>?_⟩;obtain⟨ks,T,S⟩:=e4 hd hl;have P:∃s A2,abI X n a o.i=J (s,A2):=(by grind [afG]);obtain⟨s,A2,hi⟩:=P;refine⟨ks,λk R=>⟨S k R,by grind [ZE]⟩,λz hz=>look_ok Q N T e1 (λk R o' aa=>hz k R o' (by rw[<-ab];exact aa))⟩
 have L:∀{a:Ab},G PK O0 V a E Y->lK o E=eF->wZ C (ai C) n o E Y=J (.dT,Y)/\G PK O0 V (ptS a o.ba .dT) (Dx E o.ba .dT) Y:=λN y=>⟨ahY y,N.mI .dT _⟩;cases m:o.bm with
 |none=>
  have y:lK o E=eT:=by unfold lK;rw[m]
  simp only[TL,m]at H;grind
 |some p=>
  obtain⟨t,b⟩:=p;have K:lK o E=yw b (Z0 E t):=by unfold lK;rw[m]
  simp only[TL,m]at H;split at H;·cases H
  ·rename_i ws D;have:∃q a,(q,a)∈ws/\yw b (Z0 E t)=(q==b)/\G PK O0 V a E Y/\Same A a:=by
    split at D
    ·rename_i hu;cases D;have W:=h.aR _ _ hu;have he:Z0 E t=.dT:=by revert W;generalize Z0 E t=v;intro W;cases W;rfl
     exact⟨!b,A,by simp,by rw[he];cases b<;>rfl,h,⟨w8,w8,w8,w8⟩⟩
    ·obtain⟨q,a,O,h2,h3,h4⟩:=ahh Q h D;refine⟨q,a,O,?_,h3,h4⟩;have:Z0 E t=.cW q:=h2;rw[this];rfl
   obtain⟨q,a,F,hb,g',c⟩:=this;obtain⟨d,azs,f1,f2,f3⟩:=Yp (f:=λw:Bool×Ab=>if w.1==b then afG X n u o w.2 else J (ptS w.2 o.ba .dT)) (g:=λA=>TL X n u l A) H _ F;cases j:q==b with
   |true=>simp only[j,if_true]at f1;obtain⟨v,e,i,e1,e2,e3,e4⟩:=wanted g' w8 c.X (by rw[K,hb,j]) f1;exact⟨v,e,i,d,azs,e1,c.cr.N e2,e3,f2,f3,e4⟩
   |false=>simp only[j,aF3,if_false,a07]at f1;subst f1;have y:lK o E=eF:=(by rw[K,hb,j]);obtain⟨e1,e2⟩:=L g' y;exact⟨.dT,Y,V,_,azs,e1,c.cr.cn _ _,e2,f2,f3,λ_ I=>by rw[y]at I;cases I⟩
def ab2 (g:LY C X) (c:VC C X) (a:JU C X PK O0) {n:T}:∀(l:R XOp) {V:Vo} {A:Ab} {E:As} {Y:St} {As:R Ab},G PK O0 V A E Y->TL X n eF l A=J As->
  ∃A'∈As,∃V' d b,fK C (ai C) n l E Y=J (d,b)/\Cr V A Y V' A' b/\G PK O0 V' A' d b
 |[],V,A,E,Y,As,h,f=>by cases f;exact⟨A,by simp,V,E,Y,w8,.ax,h⟩
 |o::l,V,A,E,Y,As,h,f=>by obtain⟨v,t,s,q,i,e1,j,m,e2,e3,e4⟩:=step_ok g c a h f;obtain⟨A',e,V',d,b,r1,k,p⟩:=ab2 g c a l m e2;refine⟨A',e3 A' e,V',d,b,?_,j.N k,p⟩;unfold fK;rw[e1];exact r1
structure Wn(V:Vo)(A:Ab)(Y:St)(V':Vo)(A':Ab)(Y':St)(new:List Nat):Prop where
 le:V.toVal.le V'.toVal
 c:∀k x,A.X[k]?=some x->k∉new->A'.X[k]?=some x/\V'.ah[k]?=V.ah[k]? /\∀l o,x=.cP l->V.ah[k]?=some [o]->Y'[o]?=Y[o]?
def anM (Q:LY C X) (W:VC C X) (u:JU C X PK O0) (h:G PK O0 V A E Y) {n j:Nat} {o:XOp} {l:List XOp} {I:List (Nat×Nat)} {lt:List (Nat×Nat×List Nat)} {As:List Rg} (N:afD X n (o::l) j (A,I,lt)=J As):
  ∃(v:AV) (d:St) (i:Vo) (c:Ab) (new:List Nat) (ks:List Nat) (azs:List Rg),wZ C (ai C) n o E Y=J (v,d)/\Wn V A Y i c d new/\G PK O0 i c (Dx E o.ba v) d/\afD X n l (j+1) (c,new.map (λk=>(k,j))++I,ks.map (λk=>(k,j,o.bo))++lt)=J azs/\(∀B∈azs,B∈As)/\
   (lK o E=eT->o.bo≠[]->(∀k∈ks,(∃l,A.X[k]?=J (.cP l))\/(∃l,A.X[k]?=J (.ro l)))/\∀z:St,(∀k∈ks,∀o:Nat,V.ρ[k]?=J (J o)->z[o]?=Y[o]?)->aF C (avA C E) n z o.i=J (.ev v z)):=by
 have wanted:∀{a:Ab} {q:Rg},G PK O0 V a E Y->a.X=A.X->lK o E=eT->aq4 X n j o a I lt=J q->∃(v:AV) (d:St) (i:Vo) (c:Ab) (new:List Nat) (ks:List Nat),q=(c,new.map (λk=>(k,j))++I,ks.map (λk=>(k,j,o.bo))++lt)/\wZ C (ai C) n o E Y=J (v,d)/\Wn V A Y i c d new/\G PK O0 i c (Dx E o.ba v) d/\
   (lK o E=eT->o.bo≠[]->(∀k∈ks,(∃l,A.X[k]?=J (.cP l))\/(∃l,A.X[k]?=J (.ro l)))/\∀z:St,(∀k∈ks,∀o:Nat,V.ρ[k]?=J (J o)->z[o]?=Y[o]?)->aF C (avA C E) n z o.i=J (.ev v z)):=by
  intro a q h' hh O H;have h0:G PK O0 V {a with wr:=[]} E Y:=wrA a [] h';unfold aq4 at H;split at H
  ·rename_i c R;split at H;·rename_i ks y;cases H;obtain⟨v,d,i,e1,e2,e3,_⟩:=alN Q W u h0 R;refine⟨v,d,i,c,c.wr,ks,w8,by rw[aed O];exact e1,⟨e2.le,λk x L hn=>e2.c k x (by show a.X[k]?=_;rw[hh];exact L) hn⟩,e3,λ_ hl=>?_⟩;have y:GH X a o.i=J ks:=(by grind);have S:∃s A2,abI X n {a with wr:=[]} o.i=J (s,A2):=(by grind [afG]);obtain⟨s,A2,hi⟩:=S;exact⟨λk L=>by rw[<-hh];exact ZE Q h0 hi (ks:=ks) y k L,λz hz=>look_ok Q h' y e1 hz⟩
   ·cases H
  ·cases H
 cases e:o.bm with
 |none=>
  have O:lK o E=eT:=by unfold lK;rw[e]
  simp only[afD,e]at N;grind
 |some p=>
  obtain⟨t,b⟩:=p;have Z:lK o E=yw b (Z0 E t):=by unfold lK;rw[e]
  simp only[afD,e]at N;split at N;·cases N
  ·rename_i ws F;have:∃m a,(m,a)∈ws/\yw b (Z0 E t)=(m==b)/\G PK O0 V a E Y/\Same A a:=by
    split at F
    ·rename_i hu;cases F;have T:=h.aR _ _ hu;have he:Z0 E t=.dT:=by revert T;generalize Z0 E t=v;intro T;cases T;rfl
     exact⟨!b,A,by simp,by rw[he];cases b<;>rfl,h,⟨w8,w8,w8,w8⟩⟩
    ·obtain⟨m,a,R,h2,h3,h4⟩:=ahh Q h F;refine⟨m,a,R,?_,h3,h4⟩;have:Z0 E t=.cW m:=h2;rw[this];rfl
   obtain⟨m,a,M,hb,g',D⟩:=this;obtain⟨q,azs,f1,f2,f3⟩:=Yp (f:=λw:Bool×Ab=>if w.1==b then aq4 X n j o w.2 I lt else J (ptS w.2 o.ba .dT,I,lt)) (g:=λq=>afD X n l (j+1) q) N _ M;cases K:m==b with
   |true=>grind [Same]|false=>simp only[K,aF3,if_false,a07]at f1;subst f1;have O:lK o E=eF:=(by rw[Z,hb,K]);refine⟨.dT,Y,V,_,[],[],azs,ahY O,⟨.cx,λk x L _=>⟨?_,w8,λ_ _ _ _=>w8⟩⟩,g'.mI .dT _,f2,f3,λP=>by rw[O]at P;cases P⟩;have:(ptS a o.ba .dT).X=a.X:=(by cases o.ba<;>rfl);rw[this,D.X];exact L
def auz{V':Vo}{A':Ab}{b:As}{c:St}(h:G PK O0 V A E Y)(d:G PK O0 V' A' b c)(a:V.toVal.le V'.toVal):z A.X<=z A'.X:=by
 rw[<-h.lρ,<-d.lρ];by_cases e:z V.ρ=0;·omega
 ·have:=a.ρ (z V.ρ-1) _ (Z2 (by omega));grind
def At(O0:Frm)(N:T)(V:Vo)(A:Ab)(Y:St)(c:R (T×T))(a b:T)(z:St):Prop:=∀o,(o<O0.I/\o∉O0.w\/∃k l,k<N/\A.X[k]?=J (.cP l)/\V.ah[k]?=J [o]/\∀w,(k,w)∈c->¬(a<=w/\w<b))->z[o]?=Y[o]?
def alL (hg:LY C X) (Q:VC C X) (g:JU C X PK O0) {n N:Nat}:∀(l:List XOp) {j:Nat} {V:Vo} {A:Ab} {E:As} {Y:St} {T:List (Nat×Nat)} {lt:List (Nat×Nat×List Nat)} {As:List Rg},N<=A.X.length->G PK O0 V A E Y->afD X n l j (A,T,lt)=J As->
  ∃p∈As,∃V' W Z rs ss,qH C (ai C) n l E Y=J (W,Z,rs,ss)/\V.toVal.le V'.toVal/\G PK O0 V' p.1 W Z/\ss.length=l.length+1/\(∀q∈T,q∈p.2.1)/\(∀q∈lt,q∈p.2.2)/\
   (∀(d:Nat) (z:St),ss[d]?=J z->At O0 N V A Y p.2.1 j (j+d) z)/\
   ∀m:List St,m.length=j->(∀(c:Nat) (z:St),m[c]?=J z->At O0 N V A Y T c j z)->(∀o∈l,∀c∈o.bo,c+1<(m++ss).length)->(∀q∈p.2.2,q.1<N/\∀c∈q.2.2,∀w,(q.1,w)∈p.2.1->¬(min q.2.1 c<=w/\w<max q.2.1 (c+1)))->fQ C n (m++ss) l rs=eT
 |[],j,V,A,E,Y,T,lt,As,hN,h,ho=>by
  cases ho;refine⟨_,j6 _,V,E,Y,[],[Y],w8,.cx,h,w8,λq e=>e,λq e=>e,λd z f=>?_,λ_ _ _ _ _=>w8⟩;cases d with
  |zero=>simp at f;subst f;exactλ_ _=>w8|succ d=>simp at f
 |o::l,j,V,A,E,Y,T,lt,As,hN,h,ho=>by
  obtain⟨v,Y1,V1,A1,new,ks,aq,e1,wn,g1,e2,e3,e4⟩:=anM hg Q g h ho;have ac:=auz h g1 wn.le;obtain⟨p,hp,V',W,Z,rs,ss,r1,ak,g2,r2,w1,t1,post,fin⟩:=alL hg Q g l (aF2 hN ac) g1 e2;have K:∀(d:Nat) (z:St),(Y::ss)[d]?=J z->At O0 N V A Y p.2.1 j (j+d) z:=λd z f=>by
   cases d with
   |zero=>simp at f;subst f;exactλ_ _=>w8
   |succ d=>
    intro q e;have h1:=post d z (by simpa using f);rcases e with e|⟨k,c,k1,k2,k3,S⟩;·rw[h1 q (.inl e),g1.bp e.1 e.2,h.bp e.1 e.2]
    ·have F:k∉new:=λF=>S j (w1 _ (aG1 _ (aE8.mpr ⟨k,F,w8⟩))) ⟨Z6 _,by omega⟩;obtain⟨c1,c2,c3⟩:=wn.c k _ k2 F;rw[h1 q (.inr ⟨k,c,k1,c1,c2.trans k3,λw R u=>S w R ⟨by omega,by omega⟩⟩)];exact c3 c q w8 k3
  refine⟨p,e3 p hp,V',W,Z,(E,v)::rs,Y::ss,?_,wn.le.N ak,g2,by simp[r2],λq e=>w1 q (aH1 _ e),λq e=>t1 q (aH1 _ e),K,λm af hpre ad t=>?_⟩;·grind [qH]
  ·have ah:m++Y::ss=(m++[Y])++ss:=by simp
   have i:=fin (m++[Y]) (by simp[af]) (λc z f=>by
    intro q e;rw[aF4]at f;rcases e with e|⟨k,O,k1,k2,k3,S⟩
    ·split at f;·rw[hpre c z f q (.inl e),g1.bp e.1 e.2,h.bp e.1 e.2]
     grind [G]
    ·have ab:c<=j:=(by grind);have F:k∉new:=λF=>S j (aG1 _ (aE8.mpr ⟨k,F,w8⟩)) ⟨ab,by omega⟩;obtain⟨x,hx⟩:∃x,A.X[k]?=J x:=⟨_,Z2 (aG2 k1 hN)⟩;obtain⟨c1,c2,c3⟩:=wn.c k x hx F;rw[k2]at c1;cases c1;have I:V.ah[k]?=J [q]:=c2.symm.trans k3;rw[c3 O q w8 I];split at f;·exact hpre c z f q (.inr ⟨k,O,k1,hx,I,λw R u=>S w (aH1 _ R) ⟨u.1,by omega⟩⟩)
     grind) (λo' I c u=>by grind) t
   rw[<-ah]at i;unfold fQ;rw[i,aE1];cases R:lK o E with
   |false=>rfl
   |true=>
    by_cases y:o.bo=[];·rw[y];simp[lG]
    ·obtain⟨B,D⟩:=e4 R y;have key:∀c∈o.bo,∀(d:Nat) (z:St),(d=c\/d=c+1)->(m++Y::ss)[d]?=J z->aF C (avA C E) n z o.i=J (.ev v z):=λc u d z hd f=>by
      refine D z λk hk q e=>?_;obtain⟨kN,H⟩:=t (k,j,o.bo) (t1 _ (aG1 _ (aE8.mpr ⟨k,hk,w8⟩)));have H:=H c u;dsimp only at H;have al:∀(M:List (Nat×Nat)) (a b:Nat),(∀w,(k,w)∈M->¬(a<=w/\w<b))->At O0 N V A Y M a b z->z[q]?=Y[q]?:=λM a b aa P=>by
       rcases B k hk with⟨l',s⟩|⟨l',s⟩;·obtain⟨o2,cs,q1,q2,q3,q4⟩:=h.X _ _ s;rw[e]at q1;cases q1;exact P q (.inr ⟨k,l',kN,s,q2,aa⟩)
       ·obtain⟨o2,cs,fz,q1,q2,q3,q4⟩:=h.X _ _ s;rw[e]at q1;cases q1;exact P q (.inl q3)
      rw[aF4]at f;split at f;·grind
      grind
     have an:∀L:List Nat,(∀c∈L,c∈o.bo)->lG C n o E v (m++Y::ss) L=eT:=by
      intro L
      induction L with
      |nil=>intro _;rfl|cons c L ih=>intro hL;have u:=ad o (by simp) c (hL c (by simp));unfold lG;rw[Z2 (show c<(m++Y::ss).length by omega),Z2 u];dsimp only;rw[key c (hL c (by simp)) c _ (.inl w8) (Z2 (by omega)),key c (hL c (by simp)) (c+1) _ (.inr w8) (Z2 u)];grind [Vl]
     grind
end
section
variable{C:Ctx}{X:Cfg}{PK:PkI}{O0:Frm}{V:Vo}{A:Ab}{E:As}{Y:St}
def agl{env:R (T×Sh)}{t:T}{s:Sh}:∀(m:R T),la t (m.filterMap λt=>(la t env).map λs=>(t,s))=J s->t∈m/\la t env=J s
 |[],h=>by cases h
 |d::m,h=>by
  rw[List.filterMap_cons]at h;split at h;·obtain⟨b,h2⟩:=agl m h;exact⟨by simp[b],h2⟩
  ·rename_i p a;cases c:la d env with
   |none=>rw[c]at a;cases a
   |some s0=>
    rw[c]at a;cases a;simp only[la]at h;split at h;·grind
    ·obtain⟨b,h2⟩:=agl m h;exact⟨by simp[b],h2⟩
theorem G.au(h:G PK O0 V A E Y)(m:R T):G PK O0 V (A.au m) (keepA m E) Y:=by refine⟨λt s b=>?_,h.lν,h.lρ,h.lo,h.ab,h.aa,h.X,h.ez,h.dg,h.ρl,h.b3,h.ok⟩;obtain⟨a,h2⟩:=agl m b;rw[Sv m E t a];exact h.aR t s h2
def Dq:∀{o:zM} {B:Ab},(XE.du,B)∈o->B∈Ih o
 |[],B,a=>by simp at a
 |(x,b)::o,B,a=>by
  rcases aC8.mp a with h|h;·cases h;exact t
  ·clear a;cases x with|du=>exact aI9 _ (Dq h)|dq i=>exact Dq (o:=o) h|ea=>exact Dq (o:=o) h
def yE:∀{o:zM} {x:XE} {B:Ab},(x,B)∈o->x≠ .du->(x,B)∈others o
 |[],x,B,a,b=>by simp at a
 |(y,c)::o,x,B,a,b=>by
  rcases aC8.mp a with h|h;·cases h;clear a;cases y with|du=>exact j8 w8 b|dq i=>exact t|ea=>exact t
  ·clear a;cases y with|du=>exact yE (o:=o) h b|dq i=>exact aI9 _ (yE h b)|ea=>exact aI9 _ (yE h b)
def Yr{a d:P zM}{o:zM}(h:aex a d=J o):∃x y,a=J x/\d=J y/\o=x++y:=by unfold aex at h;grind
def Yg{f:Ab->P zM}:∀{l:R Ab} {o:zM},alV f l=J o->∀B∈l,∃x,f B=J x/\∀p∈x,p∈o
 |[],_,_,B,hB=>by simp at hB
 |a::l,o,h,B,hB=>by
  obtain⟨x,y,b,h2,rfl⟩:=Yr h;rcases aC8.mp hB with rfl|hB;·grind
  ·obtain⟨z,h3,h4⟩:=Yg h2 B hB;grind
def aej{c:Type}{f:c->P zM}:∀{b:R c} {o:zM},b.foldr (λw i=>aex (f w) i) (J [])=J o->∀w∈b,∃x,f w=J x/\∀p∈x,p∈o
 |[],_,_,w,a=>by simp at a
 |e::b,o,h,w,a=>by
  rw[s]at h;obtain⟨x,y,d,h2,rfl⟩:=Yr h;rcases aC8.mp a with rfl|a;·grind
  ·obtain⟨z,h3,h4⟩:=aej h2 w a;grind
def auC{n i:T}(h:i<n):(axp n)[i]?=J (i,0):=by unfold axp;grind
theorem JA(n h:T):∀(k:T) (l m:R HO),z (Qg n h k l m)=k
 |0,_,_=>by simp[Qg]
 |k+1,x::l,y::m=>by simp[Qg,JA n h k l m]
 |k+1,[],m=>by simp[Qg,JA n h k [] []]
 |k+1,x::l,[]=>by simp[Qg,JA n h k [] []]
theorem amC(base:Ab)(lv:R T):∀(l:R Ab) (a:Ab),z a.X=z base.X->(l.foldl (aew base lv) a).X.length=z base.X|[],a,h=>h|B::l,a,h=>amC base lv l _ (JA _ _ _ _ _)
theorem ajE{V:p}{a:R T}{k:T}(h:a[k]?=J k)(b:k<z V.ρ):(ρθ V a)[k]?=V.ρ[k]?:=by unfold ρθ;grind
def amD(base:Ab)(lv:R T):∀(l:R Ab) (a:Ab),a.nx=base.nx->(l.foldl (aew base lv) a).nx=base.nx|[],a,h=>h|B::l,a,h=>amD base lv l _ w8
def aki{nb hb:T}{a S:Ab}{i:T}(h:i<nb)(b:i<a.nx):(fit nb hb a S).1[i]?=J (i,0):=by unfold fit;grind
theorem aqj{nb hb:T}{a S:Ab}{k:T}(h:k<hb)(b:k<z a.X):(fit nb hb a S).2[k]?=J k:=by unfold fit;grind
def akB(h:G PK O0 V A E Y){base:Ab}{lv:R T}{l:R Ab}(e:A∈l):∃c∈aaw base lv l,∃W:Vo,G PK O0 W c E Y/\(∀i,i<base.nx->i<A.nx->W.ν[i]?=V.ν[i]?)/\∀k,k<z base.X->k<z A.X->W.ρ[k]?=V.ρ[k]?:=by
 rcases l with _|⟨B,_|⟨m,l⟩⟩;·simp at e
 ·simp at e;subst e;exact⟨A,by simp[aaw],V,h,λ_ _ _=>w8,λ_ _ _=>w8⟩
 ·unfold aaw;dsimp only;split
  ·rename_i d;rw[Z1]at d;have hs:=aB0.mp d.2 A e;obtain⟨W,g,e1,e2,_,e3⟩:=Lj h hs;refine⟨_,j6 _,W,g,λi hi f=>?_,λk o j=>?_⟩;·obtain⟨a,b,n,h2,h3⟩:=e3 i (i,0) (auC (by rw[amD base lv (m::l) (aew base lv B B) w8];exact hi));grind
   grind [ajE,amC,aew,JA,h.lρ]
  ·split
   ·rename_i d;rw[Z1,Z1,w9]at d;have hs:=aB0.mp d.2.2 A e;obtain⟨W,g,e1,e2,_,e3⟩:=Lj h hs;refine⟨_,j6 _,W,g,λi hi f=>?_,λk o j=>?_⟩;·obtain⟨a,b,n,h2,h3⟩:=e3 i (i,0) (aki hi (by omega));grind
    grind [ajE,aqj,h.lρ]
   grind
def aqZ(h:G PK O0 V A E Y){k:KC}{base:Ab}{lv:R T}{l:R Ab}(b:A∈l):∃a∈aqY k base lv l,∃W:Vo,G PK O0 W a E Y/\(∀i,i<base.nx->i<A.nx->W.ν[i]?=V.ν[i]?)/\∀k,k<z base.X->k<z A.X->W.ρ[k]?=V.ρ[k]?:=by
 unfold aqY;split;·grind
 ·exact akB h b
def Rk(PK:PkI)(O0:Frm)(V:Vo)(A:Ab)(o:zM)(f:P (XE×As×St)):Prop:=∃x c d b a,(x,b)∈o/\f=J (x,c,d)/\G PK O0 a b c d/\(∀i,i<A.nx->a.ν[i]?=V.ν[i]?)/\∀k,k<z A.X->a.ρ[k]?=V.ρ[k]?
def axx{V V':Vo}(h:V.toVal.le V'.toVal)(g:G PK O0 V A E Y):∀i,i<A.nx->V'.ν[i]?=V.ν[i]?:=λi hi=>by grind [Val.le,G]
def axy{V V':Vo}(h:V.toVal.le V'.toVal)(g:G PK O0 V A E Y):∀k,k<z A.X->V'.ρ[k]?=V.ρ[k]?:=λi hi=>by grind [Val.le,G]
def aqA{V V':Vo}{A':Ab}{a:As}{b:St}(g:G PK O0 V A E Y)(g':G PK O0 V' A' a b)(h:∀i,i<z A.X->V'.ρ[i]?=V.ρ[i]?):z A.X<=z A'.X:=by grind [G]
def arD{V V':Vo}{A':Ab}{a:As}{b:St}(g:G PK O0 V A E Y)(g':G PK O0 V' A' a b)(h:∀i,i<A.nx->V'.ν[i]?=V.ν[i]?):A.nx<=A'.nx:=by grind [G]
def auF {m:List Nat} {run:Ab->Option zM} {body:IC} (F:∀(H:Ab) (o:zM),run H=J o->∀(V:Vo) (E:As) (Y:St),G PK O0 V H E Y->Rk PK O0 V H o (body E Y))
  {o':zM} (t:ajR m run A=J o') (h:G PK O0 V A E Y):Rk PK O0 V A o' (Ey (λe O=>body (keepA m e) O) E Y):=by
 unfold ajR at t;dsimp only at t;split at t;·cases t
 ·rename_i H hH;clear hH;split at t;·cases t
  ·rename_i o ho;split at t
   ·rename_i hc;simp only[Z1,w9]at hc;obtain⟨⟨⟨⟨c1,aa⟩,c2⟩,c3⟩,D⟩:=hc;cases t;have af:(A.au m).nx=A.nx:=w8;have ad:(A.au m).X.length=z A.X:=w8;have B:∃f:Vo->Nat,∀(W j q:Vo) (N:Ab) (v:As) (w:St),(∀i,i<H.nx->j.ν[i]?=W.ν[i]?)->N∈(Ih o).map (·.au m)->G PK O0 j N v w->(∀(i:Nat) (p:Nat×Int),(fit (A.au m).nx (A.au m).X.length H N).1[i]?=J p->∃a b:Nat,j.ν[p.1]?=J a/\q.ν[i]?=J b/\(b:Int)=a+p.2)->(∀i,i<A.nx->q.ν[i]?=W.ν[i]?)->f q<f W:=by
     simp only[aE7]at D;rcases D with D|D;·simp_all
     ·obtain⟨x,hx,K⟩:=aJ7.mp D;simp only[Z1,aE7,w9]at K;obtain⟨hx1,hx2⟩:=K;have T:x<H.nx:=aG6.mp hx;rcases hx2 with hx2|hx2
      ·obtain⟨s,hs,S⟩:=aJ7.mp hx2;have ah:s<A.nx:=aG6.mp hs;refine⟨λW=>(W.ν[s]?.getD 0)-(W.ν[x]?.getD 0),λW j q N v w e1 C P e2 e3=>?_⟩;have c:=aB0.mp S N C;unfold awi at c;split at c;·rename_i i d hid;simp only[Z1,beq_iff_eq,w9]at c;obtain⟨⟨⟨rfl,hd⟩,_⟩,Q⟩:=c;obtain⟨a,b,q1,q2,q3⟩:=e2 _ _ hid;have ab:j.ν[s]?=W.ν[s]?:=e1 s (by omega);have ac:j.ν[i]?=W.ν[i]?:=e1 i T;obtain⟨ns,R⟩:∃ns,j.ν[s]?=J ns:=(by grind);have h2:=JB P.ab P.aa Q q1 R;grind
       ·cases c
      ·refine⟨λW=>W.ν[x]?.getD 0,λW j q N v w e1 C P e2 e3=>?_⟩;have c:=aB0.mp hx2 N C;unfold lowers at c;grind
    obtain⟨f,hf⟩:=B;have u:∀(M:Nat) (W:Vo) (E:As) (Y:St),f W<M->G PK O0 W H (keepA m E) Y->(∀i,i<A.nx->W.ν[i]?=V.ν[i]?)->(∀k,k<z A.X->W.ρ[k]?=V.ρ[k]?)->Rk PK O0 V A (others o) (Ey (λe O=>body (keepA m e) O) E Y):=by
     intro M
     induction M with
     |zero=>intro W E Y X;omega
     |succ M ih=>
      intro W E Y X g hb n;obtain⟨x,v,w,L,j,r1,r2,r3,r4,r5⟩:=F H o ho W _ _ g;rw[GM];rw[r2];cases x with
      |dq i=>exact⟨_,v,w,L,j,yE r1 (by simp),w8,r3,λi hi=>by rw[r4 i (by omega),hb i hi],λk y=>by rw[r5 k (by omega),n k y]⟩|ea=>exact⟨_,v,w,L,j,yE r1 (by simp),w8,r3,λi hi=>by rw[r4 i (by omega),hb i hi],λk y=>by rw[r5 k (by omega),n k y]⟩
      |du=>
       dsimp only;have C:L.au m∈(Ih o).map (·.au m):=aE8.mpr ⟨L,Dq r1,w8⟩;have I:=aB0.mp c3 _ C;have Z:=r3.au m;obtain⟨q,g',e1,e2,_,e3⟩:=Lj Z I;have l:∀i,i<A.nx->q.ν[i]?=W.ν[i]?:=λi hi=>by obtain⟨a,b,q1,q2,q3⟩:=e3 i (i,0) (aki (nb:=(A.au m).nx) hi (by omega));rw[q2,<-r4 i (by omega),q1];congr 1;dsimp only at q3;omega
       exact ih q v w (by have:=hf W j q _ _ _ r4 C Z e3 l;omega) g' (λi hi=>by rw[l i hi,hb i hi]) (λk y=>by rw[e2,ajE (aqj (nb:=(A.au m).nx) (hb:=(A.au m).X.length) y (by omega)) (by grind [G]),r5 k (by omega),n k y])
    obtain⟨W,g,e1,e2,_,e3⟩:=Lj (h.au m) c2;refine u (f W+1) W E Y (by omega) g (λi hi=>?_) (λk y=>?_);·obtain⟨a,b,q1,q2,q3⟩:=e3 i (i,0) (aki (nb:=(A.au m).nx) hi (by omega));rw[q2,q1];congr 1;dsimp only at q3;omega
    grind [ajE,aqj,h.lρ]
   ·cases t
def atu{m:R T}{run:Ab->P zM}{body:IC}(c:∀(H:Ab) (o:zM),run H=J o->∀(V:Vo) (E:As) (Y:St),G PK O0 V H E Y->Rk PK O0 V H o (body E Y)):∀(n:T) {V:Vo} {A:Ab} {E:As} {Y:St} {g:zM},alO m run n A=J g->G PK O0 V A E Y->Rk PK O0 V A g (Ey (λe O=>body (keepA m e) O) E Y)
 |0,V,A,E,Y,g,d,h=>by cases d
 |n+1,V,A,E,Y,g,d,h=>by
  unfold alO at d;split at d;·cases d
  ·rename_i o D;obtain⟨a,b,C,h2,rfl⟩:=Yr d;cases C;obtain⟨x,q,t,j,s,r1,r2,r3,r4,r5⟩:=c _ o D V _ _ (h.au m);rw[GM,r2];cases x with|dq i=>exact⟨_,q,t,j,s,aG1 _ (yE r1 (by simp)),w8,r3,r4,r5⟩|ea=>exact⟨_,q,t,j,s,aG1 _ (yE r1 (by simp)),w8,r3,r4,r5⟩|du=>dsimp only;obtain⟨z,F,f⟩:=Yg h2 j (Dq r1);obtain⟨x2,w,B,v,y,s1,s2,s3,s4,s5⟩:=atu c n F r3;have l:=arD (h.au m) r3 r4;have p:=aqA (h.au m) r3 r5;exact⟨x2,w,B,v,y,aH1 _ (f _ s1),s2,s3,λi hi=>by rw[s4 i (aG2 hi l),r4 i hi],λk u=>by rw[s5 k (aG2 u p),r5 k u]⟩
def apq(hg:LY C X)(M:VC C X)(s:JU C X PK O0){n:Nat}:∀(k:KC) (lv:List Nat) (A:Ab) (o:zM),abK X n k lv A=J o->∀(V:Vo) (E:As) (Y:St),G PK O0 V A E Y->Rk PK O0 V A o (gu C (ai C) n k E Y):=by
 intro k
 induction k with
 |eI=>intro lv A o e V E Y h;cases e;exact⟨.du,E,Y,A,V,by simp,w8,h,λ_ _=>w8,λ_ _=>w8⟩|eC=>intro lv A o e V E Y h;cases e|dq m id=>intro lv A o e V E Y h;cases e;exact⟨.dq id,_,Y,_,V,by simp,w8,h.au m,λ_ _=>w8,λ_ _=>w8⟩|ea m=>intro lv A o e V E Y h;cases e;exact⟨.ea,_,Y,_,V,by simp,w8,h.au m,λ_ _=>w8,λ_ _=>w8⟩|fg b Q=>intro lv A o e V E Y h;exact Q lv A o e V E Y h|fu l=>intro lv A o e V E Y h;simp only[abK,aB5]at e;obtain⟨Z,has,rfl⟩:=e;obtain⟨F,L,S,R,T,r1,c1,g1⟩:=ab2 hg M s l h has;refine⟨.du,R,T,F,S,aE8.mpr ⟨F,L,w8⟩,?_,g1,axx c1.le h,axy c1.le h⟩;unfold gu;rw[r1]
 |eZ l=>intro lv A o e V E Y h;simp only[abK,aB5]at e;obtain⟨Z,has,rfl⟩:=e;obtain⟨F,L,S,R,T,r1,c1,g1⟩:=ab2 hg M s l h has;refine⟨.du,R,T,F,S,aE8.mpr ⟨F,L,w8⟩,?_,g1,axx c1.le h,axy c1.le h⟩;unfold gu;rw[r1]
 |eO l=>
  intro lv A o e V E Y h;simp only[abK]at e;split at e
  ·rename_i Z has;split at e
   ·rename_i hc;rw[Z1]at hc;cases e;obtain⟨p,hp,S,R,T,rs,ss,r1,ac,g1,r2,_,_,_,fin⟩:=alL (N:=A.X.length) hg M s l (Z6 _) h has;have aw:fQ C n ss l rs=eT:=by
     have:=fin [] w8 (λc z hz=>by simp at hz) (λo ho c au=>by
      grind) (λq hq=>by
      have h1:=aB0.mp hc.1 p hp;unfold aiT at h1;grind)
     simpa using this
    refine⟨.du,R,T,p.1,S,aE8.mpr ⟨p,hp,w8⟩,?_,g1,axx ac h,axy ac h⟩;unfold gu zU;grind
   ·cases e
  ·cases e
 |eA a b O P=>
  intro lv A o e V E Y h;simp only[abK]at e;split at e;·cases e
  ·rename_i o1 v;split at e
   ·rename_i o2 ad;cases e;obtain⟨x,B,D,I,K,r1,r2,r3,r4,r5⟩:=O _ _ _ v V E Y h;cases x with
    |dq i=>refine⟨_,B,D,I,K,aG1 _ (yE r1 (by simp)),?_,r3,r4,r5⟩;unfold gu;rw[r2]|ea=>refine⟨_,B,D,I,K,aG1 _ (yE r1 (by simp)),?_,r3,r4,r5⟩;unfold gu;rw[r2]
    |du=>
     obtain⟨d,hJ,W,gW,eW,ab⟩:=aqZ (k:=a) (base:=A) (lv:=Ol b++lv) r3 (Dq r1);obtain⟨oJ,af,t⟩:=Yg ad d hJ;have al:=arD h r3 r4;have aa:∀i,i<A.nx->W.ν[i]?=V.ν[i]?:=λi hi=>by rw[eW i hi (by omega),r4 i hi]
     have aq:=arD h gW aa;have ak:=aqA h r3 r5;have u:∀k,k<A.X.length->W.ρ[k]?=V.ρ[k]?:=λk e=>by rw[ab k e (by omega),r5 k e]
     have an:=aqA h gW u;obtain⟨x2,E2,Y2,A2,V2,s1,s2,s3,s4,s5⟩:=P _ _ _ af W B D gW;refine⟨x2,E2,Y2,A2,V2,aH1 _ (t _ s1),?_,s3,λi hi=>by rw[s4 i (by omega),aa i hi],λk e=>by rw[s5 k (by omega),u k e]⟩;unfold gu;rw[r2];exact s2
   ·cases e
 |eJ c a b O P=>
  intro lv A o e V E Y h;simp only[abK]at e;split at e;·cases e
  ·rename_i ws ah;obtain⟨bb,F,hm,he,g',j⟩:=ahh hg h ah;obtain⟨x,hx,t⟩:=aej (f:=λw:Bool×Ab=>if w.1 then abK X n a lv w.2 else abK X n b lv w.2) e _ hm;cases bb with
   |true=>obtain⟨y,B,D,I,K,r1,r2,r3,r4,r5⟩:=O lv F x hx V E Y g';refine⟨y,B,D,I,K,t _ r1,?_,r3,λi hi=>r4 i (by rw[j.nx];exact hi),λk e=>r5 k (by rw[j.X];exact e)⟩;unfold gu;rw[he];exact r2
   |false=>obtain⟨y,B,D,I,K,r1,r2,r3,r4,r5⟩:=P lv F x (by simpa using hx) V E Y g';refine⟨y,B,D,I,K,t _ r1,?_,r3,λi hi=>r4 i (by rw[j.nx];exact hi),λk e=>r5 k (by rw[j.X];exact e)⟩;unfold gu;rw[he];exact r2
 |eG id b Q=>
  intro lv A o e V E Y h;simp only[abK]at e;split at e;·rename_i o1 v;cases e;obtain⟨x,B,D,I,K,r1,r2,r3,r4,r5⟩:=Q _ _ _ v V E Y h;refine⟨outOf id x,B,D,I,K,aE8.mpr ⟨_,r1,w8⟩,?_,r3,r4,r5⟩;unfold gu;rw[r2];cases x with|dq i=>rfl|ea=>rfl|du=>rfl
  ·cases e
 |fL m b Q=>
  intro lv A o e V E Y h;have e:afF m (λH=>abK X n b m H) A=J o:=e;unfold afF at e;split at e;·rename_i o1 v;cases e;exact auF (body:=gu C (ai C) n b) (λH o ho V E Y g=>Q m H o ho V E Y g) v h
  ·exact atu (body:=gu C (ai C) n b) (λH o ho V E Y g=>Q m H o ho V E Y g) 6 e h
end
theorem UY:∀(fs:R T) (O:St),z (i O fs)=z O
 |[],O=>w8
 |o::fs,O=>by
  unfold i;split;·rw[UY fs];simp
  ·exact UY fs O
def Xe{O O1:St}{azs a:LA}(h:L eF azs O=J (a,O1)):z O1=z O:=by have h:(match eX O 12 azs with|J (l,fs)=>J (l,i O fs)|U=>U)=J (a,O1):=h;grind [UY]
def adn{l:LA}(h:below 0 (dG l)=eT):ae 0 l=eT:=by
 unfold dG at h;split at h;·rw[ae,h];rfl
 ·rw[below]at h;exact h
def ays{V:p}{l:R Sh}{w:LA}(h:Mt V l w):M V (ayr l) (dG w):=by
 cases h with
 |db=>exact .de _ _ .db
 |cV s t v b a h2=>
  cases h2 with
  |db=>exact a|cV d e f c h3 h4=>exact .de _ _ (.cV _ _ _ _ a (.cV _ _ _ _ h3 h4))
def PL{V:p}:∀{l:R Sh} {w:LA},Mt V l w->∀{i t:T} {s:Sh},la t (TM i l)=J s->M V s (Z0 (oH i w) t)
 |_,_,.db,i,t,s,h=>by cases h
 |_,_,.cV s0 l v w a h2,i,t,s,h=>by
  simp only[TM,la]at h;simp only[oH,Z0];split at h;·grind
  ·rename_i hi;rw[K0 hi];exact PL h2 h
section
variable{C:Ctx}{X:Cfg}{PK:PkI}{O0:Frm}{V:Vo}{A:Ab}{E:As}{Y:St}
def aaC(h:G PK O0 V A E Y):∀{rs:R XR} {l:R Sh},rsS A rs=J l->∃vs,aZ E Y rs=J vs/\Mt V.toVal l vs
 |[],l,hr=>by cases hr;exact⟨[],w8,.db⟩
 |.fT t::rs,l,hr=>by
  simp only[rsS]at hr;split at hr;·rename_i s q hs a;cases hr;obtain⟨vs,b,h2⟩:=aaC h a;grind [aZ,G,Mt]
  ·cases hr
 |.eN t ag j::rs,l,hr=>by
  simp only[rsS]at hr;split at hr
  ·rename_i k off q hs a;obtain⟨vs,b,h2⟩:=aaC h a;split at hr
   ·rename_i c d;split at hr;·rename_i s f;cases hr;obtain⟨o,g,e⟩:=Xh (h.aR t _ hs);obtain⟨i,cs,q1,q2,q3,q4⟩:=h.X _ _ d;grind [Xr,aZ,Mt]
    ·cases hr
   ·cases hr
  ·cases hr
def anb (u:LY C X) (m:VC C X) (hs:TK C X PK) {K:KF} {O O1:St} {azs c:LA} (B:L eF azs O=J (c,O1)) (p:z c<=K.W) {F:Frm} (h:G PK F V A (oH 0 c) O1) {o:zM} (w:abK X K.W K.ap [] A=J o) {res:Sh} (i:cl res=eT) (he:endOk K res o=eT):
  ∃v vs x A' V' e b,(x,A')∈o/\GK C K eF azs O=J (v,Q (z O) vs b)/\M V0 res v/\ae 0 vs=eT/\G PK F V' A' e b/\∀k,k<z A.X->V'.ρ[k]?=V.ρ[k]?:=by
 obtain⟨x,e,n,A',V',r1,r2,g,_,t⟩:=apq u m (ahE hs) K.ap [] A o w V _ _ h;have a:=aB0.mp he _ r1;have fin:(match rsS A' K.an with
  |J l=>match OW A'.X l with|J l=>sub A'.aa [] [] res (ayr l)|U=>eF
  |U=>eF)=eT->∃v vs b,(match aZ e n K.an with|U=>U|J vs=>match L eF vs n with|U=>U|J (vs,s)=>J (dG vs,Q (z O) vs s))=J (v,Q (z O) vs b)/\M V0 res v/\ae 0 vs=eT/\G PK F V' A' e b:=by
  intro a;split at a
  ·rename_i l y;split at a;·rename_i D j;obtain⟨vs,e1,e2⟩:=aaC g y;obtain⟨d,b,e3,e4,f,_⟩:=amq g e2 j;have q:M V0 res (dG d):=YT (Sb.gE f.ab f.aa) (ays e4) a;refine⟨dG d,d,b,?_,q,adn (q.nv i).cl,f⟩;grind
   ·cases a
  ·cases a
 unfold GK;grind
def ano{n:T}{vs:LA}{Y:St}(hb:ae 0 vs=eT)(a:(Y.take n).all (AO.below n)=eT)(b:n<=z Y):Q n vs Y=Y.take n:=by
 unfold Q;split;·grind
 ·rw[a,zk (a97 n) hb];rfl
def adU{O1 Y:St}(a:z O1<=z Y)(h2:∀i,i<z O1->Y[i]?=O1[i]?):Y.take (z O1)=O1:=by apply aD6;grind
def ast(p:LY C X)(f:VC C X)(hs:TK C X PK){K:KF}{O O1:St}{azs a:LA}(c:Ok O1)(g:L eF azs O=J (a,O1))(b:z a<=K.W)(h:G PK ⟨O1,[]⟩ V A (oH 0 a) O1){o:zM}(q:abK X K.W K.ap [] A=J o){res:Sh}(e:cl res=eT)(he:endOk K res o=eT):∃v,GK C K eF azs O=J (v,O1)/\M V0 res v:=by obtain⟨v,vs,x,t,w,u,k,_,f1,l,m,d,_⟩:=anb p f hs g b h q e he;have s:z O1=z O:=Xe g;have j:k.take (z O1)=O1:=adU d.b3.1 (λi hi=>d.b3.2 i hi (by simp));refine⟨v,?_,l⟩;rw[f1,<-s,ano (n:=z O1) m (by rw[j];exact c) d.b3.1,j]
def G.gk(PK:PkI){O1:St}(h:Ok O1)(E:As):G PK ⟨O1,[]⟩ ⟨V0,[]⟩ {aR:=[],X:=[],nx:=1,aa:=[]} E O1:=
 ⟨λt s g=>(by cases g),w8,w8,w8,w8,λf hf=>(by simp at hf),λk x d=>(by simp at d),λk i a b _ c=>(by simp at c),λk a c=>(by simp at c),λk o e=>(by simp[V0]at e),⟨Z6 _,λ_ _ _=>w8⟩,h⟩
theorem afE(hg:LY C X)(af:VC C X)(hs:TK C X PK){f:FuncId}{K:KF}(hK:Has C f K){m:Sm}(h:abF X K m=eT):bZ C PK f m:=by
 cases m with
 |dp args res=>
  simp only[abF,Z1,w9]at h;obtain⟨⟨⟨h1,h2⟩,h3⟩,h4⟩:=h;split at h4;·rename_i o ho;intro O ak D u hok hh c hm;rw[hK.cG];obtain⟨V1,o1,T,m1⟩:=MR (G.gk PK c (oH 0 D)) hm;refine ast hg af hs c hh (by rw[hm.dt];exact h3) (T.ha (l:=TM 0 (MQ {aR:=[],X:=[],nx:=1,aa:=[]} args).1) λt s I=>PL m1 I) ho h2 h4
  ·cases h4
 |ro l args res=>
  simp only[abF,Z1,w9]at h;obtain⟨⟨⟨⟨h0,h1⟩,h2⟩,h3⟩,h4⟩:=h;split at h4
  ·rename_i o ho;intro O q ak D u cs fz hok hh c al hl hm;rw[hK.cG];obtain⟨V1,o1,T,m1⟩:=MS (G.gk PK c (oH 0 (.da q 0::D))) hl;have hq:q<u.length:=(a00.mp al).1;have ad:V1.toVal.le (⟨V1.ν,[J q]⟩:Val):=⟨λ_ _ hi=>hi,λi a hi=>by rw[o1.ρ]at hi;simp[V0]at hi⟩;have g2:G PK ⟨u,[]⟩ ⟨⟨V1.ν,[J q]⟩,[[]]⟩ {(j0 {aR:=[],X:=[],nx:=1,aa:=[]} l).2 with X:=[.ro (j0 {aR:=[],X:=[],nx:=1,aa:=[]} l).1]} (oH 0 (.da q 0::D)) u:=by
    refine⟨λt s I=>(T.aR t s I).D ad,T.lν,w8,w8,T.ab,λf hf=>(T.aa f hf).D ad,λk x g=>?_,λk k' a b aw E hb i hi=>?_,λk a E i hi=>?_,λk o' ax=>?_,T.b3,T.ok⟩;·cases k with|zero=>simp at g;subst g;exact⟨q,cs,fz,w8,w8,⟨hq,by simp⟩,al,m1.D ad⟩|succ k=>simp at g
    ·grind
    ·grind
    grind
   obtain⟨V3,o3,g3,m3⟩:=MR g2 (hm.D (adM g2.ab));refine ast hg af hs c hh (by rw[a94,hm.dt];exact h3) (g3.ha (l:=(0,.da 0 0)::TM 1 (MQ {(j0 {aR:=[],X:=[],nx:=1,aa:=[]} l).2 with X:=[.ro (j0 {aR:=[],X:=[],nx:=1,aa:=[]} l).1]} args).1) λt s I=>?_) ho h2 h4;simp only[la]at I;simp only[oH,Z0];split at I;·rename_i hi;cases I;rw[if_pos hi];exact .da _ _ q (o3.le.ρ 0 (J q) w8)
   ·rename_i hi;rw[K0 hi];exact PL m3 I
  ·cases h4
 |iB args=>cases h|pk args res=>cases h
 |eK H args res=>
  simp only[abF,Z1,w9]at h;obtain⟨⟨⟨h1,h2⟩,h3⟩,h4⟩:=h;split at h4
  ·rename_i o ho;intro O ak D u hok hh c F W E0 w hm;rw[hK.cG];have aa:∀(k:Nat) x,H[k]?=J x->okH x=eT:=λk x hx=>aB0.mp h1 x (a06 hx);have gS:G PK ⟨u,W.ah.flatten⟩ W (Z3 H) (oH 0 D) u:=by
    refine⟨λt s I=>(by cases I),w.lν,w.lρ,w.lo,w.ab,w.aa,λk x g=>?_,w.ez,λk a E i hi=>⟨.inr (List.mem_flatten.mpr ⟨a,a06 E,hi⟩),(w.dg k a E i hi).2⟩,w.ρl,⟨Z6 _,λ_ _ _=>w8⟩,w.ok⟩;have h5:=w.X k x g;have h6:=aa k x g;cases x with
    |cP l=>exact h5|dz v=>exact h5|em=>exact h5|ro l=>cases h6|hY a e=>cases h6|fX a e=>cases h6|pk=>cases h6
   obtain⟨V1,o1,T,l1,m1⟩:=Xx (k0:=0) (m:=H.map λ_=>eT) gS (H:=H) (λj x hj=>by rw[aC4];exact gS.X j x hj);have g2:=T.hT (H:=(lF (Z3 H) (H.map λ_=>eT) H).1) (by rw[l1,o1.X];rfl) (λk x g=>by grind);obtain⟨V3,o3,g3,m3⟩:=MR g2 (hm.D o1.le);simp only[aq9,Z1]at h4;obtain⟨v,vs,x,A',V',E',Y1,r1,f1,f2,f3,f4,f5⟩:=anb hg af hs hh (by rw[hm.dt];exact h3) (g3.ha (l:=TM 0 (MQ {(lF (Z3 H) (H.map λ_=>eT) H).2 with X:=(lF (Z3 H) (H.map λ_=>eT) H).1} args).1) λt s I=>PL m3 I) ho h2 h4.1;obtain⟨W2,gE,w1,w2,w3,_⟩:=Lj f4 (aB0.mp h4.2 _ r1);have hn:u.length=O.length:=Xe hh;have N:(MQ {(lF (Z3 H) (H.map λ_=>eT) H).2 with X:=(lF (Z3 H) (H.map λ_=>eT) H).1} args).2.X.length=H.length:=by rw[o3.X];exact l1
   have V:∀k,k<H.length->W2.ρ[k]?=W.ρ[k]?:=λk g=>by
    have h6:k<V'.ρ.length:=by
     have h7:=f5 k (by show k<_;rw[N];exact g);rw[o3.ρ]at h7;have h8:(V1.ρ)[k]?=W.ρ[k]?:=(by rw[o1.ρ]);have h9:k<W.ρ.length:=by rw[w.lρ];exact g
     grind
    rw[w2,ajE (X1 g) h6,f5 k (by show k<_;rw[N];exact g),o3.ρ];show V1.ρ[k]?=_;rw[o1.ρ]
   have ab:W2.toVal.le W.toVal:=by
    refine⟨λi a E=>?_,λi a E=>?_⟩;·have h0:=gE.ab;grind [gE.lν,w.ab,Z3]
    ·have:=(a00.mp E).1;rw[gE.lρ]at this;rw[<-V i this];exact E
   have hN:∀(k o:Nat),W2.ρ[k]?=J (J o)->o<u.length:=λk o g=>w.ρl k o (ab.ρ _ _ g);have aq:u.length<=Y1.length:=f4.b3.1;have Z:(Y1.take u.length).all (AO.below u.length)=eT:=by
    rw[aB0];intro z hz;obtain⟨i,hi,rfl⟩:=aL5.mp hz;have ac:i<u.length:=by simp at hi;omega
    have Q:Y1[i]?=J ((Y1.take u.length)[i]):=(by grind);by_cases hw:i∈W.ah.flatten
    ·obtain⟨a,E,P⟩:=List.mem_flatten.mp hw;obtain⟨k,g,rfl⟩:=aL5.mp E;have R:k<H.length:=by rw[w.lo]at g;exact g
     have hx:H[k]?=J H[k]:=Z2 R;have d:=w.X k _ hx;have A:=gE.X k _ hx;have au:W.ah[k]?=J W.ah[k]:=Z2 g;have h6:=aa k _ hx;revert d A h6;generalize H[k]=y;intro d A h6;cases y with
     |cP l=>obtain⟨q,cs,p1,p2,p3,p4⟩:=d;obtain⟨q',L,n,ah,Y,B⟩:=A;rw[V k R,p1]at n;cases n;rw[au]at p2;simp only[a07]at p2;rw[p2]at P;simp at P;subst P;rw[Y]at Q;rw[<-aF9 Q];exact Ms.cj hN B
     |dz v=>obtain⟨q,cs,p1,p2,p3,p4⟩:=d;obtain⟨q',L,n,ah,Y,B⟩:=A;grind [abp,M.aL]
     |em=>have d:W.ah[k]?=J []:=d;grind|ro l=>cases h6|hY a e=>cases h6|fX a e=>cases h6|pk=>cases h6
    ·have h7:=f4.b3.2 i ac hw;rw[Q]at h7;exact aB0.mp c _ (a06 h7.symm)
   have S:(Y1.take u.length).length=u.length:=by simp;omega
   refine⟨v,Y1.take u.length,?_,f2,by unfold Ok;rw[S];exact Z,S,λi hi=>?_,λk y hy=>?_⟩;·rw[f1,<-hn,ano f3 Z aq]
   ·rw[aE3];split;·rename_i ac;refine f4.b3.2 i ac λhw=>?_;obtain⟨a,E,P⟩:=List.mem_flatten.mp hw;obtain⟨k,g,rfl⟩:=aL5.mp E;exact hi k _ (Z2 g) P
    grind
   ·have R:k<H.length:=(a00.mp hy).1;have d:=w.X k _ hy;have A:=gE.X k _ hy;have h6:=aa k _ hy;cases y with
    |cP l=>obtain⟨q,cs,p1,p2,p3,p4⟩:=d;obtain⟨q',L,n,ah,Y,B⟩:=A;rw[V k R,p1]at n;cases n;refine⟨q,L,p1,p2,?_,B.D ab⟩;grind
    |dz v=>obtain⟨q,cs,p1,p2,p3,p4⟩:=d;obtain⟨q',L,n,ah,Y,B⟩:=A;rw[V k R,p1]at n;cases n;refine⟨q,L,p1,p2,?_,λp hp=>⟨(B p hp).1,(B p hp).2.D ab⟩⟩;grind
    |em=>exact d|ro l=>cases h6|hY a e=>cases h6|fX a e=>cases h6|pk=>cases h6
  ·cases h4
def Cfg.hu(X:q)(f:n)(m:Sm):q:={X with sm:=λg=>if g=f then m::X.sm g else X.sm g}
def ayh(hs:TK C X PK){f:n}{m:Sm}(h:bZ C PK f m):TK C (X.hu f m) PK:=λg q a=>by
 by_cases b:g=f
 ·have a:q∈(if g=f then m::X.sm g else X.sm g):=a;rw[if_pos b]at a;rcases aC8.mp a with rfl|a;·exact b▸h
  ·exact hs g q a
 ·have a:q∈(if g=f then m::X.sm g else X.sm g):=a;rw[K0 b]at a;exact hs g q a
end
def errs:R F:=[10,3]
def awY(e:F):LA:=[.cQ .u8 0,.cQ r 0,.cU [],.cY,.cY,.eE,.cQ r e]
def cO:PkI where
 ok Y o ms:=(∃(j:JV) (m:T) (es:R (AV×AV)) (e:F),ms=[m]/\o≠m/\Y[o]?=J (.cP (j.B++[.dz m,.cQ r e]) FZ)/\Y[m]?=J (.dz es)/\∀p∈es,(∃s,p.1=.cU s)/\∃n,p.2=.cQ r n)\/(∃e∈errs,ms=[]/\Y[o]?=J (.cP (awY e) FZ))
 fr:=by grind
def HA:R HO:=[.cP [.jv,.dz 1,.cQ r],.dz (.cQ r)]
def HE(e:F):R HO:=[.cP [.ic .u8 0,.ic r 0,.sc [],.cY,.cY,.gh,.ic r e]]
section
variable{C:Ctx}{X:Cfg}{O0:Frm}{V:Vo}{A:Ab}{E:As}{Y:St}
def awZ{V:p}(e:F):Ms V [.ic .u8 0,.ic r 0,.sc [],.cY,.cY,.gh,.ic r e] (awY e):=
 .ef _ _ _ _ w8 (.ic _ _) (.ef _ _ _ _ w8 (.ic _ _) (.ef _ _ _ _ w8 (.sc _) (.ef _ _ _ _ w8 .cY (.ef _ _ _ _ w8 .cY (.ef _ _ _ _ w8 .gh (.ef _ _ _ _ w8 (.ic _ _) .db))))))
def alS{V:p}{e:F}{cs:LA}(h:Ms V [.ic .u8 0,.ic r 0,.sc [],.cY,.cY,.gh,.ic r e] cs):cs=awY e:=by obtain⟨v1,r1,rfl,a,h⟩:=h.c1 w8;obtain⟨v2,r2,rfl,b,h⟩:=h.c1 w8;obtain⟨v3,r3,rfl,c,h⟩:=h.c1 w8;obtain⟨v4,r4,rfl,d,h⟩:=h.c1 w8;obtain⟨v5,r5,rfl,f,h⟩:=h.c1 w8;obtain⟨v6,j,rfl,g,h⟩:=h.c1 w8;obtain⟨v7,k,rfl,i,h⟩:=h.c1 w8;cases h;cases a;cases b;cases c;cases d;cases f;cases g;cases i;rfl
def aia{V:p}{cs:LA}(h:Ms V [.jv,.dz 1,.cQ r] cs):∃(j:JV) (m:T) (e:F),cs=j.B++[.dz m,.cQ r e]/\V.ρ[1]?=J (J m):=by
 cases h with
 |ef _ _ _ _ h=>cases h|jv _ j b h=>obtain⟨v1,r1,rfl,c,h⟩:=h.c1 w8;obtain⟨v2,r2,rfl,d,h⟩:=h.c1 w8;cases h;obtain⟨m,a,rfl⟩:=aqC c;cases d;exact⟨j,m,_,w8,a⟩
def auu{V:p}(j:JV){m:T}(e:F)(h:V.ρ[1]?=J (J m)):Ms V [.jv,.dz 1,.cQ r] (j.B++[.dz m,.cQ r e]):=
 .jv _ _ _ (.ef _ _ _ _ w8 (.dz _ _ h) (.ef _ _ _ _ w8 (.cQ _ _) .db))
theorem azx{f:FuncId}{args:List Sh}{res:Sh}(h1:bZ C cO f (.eK HA (.da 0 0::args) res))(h2:∀e∈errs,bZ C cO f (.eK (HE e) (.da 0 0::args) res)):bZ C cO f (.pk args res):=by
 intro O o ms Y X l hok S c n T;rcases n with⟨j,m,es,e,rfl,N,A,y,H⟩|⟨e,R,rfl,A⟩
 ·have P:=(a00.mp A).1;have aa:=(a00.mp y).1;have h:V0.le (⟨[0],[J o,J m]⟩:Val):=adM w8;have g:G cO ⟨l,[o,m]⟩ ⟨⟨[0],[J o,J m]⟩,[[o],[m]]⟩ (Z3 HA) [] l:=by
   refine⟨λt s Q=>(by cases Q),w8,w8,w8,w8,λf hf=>(by simp[Z3]at hf),λk x d=>?_,λk k' a b L u hb i hi I=>?_,λk a u i hi=>?_,λk q d=>?_,⟨Z6 _,λ_ _ _=>w8⟩,c⟩
   ·rcases k with _|_|k;·simp[Z3,HA]at d;subst d;exact⟨o,_,w8,w8,A,auu j e w8⟩
    ·simp[Z3,HA]at d;subst d;exact⟨m,es,w8,w8,y,λp n=>⟨(H p n).1,by grind [M]⟩⟩
    ·simp[Z3,HA]at d
   ·grind
   ·grind
   grind
  obtain⟨v,E,e1,e2,e3,e4,e5,D⟩:=h1 O _ _ l hok S c _ _ _ g (.cV _ _ _ _ (.da _ _ o w8) (T.D h));refine⟨v,E,e1,e2,e3,e4,λi hi=>e5 i λk a u K=>?_,.inl ?_⟩;·grind
  ·obtain⟨o',cs,q1,q2,q3,q4⟩:=D 0 _ w8;obtain⟨m',F,V,p2,p3,W⟩:=D 1 _ w8;simp at q1 V;subst q1 V;obtain⟨j',ab,Z,rfl,B⟩:=aia q4;simp at B;subst B;exact⟨j',_,F,Z,w8,N,q3,p3,λp n=>⟨(W p n).1,by
    have:=(W p n).2;revert this;generalize p.2=w;intro this;cases this;exact⟨_,w8⟩⟩⟩
 ·have P:=(a00.mp A).1;have h:V0.le (⟨[0],[J o]⟩:Val):=adM w8;have g:G cO ⟨l,[o]⟩ ⟨⟨[0],[J o]⟩,[[o]]⟩ (Z3 (HE e)) [] l:=by
   refine⟨λt s Q=>(by cases Q),w8,w8,w8,w8,λf hf=>(by simp[Z3]at hf),λk x d=>?_,λk k' a b L u hb i hi I=>?_,λk a u i hi=>?_,λk q d=>?_,⟨Z6 _,λ_ _ _=>w8⟩,c⟩
   ·rcases k with _|k;·simp[Z3,HE]at d;subst d;exact⟨o,_,w8,w8,A,awZ e⟩
    ·simp[Z3,HE]at d
   ·grind
   ·grind
   grind
  obtain⟨v,E,e1,e2,e3,e4,e5,D⟩:=h2 e R O _ _ l hok S c _ _ _ g (.cV _ _ _ _ (.da _ _ o w8) (T.D h));refine⟨v,E,e1,e2,e3,e4,λi hi=>e5 i λk a u K=>?_,.inr ?_⟩;·grind
  ·obtain⟨o',cs,q1,q2,q3,q4⟩:=D 0 _ w8;simp at q1;subst q1;exact⟨e,R,w8,by rw[alS q4]at q3;exact q3⟩
def awf:R Sh->P T|[]=>U|.dz k::_=>J k|_::l=>awf l
def Xi(A:Ab)(k:T):I:=match A.X[k]? with|J (.cP l)=>(match awf l with|J a=>acY (Z3 HA) A [(0,0)] [k,a]|U=>errs.any λe=>acY (Z3 (HE e)) A [(0,0)] [k])|_=>eF
def axa(K:KF)(o:zM):I:=o.all λp=>match p.1 with|.dq _=>eF|_=>match rsS p.2 K.an with|J [.da k 0]=>Xi p.2 k|_=>eF
def aih{F:Frm}(h:G cO F V A E Y)(L:F.w=[]){k o:T}(n:V.ρ[k]?=J (J o))(b:Xi A k=eT):∃ms,cO.ok Y o ms/\∀i∈o::ms,F.I<=i/\i<z Y:=by
 have v:∀(W:Vo) (H:R HO) (m:As),G cO F W (Z3 H) m Y->∀(k:T) a,W.ah[k]?=J a->∀i∈a,F.I<=i/\i<z Y:=λW H m g k a N i hi=>by grind [G]
 unfold Xi at b;split at b
 ·rename_i l O;split at b
  ·rename_i P w;obtain⟨W,g,I,j,K,_⟩:=Lj h b;obtain⟨f,cs,q1,q2,q3,q4⟩:=g.X 0 _ w8;obtain⟨q,d,C,Q,D,s⟩:=g.X 1 _ w8;rw[j]at q1;simp only[ρθ,aC9,aJ1,n,a07]at q1;have q1:J o=J f:=q1;cases q1;obtain⟨y,B,t,rfl,c⟩:=aia q4;rw[C]at c;cases c;refine⟨[q],.inl ⟨y,q,d,t,w8,λx=>?_,q3,D,λp b=>⟨(s p b).1,by
    have:=(s p b).2;grind [M]⟩⟩,λi hi=>?_⟩
   ·grind
   grind
  ·obtain⟨e,u,hs⟩:=aJ7.mp b;obtain⟨W,g,I,j,K,_⟩:=Lj h hs;obtain⟨f,cs,q1,q2,q3,q4⟩:=g.X 0 _ w8;rw[j]at q1;simp only[ρθ,aC9,aJ1,n,a07]at q1;have q1:J o=J f:=q1;cases q1;refine⟨[],.inr ⟨e,u,w8,by rw[alS q4]at q3;exact q3⟩,λi hi=>?_⟩;grind
 ·cases b
def apr(X:q)(K:KF)(args:R Sh):I:=D (z args<=K.W)&&(match abK X K.W K.ap [] (startA args)with|J o=>axa K o|U=>eF)
def axN(M:LY C X)(p:VC C X)(hs:TK C X cO){f:FuncId}{K:KF}(I:Has C f K){args:List Sh}(h:apr X K args=eT):bZ C cO f (.iB args):=by
 simp only[apr,Z1,w9]at h;obtain⟨h3,h4⟩:=h;split at h4
 ·rename_i o P;intro O F n c hok w m y;rw[I.cG];obtain⟨E,o1,H,S⟩:=MR (G.gk cO m (oH 0 n)) y;obtain⟨x,B,d,u,Y,r1,r2,g,_,_⟩:=apq M p (ahE hs) K.ap [] _ o P E _ _ (H.ha (l:=TM 0 (MQ {aR:=[],X:=[],nx:=1,aa:=[]} args).1) λt s R=>PL S R);have a:=aB0.mp h4 _ r1;have Z:z c=z O:=Xe w;have fin:(match rsS u K.an with
   |J [.da k 0]=>Xi u k|_=>eF)=eT->∃(L:St) (o:Nat) (ms:List Nat),(match aZ B d K.an with|U=>U|J vs=>match hand eF vs d with|U=>U|J (vs,D)=>J (dG vs,tidy (z O) vs D))=J (.da o 0,c++L)/\Ok (c++L)/\(∀i∈o::ms,z c<=i/\i<z (c++L))/\cO.ok (c++L) o ms:=by
   intro a;split at a
   ·rename_i k N;obtain⟨vs,e1,e2⟩:=aaC g N;cases e2 with
    |cV _ _ v b T V=>
     cases V;obtain⟨q,Q,rfl⟩:=Xh T;obtain⟨ms,W,A⟩:=aih g w8 Q a;have j:d.take (z c)=c:=adU g.b3.1 (λi hi=>g.b3.2 i hi (by simp));have e:d=c++d.drop (z c):=by
      conv=>lhs;rw[<-List.take_append_drop (z c) d,j]
     refine⟨d.drop (z c),q,ms,?_,by rw[<-e];exact g.ok,by rw[<-e];exact A,by rw[<-e];exact W⟩
     rw[e1];dsimp only;rw[show hand eF [AV.da q 0] d=J ([.da q 0],d)from w8];dsimp only;rw[qY (by
      have:¬q<z O:=by have:=(A q (by simp)).1;have h5:z c<=q:=this;omega
      simp only[ae,below,X2 this,aJ0]),<-e]
     rfl
   ·cases a
  unfold GK;rw[w];dsimp only;rw[K0 (by rw[y.dt];omega),r2];grind
 ·cases h4
def abG(X:q)(K:KF):Sm->I|.pk args res=>abF X K (.eK HA (.da 0 0::args) res)&&errs.all λe=>abF X K (.eK (HE e) (.da 0 0::args) res)|.iB args=>apr X K args|m=>abF X K m
def awR(c:LY C X)(a:VC C X)(hs:TK C X cO){f:n}{K:KF}(b:y C f K){m:Sm}(h:abG X K m=eT):bZ C cO f m:=by
 cases m with
 |pk args res=>simp only[abG,Z1]at h;grind [azx,afE]|iB args=>exact axN c a hs b h|dp args res=>exact afE c a hs b h|ro l args res=>exact afE c a hs b h|eK H args res=>exact afE c a hs b h
def ajQ(X:q):R (n×KF×Sm)->P q|[]=>J X|(f,K,m)::l=>match abG X K m with|eT=>ajQ (X.hu f m) l|eF=>U
def alM:∀{l:R (n×KF×Sm)} {X b:q},LY C X->VC C X->TK C X cO->(∀p∈l,y C p.1 p.2.1)->ajQ X l=J b->TK C b cO/\LY C b/\VC C b
 |[],X,b,c,a,hs,_,h=>by cases h;exact⟨hs,c,a⟩
 |(f,K,m)::l,X,b,c,a,hs,d,h=>by
  unfold ajQ at h;split at h;·rename_i hf;exact alM (X:=X.hu f m) c a (ayh hs (awR c a hs (d (f,K,m) (by simp)) hf)) (λp e=>d p (by simp[e])) h
  ·cases h
end
section
variable{C:Ctx}{PK:PkI}
theorem aqw{f:n}{K:KF}(h:y C f K){O O1:St}{azs a:LA}(b:L eF azs O=J (a,O1))(c:NVs a):ai C f azs O=ai C f a O1:=by rw[h.cG,h.cG];unfold GK;rw[b,c.E O1];dsimp only;rw[Xe b]
def qw{f:n}{K:KF}{args:R Sh}{res:Sh}(d:y C f K)(e:cls args=eT)(h:∀azs,Mt V0 args azs->∀O,Ok O->∃v,ai C f azs O=J (v,O)/\M V0 res v):bZ C PK f (.dp args res):=λO azs b c hok g a i=>by grind [aqw,Mt.af]
theorem aon{O:St}{d:LA->P (LA×R T)}{v:AV}{s:LU}{fs:R T}(h:cu O d v=J (.cU s,fs)):v=.cU s/\fs=[]:=by
 cases v<;>simp only[cu]at h<;>(first|(cases h;done)|skip);all_goals (repeat' split at h)<;>cases h
 all_goals exact⟨w8,w8⟩
def ao0{O O1:St}:∀{azs:LA} {ss:R LU},L eF azs O=J (ss.map .cU,O1)->azs=ss.map .cU/\O1=O:=by
 have key:∀{azs:LA} {ss:R LU} {fs:R T},bI O (eX O 11) azs=J (ss.map .cU,fs)->azs=ss.map .cU/\fs=[]:=by
  intro azs
  induction azs with
  |nil=>
   intro ss fs h;cases ss with
   |nil=>cases h;exact⟨w8,w8⟩|cons s ss=>cases h
  |cons a azs d=>
   intro ss fs h;cases b:cu O (eX O 11) a with
   |none=>grind [bI]
   |some p=>
    obtain⟨v,c⟩:=p;cases h2:bI O (eX O 11) azs with
    |none=>grind [bI]
    |some q=>
     obtain⟨w,hs⟩:=q;unfold bI at h;rw[b,h2]at h;cases ss with
     |nil=>cases h|cons s ss=>grind [aon]
 intro azs ss h;have h:(match eX O 12 azs with|J (l,fs)=>J (l,i O fs)|U=>U)=J (ss.map AV.cU,O1):=h;rw[show eX O 12 azs=bI O (eX O 11) azs from w8]at h;cases b:bI O (eX O 11) azs with
 |none=>rw[b]at h;cases h|some p=>obtain⟨l,fs⟩:=p;rw[b]at h;simp only[a07,aC2]at h;obtain⟨rfl,rfl⟩:=h;obtain⟨e1,e2⟩:=key b;exact⟨e1,by rw[e2];rfl⟩
def zA{V:p}{v:AV}(h:M V .df v):∃s,v=.cU s/\z s<=LB:=by grind [M]
def aev{V:p}{v:AV}(h:M V .jv v):∃j:JV,v=j.av:=by grind [M]
def U2{V:p}{a:Sh}{azs:LA}(h:Mt V [a] azs):∃x,azs=[x]/\M V a x:=by grind [Mt]
def agd{V:p}{a b:Sh}{azs:LA}(h:Mt V [a,b] azs):∃x y,azs=[x,y]/\M V a x/\M V b y:=by grind [Mt]
end
def ahe(m:T):R T:=(j7 (Nat.log2 m+1)).filter λt=>m.testBit t
def aqk(g:T->KC×T):T->T->KC×T|0,m=>(.fL (ahe m) (g m).1,m)|n+1,m=>match Nat.beq ((g m).2|||m) m with|eT=>(.fL (ahe m) (g m).1,m)|eF=>aqk g n ((g m).2|||m)
def ann(R:T):XC->T->(T->T)->KC×T
 |.eI,N,_=>(.eI,N)|.fu l,N,_=>(.fu l,KQ l N)|.eO l,N,_=>(match SB l with|eT=>.eZ l|eF=>.eO l,KQ l N)|.eA a b,N,X=>match ann R b N X with|(b,M)=>match ann R a M X with|(a,L)=>(.eA a b,L)
 |.eJ c a b,N,X=>match ann R a N X with|(a,A)=>match ann R b N X with|(b,B)=>(.eJ c a b,bits c.aE|||(A|||B))
 |.eG id b,N,X=>match ann R b N λi=>if i=id then N else X i with|(b,B)=>(.eG id b,B)
 |.fL b,_,X=>aqk (λm=>ann R b m X) 60 0|.dq id,_,X=>(.dq (ahe (X id)) id,X id)|.ea,_,_=>(.ea (ahe R),R)|.fg b,N,X=>match ann R b N X with|(b,B)=>(.fg b,B)
 |.eC,_,_=>(.eC,0)
theorem Zu{g:T->KC×T}{c:XC}(h:∀m,(g m).1.ad=c):∀n m,(aqk g n m).1.ad=.fL c
 |0,m=>by unfold aqk;simp only[KC.ad,h]
 |n+1,m=>by
  unfold aqk;split;·simp only[KC.ad,h]
  ·exact Zu h n _
def ajU(R:T):∀(c:XC) (N:T) (X:T->T),(ann R c N X).1.ad=c:=by
 intro c
 induction c with
 |eI=>intro N X;rfl|eC=>intro N X;rfl|fu l=>intro N X;rfl|dq id=>intro N X;rfl|ea=>intro N X;rfl|eO l=>intro N X;unfold ann;cases SB l<;>rfl|eA a b f g=>grind [ann,KC.ad]|eJ c a b f g=>grind [ann,KC.ad]|eG id b d=>intro N X;unfold ann;rcases hb:ann R b N (λi=>if i=id then N else X i)with⟨h,M⟩;have e:=d N λi=>if i=id then N else X i;rw[hb]at e;dsimp only at e⊢;rw[KC.ad,e]
 |fg b d=>intro N X;unfold ann;rcases hb:ann R b N X with⟨h,M⟩;have e:=d N X;rw[hb]at e;dsimp only at e⊢;rw[KC.ad,e]
 |fL b d=>grind [ann,Zu]
def awU(x:XF):KF:=⟨x.hd,x.W,x.an,(ann (Ij x.an) x.ap (Ij x.an) λ_=>Ij x.an).1⟩
theorem Zd(x:XF):(awU x).ad=x:=by unfold awU KF.ad;dsimp only;rw[ajU]
def kA(P:g)(f:n):KF:=awU ((cF P f).getD ⟨0,0,[],.eC⟩)
def ab5(P:g)(f:n):I:=(cF P f).isSome&&Tu P f&&(kA P f).ok
def aux{P:g}{gl raw prim}{f:n}(h:ab5 P f=eT)(a:prim f=U)(hr:raw f=eF):y (ja P gl raw prim) f (kA P f):=by unfold ab5 at h;rw[Z1,Z1]at h;grind [akr,kA,Zd,aE5]
theorem axD{P:g}{t:W}{m:String}{f:n}(h:k P t .ep m=J (f,.ep))(v:AV):k P t v m=J (f,v):=by
 unfold k at h⊢;split at h
 ·rename_i i hi;split at h;·grind
  ·cases h
 ·cases h
def ayQ(mt:R (W×String×n))(h:R (n×Sm)):q:={gl:=λ_=>U,sm:=λf=>(h.filter λp=>Nat.beq p.1 f).map (·.2),mt:=λt m=>(mt.find? λp=>p.1==t&&p.2.1==m).map (·.2.2)}
def ahq:∀{l:R (n×KF×Sm)} {X a:q},ajQ X l=J a->(∀f m,m∈X.sm f->m∈a.sm f)/\∀p∈l,p.2.2∈a.sm p.1
 |[],X,a,h=>by cases h;grind
 |(f,K,m)::l,X,a,h=>by
  unfold ajQ at h;split at h
  ·obtain⟨b,h2⟩:=ahq h;have add:∀g k,k∈X.sm g\/(g=f/\k=m)->k∈(X.hu f m).sm g:=λg k c=>by unfold Cfg.hu;grind
   grind
  ·cases h
def awr(P:g)(l:R (n×Sm)):R (n×KF×Sm):=l.map λp=>(p.1,kA P p.1,p.2)
noncomputable section
def inL(l:R T)(f:T):I:=List.rec (motive:=λ_=>I) eF (λx _ a=>Bool.rec a eT (Nat.beq f x)) l
def auj:R (n×afq)->n->P afq|[],_=>U|(g,e)::l,f=>match Nat.beq f g with|eT=>J e|eF=>auj l f
def tA(P:g)(a:R (n×afq))(raw imp:R T)(M:MM):Tr2:=λf=>match auj a f with|J e=>J e|U=>match ab5 P f with|eT=>J (.iu (arq (M f)) (kA P f) (inL raw f) (Bool.rec eT eF (inL imp f)))|eF=>U
def Xo{P:g}{gl raw prim}{f:n}(h:ab5 P f=eT):KOK (ja P gl raw prim) f (kA P f):=by unfold ab5 at h;rw[Z1,Z1]at h;grind [axw,kA,Zd,aE5]
theorem ame{C:w}:∀{l:R (n×afq)},(∀p∈l,EOK C p.1 p.2)->∀f e,auj l f=J e->EOK C f e
 |[],_,f,e,h=>by cases h
 |(g,k)::l,a,f,e,h=>by
  unfold auj at h;split at h;·simp_all
  ·exact ame (λp b=>a p (by simp[b])) f e h
def azX{P:g}{gl raw prim}{b:R (n×afq)}{a imp:R T}{M:MM}(hs:∀p∈b,EOK (ja P gl raw prim) p.1 p.2)(c:MOK (ja P gl raw prim) M):∀f e,tA P b a imp M f=J e->EOK (ja P gl raw prim) f e:=by
 intro f e h;unfold tA at h;split at h;·grind [ame]
 ·split at h;·rename_i d;cases h;exact⟨ars c f,Xo d⟩
  ·cases h
end
def trL:KC->R KC->R KC->KC×R KC×R KC
 |.eA a b,l,d=>match trL a l d with|(a,l,d)=>match trL b l d with|(b,s)=>(.eA a b,s)
 |.eJ c a b,l,d=>match trL a l d with|(a,l,d)=>match trL b l d with|(b,s)=>(.eJ c a b,s)
 |.eG i b,l,d=>match trL b l d with|(b,s)=>(.eG i b,s)
 |.fg b,l,d=>match trL b l d with|(b,s)=>(.fg b,s)
 |.fL m b,l,d=>match trL b l d with|(b,x::l,d)=>(.fL m x,l,d++[b])|(b,[],d)=>(.fL m b,[],d++[b])
 |c,l,d=>(c,l,d)
def rdU(n:T)(h:n<2^8):UInt8.ofBitVec (BitVec.ofFin ⟨n,h⟩)=UInt8.ofNat n:=by apply aL8.mp;rw[UInt8.toNat_ofNat'];exact(Nat.mod_eq_of_lt h).symm
def RD:(∀n:T,Int.ofNat (no_index (c n))=(c n:F))/\(∀n:T,Int.negSucc n= -((n+1:T):F))/\(∀(n:T) (h:n<2^8),UInt8.ofBitVec (BitVec.ofFin ⟨n,h⟩)=UInt8.ofNat n)/\(∀d i,(⟨J d,i,U,[]⟩:XOp)=o d i)/\(∀i,(⟨U,i,U,[]⟩:XOp)=u i)/\(∀d t b i,(⟨J d,i,J (t,b),[]⟩:XOp)=og d t b i)/\(∀d s,o d (.mv (.t s))=m d s)/\(∀n:T,((no_index (c n):T):F)=c n)/\(∀n:T,UInt8.ofBitVec (BitVec.ofNat 8 n)=UInt8.ofNat n):=⟨λ_=>w8,λ_=>w8,rdU,λ_ _=>w8,λ_=>w8,λ_ _ _ _=>w8,λ_ _=>w8,λ_=>w8,λ_=>w8⟩
structure KSP(P:Program)(f:Nat)(ls:List KC)where
 k:KF
 p:(⟨(kA P f).hd,(kA P f).W,(kA P f).an,(trL (kA P f).ap ls []).1⟩:KF)=k:=by conv=>lhs;reduce;simp only[RD,seval]
structure LSP(P:Program)(f:Nat)(ls:List KC)(i:Nat)where
 k:KC
 p:(trL (kA P f).ap ls []).2.2.getD i .eC=k:=by conv=>lhs;reduce;simp only[RD,seval]
abbrev Jg:n:=7
abbrev wM:n:=8
abbrev dJ:n:=9
abbrev lZ:n:=10
abbrev oK:n:=11
abbrev jZ:n:=12
abbrev vG:n:=13
abbrev fU:n:=14
abbrev Jh:n:=15
abbrev CP:n:=16
abbrev CS:n:=17
abbrev gQ:n:=18
abbrev KA:n:=19
abbrev xh:n:=20
abbrev uy:n:=23
abbrev PZ:n:=24
abbrev N7:n:=26
abbrev WC:n:=27
abbrev TV:n:=28
abbrev Bg:n:=29
abbrev xm:n:=30
abbrev oz:n:=31
abbrev Ff:n:=32
abbrev xR:n:=33
abbrev LK:n:=34
abbrev kw:n:=35
abbrev fF:n:=36
abbrev iW:n:=37
abbrev Gw:n:=38
abbrev pY:n:=39
abbrev EK:n:=40
abbrev Bd:n:=41
abbrev Ef:n:=42
abbrev sW:n:=43
abbrev qK:n:=44
abbrev abD:n:=45
abbrev WF:n:=49
abbrev vJ:n:=52
abbrev ag2:n:=54
abbrev KI:n:=56
abbrev LJ:n:=57
abbrev D8:n:=58
abbrev kz:n:=59
abbrev xk:n:=60
abbrev o9:n:=61
abbrev xw:n:=62
abbrev zq:n:=63
abbrev jM:n:=64
abbrev rF:n:=65
abbrev Yo:n:=66
abbrev Ju:n:=67
abbrev Jt:n:=68
abbrev vI:n:=69
abbrev tX:n:=70
abbrev sV:n:=71
abbrev dO:n:=72
abbrev dB:n:=73
abbrev iT:n:=74
abbrev bM:n:=75
abbrev ahZ:n:=77
abbrev KE:n:=78
abbrev lY:n:=81
abbrev TZ:n:=82
abbrev WG:n:=83
abbrev aqc:n:=84
abbrev BG:n:=85
abbrev Ub:n:=89
abbrev Ib:n:=90
abbrev Fg:n:=91
abbrev Gv:n:=94
abbrev MC:n:=95
abbrev lC:n:=96
abbrev Jq:n:=97
abbrev jF:n:=98
abbrev Eg:n:=99
abbrev xQ:n:=100
abbrev D9:n:=101
abbrev Di:n:=102
abbrev E8:n:=103
abbrev abz:n:=104
abbrev Bi:n:=105
abbrev qV:n:=106
abbrev yA:n:=107
abbrev AC:n:=108
abbrev LD:n:=109
abbrev vk:n:=110
abbrev Az:n:=111
abbrev wL:n:=112
abbrev qR:n:=113
abbrev uC:n:=114
abbrev vg:n:=115
abbrev ak9:n:=118
abbrev WL:n:=119
abbrev Zq:n:=120
abbrev LG:n:=122
abbrev eU:n:=123
abbrev rQ:n:=124
abbrev Jc:n:=125
abbrev gU:n:=126
abbrev oL:n:=127
abbrev KG:n:=128
abbrev fM:n:=131
abbrev UV:n:=132
abbrev Ea:n:=133
abbrev BC:n:=134
abbrev kW:n:=137
abbrev Yn:n:=141
abbrev AB:n:=142
abbrev Jr:n:=143
abbrev jE:n:=146
abbrev xu:n:=147
abbrev Ym:n:=148
abbrev GX:n:=149
abbrev yR:n:=150
abbrev Jl:n:=151
abbrev Dk:n:=152
abbrev Ec:n:=154
abbrev yQ:n:=156
abbrev D6:n:=158
abbrev rH:n:=159
abbrev nX:n:=160
abbrev OQ:n:=161
abbrev tY:n:=162
abbrev zW:n:=164
abbrev WA:n:=165
abbrev abw:n:=166
abbrev Zm:n:=167
abbrev jq:n:=168
abbrev KD:n:=169
abbrev vC:n:=170
abbrev Bh:n:=171
abbrev WI:n:=172
abbrev qM:n:=173
abbrev Zr:n:=176
abbrev tZ:n:=178
abbrev Jm:n:=181
abbrev Aw:n:=185
abbrev zl:n:=186
abbrev qL:n:=187
abbrev xg:n:=188
abbrev UU:n:=189
abbrev ik:n:=190
abbrev gY:n:=191
abbrev PY:n:=193
abbrev qI:n:=194
abbrev P6:n:=195
abbrev LH:n:=196
abbrev NS:n:=197
abbrev NT:n:=198
abbrev Zp:n:=200
abbrev xn:n:=202
abbrev Jn:n:=206
abbrev Be:n:=207
abbrev LP:n:=215
abbrev Qb:n:=216
abbrev anS:n:=220
abbrev aka:n:=221
abbrev D7:n:=223
abbrev qc:n:=224
abbrev CO:n:=225
abbrev jB:n:=226
abbrev uK:n:=227
abbrev yP:n:=228
abbrev UR:n:=229
abbrev Je:n:=230
abbrev TY:n:=231
abbrev Jd:n:=232
abbrev aby:n:=233
abbrev WB:n:=234
abbrev abx:n:=235
abbrev Zn:n:=236
abbrev P7:n:=238
abbrev AP:n:=240
abbrev wQ:n:=241
abbrev wP:n:=242
abbrev AL:n:=243
abbrev EM:n:=247
abbrev vF:n:=257
abbrev xK:n:=266
abbrev iq:n:=267
abbrev Hu:n:=268
abbrev Qa:n:=270
abbrev dH:n:=271
abbrev NZ:n:=274
abbrev abC:n:=275
abbrev wO:n:=276
abbrev yB:n:=277
abbrev vH:n:=278
abbrev Gx:n:=282
abbrev BF:n:=288
abbrev TW:n:=289
abbrev WH:n:=290
abbrev lQ:n:=291
abbrev OV:n:=304
abbrev vK:n:=305
abbrev gK:n:=306
abbrev Dj:n:=307
abbrev P5:n:=308
abbrev NR:n:=309
abbrev Jo:n:=310
abbrev qJ:n:=311
abbrev FX:n:=312
abbrev WJ:n:=313
abbrev abB:n:=315
abbrev aa6:n:=318
abbrev BB:n:=320
abbrev lW:n:=321
abbrev fB:n:=322
abbrev jO:n:=327
abbrev Jj:n:=328
abbrev Jk:n:=329
abbrev Gt:n:=330
abbrev Ji:n:=331
abbrev Gs:n:=332
abbrev Gq:n:=333
abbrev AA:n:=334
abbrev Fa:n:=335
abbrev Fb:n:=336
abbrev Gu:n:=337
abbrev jw:n:=338
abbrev GY:n:=339
abbrev rG:n:=340
abbrev LM:n:=341
abbrev nY:n:=342
abbrev rE:n:=347
abbrev rD:n:=348
abbrev UQ:n:=351
abbrev UT:n:=352
abbrev Ed:n:=353
abbrev NU:n:=359
abbrev Jv:n:=360
abbrev NY:n:=361
abbrev MF:n:=362
abbrev Jw:n:=375
abbrev OU:n:=376
abbrev CU:n:=385
abbrev KH:n:=386
abbrev rU:n:=387
abbrev FW:n:=388
abbrev NW:n:=394
abbrev BD:n:=395
abbrev Ee:n:=396
abbrev uw:n:=413
abbrev vw:n:=419
abbrev NP:n:=422
abbrev NQ:n:=423
abbrev Jf:n:=424
abbrev vz:n:=425
abbrev Gz:T:=0
abbrev Ie:T:=1
abbrev zu:T:=2
abbrev BH:T:=3
abbrev yC:T:=5
abbrev xx:T:=6
abbrev kQ:T:=9
abbrev mM:T:=10
def U7:LA:=List.replicate 256 .eo
abbrev Yx:LU:=[0,1,2,2,3,3,3,3,4,4,4,4,4,4,4,4,5,5,5,5,5,5,5,5,5,5,5,5,5,5,5,5,6,6,6,6,6,6,6,6,6,6,6,6,6,6,6,6,6,6,6,6,6,6,6,6,6,6,6,6,6,6,6,6,7,7,7,7,7,7,7,7,7,7,7,7,7,7,7,7,7,7,7,7,7,7,7,7,7,7,7,7,7,7,7,7,7,7,7,7,7,7,7,7,7,7,7,7,7,7,7,7,7,7,7,7,7,7,7,7,7,7,7,7,7,7,7,7,8,8,8,8,8,8,8,8,8,8,8,8,8,8,8,8,8,8,8,8,8,8,8,8,8,8,8,8,8,8,8,8,8,8,8,8,8,8,8,8,8,8,8,8,8,8,8,8,8,8,8,8,8,8,8,8,8,8,8,8,8,8,8,8,8,8,8,8,8,8,8,8,8,8,8,8,8,8,8,8,8,8,8,8,8,8,8,8,8,8,8,8,8,8,8,8,8,8,8,8,8,8,8,8,8,8,8,8,8,8,8,8,8,8,8,8,8,8,8,8,8,8,8,8,8,8,8,8]
abbrev iU:LU:=[48,48,48,49,48,50,48,51,48,52,48,53,48,54,48,55,48,56,48,57,49,48,49,49,49,50,49,51,49,52,49,53,49,54,49,55,49,56,49,57,50,48,50,49,50,50,50,51,50,52,50,53,50,54,50,55,50,56,50,57,51,48,51,49,51,50,51,51,51,52,51,53,51,54,51,55,51,56,51,57,52,48,52,49,52,50,52,51,52,52,52,53,52,54,52,55,52,56,52,57,53,48,53,49,53,50,53,51,53,52,53,53,53,54,53,55,53,56,53,57,54,48,54,49,54,50,54,51,54,52,54,53,54,54,54,55,54,56,54,57,55,48,55,49,55,50,55,51,55,52,55,53,55,54,55,55,55,56,55,57,56,48,56,49,56,50,56,51,56,52,56,53,56,54,56,55,56,56,56,57,57,48,57,49,57,50,57,51,57,52,57,53,57,54,57,55,57,56,57,57]
abbrev KsA(f:T)(ls:R KC):Type:=KSP Go.Proofs.Tryz.prog f ls
abbrev LsA(f:T)(ls:R KC)(i:T):Type:=LSP Go.Proofs.Tryz.prog f ls i
noncomputable section
def DF:KF:=(.mk ?k:KsA 131 []).1
def LZ:KF:=(.mk ?k:KsA 185 []).1
def jW:KC:=(.mk ?k:LsA 188 [] 0).1
attribute [local irreducible] jW
def mD:KC:=(.mk ?k:LsA 188 [jW] 1).1
attribute [local irreducible] mD
def mQ:KF:=(.mk ?k:KsA 188 [jW,mD]).1
def nI:KF:=(.mk ?k:KsA 158 []).1
def IE:KF:=(.mk ?k:KsA 223 []).1
def iI:KF:=(.mk ?k:KsA 70 []).1
def Ce:KF:=(.mk ?k:KsA 107 []).1
def Ai:KF:=(.mk ?k:KsA 111 []).1
def F8:KF:=(.mk ?k:KsA 115 []).1
def F9:KF:=(.mk ?k:KsA 110 []).1
def Dc:KF:=(.mk ?k:KsA 113 []).1
def Hf:KF:=(.mk ?k:KsA 112 []).1
def qi:KF:=(.mk ?k:KsA 226 []).1
def AZ:KF:=(.mk ?k:KsA 227 []).1
def Cf:KF:=(.mk ?k:KsA 225 []).1
def EI:KF:=(.mk ?k:KsA 114 []).1
def ji:KC:=(.mk ?k:LsA 109 [] 0).1
attribute [local irreducible] ji
def FM:KF:=(.mk ?k:KsA 109 [ji]).1
def wW:KC:=(.mk ?k:LsA 133 [] 0).1
attribute [local irreducible] wW
def Hz:KF:=(.mk ?k:KsA 133 [wW]).1
def jK:KF:=(.mk ?k:KsA 306 []).1
def gB:KF:=(.mk ?k:KsA 327 []).1
def UD:KF:=⟨2,24,[(.eN 4 eT 5),(.fT 5)],(a [o 4 (.eM [cvU 0,cvI 0,cvI 0,cvI 0,cvE] U),cqI 5 0]
 (.eA (a [m 7 1,b 8 .lss 0 eT 7 0,m 9 8,og 10 9 eF (.mv (.t 1)),og 11 9 eF (.mv (.t 0)),og 12 9 eF (.dt 0 (.t 11)),og 13 9 eF (.e9 .gtr 0 eF (.t 10) (.t 12)),o 14 (.fe (.t 9) (.c (.cW eT)) (.t 13))]
 (.eJ (.t 14)
 (a [o 15 (.hZ [cvU 0,cvI 0,cvI 0,cvI 0,cvE] []),e 5 4 15,cqI 5 1]
 (.ea [4,5]))
 .eI))
 (a [cqK 16 Dj [],o 6 (.eM U7 U),e 256 6 16]
 (a [m 17 0,m 18 0,m 19 1,cqK 20 NR [18,19],cqK 21 P5 [6,17,20],cqE 22 21 0,cqE 23 21 1,e 5 4 22,m 5 23]
 (.ea [4,5])))))⟩
def YZ:KF:=(.mk ?k:KsA 333 []).1
def Y8:KF:=(.mk ?k:KsA 332 []).1
def Za:KF:=(.mk ?k:KsA 330 []).1
def aaP:KF:=(.mk ?k:KsA 331 []).1
def HY:KF:=(.mk ?k:KsA 334 []).1
def aaQ:KF:=(.mk ?k:KsA 328 []).1
def aaR:KF:=(.mk ?k:KsA 329 []).1
def UE:KF:=(.mk ?k:KsA 351 []).1
def qj:KC:=(.mk ?k:LsA 309 [] 0).1
attribute [local irreducible] qj
def UF:KF:=(.mk ?k:KsA 309 [qj]).1
def Nq:KF:=(.mk ?k:KsA 335 []).1
def J4:KF:=(.mk ?k:KsA 308 []).1
def uX:KC:=(.mk ?k:LsA 336 [] 0).1
attribute [local irreducible] uX
def IL:KF:=(.mk ?k:KsA 336 [uX]).1
def dY:KC:=(.mk ?k:LsA 352 [] 0).1
attribute [local irreducible] dY
def Nr:KF:=(.mk ?k:KsA 352 [dY]).1
def nP:KC:=(.mk ?k:LsA 359 [] 0).1
attribute [local irreducible] nP
def nM:KF:=(.mk ?k:KsA 359 [nP]).1
def eQ:KC:=(.mk ?k:LsA 81 [] 0).1
attribute [local irreducible] eQ
def BV:KF:=(.mk ?k:KsA 81 [eQ]).1
def xM:KF:=(.mk ?k:KsA 146 []).1
def lN:KC:=(.mk ?k:LsA 312 [] 0).1
attribute [local irreducible] lN
def Lm:KF:=(.mk ?k:KsA 312 [lN]).1
def Am:KF:=(.mk ?k:KsA 274 []).1
def gG:KC:=(.mk ?k:LsA 206 [] 0).1
attribute [local irreducible] gG
def CB:KF:=(.mk ?k:KsA 206 [gG]).1
def uU:KF:=(.mk ?k:KsA 337 []).1
def eH:KC:=(.mk ?k:LsA 277 [] 0).1
attribute [local irreducible] eH
def um:KF:=(.mk ?k:KsA 277 [eH]).1
def fE:KF:=(.mk ?k:KsA 311 []).1
def pK:KF:=(.mk ?k:KsA 310 []).1
def dN:KC:=(.mk ?k:LsA 278 [] 0).1
attribute [local irreducible] dN
def qB:KF:=(.mk ?k:KsA 278 [dN]).1
def bW:KF:=(.mk ?k:KsA 207 []).1
def rM:KF:=(.mk ?k:KsA 276 []).1
def dm:KC:=(.mk ?k:LsA 340 [] 0).1
attribute [local irreducible] dm
def lM:KF:=(.mk ?k:KsA 340 [dm]).1
def xO:KC:=(.mk ?k:LsA 108 [] 0).1
attribute [local irreducible] xO
def QU:KF:=(.mk ?k:KsA 108 [xO]).1
def Ho:KF:=(.mk ?k:KsA 242 []).1
def gX:KC:=(.mk ?k:LsA 243 [] 0).1
attribute [local irreducible] gX
def EW:KF:=(.mk ?k:KsA 243 [gX]).1
def EX:KF:=(.mk ?k:KsA 240 []).1
def Hq:KF:=(.mk ?k:KsA 241 []).1
def VA:KF:=(.mk ?k:KsA 172 []).1
def ry:KC:=(.mk ?k:LsA 341 [] 0).1
attribute [local irreducible] ry
def Lr:KF:=(.mk ?k:KsA 341 [ry]).1
def wY:KC:=(.mk ?k:LsA 99 [] 0).1
attribute [local irreducible] wY
def VB:KF:=(.mk ?k:KsA 99 [wY]).1
def Df:KF:=(.mk ?k:KsA 282 []).1
def Zc:KF:=(.mk ?k:KsA 137 []).1
def eY:KC:=(.mk ?k:LsA 305 [] 0).1
attribute [local irreducible] eY
def uV:KF:=(.mk ?k:KsA 305 [eY]).1
def ou:KC:=(.mk ?k:LsA 160 [] 0).1
attribute [local irreducible] ou
def DR:KF:=(.mk ?k:KsA 160 [ou]).1
def nS:KC:=(.mk ?k:LsA 159 [] 0).1
attribute [local irreducible] nS
def yJ:KF:=(.mk ?k:KsA 159 [nS]).1
def H6:KF:=(.mk ?k:KsA 313 []).1
def zJ:KF:=(.mk ?k:KsA 342 []).1
def nH:KC:=(.mk ?k:LsA 200 [] 0).1
attribute [local irreducible] nH
def sO:KF:=(.mk ?k:KsA 200 [nH]).1
def jA:KC:=(.mk ?k:LsA 270 [] 0).1
attribute [local irreducible] jA
def aV:KF:=(.mk ?k:KsA 270 [jA]).1
def GV:KF:=(.mk ?k:KsA 304 []).1
def xN:KF:=(.mk ?k:KsA 120 []).1
def jD:KF:=(.mk ?k:KsA 152 []).1
def kU:KF:=(.mk ?k:KsA 187 []).1
def rZ:KF:=(.mk ?k:KsA 190 []).1
def qC:KF:=(.mk ?k:KsA 126 []).1
def iO:KF:=⟨1,25,[(.fT 2)],(a [cqI 2 0]
 (.eA (a [m 3 0,o 4 (.e9 .geq 0 eT (.t 3) (.c (.cQ .u64 4294967296)))]
 (.eJ (.t 4)
 (a [m 5 0,o 6 (.e9 .shr 0 eT (.t 5) (.c (.cQ .u64 32))),m 0 6]
 (.fu [cqI 2 32]))
 .eI))
 (.eA (a [m 7 0,o 8 (.e9 .geq 0 eT (.t 7) (.c (.cQ .u64 65536)))]
 (.eJ (.t 8)
 (a [m 9 0,o 10 (.e9 .shr 0 eT (.t 9) (.c (.cQ .u64 16))),m 0 10]
 (.fu [m 11 2,b 12 .add 0 eT 11 16,m 2 12]))
 .eI))
 (.eA (a [m 13 0,o 14 (.e9 .geq 0 eT (.t 13) (.c (.cQ .u64 256)))]
 (.eJ (.t 14)
 (a [m 15 0,o 16 (.e9 .shr 0 eT (.t 15) (.c (.cQ .u64 8))),m 0 16]
 (.fu [m 17 2,b 18 .add 0 eT 17 8,m 2 18]))
 .eI))
 (a [m 19 2,m 20 0,o 21 (.jc .u8 (.t 20)),o 22 (.ft (f Yx) (.t 21)),o 23 (.jc r (.t 22)),cqB 24 .add 0 eF 19 23,m 2 24]
 (.ea [2]))))))⟩
def rf:KF:=(.mk ?k:KsA 347 []).1
def qZ:KF:=(.mk ?k:KsA 348 []).1
def yH:KF:=(.mk ?k:KsA 321 []).1
def bQ:KC:=
 (.eA (a [m 19 4,b 20 .geq 0 eT 19 8]
 (.eJ (.t 20)
 .eI
 (.dq [0,1,4] 0)))
 (.eG 1
 (a [m 21 1,o 22 (.e9 .rem 0 eT (.t 21) (.c (.cQ .u64 100000000))),o 23 (.jc .u32 (.t 22)),m 5 23]
 (a [m 24 1,o 25 (.e9 .quo 0 eT (.t 24) (.c (.cQ .u64 100000000))),m 1 25]
 (a [m 26 5,o 27 (.e9 .quo 0 eT (.t 26) (.c (.cQ .u32 10000))),m 28 5,o 29 (.e9 .rem 0 eT (.t 28) (.c (.cQ .u32 10000))),m 6 27,m 7 29]
 (a [m 30 7,o 31 (.e9 .quo 0 eT (.t 30) (.c (.cQ .u32 100))),o 32 (.e9 .mul 0 eT (.t 31) (.c (.cQ .u32 2))),m 33 7,o 34 (.e9 .rem 0 eT (.t 33) (.c (.cQ .u32 100))),o 35 (.e9 .mul 0 eT (.t 34) (.c (.cQ .u32 2))),m 8 32,m 9 35]
 (a [m 36 6,o 37 (.e9 .quo 0 eT (.t 36) (.c (.cQ .u32 100))),o 38 (.e9 .mul 0 eT (.t 37) (.c (.cQ .u32 2))),m 39 6,o 40 (.e9 .rem 0 eT (.t 39) (.c (.cQ .u32 100))),o 41 (.e9 .mul 0 eT (.t 40) (.c (.cQ .u32 2))),m 10 38,m 11 41]
 (.eA (.eZ [m 42 0,m 43 4,b 44 .sub 0 eT 43 1,m 45 0,m 46 4,b 47 .sub 0 eT 46 2,m 48 9,o 49 (.e9 .add 0 eT (.t 48) (.c (.cQ .u32 1))),o 50 (.ft (f iU) (.t 49)),m 51 9,o 52 (.ft (f iU) (.t 51)),o 53 (.ey 1 (.t 42) (.t 44)),e 1 53 50,o 54 (.ey 1 (.t 45) (.t 47)),e 1 54 52])
 (.eA (.eZ [m 55 0,m 56 4,b 57 .sub 0 eT 56 3,m 58 0,m 59 4,b 60 .sub 0 eT 59 4,m 61 8,o 62 (.e9 .add 0 eT (.t 61) (.c (.cQ .u32 1))),o 63 (.ft (f iU) (.t 62)),m 64 8,o 65 (.ft (f iU) (.t 64)),o 66 (.ey 1 (.t 55) (.t 57)),e 1 66 63,o 67 (.ey 1 (.t 58) (.t 60)),e 1 67 65])
 (.eA (.eZ [m 68 0,m 69 4,b 70 .sub 0 eT 69 5,m 71 0,m 72 4,b 73 .sub 0 eT 72 6,m 74 11,o 75 (.e9 .add 0 eT (.t 74) (.c (.cQ .u32 1))),o 76 (.ft (f iU) (.t 75)),m 77 11,o 78 (.ft (f iU) (.t 77)),o 79 (.ey 1 (.t 68) (.t 70)),e 1 79 76,o 80 (.ey 1 (.t 71) (.t 73)),e 1 80 78])
 (.eA (.eZ [m 81 0,m 82 4,b 83 .sub 0 eT 82 7,m 84 0,m 85 4,b 86 .sub 0 eT 85 8,m 87 10,o 88 (.e9 .add 0 eT (.t 87) (.c (.cQ .u32 1))),o 89 (.ft (f iU) (.t 88)),m 90 10,o 91 (.ft (f iU) (.t 90)),o 92 (.ey 1 (.t 81) (.t 83)),e 1 92 89,o 93 (.ey 1 (.t 84) (.t 86)),e 1 93 91])
 (.fu [m 94 4,b 95 .sub 0 eT 94 8,m 4 95]))))))))))))
def iC:KF:=⟨2,167,[],(a [m 17 0,cqN 18 1 17,m 4 18]
 (.eA (.eG 0
 (.fL [0,1,4] bQ))
 (a [m 96 1,o 97 (.jc .u32 (.t 96)),m 12 97]
 (.eA (a [m 98 4,b 99 .geq 0 eT 98 4]
 (.eJ (.t 99)
 (a [m 100 12,o 101 (.e9 .rem 0 eT (.t 100) (.c (.cQ .u32 10000))),m 13 101]
 (a [m 102 12,o 103 (.e9 .quo 0 eT (.t 102) (.c (.cQ .u32 10000))),m 12 103]
 (a [m 104 13,o 105 (.e9 .quo 0 eT (.t 104) (.c (.cQ .u32 100))),o 106 (.e9 .mul 0 eT (.t 105) (.c (.cQ .u32 2))),m 107 13,o 108 (.e9 .rem 0 eT (.t 107) (.c (.cQ .u32 100))),o 109 (.e9 .mul 0 eT (.t 108) (.c (.cQ .u32 2))),m 14 106,m 15 109]
 (.eA (.eZ [m 110 0,m 111 4,b 112 .sub 0 eT 111 1,m 113 0,m 114 4,b 115 .sub 0 eT 114 2,m 116 15,o 117 (.e9 .add 0 eT (.t 116) (.c (.cQ .u32 1))),o 118 (.ft (f iU) (.t 117)),m 119 15,o 120 (.ft (f iU) (.t 119)),o 121 (.ey 1 (.t 110) (.t 112)),e 1 121 118,o 122 (.ey 1 (.t 113) (.t 115)),e 1 122 120])
 (.eA (.eZ [m 123 0,m 124 4,b 125 .sub 0 eT 124 3,m 126 0,m 127 4,b 128 .sub 0 eT 127 4,m 129 14,o 130 (.e9 .add 0 eT (.t 129) (.c (.cQ .u32 1))),o 131 (.ft (f iU) (.t 130)),m 132 14,o 133 (.ft (f iU) (.t 132)),o 134 (.ey 1 (.t 123) (.t 125)),e 1 134 131,o 135 (.ey 1 (.t 126) (.t 128)),e 1 135 133])
 (.fu [m 136 4,b 137 .sub 0 eT 136 4,m 4 137]))))))
 .eI))
 (.eA (a [m 138 4,b 139 .geq 0 eT 138 2]
 (.eJ (.t 139)
 (a [m 140 12,o 141 (.e9 .rem 0 eT (.t 140) (.c (.cQ .u32 100))),o 142 (.e9 .mul 0 eT (.t 141) (.c (.cQ .u32 2))),m 16 142]
 (a [m 143 12,o 144 (.e9 .quo 0 eT (.t 143) (.c (.cQ .u32 100))),m 12 144]
 (.eA (.eZ [m 145 0,m 146 4,b 147 .sub 0 eT 146 1,m 148 0,m 149 4,b 150 .sub 0 eT 149 2,m 151 16,o 152 (.e9 .add 0 eT (.t 151) (.c (.cQ .u32 1))),o 153 (.ft (f iU) (.t 152)),m 154 16,o 155 (.ft (f iU) (.t 154)),o 156 (.ey 1 (.t 145) (.t 147)),e 1 156 153,o 157 (.ey 1 (.t 148) (.t 150)),e 1 157 155])
 (.fu [m 158 4,b 159 .sub 0 eT 158 2,m 4 159]))))
 .eI))
 (a [m 160 4,b 161 .gtr 0 eT 160 0]
 (.eJ (.t 161)
 (.fu [m 162 0,m 163 12,o 164 (.e9 .add 0 eT (.c (.cQ .u32 48)) (.t 163)),o 165 (.jc .u8 (.t 164)),o 166 (.ey 1 (.t 162) (ccI 0)),e 1 166 165])
 .eI)))))))⟩
def vP:KF:=⟨1,15,[(.fT 2)],(a [o 2 (.mv (f []))]
 (.eA (a [m 3 0,b 4 .lss 0 eT 3 10]
 (.eJ (.t 4)
 (a [m 5 0,m 6 0,b 7 .add 0 eT 6 1,o 8 (.gH (f [48,49,50,51,52,53,54,55,56,57,97,98,99,100,101,102,103,104,105,106,107,108,109,110,111,112,113,114,115,116,117,118,119,120,121,122]) (J (.t 5)) (J (.t 7))),m 2 8]
 (.ea [2]))
 .eI))
 (a [m 9 0,b 10 .mul 0 eT 9 2,m 11 0,b 12 .mul 0 eT 11 2,b 13 .add 0 eT 12 2,o 14 (.gH (f iU) (J (.t 10)) (J (.t 13))),m 2 14]
 (.ea [2]))))⟩
def gq:KF:=(.mk ?k:KsA 291 []).1
def Hr:KF:=(.mk ?k:KsA 268 []).1
def aaS:KF:=(.mk ?k:KsA 189 []).1
end
noncomputable section
def F7:KF:=(.mk ?k:KsA 19 []).1
def DI:KF:=(.mk ?k:KsA 58 []).1
def Vy:KF:=(.mk ?k:KsA 27 []).1
def TG:KF:=(.mk ?k:KsA 28 []).1
def dI:KC:=(.mk ?k:LsA 23 [] 0).1
attribute [local irreducible] dI
def nK:KF:=(.mk ?k:KsA 23 [dI]).1
def jY:KC:=(.mk ?k:LsA 37 [] 0).1
attribute [local irreducible] jY
def mV:KC:=(.mk ?k:LsA 37 [jY] 1).1
attribute [local irreducible] mV
def pJ:KF:=(.mk ?k:KsA 37 [jY,mV]).1
def kY:KC:=(.mk ?k:LsA 41 [] 0).1
attribute [local irreducible] kY
def A8:KF:=(.mk ?k:KsA 41 [kY]).1
def mi:KF:=(.mk ?k:KsA 12 []).1
def iL:KC:=(.mk ?k:LsA 36 [] 0).1
attribute [local irreducible] iL
def fD:KF:=(.mk ?k:KsA 36 [iL]).1
def zH:KF:=(.mk ?k:KsA 71 []).1
def vT:KC:=(.mk ?k:LsA 11 [] 0).1
attribute [local irreducible] vT
def sN:KF:=(.mk ?k:KsA 11 [vT]).1
def jV:KF:=(.mk ?k:KsA 35 []).1
def EU:KF:=(.mk ?k:KsA 26 []).1
def Bv:KF:=(.mk ?k:KsA 57 []).1
def uY:KC:=(.mk ?k:LsA 45 [] 0).1
attribute [local irreducible] uY
def Nu:KF:=(.mk ?k:KsA 45 [uY]).1
def vU:KC:=(.mk ?k:LsA 56 [] 0).1
attribute [local irreducible] vU
def Gg:KF:=(.mk ?k:KsA 56 [vU]).1
def jQ:KC:=(.mk ?k:LsA 40 [] 0).1
attribute [local irreducible] jQ
def EJ:KF:=(.mk ?k:KsA 40 [jQ]).1
def DN:KF:=(.mk ?k:KsA 106 []).1
def IQ:KF:=(.mk ?k:KsA 68 []).1
def iG:KC:=(.mk ?k:LsA 171 [] 0).1
attribute [local irreducible] iG
def wJ:KF:=(.mk ?k:KsA 171 [iG]).1
def IR:KF:=(.mk ?k:KsA 67 []).1
def gm:KC:=(.mk ?k:LsA 20 [] 0).1
attribute [local irreducible] gm
def wS:KF:=(.mk ?k:KsA 20 [gm]).1
def qE:KC:=
 (.eA (a [m 11 5,m 12 0,cqN 13 1 12,cqB 14 .lss 0 eF 11 13]
 (.eJ (.t 14)
 .eI
 (.dq [] 0)))
 (.eA (.eG 1
 (.eA (.eZ [m 17 0,m 18 5,o 19 (.ey 4 (.t 17) (.t 18)),cqL 20 4 19,m 21 1,m 22 5,o 23 (.ey 4 (.t 21) (.t 22)),cqL 24 4 23,cqB 25 .neq 73740 eF 20 24])
 (.eJ (.t 25)
 (a [cqT 4 eF]
 (.ea [4]))
 .eI)))
 (.fu [m 15 5,b 16 .add 0 eT 15 1,m 5 16])))
def Cm:KF:=⟨2,26,[(.fT 4)],(a [cqT 4 eF]
 (.eA (a [m 6 0,cqN 7 1 6,m 8 1,cqN 9 1 8,cqB 10 .neq 0 eF 7 9]
 (.eJ (.t 10)
 (a [cqT 4 eF]
 (.ea [4]))
 .eI))
 (.eA (a [cqI 5 0]
 (.eG 0
 (.fL [0,1,5] qE)))
 (a [cqT 4 eT]
 (.ea [4])))))⟩
def Hl:KF:=(.mk ?k:KsA 14 []).1
def tH:KF:=(.mk ?k:KsA 39 []).1
def Hm:KF:=(.mk ?k:KsA 31 []).1
def Ba:KF:=(.mk ?k:KsA 29 []).1
def zL:KF:=(.mk ?k:KsA 173 []).1
end
variable{C:Ctx}
def sC(s:LU):LA:=[.cU s]
def QC(s:LU):z (sC s)=1:=w8
def ay5(ns:R LU):ns.map AV.cU=ns.flatMap sC:=by
 induction ns with
 |nil=>rfl|cons a l b=>rw[aC9,b];rfl
def pG(ns:R LU):NV (.sl (z ns) (ns.flatMap sC)):=.sl _ (by
 induction ns with
 |nil=>rfl|cons a l b=>rw[aF0];show ae 0 (.cU a::l.flatMap sC)=eT;rw[ae,b];rfl)
abbrev PS:=LU×LU
def pC(p:PS):LA:=[.cU p.1,.cU p.2]
def wB(p:PS):z (pC p)=2:=w8
def rV(l:R PS):NV (.sl (z l) (l.flatMap pC)):=.sl _ (dP (λ_=>w8) l)
def Zw (l:R PS) (c:z l<=1099511627776) (O:St):∀(n i:T),i+n=z l->
  aG C (ai C) 41 [0,1,5] iL [(0,.sl (z l) (l.flatMap pC)),(1,.sl (z l) (l.flatMap pC)),(5,.cQ r i)] O=J (.dq 0,[],O)
 |0,i,hi=>by rw[aB (he:=w8)];have h:¬((i:F)<(z l:F)):=(by omega);simp only[iL,h,bC,K,seval]
 |n+1,i,hi=>by rw[aB (he:=w8)];have h:((i:F)<(z l:F)):=(by omega);have h2:i<z l:=(by omega);have hb:l[i]?=J l[i]:=Z2 h2;have d:=wrS i (by omega);have h3:(0:F)<=i:=(by omega);have fl:=bz wB l;have fd:=iy wB hb;obtain⟨p,a⟩:∃p,p=l[i]:=⟨_,w8⟩;rw[<-a]at fd;have pc:pC p=[.cU p.1,.cU p.2]:=w8;have e:=Zw l c O n (i+1) (by omega);generalize f:aG C (ai C) 41 [0,1,5] iL=k at*;simp only[iL,h,h2,h3,d,fl,fd,pc,bC,e,a05,K,seval]
def YG(b:y C fF fD)(l:R PS)(c:z l<=1099511627776)(O:St):ai C fF [.sl (z l) (l.flatMap pC),.sl (z l) (l.flatMap pC)] O=J (.cW eT,O):=by rw[b.go (NVs.E (.cV (rV l) (.cV (rV l) .db)) _)];have a:=Zw (C:=C) l c O (z l) 0 (by omega);simp only[aB1]at a;simp only[fD,a,bC,K,seval]
def aC(t:F)(ns:R LU):LA:=[.cQ r t,.sl (z ns) (ns.flatMap sC)]
def Ok.H{Y:St}(h:Ok Y){L:St}(a:L.all (AO.below 0)=eT):Ok (Y++L):=h.eD (by
 rw[aB0]at*;exactλx b=>AO.Y (a97 _) x (a x b))
def Ok.hg{O:St}(h:Ok O):Ok (O++[.cP [.cQ .u8 0,.cQ r 0,.cQ r 0,.cQ r 0,.cU []] FZ]):=h.H w8
def uz(k a z n:F)(t:LU):LA:=[.cQ .u8 k,.cQ r a,.cQ r z,.cQ r n,.cU t]
abbrev BS:Type:={s:LU//z s<=LB}
def lb0:z ([]:LU)<=LB:=a97 _
def uP{O:St}(b:Ok O)(k a z n:F)(t:LU)(e:F)(L:St):Q O.length [.cX (uz k a z n t),.cQ r e] (O++L)=O:=bu b (vs:=[.cX (uz k a z n t),.cQ r e]) w8 L
def MO(c:y C UQ UE)(k a:F)(O:St)(b:Ok O):ai C UQ [.cQ .u8 k,.cQ r a] O=J (.de [.cX (uz k a (IntKind.i64.wrap (a+1)) 0 []),.cQ r 0],O):=by have d:=uP b;unfold uz at*;rw[c.go (NVs.E (.cV (.cQ _ _) (.cV (.cQ _ _) .db)) _)];simp only[UE,d,aZ,bK,AV.cP,AV.Q,K,seval]
structure J8(C:Ctx):Prop where
 dl:Has C UQ UE
 n3:Has C Jj aaQ
 n8:Has C Jk aaR
 mx:Has C Gt Za
 nL:Has C Ji aaP
 mr:Has C Gs Y8
 mq:Has C Gq YZ
def ar7(H:J8 C)(s:LU)(a:F)(O:St)(b:Ok O):ai C Jj [.cU s,.cQ r a] O=J (.de [.cX (uz 1 a (IntKind.i64.wrap (a+1)) 0 []),.cQ r 0],O):=by have e:=uP b;have q:=λL d=>MO H.dl 1 a (O++L) d;have c:=b.hg;have q:=q _ c;unfold uz at*;rw[H.n3.go (NVs.E (.cV (.cU _) (.cV (.cQ _ _) .db)) _)];simp only[aaQ,e,q,aZ,bK,AV.cP,AV.Q,K,seval]
def ar9(H:J8 C)(s:LU)(a:F)(O:St)(b:Ok O):ai C Jk [.cU s,.cQ r a] O=J (.de [.cX (uz 2 a (IntKind.i64.wrap (a+1)) 0 []),.cQ r 0],O):=by have e:=uP b;have q:=λL d=>MO H.dl 2 a (O++L) d;have c:=b.hg;have q:=q _ c;unfold uz at*;rw[H.n8.go (NVs.E (.cV (.cU _) (.cV (.cQ _ _) .db)) _)];simp only[aaR,e,q,aZ,bK,AV.cP,AV.Q,K,seval]
def aoe(H:J8 C)(s:LU)(a:F)(O:St)(b:Ok O):ai C Gt [.cU s,.cQ r a] O=J (.de [.cX (uz 3 a (IntKind.i64.wrap (a+1)) 0 []),.cQ r 0],O):=by have e:=uP b;have q:=λL d=>MO H.dl 3 a (O++L) d;have c:=b.hg;have q:=q _ c;unfold uz at*;rw[H.mx.go (NVs.E (.cV (.cU _) (.cV (.cQ _ _) .db)) _)];simp only[Za,e,q,aZ,bK,AV.cP,AV.Q,K,seval]
def ar6(H:J8 C)(s:LU)(a:F)(O:St)(b:Ok O):ai C Ji [.cU s,.cQ r a] O=J (.de [.cX (uz 4 a (IntKind.i64.wrap (a+1)) 0 []),.cQ r 0],O):=by have e:=uP b;have q:=λL d=>MO H.dl 4 a (O++L) d;have c:=b.hg;have q:=q _ c;unfold uz at*;rw[H.nL.go (NVs.E (.cV (.cU _) (.cV (.cQ _ _) .db)) _)];simp only[aaP,e,q,aZ,bK,AV.cP,AV.Q,K,seval]
def aod(H:J8 C)(s:LU)(a:F)(O:St)(b:Ok O):ai C Gs [.cU s,.cQ r a] O=J (.de [.cX (uz 5 a (IntKind.i64.wrap (a+1)) 0 []),.cQ r 0],O):=by have e:=uP b;have q:=λL d=>MO H.dl 5 a (O++L) d;have c:=b.hg;have q:=q _ c;unfold uz at*;rw[H.mr.go (NVs.E (.cV (.cU _) (.cV (.cQ _ _) .db)) _)];simp only[Y8,e,q,aZ,bK,AV.cP,AV.Q,K,seval]
def aoc(H:J8 C)(s:LU)(a:F)(O:St)(b:Ok O):ai C Gq [.cU s,.cQ r a] O=J (.de [.cX (uz 6 a (IntKind.i64.wrap (a+1)) 0 []),.cQ r 0],O):=by have e:=uP b;have q:=λL d=>MO H.dl 6 a (O++L) d;have c:=b.hg;have q:=q _ c;unfold uz at*;rw[H.mq.go (NVs.E (.cV (.cU _) (.cV (.cQ _ _) .db)) _)];simp only[YZ,e,q,aZ,bK,AV.cP,AV.Q,K,seval]
def EG(b:j):I:=b.toNat==32||b.toNat==9||b.toNat==10||b.toNat==13
def runN(p:j->I)(s:LU)(i:T):T:=i+z ((s.drop i).takeWhile p)
def agM(p:j->I)(s:LU)(i:T)(h:i<=z s):runN p s i<=z s:=by unfold runN;have a:=(List.takeWhile_sublist p (l:=s.drop i)).length_le;rw[aL7]at a;omega
def ana(p:j->I)(s:LU)(i:T):i<=runN p s i:=by unfold runN;omega
def XN(p:j->I)(s:LU)(i:T)(h:i<z s)(hb:p s[i]=eF):runN p s i=i:=by unfold runN;rw[aB6 h,d,hb];rfl
def lH(p:j->I)(s:LU)(i:T)(h:i<z s)(hb:p s[i]=eT):runN p s i=runN p s (i+1):=by unfold runN;rw[aB6 h,d,hb];simp;omega
def XM(p:j->I)(s:LU)(i:T)(h:z s<=i):runN p s i=i:=by unfold runN;rw[aC0 h];rfl
def Uh (s:LU) (hs:z s<1099511627777) (O:St):∀(n i:T),i+n=z s->
  aG C (ai C) 36 [0,1] qj [(0,.cU s),(1,.cQ r i)] O=J (.dq 0,[(1,.cQ r (runN EG s i))],O)
 |0,i,hi=>by rw[aB (he:=w8)];have h:¬((i:F)<(z s:F)):=(by omega);have j:=XM EG s i (by omega);simp only[qj,h,j,K,seval]
 |n+1,i,hi=>by
  rw[aB (he:=w8)];generalize m:aG C (ai C) 36 [0,1] qj=k;have h:((i:F)<(z s:F)):=(by omega);have h2:i<z s:=(by omega);have hb:s[i]?=J s[i]:=Z2 h2;have g:=wrS i (by omega);have h3:(0:F)<=i:=(by omega);have e:=Uh s hs O n (i+1) (by omega);rw[m]at e;cases b:((s[i].toNat:F)==32)
  ·cases c:((s[i].toNat:F)==9)
   ·cases d:((s[i].toNat:F)==10)
    ·cases f:((s[i].toNat:F)==13)
     ·have a:EG s[i]=eF:=by simp only[N,ne_eq]at b c d f;simp[EG];omega
      simp only[qj,h,h3,hb,b,c,d,f,XN EG s i h2 a,K,seval]
     ·have a:EG s[i]=eT:=by simp only[B]at f;simp[EG];omega
      simp only[qj,h,h3,hb,g,b,c,d,f,lH EG s i h2 a,e,K,seval]
    ·have a:EG s[i]=eT:=by simp only[B]at d;simp[EG];omega
     simp only[qj,h,h3,hb,g,b,c,d,lH EG s i h2 a,e,K,seval]
   ·have a:EG s[i]=eT:=by simp only[B]at c;simp[EG];omega
    simp only[qj,h,h3,hb,g,b,c,lH EG s i h2 a,e,K,seval]
  ·have a:EG s[i]=eT:=by simp only[B]at b;simp[EG];omega
   simp only[qj,h,h3,hb,g,b,lH EG s i h2 a,e,K,seval]
def ara(a:y C NR UF)(s:LU)(hs:z s<1099511627777)(i:T)(hi:i<=z s)(O:St):ai C NR [.cU s,.cQ r i] O=J (.cQ r (runN EG s i),O):=by have b:=Uh (C:=C) s hs O (z s-i) i (by omega);rw[a.go (NVs.E (.cV (.cU _) (.cV (.cQ _ _) .db)) _)];simp only[UF,b,K,seval]
def Tv(b:j):I:=D (97<=b.toNat)&&D (b.toNat<=122)
def Ui (s:LU) (hs:z s<1099511627777) (a4:AV) (a:F) (O:St):∀(n i:T),i+n=z s->
  aG C (ai C) 41 [0,1,4,6] uX [(0,.cU s),(1,.cQ r a),(4,a4),(6,.cQ r i)] O=J (.dq 0,[(0,.cU s),(1,.cQ r a),(4,a4),(6,.cQ r (runN Tv s i))],O)
 |0,i,hi=>by rw[aB (he:=w8)];have h:¬((i:F)<(z s:F)):=(by omega);have f:=XM Tv s i (by omega);simp only[uX,h,f,K,seval]
 |n+1,i,hi=>by
  rw[aB (he:=w8)];generalize j:aG C (ai C) 41 [0,1,4,6] uX=k;have h:((i:F)<(z s:F)):=(by omega);have h2:i<z s:=(by omega);have hb:s[i]?=J s[i]:=Z2 h2;have l:=wrS i (by omega);have h3:(0:F)<=i:=(by omega);have e:=Ui s hs a4 a O n (i+1) (by omega);rw[j]at e;by_cases c:(97:F)<=(s[i].toNat:F)
  ·by_cases d:(s[i].toNat:F)<=122
   ·have b:Tv s[i]=eT:=by simp[Tv];omega
    simp only[uX,h,h3,hb,l,c,d,lH Tv s i h2 b,e,K,seval]
   ·have b:Tv s[i]=eF:=by simp[Tv];omega
    simp only[uX,h,h3,hb,c,d,XN Tv s i h2 b,K,seval]
  ·have b:Tv s[i]=eF:=by simp[Tv];omega
   simp only[uX,h,h3,hb,c,XN Tv s i h2 b,K,seval]
def anw(v:AV):Prop:=∃k a z n t e,v=.de [.cX (uz k a z n t),.cQ r e]/\0<=z/\t.length<=LB
def arc(l:y C Fb IL)(s:LU)(hs:s.length<1099511627777)(i:T)(hi:i<=s.length)(O:St)(g:Ok O):∃v,ai C Fb [.cU s,.cQ r i] O=J (v,O)/\anw v:=by
 have h:=λa4 a Y=>Ui (C:=C) s hs a4 a Y (s.length-i) i (by omega);have j:=uP g;have d:runN Tv s i<=s.length:=agM Tv s i hi;have e:=ana Tv s i;have c:(0:F)<=i:=by omega
 have h2:(0:F)<=(runN Tv s i:T):=by omega
 rw[l.go (NVs.E (.cV (.cU _) (.cV (.cQ _ _) .db)) _)];generalize runN Tv s i=z at*;generalize f:(s.take z).drop i=w;cases b:D (w=[116,114,117,101])
 ·cases k:D (w=[102,97,108,115,101]);·refine⟨_,?_,0,0,0,0,[],3,w8,by omega,lb0⟩;unfold uz at*;simp only[IL,h,c,h2,d,e,f,b,k,j,aZ,bK,AV.cP,AV.Q,K,seval]
  ·refine⟨_,?_,8,i,z,0,[],0,w8,h2,lb0⟩;unfold uz at*;simp only[IL,h,c,h2,d,e,f,b,k,j,aZ,bK,AV.cP,AV.Q,K,seval]
 ·refine⟨_,?_,7,i,z,0,[],0,w8,h2,lb0⟩;unfold uz at*;simp only[IL,h,c,h2,d,e,f,b,j,aZ,bK,AV.cP,AV.Q,K,seval]
def ajL(C:w):Prop:=∀(s:LU) (i:T) (Y:St),s.length<1099511627777->i<=s.length->Ok Y->∃n z e:F,ai C UT [.cU s,.cQ r i] Y=J (.de [.cQ r n,.cQ r z,.cQ r e],Y)/\0<=z
def afx(C:w):Prop:=∀(s:LU) (i:T) (Y:St),s.length<1099511627777->i<=s.length->Ok Y->∃(t:LU) (z e:F),ai C Ed [.cU s,.cQ r i] Y=J (.de [.cU t,.cQ r z,.cQ r e],Y)/\0<=z/\t.length<=LB
def akF(g:y C AA HY)(h:ajL C)(s:LU)(hs:s.length<1099511627777)(i:T)(hi:i<=s.length)(O:St)(a:Ok O):∃v,ai C AA [.cU s,.cQ r i] O=J (v,O)/\anw v:=by
 have b:=a.hg;obtain⟨n,z,e,q,j⟩:=h s i _ hs hi b;have d:=uP a;rw[g.go (NVs.E (.cV (.cU _) (.cV (.cQ _ _) .db)) _)];by_cases c:e=0;·subst c;refine⟨_,?_,9,i,z,n,[],0,w8,j,lb0⟩;unfold uz at*;simp only[HY,q,d,aZ,bK,AV.cP,AV.Q,K,seval]
 ·have f:(e !=0)=eT:=(by simpa using c);refine⟨_,?_,0,0,0,0,[],e,w8,by omega,lb0⟩;unfold uz at*;simp only[HY,q,f,d,aZ,bK,AV.cP,AV.Q,K,seval]
def arb(h:y C Fa Nq)(j:afx C)(s:LU)(hs:s.length<1099511627777)(i:T)(hi:i<=s.length)(O:St)(a:Ok O):∃v,ai C Fa [.cU s,.cQ r i] O=J (v,O)/\anw v:=by
 have b:=a.hg;obtain⟨n,z,e,q,d⟩:=j s i _ hs hi b;have f:=uP a;rw[h.go (NVs.E (.cV (.cU _) (.cV (.cQ _ _) .db)) _)];by_cases c:e=0;·subst c;refine⟨_,?_,10,i,z,0,n,0,w8,d.1,d.2⟩;unfold uz at*;simp only[Nq,q,f,aZ,bK,AV.cP,AV.Q,K,seval]
 ·have g:(e !=0)=eT:=(by simpa using c);refine⟨_,?_,0,0,0,0,[],e,w8,by omega,lb0⟩;unfold uz at*;simp only[Nq,q,g,f,aZ,bK,AV.cP,AV.Q,K,seval]
def fnA(f:n):AV:=.dv (.func f) [] []
def GI(n:T):AV:=
 if n=123 then fnA Jj else if n=125 then fnA Jk else if n=91 then fnA Gt else if n=93 then fnA Ji else if n=44 then fnA Gs else if n=58 then fnA Gq else
 if n=34 then fnA Fa else if n=45\/n=43\/n=46\/(48<=n/\n<=57)then fnA AA else if 97<=n/\n<=122 then fnA Fb else .eo
def Eu:LA:=(j7 256).map GI
def acL:z Eu=256:=by simp[Eu]
def aoD{n:T}(h:n<256):Eu[n]?=J (GI n):=by simp[Eu,h]
def Vj(n:T):GI n=fnA Jj\/GI n=fnA Jk\/GI n=fnA Gt\/GI n=fnA Ji\/GI n=fnA Gs\/GI n=fnA Gq\/GI n=fnA Fa\/GI n=fnA AA\/GI n=fnA Fb\/GI n=.eo:=by
 unfold GI;repeat' split
 all_goals simp
def aj6:Eu.all AV.Q=eT:=by rw[aB0];intro x a;obtain⟨n,_,rfl⟩:=aE8.mp a;rcases Vj n with h|h|h|h|h|h|h|h|h|h<;>rw[h]<;>rfl
def agL:ae 0 Eu=eT:=by
 have:∀l:R T,ae 0 (l.map GI)=eT:=by
  intro l
  induction l with
  |nil=>rfl|cons n l a=>rw[aC9,ae,a,aE1];rcases Vj n with h|h|h|h|h|h|h|h|h|h<;>rw[h]<;>rfl
 exact this _
def aol:k9 U7 0 Eu=Eu:=by
 have:z U7=256:=by simp[U7]
 simp[k9,acL,U7]
def ahp(C:w):Prop:=∀Y,Ok Y->ai C Dj [] Y=J (.cX Eu,Y)
structure aaT(C:Ctx):Prop where
 dl:J8 C
 eI:Has C NR UF
 nn:Has C Fb IL
 ed:Has C AA HY
 dc:Has C Fa Nq
 fa:ajL C
 oY:afx C
 lT:ahp C
 token:Has C P5 J4
 eW:Has C abC UD
def ar8(H:aaT C)(s:LU)(hs:z s<1099511627777)(i:T)(hi:i<=z s)(n:T)(d:GI n≠ .eo)(O:St)(a:Ok O):∃f v,GI n=fnA f/\ai C f [.cU s,.cQ r i] O=J (v,O)/\anw v:=by
 have b:(0:F)<=IntKind.i64.wrap ((i:F)+1):=by rw[w64]<;>omega
 rcases Vj n with h|h|h|h|h|h|h|h|h|h;·exact⟨_,_,h,ar7 H.dl s i O a,_,_,_,_,_,_,w8,b,lb0⟩
 ·exact⟨_,_,h,ar9 H.dl s i O a,_,_,_,_,_,_,w8,b,lb0⟩
 ·exact⟨_,_,h,aoe H.dl s i O a,_,_,_,_,_,_,w8,b,lb0⟩
 ·exact⟨_,_,h,ar6 H.dl s i O a,_,_,_,_,_,_,w8,b,lb0⟩
 ·exact⟨_,_,h,aod H.dl s i O a,_,_,_,_,_,_,w8,b,lb0⟩
 ·exact⟨_,_,h,aoc H.dl s i O a,_,_,_,_,_,_,w8,b,lb0⟩
 ·obtain⟨v,c,h2⟩:=arb H.dc H.oY s hs i hi O a;exact⟨_,v,h,c,h2⟩
 ·obtain⟨v,c,h2⟩:=akF H.ed H.fa s hs i hi O a;exact⟨_,v,h,c,h2⟩
 ·obtain⟨v,c,h2⟩:=arc H.nn s hs i hi O a;exact⟨_,v,h,c,h2⟩
 ·exact j8 h d
def aof(H:aaT C)(s:LU)(hs:s.length<1099511627777)(i:T)(hi:i<=s.length)(O:St)(g:Ok O)(o:T)(fz:Fz)(p:O[o]?=J (.cP Eu fz)):∃v,ai C P5 [.da o 0,.cU s,.cQ r i] O=J (v,O)/\anw v:=by
 have u:hand eF [.da o 0,.cU s,.cQ r i] O=J ([.da o 0,.cU s,.cQ r i],O):=w8;have n:=uP g;have l:=g.hg;rw[H.token.go u];by_cases h:i=s.length;·have j:((i:F)==(s.length:F))=eT:=(by simp[h]);refine⟨_,?_,11,i,i,0,[],0,w8,by omega,lb0⟩;unfold uz at*;simp only[J4,j,n,aZ,bK,AV.cP,AV.Q,K,seval]
 ·have j:((i:F)==(s.length:F))=eF:=by simp;omega
  have h2:i<s.length:=(by omega);have h3:(0:F)<=i:=(by omega);have hb:s[i]?=J s[i]:=Z2 h2;have hr:=aoD (UInt8.toNat_lt s[i]);obtain⟨x,hr⟩:=drop_at hr;have b:s[i].toNat<256:=UInt8.toNat_lt _;have q:(0:F)<=(s[i].toNat:F):=(by omega);have d:∀L:St,(O++L)[o]?=J (.cP Eu fz):=λL=>by rw[aC1 (a00.mp p).1];exact p
  by_cases c:GI s[i].toNat=.eo;·refine⟨_,?_,0,0,0,0,[],3,w8,by omega,lb0⟩;unfold uz at*;rw[c]at hr;simp only[J4,j,h3,hb,d,hr,q,b,n,aZ,bK,AV.cP,AV.Q,K,seval]
  ·obtain⟨f,v,hf,hv,k,a,z,m,t,e,rfl,w⟩:=ar8 H s hs i hi _ c _ l;refine⟨_,?_,k,a,z,m,t,e,w8,w⟩;rw[hf]at hr;unfold uz fnA at*;simp only[J4,j,h3,hb,d,hr,q,b,hv,kV,n,aZ,bK,AV.cP,AV.Q,K,seval]
def ar5(H:aaT C)(s:LU)(hs:s.length<1099511627777)(i:T)(O:St)(b:Ok O):∃v,ai C abC [.cU s,.cQ r i] O=J (v,O)/\anw v:=by
 have j:=uP b;have h3:¬((i:F)<0):=by omega
 rw[H.eW.go (NVs.E (.cV (.cU _) (.cV (.cQ _ _) .db)) _)];by_cases h:i<=s.length;·have d:¬((s.length:F)<(i:F)):=(by omega);have f:=b.hg;have q1:=H.lT _ f;have g:Ok (O++[.cP [.cQ .u8 0,.cQ r 0,.cQ r 0,.cQ r 0,.cU []] FZ,.cP Eu FZ]):=b.H (by simp only[a08,aC6,AO.below,agL];rfl);have q2:=ara H.eI s hs i h;obtain⟨v,q3,k,a,z,m,t,e,rfl,l⟩:=aof H s hs (runN EG s i) (agM EG s i h) _ g (O.length+1) FZ (by simp[aF4]);have c:U7.length=256:=(by simp[U7]);refine⟨_,?_,k,a,z,m,t,e,w8,l⟩;unfold uz at*;simp only[UD,h3,d,q1,q2,q3,acL,aj6,aol,c,j,aZ,bK,AV.cP,AV.Q,K,seval]
 ·have d:(s.length:F)<(i:F):=(by omega);refine⟨_,?_,0,0,0,0,[],1,w8,by omega,lb0⟩;unfold uz at*;simp only[UD,h3,d,j,aZ,bK,AV.cP,AV.Q,K,seval]
def Ug(b:j):I:=D (48<=b.toNat)&&D (b.toNat<=57)
def O6 (s:LU) (hs:z s<9223372036854775807) (O:St):∀(n i:T),i+n=z s->
  aG C (ai C) 38 [0,23,24] nP [(0,.cU s),(23,.cQ r (z s)),(24,.cQ r i)] O=if(s.drop i).all Ug then J (.dq 0,[],O)else J (.ea,[(2,.cW eF)],O)
 |0,i,hi=>by rw[aB (he:=w8)];have h:¬((i:F)<(z s:F)):=(by omega);have a:s.drop i=[]:=aC0 (by omega);simp only[nP,h,a,K,seval]
 |n+1,i,hi=>by
  rw[aB (he:=w8)];generalize g:aG C (ai C) 38 [0,23,24] nP=k;have h:((i:F)<(z s:F)):=(by omega);have h2:i<z s:=(by omega);have hb:s[i]?=J s[i]:=Z2 h2;have a:s.drop i=s[i]::s.drop (i+1):=aB6 h2;have j:=wrS i (by omega);have h3:(0:F)<=i:=(by omega);have e:=O6 s hs O n (i+1) (by omega);rw[g]at e;by_cases c:(s[i].toNat:F)<48
  ·have b:Ug s[i]=eF:=by simp[Ug];omega
   simp only[nP,h,a,h3,hb,c,b,aJ0,K,seval]
  ·by_cases d:(57:F)<(s[i].toNat:F)
   ·have b:Ug s[i]=eF:=by simp[Ug];omega
    simp only[nP,h,a,h3,hb,c,d,b,aJ0,K,seval]
   ·have b:Ug s[i]=eT:=by simp[Ug];omega
    simp only[nP,h,a,h3,hb,j,c,d,b,e,aE0,K,seval]
def akN(o:y C NU nM)(s:LU)(hs:z s<9223372036854775807)(O:St):∃b,ai C NU [.cU s] O=J (.cW b,O):=by
 have fin:∀w:LU,z w<9223372036854775807->aG C (ai C) 38 [0,23,24] nP [(0,.cU w),(23,.cQ r (z w)),(24,.cQ r 0)] O=if w.all Ug then J (.dq 0,[],O)else J (.ea,[(2,.cW eF)],O):=λw q=>by have:=O6 (C:=C) w q O (z w) 0 (by omega);simpa using this
 rw[o.go (NVs.E (.cV (.cU _) .db) _)];cases c:D (s=[48])
 case true=>exact⟨eT,by simp only[nM,c,K,seval]⟩
 cases s with
 |nil=>exact⟨eF,by simp only[nM,K,seval]⟩
 |cons b l=>
  have j:D (b::l=[])=eF:=(by simp);have hb:(b::l)[0]?=J b:=w8;have p:z l<9223372036854775807:=by simp at hs;omega
  cases d:((b.toNat:F)==45)
  ·cases e:((b.toNat:F)==48)
   ·have f:=fin (b::l) hs;generalize b::l=w at*;cases k:w.all Ug;·rw[k]at f;exact⟨eF,by simp only[nM,c,d,e,j,hb,f,aH2,K,seval]⟩
    ·rw[k]at f;exact⟨eT,by simp only[nM,c,d,e,j,hb,f,aH2,K,seval]⟩
   ·generalize b::l=w at*;exact⟨eF,by simp only[nM,c,d,e,j,hb,aH2,K,seval]⟩
  ·have m:((b::l).take (z (b::l))).drop 1=l:=(by simp);have t:(1:F)<=(z (b::l):F):=by simp;omega
   have h:1<=z (b::l):=(by simp);cases l with
   |nil=>exact⟨eF,by simp only[nM,c,d,hb,aH2,v,K,seval]⟩
   |cons a l2=>
    have g:D (a::l2=[])=eF:=(by simp);have i:(a::l2)[0]?=J a:=w8;cases e:((a.toNat:F)==48)
    ·have f:=fin (a::l2) p;generalize b::a::l2=w at*;generalize a::l2=n at*;cases k:n.all Ug;·rw[k]at f;exact⟨eF,by simp only[nM,c,d,e,j,hb,g,i,m,h,f,aH2,v,K,seval]⟩
     ·rw[k]at f;exact⟨eT,by simp only[nM,c,d,e,j,hb,g,i,m,h,f,aH2,v,K,seval]⟩
    ·generalize b::a::l2=w at*;generalize a::l2=n at*;exact⟨eF,by simp only[nM,c,d,e,j,hb,g,i,m,h,aH2,v,K,seval]⟩
def iM(b:j):I:=(D (48<=b.toNat)&&D (b.toNat<=57))||b.toNat==45||b.toNat==43||b.toNat==46||b.toNat==101||b.toNat==69
def Uk (s:LU) (hs:z s<9223372036854775807) (a:F) (O:St):∀(n i:T),i+n=z s->
  aG C (ai C) 61 [0,1,7] dY [(0,.cU s),(1,.cQ r a),(7,.cQ r i)] O=J (.dq 0,[(0,.cU s),(1,.cQ r a),(7,.cQ r (runN iM s i))],O)
 |0,i,hi=>by rw[aB (he:=w8)];have h:¬((i:F)<(z s:F)):=(by omega);have A:=XM iM s i (by omega);simp only[dY,h,A,K,seval]
 |n+1,i,hi=>by
  rw[aB (he:=w8)];generalize D:aG C (ai C) 61 [0,1,7] dY=k;have h:((i:F)<(z s:F)):=(by omega);have h2:i<z s:=(by omega);have hb:s[i]?=J s[i]:=Z2 h2;have m:=wrS i (by omega);have h3:(0:F)<=i:=(by omega);have g:=Uk s hs a O n (i+1) (by omega);rw[D]at g;cases c:((s[i].toNat:F)==48)
  case true=>
   have b:iM s[i]=eT:=by simp only[B]at c;simp[iM];omega
   simp only[dY,h,h3,hb,m,c,lH iM s i h2 b,g,K,seval]
  cases d:((s[i].toNat:F)==49)
  case true=>
   have b:iM s[i]=eT:=by simp only[B]at d;simp[iM];omega
   simp only[dY,h,h3,hb,m,c,d,lH iM s i h2 b,g,K,seval]
  cases f:((s[i].toNat:F)==50)
  case true=>
   have b:iM s[i]=eT:=by simp only[B]at f;simp[iM];omega
   simp only[dY,h,h3,hb,m,c,d,f,lH iM s i h2 b,g,K,seval]
  cases l:((s[i].toNat:F)==51)
  case true=>
   have b:iM s[i]=eT:=by simp only[B]at l;simp[iM];omega
   simp only[dY,h,h3,hb,m,c,d,f,l,lH iM s i h2 b,g,K,seval]
  cases o:((s[i].toNat:F)==52)
  case true=>
   have b:iM s[i]=eT:=by simp only[B]at o;simp[iM];omega
   simp only[dY,h,h3,hb,m,c,d,f,l,o,lH iM s i h2 b,g,K,seval]
  cases q:((s[i].toNat:F)==53)
  case true=>
   have b:iM s[i]=eT:=by simp only[B]at q;simp[iM];omega
   simp only[dY,h,h3,hb,m,c,d,f,l,o,q,lH iM s i h2 b,g,K,seval]
  cases t:((s[i].toNat:F)==54)
  case true=>
   have b:iM s[i]=eT:=by simp only[B]at t;simp[iM];omega
   simp only[dY,h,h3,hb,m,c,d,f,l,o,q,t,lH iM s i h2 b,g,K,seval]
  cases v:((s[i].toNat:F)==55)
  case true=>
   have b:iM s[i]=eT:=by simp only[B]at v;simp[iM];omega
   simp only[dY,h,h3,hb,m,c,d,f,l,o,q,t,v,lH iM s i h2 b,g,K,seval]
  cases w:((s[i].toNat:F)==56)
  case true=>
   have b:iM s[i]=eT:=by simp only[B]at w;simp[iM];omega
   simp only[dY,h,h3,hb,m,c,d,f,l,o,q,t,v,w,lH iM s i h2 b,g,K,seval]
  cases y:((s[i].toNat:F)==57)
  case true=>
   have b:iM s[i]=eT:=by simp only[B]at y;simp[iM];omega
   simp only[dY,h,h3,hb,m,c,d,f,l,o,q,t,v,w,y,lH iM s i h2 b,g,K,seval]
  cases e:((s[i].toNat:F)==45)
  case true=>
   have b:iM s[i]=eT:=by simp only[B]at e;simp[iM];omega
   simp only[dY,h,h3,hb,m,c,d,f,l,o,q,t,v,w,y,e,lH iM s i h2 b,g,K,seval]
  cases j:((s[i].toNat:F)==43)
  case true=>
   have b:iM s[i]=eT:=by simp only[B]at j;simp[iM];omega
   simp only[dY,h,h3,hb,m,c,d,f,l,o,q,t,v,w,y,e,j,lH iM s i h2 b,g,K,seval]
  cases p:((s[i].toNat:F)==46)
  case true=>
   have b:iM s[i]=eT:=by simp only[B]at p;simp[iM];omega
   simp only[dY,h,h3,hb,m,c,d,f,l,o,q,t,v,w,y,e,j,p,lH iM s i h2 b,g,K,seval]
  cases u:((s[i].toNat:F)==101)
  case true=>
   have b:iM s[i]=eT:=by simp only[B]at u;simp[iM];omega
   simp only[dY,h,h3,hb,m,c,d,f,l,o,q,t,v,w,y,e,j,p,u,lH iM s i h2 b,g,K,seval]
  cases x:((s[i].toNat:F)==69)
  case true=>
   have b:iM s[i]=eT:=by simp only[B]at x;simp[iM];omega
   simp only[dY,h,h3,hb,m,c,d,f,l,o,q,t,v,w,y,e,j,p,u,x,lH iM s i h2 b,g,K,seval]
  have b:iM s[i]=eF:=by simp only[N,ne_eq]at c d f l o q t v w y e j p u x;simp[iM];omega
  simp only[dY,h,h3,hb,c,d,f,l,o,q,t,v,w,y,e,j,p,u,x,XN iM s i h2 b,K,seval]
def alF(C:w):Prop:=∀(s:LU) (Y:St),z s<1099511627777->Ok Y->∃(n:F) (v:AV),ai C Jv [.cU s,.cQ r 10,.cQ r 64] Y=J (.de [.cQ r n,v],Y)/\(v=.eb\/∃t x,v=.dx t x)
def arB(p:y C UT Nr)(hf:y C NU nM)(q:alF C)(s:LU)(hs:s.length<1099511627777)(i:T)(hi:i<=s.length)(O:St)(l:Ok O):∃n z e:F,ai C UT [.cU s,.cQ r i] O=J (.de [.cQ r n,.cQ r z,.cQ r e],O)/\0<=z:=by
 have m:=Uk (C:=C) s (by omega) i O (s.length-i) i (by omega);have o:=λa b c=>bP O [.cQ r a,.cQ r b,.cQ r c];have h:runN iM s i<=s.length:=agM iM s i hi;have j:=ana iM s i;have f:¬((i:F)<0):=by omega
 have d:¬((s.length:F)<(i:F)):=by omega
 have g:(0:F)<=i:=by omega
 have h2:(0:F)<=(runN iM s i:T):=by omega
 rw[p.go (NVs.E (.cV (.cU _) (.cV (.cQ _ _) .db)) _)];generalize runN iM s i=z at*;have u:((s.take z).drop i).length<1099511627777:=by simp;omega
 generalize k:(s.take z).drop i=w at*;obtain⟨b,q1⟩:=akN hf w (by omega) O;obtain⟨n,v,q2,hv⟩:=q w O u l;cases b;·exact⟨0,0,3,by simp only[Nr,m,f,d,g,h2,h,j,k,q1,o,K,seval],by omega⟩
 ·rcases hv with rfl|⟨t,x,rfl⟩;·exact⟨n,z,0,by simp only[Nr,m,f,d,g,h2,h,j,k,q1,q2,o,K,seval],h2⟩
  ·exact⟨0,0,9,by simp only[Nr,m,f,d,g,h2,h,j,k,q1,q2,o,K,seval],by omega⟩
def akZ(f:y C NZ Am)(b:j)(O:St):ai C NZ [.cQ .u8 b.toNat] O=J (.cW (EG b),O):=by
 rw[f.go (NVs.E (.cV (.cQ _ _) .db) _)];have g:EG b=(((b.toNat:F)==32)||((b.toNat:F)==9)||((b.toNat:F)==10)||((b.toNat:F)==13)):=by rw[aL3];simp[EG];omega
 rw[g];cases a:((b.toNat:F)==32)
 ·cases c:((b.toNat:F)==9)
  ·cases d:((b.toNat:F)==10);·cases e:((b.toNat:F)==13)<;>simp only[Am,a,c,d,e,K,seval]
   ·simp only[Am,a,c,d,aH9,aJ6,K,seval]
  ·simp only[Am,a,c,aH9,aJ6,K,seval]
 ·simp only[Am,a,aJ6,K,seval]
structure RV where
 c8:Int
 k:Int
 a:Int
 z:Int
 n:Int
 t:BS
 b8:Int
 aX:Int
 L:Int
def RV.B(s:LU)(d:RV):LA:=[.cU s,.cQ r d.c8,.cQ .u8 d.k,.cQ r d.a,.cQ r d.z,.cQ r d.n,.cU d.t.1,.cQ r d.b8,.cQ r d.aX,.cQ r d.L]
def RV.o(s:LU)(d:RV):AO:=.cP (d.B s) FZ
theorem RV.below(s:LU)(d:RV):(d.o s).below 0=eT:=w8
def Ok.cg{O:St}(h:Ok O)(o:T){x:AO}(b:x.below 0=eT):Ok (O.set o x):=by
 unfold Ok at*;rw[a99];rw[aB0]at*;intro y a;rcases List.mem_or_eq_of_mem_set a with a|rfl;·exact h y a
 ·exact AO.Y (a97 _) _ b
def ad1(O:St)(o:T)(x:AO)(L:St)(k:T):(O.set o x++L)[z O+k]?=L[k]?:=by rw[aH8 (by simp)];simp
def qy(O:St)(o:T)(x:AO)(L:St):(O.set o x++L)[z O]?=L[0]?:=ad1 O o x L 0
def ad2(O:St)(o:T)(x y:AO)(L:St)(k:T):(O.set o x++L).set (z O+k) y=O.set o x++L.set k y:=by rw[List.set_append_right _ _ (by simp)];simp
def BZ(O:St)(o:T)(x y:AO)(L:St):(O.set o x++L).set (z O) y=O.set o x++L.set 0 y:=ad2 O o x y L 0
structure NextHas(C:Ctx):Prop where
 oB:aaT C
 mb:Has C NZ Am
 eW:Has C Jn CB
def Z8 (H:NextHas C) (s:LU) (hs:z s<1099511627777) (f:RV) (O:St) (o:T) (c:o<z O):∀(n i:T),i+n=z s->
  aG C (ai C) 65 [0] gG [(0,.da o 0)] (O.set o ({f with c8:=(i:F)}.o s))=J (.dq 0,[(0,.da o 0)],O.set o ({f with c8:=(runN EG s i:T)}.o s))
 |0,i,hi=>by
  rw[aB (he:=w8)];have h:¬((i:F)<(z s:F)):=(by omega);have e:=XM EG s i (by omega);have a:∀x:AO,(O.set o x)[o]?=J x:=λx=>by simp[c]
  unfold RV.o RV.B;simp only[gG,h,e,a,K,seval]
 |n+1,i,hi=>by
  rw[aB (he:=w8)];generalize g:aG C (ai C) 65 [0] gG=k;have h:((i:F)<(z s:F)):=(by omega);have h2:i<z s:=(by omega);have hb:s[i]?=J s[i]:=Z2 h2;have j:=wrS i (by omega);have h3:(0:F)<=i:=(by omega);have a:∀x:AO,(O.set o x)[o]?=J x:=λx=>by simp[c]
  have d:=Z8 H s hs f O o c n (i+1) (by omega);rw[g]at d;have q:=λY=>akZ H.mb s[i] Y;dsimp only[RV.o,RV.B]at*;cases b:EG s[i];·simp only[gG,h,h3,hb,a,q,b,XN EG s i h2 b,K,seval]
  ·simp only[gG,h,h3,hb,j,a,q,b,lH EG s i h2 b,k9,aF5,d,K,seval]
def yg (H:NextHas C) (s:LU) (hs:s.length<1099511627777) (cB:RV) (hr:0<=cB.b8) (O:St) (d:Ok O) (o:Nat) (M:O[o]?=J (cB.o s)):
  ∃(D:RV) (e:Int),ai C Jn [.da o 0] O=J (.cQ r e,O.set o (D.o s))/\0<=D.b8/\D.aX=cB.aX/\D.L=cB.L:=by
 have u:o<O.length:=(a00.mp M).1;have Y:=kK o O;have l:∀(x:AO),(O.set o x)[o]?=J x:=λx=>by simp[u]
 have W:∀(x:AO) (L:St),(O.set o x++L)[o]?=J x:=λx L=>by rw[aC1 (by simpa using u)];exact l x
 have sa:∀(x y:AO) (L:St),(O.set o x++L).set o y=O.set o y++L:=λx y L=>by rw[aH7 _ _ (by simpa using u),aF5]
 have T:∀(B w f F A:Int) (E:LU) (j b g e:Int) (L:St),tidy O.length [.cQ r e] (O.set o (.cP [.cU s,.cQ r B,.cQ .u8 w,.cQ r f,.cQ r F,.cQ r A,.cU E,.cQ r j,.cQ r b,.cQ r g] FZ)++L)=O.set o (.cP [.cU s,.cQ r B,.cQ .u8 w,.cQ r f,.cQ r F,.cQ r A,.cU E,.cQ r j,.cQ r b,.cQ r g] FZ):=λB w f F A E j b g e L=>by have:=bu (d.cg o (x:=.cP [.cU s,.cQ r B,.cQ .u8 w,.cQ r f,.cQ r F,.cQ r A,.cU E,.cQ r j,.cQ r b,.cQ r g] FZ) w8) (vs:=[.cQ r e]) w8 L;rwa[a99]at this
 rw[H.eW.go Y];obtain⟨pl,P,a0,V,R,S,N,G,I⟩:=cB;dsimp only at hr;obtain⟨i,rfl⟩:∃i:Nat,N=i:=⟨N.toNat,by omega⟩;generalize K:RV.mk pl P a0 V R S i G I=cB at*;have hi:cB.b8=i:=by rw[<-K]
 obtain⟨p,hp,Q⟩:∃p:Nat,0<=p/\aG C (ai C) 65 [0] gG [(0,.da o 0)] (O.set o ({cB with c8:=(i:Int)}.o s))=J (.dq 0,[(0,.da o 0)],O.set o ({cB with c8:=(p:Int)}.o s)):=by
  by_cases X:i<=s.length;·exact⟨_,a97 _,Z8 H s hs cB O o u (s.length-i) i (by omega)⟩
  ·refine⟨i,a97 _,?_⟩;rw[aB (he:=w8)];have h:¬((i:Int)<(s.length:Int)):=(by omega);unfold RV.o RV.B;simp only[gG,h,l,EVX,seval]
 obtain⟨v,q,k,a,z,m,t,e,rfl,hz,Z⟩:=ar5 H.oB s hs p _ (d.cg o (RV.below s {cB with c8:=(p:Int)}));by_cases c:e=0;·subst c;subst K;refine⟨{c8:=p,aX:=G,L:=I,k:=k,a:=a,z:=z,n:=m,t:=⟨t,Z⟩,b8:=z},0,?_,hz,w8,w8⟩;unfold uz at*;dsimp only[RV.o,RV.B]at*;simp only[CB,M,l,W,sa,Q,q,k9,T,a99,qy,AV.cP,AV.Q,EVX,seval]
 ·have b:(e !=0)=eT:=(by simpa using c);subst K;refine⟨⟨p,P,a0,V,R,S,i,G,I⟩,e,?_,hr,w8,w8⟩;unfold uz at*;dsimp only[RV.o,RV.B]at*;simp only[CB,M,b,l,Q,q,k9,T,a99,AV.cP,AV.Q,EVX,seval]
def Iq(b:y C wO rM)(s:LU)(f:RV)(O:St)(o:T)(a:O[o]?=J (f.o s)):∃e:F,ai C wO [.da o 0] O=J (.cQ r e,O)/\e≠0:=by
 have d:=kK o O;rw[b.go d];dsimp only[RV.o,RV.B]at a;cases c:(f.k==11);·exact⟨3,by simp only[rM,a,c,K,seval],by omega⟩
 ·exact⟨4,by simp only[rM,a,c,K,seval],by omega⟩
structure ReadHas(C:Ctx)extends NextHas C where
 es:Has C wO rM
 j8:Has C Gu uU
 ac:Has C Jo pK
def RV.lu(d a:RV):Prop:=0<=a.b8/\a.aX=d.aX/\a.L=d.L
def adH (H:ReadHas C) (s:LU) (hs:z s<1099511627777) (kind:F) (y:RV) (hr:0<=y.b8) (O:St) (d:Ok O) (o:T) (k:O[o]?=J (y.o s)):
  ∃(a:RV) (e:F),ai C Gu [.da o 0,.cQ .u8 kind] O=J (.cQ r e,O.set o (a.o s))/\y.lu a:=by
 have m:o<z O:=(a00.mp k).1;have n:L eF [.da o 0,.cQ .u8 kind] O=J ([.da o 0,.cQ .u8 kind],O):=w8;have b:∀(x:AO) (e:F),Q (z O) [.cQ r e] (O.set o x)=O.set o x:=λx e=>by grind [bP,a99]
 obtain⟨a,e,q,f,h,i⟩:=yg H.toNextHas s hs y hr O d o k;have g:(O.set o (a.o s))[o]?=J (a.o s):=by simp[m]
 obtain⟨e2,w,p⟩:=Iq H.es s a _ o g;rw[H.j8.go n];dsimp only[RV.o,RV.B]at g w q;cases c:(e !=0)
 ·have l:e=0:=(by simpa using c);subst l;cases j:(a.k !=kind);·exact⟨a,0,by dsimp only[RV.o,RV.B];simp only[uU,q,g,j,b,K,seval],f,h,i⟩
  ·exact⟨a,e2,by dsimp only[RV.o,RV.B];simp only[uU,q,g,w,j,b,K,seval],f,h,i⟩
 ·exact⟨a,e,by dsimp only[RV.o,RV.B];simp only[uU,q,c,b,K,seval],f,h,i⟩
def aa0 (H:ReadHas C) (s:LU) (hs:z s<1099511627777) (last:F) (N:RV) (hr:0<=N.b8) (O:St) (f:Ok O) (o:T) (p:O[o]?=J (N.o s)):
  ∃(a:RV) (b:I) (e:F),ai C Jo [.da o 0,.cQ .u8 last] O=J (.de [.cW b,.cQ r e],O.set o (a.o s))/\N.lu a:=by
 have y:o<z O:=(a00.mp p).1;have A:L eF [.da o 0,.cQ .u8 last] O=J ([.da o 0,.cQ .u8 last],O):=w8;have d:∀(x:AO) (b:I) (e:F),Q (z O) [.cW b,.cQ r e] (O.set o x)=O.set o x:=λx b e=>by grind [bP,a99]
 obtain⟨a,e,q,k,h,i⟩:=yg H.toNextHas s hs N hr O f o p;have g:(O.set o (a.o s))[o]?=J (a.o s):=by simp[y]
 obtain⟨e2,w,B⟩:=Iq H.es s a _ o g;obtain⟨r2,e3,q2,t,u,v⟩:=yg H.toNextHas s hs a k _ (f.cg o (RV.below s a)) o g;rw[aF5]at q2;rw[H.ac.go A];dsimp only[RV.o,RV.B]at g w q q2;cases c:(e !=0)
 ·have l:e=0:=(by simpa using c);subst l;cases j:(a.k==last)
  ·cases m:(a.k==5);·exact⟨a,eF,e2,by dsimp only[RV.o,RV.B];simp only[pK,q,g,w,j,m,d,K,seval],k,h,i⟩
   ·cases n:(e3 !=0);·have l:e3=0:=(by simpa using n);subst l;exact⟨r2,eT,0,by dsimp only[RV.o,RV.B];simp only[pK,q,q2,g,j,m,d,K,seval],t,u.trans h,v.trans i⟩
    ·exact⟨r2,eF,e3,by dsimp only[RV.o,RV.B];simp only[pK,q,q2,g,j,m,n,d,K,seval],t,u.trans h,v.trans i⟩
  ·exact⟨a,eF,0,by dsimp only[RV.o,RV.B];simp only[pK,q,g,j,d,K,seval],k,h,i⟩
 ·exact⟨a,eF,e,by dsimp only[RV.o,RV.B];simp only[pK,q,c,d,K,seval],k,h,i⟩
def Jz:∀l:R JV,NVs (aO l)
 |[]=>by rw[aO];exact .db
 |j::l=>by
  rw[aO];intro v hv;rcases aE4.mp hv with h|h;·exact j.af v h
  ·exact Jz l v h
def ate(l:R LU):NVs (l.map AV.cU):=by intro v hv;obtain⟨s,_,rfl⟩:=aE8.mp hv;exact .cU _
def JV.ab:JV:=JV.fz 0 0 [] lb0
def JV.be:JV.ab.B=[.cQ .u8 0,.cQ r 0,.cU [],.sl 0 [],.sl 0 []]:=JV.c6 0 0 [] lb0
structure Pn(C:Ctx)(f:FuncId)(K:KF):Prop where
 fs:C.fs f=some K.ad
 eV:C.eV f=none
 eL:C.eL f=true
 ok:K.ok=true
def auh(n:T)(rs:R XR)(d:RX):P (AV×St):=match d with|J (.dq _,_,_)=>U|U=>U|J (_,e,a)=>match aZ e a rs with|U=>U|J vs=>J (dG vs,Q n vs a)
def Pn.go{f:n}{K:KF}(h:Pn C f K){args:LA}{O:St}(a:Nat.ble (z args) K.W=eT:=by rfl):ai C f args O=auh (z O) K.an (gu C (ai C) K.W K.ap (oH 0 args) O):=by have a:=Nat.not_lt.mpr (aD3 a);rw[asA h.fs h.eV h.eL h.ok];unfold GK auh;rw[show L eT args O=J (args,O)from w8];dsimp only;rw[K0 a];rfl
def nV(n rs e O):auh n rs (J (.ea,e,O))=match aZ e O rs with|U=>U|J vs=>J (dG vs,Q n vs O):=w8
def Zk(n rs e O):auh n rs (J (.du,e,O))=match aZ e O rs with|U=>U|J vs=>J (dG vs,Q n vs O):=w8
abbrev EL:Type:=BS×JV
def elC(x:EL):LA:=.cU x.1.1::x.2.B
def dU(xs:R EL):LA:=xs.flatMap elC
def kH(x:EL):z (elC x)=6:=by simp[elC,JV.dt]
def Jb(xs:R EL):z (dU xs)=z xs*6:=bz kH xs
def NL(x:EL):ae 0 (elC x)=eT:=by unfold elC;rw[ae,JV.aL];rfl
def yO(xs:R EL):ae 0 (dU xs)=eT:=dP NL xs
def rO(x:EL):(elC x).all AV.Q=eT:=by unfold elC;rw[a08,JV.Q];rfl
def yN(x:EL)(R:LA):(elC x++R).take 6=elC x:=by rw[<-kH x];simp
def ax8(x:EL)(R:LA):6<=z (elC x++R):=by simp[kH]
def Iw(xs:R EL)(i:T)(h:i<z xs):(dU xs).drop (i*6)=elC xs[i]++dU (xs.drop (i+1)):=iy kH (Z2 h)
def row(O:St)(o:T)(t:P (W×I))(xs:R EL):St:=O.set o (.cP (dU xs) ⟨eF,t⟩)
def an8{O:St}{o:T}(h:o<z O)(t:P (W×I))(xs:R EL):(row O o t xs)[o]?=J (.cP (dU xs) ⟨eF,t⟩):=by simp[row,h]
def avf(O:St)(o:T)(t:P (W×I))(xs a:R EL):(row O o t xs).set o (.cP (dU a) ⟨eF,t⟩)=row O o t a:=by simp[row]
def aaE(O:St)(o:T)(t:P (W×I))(xs:R EL):z (row O o t xs)=z O:=by simp[row]
def ahH(a:n):AV:=.dv (.func a) [] []
def amb(x:EL):NVs (elC x):=by unfold elC;exact .cV (.cU _) x.2.af
def set_self{Y:St}{p:T}{x:AO}(h:Y[p]?=J x):Y.set p x=Y:=by apply aD6;grind
def yG{S:St}{n:T}(h:z S=n)(L:St)(k:T):(S++L)[n+k]?=L[k]?:=by grind
def aU{S:St}{n:T}(h:z S=n)(L:St):(S++L)[n]?=L[0]?:=yG h L 0
def ad3{S:St}{n:T}(h:z S=n)(L:St)(k:T)(y:AO):(S++L).set (n+k) y=S++L.set k y:=by grind
def fV{S:St}{n:T}(h:z S=n)(L:St)(y:AO):(S++L).set n y=S++L.set 0 y:=ad3 h L 0 y
def aj{S:St}{q:T}{x:AO}(h:S[q]?=J x)(L:St):(S++L)[q]?=J x:=by grind
def gZ{S:St}{q:T}{x:AO}(h:S[q]?=J x)(L:St)(y:AO):(S++L).set q y=S.set q y++L:=by grind
def bF{S:St}{q:T}{x:AO}(h:S[q]?=J x)(y:AO):(S.set q y)[q]?=J y:=by simp[(a00.mp h).1]
def aH{S:St}{p q:T}{x:AO}(h:S[p]?=J x)(a:p≠q)(y:AO):(S.set q y)[p]?=J x:=by grind
def eP(S:St)(k q:T)(h:k<=q)(y:AO):(S.set q y).take k=S.take k:=by apply aD6;grind
def qO(S L:St)(k:T)(h:k<=z S):(S++L).take k=S.take k:=aF8 h
def nC(xs:R EL):LA:=xs.map λx=>.cU x.1.1
def yh(xs:R EL):LA:=aO (xs.map (·.2))
def Og(xs:R EL):z (nC xs)=z xs:=by simp[nC]
def Tj(xs:R EL):z (yh xs)=z xs*5:=by simp[yh,jH]
def Qm(xs:R EL)(x:EL):nC (xs++[x])=nC xs++[.cU x.1.1]:=by simp[nC]
def Vt(xs:R EL)(x:EL):yh (xs++[x])=yh xs++x.2.B:=by simp[yh,LV,aO]
def Lt{O:St}{sz bytes n m q:T}{l:LA}(cs:LA)(d:O[q]?=J (.cP l FZ))(c:¬m=0)(b:z l=n*sz)(a:(n+m)*bytes<=70368744177664)(h2:n+m<=70368744177664):uD O sz bytes U (.dj q 0 n sz) m cs=J (.dj (z O) 0 (n+m) sz,O.set q .em++[.cP (l++cs) FZ]):=by unfold uD;grind
def axK(q1 q2 n:T):AO:=.cP [.cQ .u8 5,.cQ r 0,.cU [],.dj q1 0 n 1,.dj q2 0 n 5] FZ
structure awO(o n0 N:Nat)(t:Option (TypeId×Bool))(xs:List EL)(i q1 q2:Nat)(Y:St):Prop where
 ej:Y[o]?=some (.cP (dU xs) ⟨false,t⟩)
 v:Y[n0+1]?=some (axK q1 q2 i)
 jx:Y[q1]?=some (.cP (nC (xs.take i)) FZ)
 pA:Y[q2]?=some (.cP (yh (xs.take i)) FZ)
 lo:o<n0
 l1:n0+2<=q1
 l2:n0+2<=q2
 ne:q1≠q2
def ZZ (o n0 N:Nat) (hN:N<274877906944) (t:Option (TypeId×Bool)) (xs:List EL) (hx:z xs=N):∀(n i q1 q2:Nat) (Y:St),i+n=N->1<=i->awO o n0 N t xs i q1 q2 Y->
  ∃(j p:Nat) (q:St),aG C (ai C) 31 [2,3,9,10,11] lN [(2,.da n0 0),(3,.da (n0+1) 0),(9,.dj o 0 N 6),(10,.cQ r N),(11,.cQ r i)] Y=J (.dq 0,[(2,.da n0 0),(3,.da (n0+1) 0)],q)/\awO o n0 N t xs N j p q/\q.take (n0+1)=Y.take (n0+1)
 |0,i,q1,q2,Y,hi,Z,I=>by
  refine ⟨q1,q2,Y,?_,(by have:i=N:=by omega
                         subst this;exact I),w8⟩
  rw[aB (he:=w8)];have h:¬((i:Int)<(N:Int)):=(by omega);simp only[lN,h,EVX,seval]
 |n+1,i,q1,q2,Y,hi,Z,I=>by
  obtain⟨b,hv,s,E,B,aa,ab,D⟩:=I;have iN:i<N:=(by omega);have H:i<z xs:=(by omega);have h:((i:Int)<(N:Int)):=(by omega);have pi:(0:Int)<=(i:Int):=(by omega);have hw:=wrS i (by omega);have S:=Iw xs i H;have G:xs.take (i+1)=xs.take i++[xs[i]]:=(by rw[aG0 H]);have u:=Og (xs.take i);have v:=Tj (xs.take i);have lt:z (xs.take i)=i:=by simp;omega
  rw[lt]at u v;have ca:∀l,AV.cP (.cX l)=l:=λ_=>w8;generalize hm:xs[i]=x at*;have S1:z (Y.set q1 .em)=z Y:=(by simp);have v1:=aH hv (show n0+1≠q1 by omega) .em;have a1:=aH E (λe=>D e.symm) .em;unfold axK at*;rw[aB (he:=w8)];generalize hk:aG C (ai C) 31 [2,3,9,10,11] lN=k at*;have b0:=λL=>aj hv L;have Q:=λL=>aj s L;have p0:=λL y=>gZ s L y;have X:=λL=>aU (w8:z Y=_) L;have s1:=λL y=>fV (w8:z Y=_) L y;have b1:=λL=>aj v1 L;have pv:=λL y=>gZ v1 L y;have T:(elC x).head? =J (.cU x.1.1):=w8;have W:(elC x).drop 1=x.2.B:=w8;have V:x.2.B.take 5=x.2.B:=a98 (by rw[JV.dt];exact Z6 _);have el:5<=z x.2.B:=by rw[JV.dt];exact Z6 _
  have jl:=JV.dt x.2;have jf:=JV.Q x.2;have na:=Qm (xs.take i) x;have va:=Vt (xs.take i) x;have f:=Lt (O:=Y++[.cP (elC x) FZ]) (sz:=1) (bytes:=16) (n:=i) (m:=1) [.cU x.1.1] (Q _) (by omega) (by rw[u];omega) (by omega) (by omega);rw[p0,a03,aB2]at f;simp only[a94,a96,a05,a88,aC4,<-na]at f;have v2:=bF v1 (.cP [.cQ .u8 5,.cQ r 0,.cU [],.dj (z Y+1) 0 (i+1) 1,.dj q2 0 i 5] FZ);have a2:=aH a1 (show q2≠n0+1 by omega) (.cP [.cQ .u8 5,.cQ r 0,.cU [],.dj (z Y+1) 0 (i+1) 1,.dj q2 0 i 5] FZ);generalize a:(Y.set q1 .em).set (n0+1) (.cP [.cQ .u8 5,.cQ r 0,.cU [],.dj (z Y+1) 0 (i+1) 1,.dj q2 0 i 5] FZ)=w at*;have c:z w=z Y:=by rw[<-a];simp
  have M:=λL=>aj v2 L;have R:=λL=>aj a2 L;have p2:=λL y=>gZ a2 L y;have w1:=λL=>aU c L;have g:=Lt (O:=w++[.cP (elC x) FZ,.cP (nC (xs.take i++[x])) FZ]) (sz:=5) (bytes:=80) (n:=i) (m:=1) x.2.B (R _) (by omega) v (by omega) (by omega);rw[p2,a03,aB2,c]at g;simp only[a94,a96,a05,a88,aC4,<-va]at g;have v3:=aH v2 (show n0+1≠q2 by omega) .em;have p3:=λL y=>gZ v3 L y;have P:=λL=>aj v3 L;simp only[lN,h,T,W,V,jl,jf,f,g,a,M,w1,p3,P,iN,pi,hw,S,b,b0,X,s1,b1,pv,ca,yN,ax8,kH,rO,k9,EVX,seval];have v4:=bF v3 (.cP [.cQ .u8 5,.cQ r 0,.cU [],.dj (z Y+1) 0 (i+1) 1,.dj (z Y+2) 0 (i+1) 5] FZ);have o1:=aH b (show o≠q1 by omega) .em;have K:=aH o1 (show o≠n0+1 by omega) (.cP [.cQ .u8 5,.cQ r 0,.cU [],.dj (z Y+1) 0 (i+1) 1,.dj q2 0 i 5] FZ);rw[a]at K;have o3:=aH K (show o≠q2 by omega) .em;have o4:=aH o3 (show o≠n0+1 by omega) (.cP [.cQ .u8 5,.cQ r 0,.cU [],.dj (z Y+1) 0 (i+1) 1,.dj (z Y+2) 0 (i+1) 5] FZ);have nl:n0+1<z Y:=(a00.mp hv).1;have t4:((w.set q2 .em).set (n0+1) (.cP [.cQ .u8 5,.cQ r 0,.cU [],.dj (z Y+1) 0 (i+1) 1,.dj (z Y+2) 0 (i+1) 5] FZ)).take (n0+1)=Y.take (n0+1):=(by rw[eP _ _ _ (Z6 _),eP _ _ _ (by omega),<-a,eP _ _ _ (Z6 _),eP _ _ _ (by omega)]);generalize A:(w.set q2 .em).set (n0+1) (.cP [.cQ .u8 5,.cQ r 0,.cU [],.dj (z Y+1) 0 (i+1) 1,.dj (z Y+2) 0 (i+1) 5] FZ)=F at*;have d:z F=z Y:=by rw[<-A];simp[c]
  obtain⟨j,p,q,e1,e2,e3⟩:=ZZ o n0 N hN t xs hx n (i+1) (z Y+1) (z Y+2) (F++[.cP (elC x) FZ,.cP (nC (xs.take i++[x])) FZ,.cP (yh (xs.take i++[x])) FZ]) (by omega) (by omega)
   ⟨aj o4 _,aj v4 _,by rw[yG d,G];rfl,by rw[yG d,G];rfl,B,by omega,by omega,by omega⟩
  rw[hk]at e1;exact⟨j,p,q,e1,e2,by rw[e3,qO _ _ _ (by rw[d];omega),t4]⟩
def ah4 (o:T) (O:St) (n:o<z O) (N:T) (m:N<274877906944) (t:P (W×I)) (xs:R EL) (p:z xs=N) (w:1<=N) (res:AO):
  ∃(q1 q2:T) (a:St),aG C (ai C) 31 [2,3,9,10,11] lN [(2,.da (z O) 0),(3,.da (z O+1) 0),(9,.dj o 0 N 6),(10,.cQ r N),(11,.cQ r 0)] (row O o t xs++[res,.cP [.cQ .u8 5,.cQ r 0,.cU [],.cY,.cY] FZ])=J (.dq 0,[(2,.da (z O) 0),(3,.da (z O+1) 0)],a)/\
   awO o (z O) N t xs N q1 q2 a/\a.take (z O+1)=row O o t xs++[res]:=by
 have rl:z (row O o t xs)=z O:=aaE O o t xs;have hr:=an8 n t xs;have l0:0<z xs:=by omega
 have h:((0:F)<(N:F)):=by omega
 have u:0<N:=by omega
 have d:=Iw xs 0 l0;have e:xs.take 1=[xs[0]]:=by
  cases xs with
  |nil=>simp at l0|cons x l=>rfl
 generalize D:xs[0]=x at*;have ca:∀l,AV.cP (.cX l)=l:=λ_=>w8;have r0:=λL=>aj hr L;have j:=λL k=>yG rl L k;have s2:=λL k y=>ad3 rl L k y;have f:(elC x).head? =J (.cU x.1.1):=w8;have i:(elC x).drop 1=x.2.B:=w8;have g:x.2.B.take 5=x.2.B:=a98 (by rw[JV.dt];exact Z6 _);have v:5<=z x.2.B:=by rw[JV.dt];exact Z6 _
 have s:=JV.dt x.2;have q:=JV.Q x.2;have b:∀S:St,uD S 1 16 U .cY 1 [.cU x.1.1]=J (.dj (z S) 0 1 1,S++[.cP [.cU x.1.1] FZ]):=λS=>Nw S U [.cU x.1.1] (by omega) (by omega) (by omega);have c:∀S:St,uD S 5 80 U .cY 1 x.2.B=J (.dj (z S) 0 1 5,S++[.cP x.2.B FZ]):=λS=>Nw S U x.2.B (by omega) (by omega) (by omega)
 rw[aB (he:=w8)];have rc:=ZZ (C:=C) o (z O) N m t xs p (N-1) 1 (z O+3) (z O+4) (row O o t xs++[res,.cP [.cQ .u8 5,.cQ r 0,.cU [],.dj (z O+3) 0 1 1,.dj (z O+4) 0 1 5] FZ,.cP (elC x) FZ,.cP [.cU x.1.1] FZ,.cP x.2.B FZ]) (by omega) (Z6 _)
  ⟨aj hr _,by rw[yG rl];rfl,by rw[yG rl,e];rfl,by rw[yG rl,e];simp[yh,aO],by omega,by omega,by omega,by omega⟩
 obtain⟨q1,q2,a,e1,e2,e3⟩:=rc;generalize B:aG C (ai C) 31 [2,3,9,10,11] lN=k at*;refine⟨q1,q2,a,?_,e2,?_⟩;·simp only[aB1]at e1;simp only[Nat.zero_mul]at d;simp only[lN,h,u,d,r0,j,s2,rl,b,c,f,i,g,s,q,ca,yN,kH,rO,k9,a03,aJ8,K,seval];exact e1
 grind
def VG(C:w)(fs c:n):Prop:=∀(O:St),Ok O->∀(o:T),o<z O->∀(t:P (W×I)) (N:T),N<1099511627776->∀b:R EL,z b=N->∃a:R EL,z a=N/\ai C fs [.dj o 0 N 6,ahH c] (row O o t b)=J (.de [],row O o t a)
def aiR (v:VG C jw GY) (s:Pn C FX Lm)
  (o:T) (O:St) (f:Ok O) (i:o<z O) (N:T) (u:N<274877906944) (t:P (W×Bool)) (xs:R EL) (w:z xs=N) (e:1<=N):
  ∃(b:R EL) (q1 q2:T) (a:St),z b=N/\ai C FX [.dj o 0 N 6] (row O o t xs)=J (.cX [.cQ .u8 5,.cQ r 0,.cU [],.dj q1 0 N 1,.dj q2 0 N 5],a)/\a.take (z O)=row O o t b/\
   a[q1]?=J (.cP (nC b) FZ)/\a[q2]?=J (.cP (yh b) FZ)/\z O+2<=q1/\z O+2<=q2/\q1≠q2:=by
 have rl:=aaE O o t xs;have n:∀g:R EL,(O++[.cP [.cQ .u8 0,.cQ r 0,.cU [],.cY,.cY] FZ]:St).set o (.cP (dU g) ⟨eF,t⟩)=row O o t g++[.cP [.cQ .u8 0,.cQ r 0,.cU [],.cY,.cY] FZ]:=λg=>by rw[aH7 _ _ i];rfl
 obtain⟨x1,m,d⟩:=v (O++[.cP [.cQ .u8 0,.cQ r 0,.cU [],.cY,.cY] FZ]) (f.H w8) o (by simp;omega) t N (by omega) xs w;unfold row at d;rw[n,n]at d;obtain⟨q1,q2,a,e1,I,e3⟩:=ah4 (C:=C) o O i N u t x1 m e (.cP [.cQ .u8 0,.cQ r 0,.cU [],.cY,.cY] FZ);obtain⟨i1,i2,j,l,D,x,A,i8⟩:=I;have tk:x1.take N=x1:=a98 (by omega);rw[tk]at j l;unfold axK at i2;have h:a[z O]?=J (.cP [.cQ .u8 0,.cQ r 0,.cU [],.cY,.cY] FZ):=by
  have:(a.take (z O+1))[z O]?=J (.cP [.cQ .u8 0,.cQ r 0,.cU [],.cY,.cY] FZ):=by rw[e3,aU (aaE O o t x1)];rfl
  grind
 refine⟨x1,q1,q2,a.set (z O) (.cP [.cQ .u8 5,.cQ r 0,.cU [],.dj q1 0 N 1,.dj q2 0 N 5] FZ),m,?_,?_,aH j (by omega) _,aH l (by omega) _,x,A,i8⟩
 ·have c:=aaE O o t x1;have s2:=λL k y=>ad3 c L k y;have p:=λL k=>yG c L k;have q:=bF h (.cP [.cQ .u8 5,.cQ r 0,.cU [],.dj q1 0 N 1,.dj q2 0 N 5] FZ);have B:∀S:St,tidy (z O) [.cX [.cQ .u8 5,.cQ r 0,.cU [],.dj q1 0 N 1,.dj q2 0 N 5]] S=S:=λS=>qY (by
   have:¬q1<z O:=(by omega);simp[ae,below,this]) S
  rw[s.go,rl];unfold ahH at d;simp only[Lm,d,e1,rl,c,s2,p,h,q,i2,B,aZ,k9,AV.cP,AV.Q,nV,K,seval]
 ·rw[eP _ _ _ (Z6 _)];have:(a.take (z O+1)).take (z O)=row O o t x1:=(by grind);grind
def ajP(C:w)(s:LU)(m:T):Prop:=∀(d:RV) (O:St) (o:T),Ok O->O[o]?=J (d.o s)->0<=d.b8->0<=d.aX->8192<=d.aX+m->
 ∃(j:JV) (e:F) (a:RV),ai C Be [.da o 0] O=J (.de [j.av,.cQ r e],O.set o (a.o s))/\0<=a.b8/\d.aX<=a.aX/\(e=0->d.aX<a.aX/\a.aX<=8192)
def atT(C:w)(f:n)(s:LU)(m:T):Prop:=∀(d:RV) (O:St) (o:T),Ok O->O[o]?=J (d.o s)->0<=d.b8->0<=d.aX->d.aX<=8192->8192<=d.aX+m->
 ∃(j:JV) (e:F) (a:RV),ai C f [.da o 0] O=J (.de [j.av,.cQ r e],O.set o (a.o s))/\0<=a.b8/\d.aX<=a.aX/\(e=0->a.aX<=8192)
def QK{O:St}(a:Ok O)(o:T){x:AO}(b:x.below 0=eT)(vs:LA)(hv:ae 0 vs=eT)(L:St):Q (z O) vs (O.set o x++L)=O.set o x:=by have:=bu (a.cg o b) (vs:=vs) hv L;rwa[a99]at this
def mY:AO:=.cP [.cQ .u8 0,.cQ r 0,.cU [],.cY,.cY] FZ
def afj(hC:Has C Be bW)(hw:Has C wO rM)(s:LU)(m:Nat)(hL:0<m->atT C yB s (m-1))(hO:0<m->atT C vH s (m-1)):ajP C s m:=by
 intro co O o B V p ac hm;have hn:=kK o O;have Z:∀(x:AO) (hx:x.below 0=eT) (L:St),L.all (AO.below 0)=eT->Ok (O.set o x++L):=λx hx L hL=>(B.cg o hx).H hL;obtain⟨e1,w,we⟩:=Iq hw s co (O++[mY]) o (aj V _);rw[hC.go hn];obtain⟨pl,k,a,z,n,t,i,b,f⟩:=co;dsimp only[RV.o,RV.B,mY]at*;have l:=λL=>aj V L;have D:=λL y=>gZ V L y;have A:=λx L=>aj (bF V x) L;have p1:∀(x y:AO) (L:St),(O.set o x++L).set o y=O.set o y++L:=λx y L=>by rw[gZ (bF V x),aF5]
 have c:=set_self V;have v:∀(q m':Int) (w:LU) (e Q N E T P:Int) (S:LU) (M G I:Int) (L:St),tidy O.length [.cX [.cQ .u8 q,.cQ r m',.cU w,.sl 0 [],.sl 0 []],.cQ r e] (O.set o (.cP [.cU s,.cQ r Q,.cQ .u8 N,.cQ r E,.cQ r T,.cQ r P,.cU S,.cQ r M,.cQ r G,.cQ r I] FZ)++L)=O.set o (.cP [.cU s,.cQ r Q,.cQ .u8 N,.cQ r E,.cQ r T,.cQ r P,.cU S,.cQ r M,.cQ r G,.cQ r I] FZ):=λq m' w e Q N E T P S M G I L=>QK B o w8 _ w8 L;have aa:∀(j:JV) (e Q N E T P:Int) (S:LU) (M G I:Int) (L:St),tidy O.length [.cX j.B,.cQ r e] (O.set o (.cP [.cU s,.cQ r Q,.cQ .u8 N,.cQ r E,.cQ r T,.cQ r P,.cU S,.cQ r M,.cQ r G,.cQ r I] FZ)++L)=O.set o (.cP [.cU s,.cQ r Q,.cQ .u8 N,.cQ r E,.cQ r T,.cQ r P,.cU S,.cQ r M,.cQ r G,.cQ r I] FZ):=λj e Q N E T P S M G I L=>QK B o w8 _ (by rw[ae,below,j.aL];rfl) L;have u:∀(e:Int) (L:St),tidy O.length [.cX [.cQ .u8 0,.cQ r 0,.cU [],.sl 0 [],.sl 0 []],.cQ r e] (O++L)=O:=λe L=>bu B (vs:=[.cX [.cQ .u8 0,.cQ r 0,.cU [],.sl 0 [],.sl 0 []],.cQ r e]) w8 L;by_cases h7:k=7
 ·subst h7;by_cases g:8192<=b;·refine⟨JV.ab,5,⟨pl,7,a,z,n,t,i,b,f⟩,?_,p,aI7 _,λh=>j8 h (by decide)⟩;dsimp only[RV.o,RV.B];rw[c];simp only[bW,g,l,u,aZ,bK,dQ,AV.cP,AV.Q,j9,JV.be,k9,EVX,seval]
  ·have d:IntKind.i64.wrap (b+1)=b+1:=wrE (by omega);refine⟨JV.fz 1 1 [] lb0,0,⟨pl,7,a,z,n,t,i,b+1,f⟩,?_,p,by dsimp only;omega,λ_=>by dsimp only;omega⟩;simp only[bW,g,d,l,D,A,qy,BZ,v,aZ,bK,dQ,AV.cP,AV.Q,j9,JV.c6,k9,EVX,seval]
 by_cases h8:k=8
 ·subst h8;by_cases g:8192<=b;·refine⟨JV.ab,5,⟨pl,8,a,z,n,t,i,b,f⟩,?_,p,aI7 _,λh=>j8 h (by decide)⟩;dsimp only[RV.o,RV.B];rw[c];simp only[bW,g,l,u,aZ,bK,dQ,AV.cP,AV.Q,j9,JV.be,k9,EVX,seval]
  ·have d:IntKind.i64.wrap (b+1)=b+1:=wrE (by omega);refine⟨JV.fz 1 0 [] lb0,0,⟨pl,8,a,z,n,t,i,b+1,f⟩,?_,p,by dsimp only;omega,λ_=>by dsimp only;omega⟩;simp only[bW,g,d,l,D,A,qy,BZ,v,aZ,bK,dQ,AV.cP,AV.Q,j9,JV.c6,k9,EVX,seval]
 by_cases h9:k=9
 ·subst h9;by_cases g:8192<=b;·refine⟨JV.ab,5,⟨pl,9,a,z,n,t,i,b,f⟩,?_,p,aI7 _,λh=>j8 h (by decide)⟩;dsimp only[RV.o,RV.B];rw[c];simp only[bW,g,l,u,aZ,bK,dQ,AV.cP,AV.Q,j9,JV.be,k9,EVX,seval]
  ·have d:IntKind.i64.wrap (b+1)=b+1:=wrE (by omega);refine⟨JV.fz 2 n [] lb0,0,⟨pl,9,a,z,n,t,i,b+1,f⟩,?_,p,by dsimp only;omega,λ_=>by dsimp only;omega⟩;simp only[bW,g,d,l,D,A,qy,BZ,v,aZ,bK,dQ,AV.cP,AV.Q,j9,JV.c6,k9,EVX,seval]
 by_cases W:k=10
 ·subst W;by_cases g:8192<=b;·refine⟨JV.ab,5,⟨pl,10,a,z,n,t,i,b,f⟩,?_,p,aI7 _,λh=>j8 h (by decide)⟩;dsimp only[RV.o,RV.B];rw[c];simp only[bW,g,l,u,aZ,bK,dQ,AV.cP,AV.Q,j9,JV.be,k9,EVX,seval]
  ·have d:IntKind.i64.wrap (b+1)=b+1:=wrE (by omega);refine⟨JV.fz 3 0 t.1 t.2,0,⟨pl,10,a,z,n,t,i,b+1,f⟩,?_,p,by dsimp only;omega,λ_=>by dsimp only;omega⟩;simp only[bW,g,d,l,D,A,qy,BZ,v,aZ,bK,dQ,AV.cP,AV.Q,j9,JV.c6,k9,EVX,seval]
 by_cases h1:k=1
 ·subst h1;by_cases g:8192<=b;·refine⟨JV.ab,5,⟨pl,1,a,z,n,t,i,b,f⟩,?_,p,aI7 _,λh=>j8 h (by decide)⟩;dsimp only[RV.o,RV.B];rw[c];simp only[bW,g,l,u,aZ,bK,dQ,AV.cP,AV.Q,j9,JV.be,k9,EVX,seval]
  ·have d:IntKind.i64.wrap (b+1)=b+1:=wrE (by omega);by_cases X:12<=f;·refine⟨JV.ab,8,⟨pl,1,a,z,n,t,i,b+1,f⟩,?_,p,by dsimp only;omega,λh=>j8 h (by decide)⟩;simp only[bW,g,d,X,l,D,A,qy,BZ,v,aZ,bK,dQ,AV.cP,AV.Q,j9,JV.be,k9,EVX,seval]
   ·obtain⟨j,e,r2,q1,q2,q3,q4⟩:=hO (by omega) ⟨pl,1,a,z,n,t,i,b+1,IntKind.i64.wrap (f+1)⟩ (O.set o (RV.o s ⟨pl,1,a,z,n,t,i,b+1,IntKind.i64.wrap (f+1)⟩)++[mY,mY]) o (Z _ w8 _ w8) (A _ _) p (by dsimp only;omega) (by dsimp only;omega) (by dsimp only;omega);rw[p1]at q1;obtain⟨R,k2,a2,z2,n2,t2,F,H,K⟩:=r2;dsimp only[RV.o,RV.B,mY]at q1 q2 q3 q4;have nf:=λY co=>j.af.nf Y co;have jl:=JV.dt j;have jf:=JV.Q j;have jt:j.B.take 5=j.B:=a98 (by rw[JV.dt];exact Z6 _);have je:5<=j.B.length:=by rw[JV.dt];exact Z6 _
    refine⟨j,e,⟨R,k2,a2,z2,n2,t2,F,H,IntKind.i64.wrap (K-1)⟩,?_,q2,by dsimp only at*;omega,λh=>⟨by dsimp only at*;omega,q4 h⟩⟩;simp only[bW,g,d,X,q1,nf,jl,jf,jt,aa,l,D,A,p1,ad1,qy,ad2,BZ,aZ,bK,AV.cP,AV.Q,j9,a99,k9,EVX,seval]
 by_cases h3:k=3
 ·subst h3;by_cases g:8192<=b;·refine⟨JV.ab,5,⟨pl,3,a,z,n,t,i,b,f⟩,?_,p,aI7 _,λh=>j8 h (by decide)⟩;dsimp only[RV.o,RV.B];rw[c];simp only[bW,g,l,u,aZ,bK,dQ,AV.cP,AV.Q,j9,JV.be,k9,EVX,seval]
  ·have d:IntKind.i64.wrap (b+1)=b+1:=wrE (by omega);by_cases X:12<=f;·refine⟨JV.ab,8,⟨pl,3,a,z,n,t,i,b+1,f⟩,?_,p,by dsimp only;omega,λh=>j8 h (by decide)⟩;simp only[bW,g,d,X,l,D,A,qy,BZ,v,aZ,bK,dQ,AV.cP,AV.Q,j9,JV.be,k9,EVX,seval]
   ·obtain⟨j,e,r2,q1,q2,q3,q4⟩:=hL (by omega) ⟨pl,3,a,z,n,t,i,b+1,IntKind.i64.wrap (f+1)⟩ (O.set o (RV.o s ⟨pl,3,a,z,n,t,i,b+1,IntKind.i64.wrap (f+1)⟩)++[mY,mY]) o (Z _ w8 _ w8) (A _ _) p (by dsimp only;omega) (by dsimp only;omega) (by dsimp only;omega);rw[p1]at q1;obtain⟨R,k2,a2,z2,n2,t2,F,H,K⟩:=r2;dsimp only[RV.o,RV.B,mY]at q1 q2 q3 q4;have nf:=λY co=>j.af.nf Y co;have jl:=JV.dt j;have jf:=JV.Q j;have jt:j.B.take 5=j.B:=a98 (by rw[JV.dt];exact Z6 _);have je:5<=j.B.length:=by rw[JV.dt];exact Z6 _
    refine⟨j,e,⟨R,k2,a2,z2,n2,t2,F,H,IntKind.i64.wrap (K-1)⟩,?_,q2,by dsimp only at*;omega,λh=>⟨by dsimp only at*;omega,q4 h⟩⟩;simp only[bW,g,d,X,q1,nf,jl,jf,jt,aa,l,D,A,p1,ad1,qy,ad2,BZ,aZ,bK,AV.cP,AV.Q,j9,a99,k9,EVX,seval]
 have n7:(k==7)=eF:=by simpa using h7
 have n8:(k==8)=eF:=by simpa using h8
 have n9:(k==9)=eF:=by simpa using h9
 have ab:(k==10)=eF:=by simpa using W
 have n1:(k==1)=eF:=by simpa using h1
 have n3:(k==3)=eF:=by simpa using h3
 refine⟨JV.ab,e1,⟨pl,k,a,z,n,t,i,b,f⟩,?_,p,aI7 _,λh=>j8 h we⟩;dsimp only[RV.o,RV.B];rw[c];simp only[bW,n7,n8,n9,ab,n1,n3,w,l,u,aZ,bK,dQ,AV.cP,AV.Q,j9,JV.be,k9,EVX,seval]
def Eo{Y:St}{q n sz:T}{l:LA}{fz:Fz}(b:Y[q]?=J (.cP l fz))(a:z l=n*sz)(ns:NVs l):cu Y (eX Y 11) (.dj q 0 n sz)=J (.sl n l,[q]):=by
 have c:eX Y 11 l=J (l,[]):=by show bI Y (eX Y 10) l=_;exact ns.nf _ _
 unfold cu;grind
def qf{Y:St}{q:T}{l:LA}(a:Y[q]?=J (.cP l FZ)):i Y [q]=Y.set q (.cP l ⟨eT,U⟩):=by unfold i;rw[a];rfl
def Du{O S:St}{vs:LA}{x:AO}{o:T}(a:Ok O)(c:x.below 0=eT)(hv:ae 0 vs=eT)(h:S.take (z O)=O.set o x):Q (z O) vs S=O.set o x:=by
 unfold Q;have d:z (S.take (z O))=z O:=by rw[h];simp
 have hok:(S.take (z O)).all (AO.below (z O))=eT:=by have:=a.cg o c;grind [Ok]
 by_cases b:z S=z O;·grind
 ·rw[K0 b,hok,aP (a97 _) _ hv];exact h
def aft(Y:St)(n0:T)(is:R JV)(x:AV):Prop:=(is=[]/\x=.cY)\/(is≠[]/\∃q,x=.dj q 0 (z is) 5/\Y[q]?=J (.cP (aO is) FZ)/\n0+2<=q)
structure awI(s:LU)(O:St)(o:Nat)(r:RV)(is:List JV)(x:AV)(Y:St):Prop where
 oA:Ok Y
 hr:Y[o]?=some (r.o s)
 m5:Y[O.length]?=some mY
 hv:Y[O.length+1]?=some (.cP [.cQ .u8 4,.cQ .i64 0,.cU [],.cY,x] FZ)
 pf:aft Y O.length is x
 m4:Y.take O.length=O.set o (r.o s)
def aA7(s:LU)(O:St)(o:T)(ct:F)(x:RX):Prop:=∃(b:RV) (e:F) (a:St) (l:LA),x=J (.ea,[(2,.da (z O) 0),(3,.cQ r e)],a)/\0<=b.b8/\ct<=b.aX/\(e=0->b.aX<=8192)/\a.take (z O)=O.set o (b.o s)/\
 a[z O]?=J (.cP l FZ)/\(l=[.cQ .u8 0,.cQ r 0,.cU [],.cY,.cY]\/∃(is:R JV) (q:T),z is<=8192/\l=[.cQ .u8 4,.cQ r 0,.cU [],.cY,.dj q 0 (z is) 5]/\a[q]?=J (.cP (aO is) FZ)/\z O+2<=q)
end Go.Ev
