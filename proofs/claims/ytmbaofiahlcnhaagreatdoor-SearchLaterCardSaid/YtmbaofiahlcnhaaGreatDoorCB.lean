/- Code. No conditions. -/
import Derived.Test.YtmbaofiahlcnhaaGreatDoorCA
import Derived.Test.YtmbaofiahlcnhaaGreatDoorEC
import Derived.Test.YtmbaofiahlcnhaaGreatDoorProg
set_option linter.unusedVariables false
set_option linter.unusedSimpArgs false
set_option linter.defProp false
namespace Go.Ev
open Option renaming some→J, none→U
open Bool renaming false→eF, true→eT
open List renaming length→z
open Go.IntKind renaming i64→r
def Ms.lk{V:Val}{t:Sh}{v:AV}(h:Ms V [t] [v]):M V t v:=by
 generalize a:[v]=w at h;cases h with
 |eo _ _ x b c h2 h3=>cases a;exact h2|jv _ j b hb=>have:=congrArg List.length a;rw[a04,j.dt]at this;simp at this;omega|jg _ _ _ j b hj hb=>have:=congrArg List.length a;rw[a04,j.dt]at this;simp at this;omega
section
variable{C:Ctx}{X:Cfg}{PK:PkI}{O0:Frm}{V:Vo}{A:Ab}{E:As}{Y:St}
structure Op(V:Vo)(A:Ab)(V':Vo)(A':Ab):Prop where
 le:V.toVal.le V'.toVal
 ac:V'.ac=V.ac
 ρ:V'.ρ=V.ρ
 wr:A'.wr=A.wr
 ls:A'.ls=A.ls
 az:A'.az=A.az
 Q:A'.Q=A.Q
def Op.ah:Op V A V A:=⟨.cf,rfl,rfl,rfl,rfl,rfl,rfl⟩
def Op.N{V' b:Vo}{A' a:Ab}(h:Op V A V' A')(k:Op V' A' b a):Op V A b a:=⟨h.le.N k.le,k.ac.trans h.ac,k.ρ.trans h.ρ,k.wr.trans h.wr,k.ls.trans h.ls,k.az.trans h.az,k.Q.trans h.Q⟩
def Op.ch{V':Vo}{A':Ab}(h:Op V A V' A'):Ch V A Y V' A' Y:=
 ⟨h.le,λk a=>by rw[h.wr];exact a,h.ls,h.az,λk l a _=>⟨by rw[h.Q];exact a,by rw[h.ac],λ_ _ _ _=>rfl⟩⟩
def JF(h:G PK O0 V A E Y){l:List Sh}{v:LA}(b:Ms V.toVal l v):∃V':Vo,Op V A V' (opened A l).2/\G PK O0 V' (opened A l).2 E Y/\Ms V'.toVal (opened A l).1 v:=by obtain⟨V',a,h2,h3,h4,h5⟩:=acI h b;exact⟨V',⟨a,h2,h3,rfl,rfl,rfl,rfl⟩,h4,h5⟩
def age(h:G PK O0 V A E Y){s:Sh}{v:AV}(a:M V.toVal s v):∃V':Vo,Op V A V' (agd A s).2/\G PK O0 V' (agd A s).2 E Y/\M V'.toVal (agd A s).1 v:=by
 have one:∀s:Sh,M V.toVal s v->∃V':Vo,Op V A V' (if s.eo then(match opened A [s]with|([t],A)=>(t,A)|_=>(s,A))else(s,A)).2/\G PK O0 V' (if s.eo then(match opened A [s]with|([t],A)=>(t,A)|_=>(s,A))else(s,A)).2 E Y/\M V'.toVal (if s.eo then(match opened A [s]with|([t],A)=>(t,A)|_=>(s,A))else(s,A)).1 v:=by
  intro s a;cases d:s.eo with
  |false=>exact⟨V,.ah,h,a⟩
  |true=>
   simp only[if_true];obtain⟨V',b,h2,h3⟩:=JF h (Ms.eo s [] v [] d a .de);revert b h2 h3;generalize opened A [s]=q;obtain⟨t,e⟩:=q;intro b h2 h3;rcases t with _|⟨t,_|⟨f,l⟩⟩;·exact⟨V,.ah,h,a⟩
   ·exact⟨V',b,h2,Ms.lk h3⟩
   ·exact⟨V,.ah,h,a⟩
 cases s with
 |da l=>obtain⟨w,rfl,c⟩:=asE a;obtain⟨V',b,h2,h3⟩:=JF h c;exact⟨V',b,h2,.da _ _ h3⟩
 |jv=>obtain⟨w,rfl,c⟩:=ax2 a;obtain⟨V',b,h2,h3⟩:=JF h c;exact⟨V',b,h2,RF h3⟩
 |_=>exact one _ a
def JE:∀{l:List Sh} {w:LA} {V:Vo} {A:Ab},G PK O0 V A E Y->Mt V.toVal l w->∃V':Vo,Op V A V' (JD A l).2/\G PK O0 V' (JD A l).2 E Y/\Mt V'.toVal (JD A l).1 w|[],_,V,A,h,.de=>⟨V,.ah,h,.de⟩|s::l,_,V,A,h,.cW _ _ v b g h2=>by obtain⟨k,a,e,i⟩:=age h g;obtain⟨d,c,f,j⟩:=JE e (Mt.D a.le h2);exact⟨d,a.N c,f,.cW _ _ _ _ (i.D c.le) j⟩
def aah(h:G PK O0 V A E Y){s:Sh}{v:AV}(a:M V.toVal s v):∃V':Vo,Op V A V' (JC A s).2/\G PK O0 V' (JC A s).2 E Y/\M V'.toVal (JC A s).1 v:=by
 cases s with
 |df l=>obtain⟨w,rfl,c⟩:=anW a;obtain⟨V',b,h2,h3⟩:=JE h c;exact⟨V',b,h2,.df _ _ h3⟩
 |_=>exact age h a
theorem alF{O:St}{d:LA->Option (LA×List Nat)}{v:AV}{o f:Nat}{fs:List Nat}(h:bI O d v=J (.c8 o f,fs)):v=.c8 o f:=by
 cases v<;>simp only[bI]at h<;>(first|(cases h;done)|skip);all_goals (repeat' split at h)<;>cases h
 all_goals rfl
def afN{O O1:St}{azs b:LA}{o f:Nat}(h:hand eF azs O=J (.c8 o f::b,O1)):∃bs,azs=.c8 o f::bs:=by
 have h:(match dS O 12 azs with|J (l,fs)=>J (l,freeze O fs)|U=>U)=J (.c8 o f::b,O1):=h;rw[show dS O 12 azs=aZ O (dS O 11) azs from rfl]at h;cases azs with
 |nil=>cases h|cons a bs=>grind [aZ,alF]
def G.ld (h:G PK O0 V A E Y) {L:St} {o:Nat} {ms:List Nat} (hok:Ok (Y++L)) (hr:∀i∈o::ms,z Y<=i/\i<z (Y++L)) (D:PK.ok (Y++L) o ms):
  ∃V':Vo,Ch V A Y V' (A.ce .pk) (Y++L)/\G PK O0 V' (A.ce .pk) E (Y++L)/\M V'.toVal (.pk (z A.Q)) (.c8 o 0):=by
 have g:V.toVal.le (⟨⟨V.ν,V.ρ++[J o]⟩,V.ac++[o::ms]⟩:Vo).toVal:=⟨λi a e=>e,λi a e=>by
  grind⟩
 have p:(V.ρ++[J o])[z A.Q]?=J (J o):=by rw[<-h.lρ];simp
 have n:(V.ac++[o::ms])[z A.Q]?=J (o::ms):=by rw[<-h.lo];simp
 have m:∀(k:Nat) a,(V.ac++[o::ms])[k]?=J a->V.ac[k]?=J a\/k=z A.Q/\a=o::ms:=λk a e=>by grind [G]
 have d:∀(i:Nat),i<z Y->(Y++L)[i]?=Y[i]?:=λi hi=>aA3 hi;have y:z Y<=z (Y++L):=by simp
 refine⟨⟨⟨V.ν,V.ρ++[J o]⟩,V.ac++[o::ms]⟩,⟨g,λ_ c=>c,rfl,rfl,λk l c _=>?_⟩,⟨λt s F=>(h.az t s F).D g,h.lν,by simp[h.lρ,Ab.ce],by simp[h.lo,Ab.ce],h.aa,λf hf=>(h.X f hf).D g,λk N c=>?_,λk B a b j e hb i hi u=>?_,λk a e i hi=>?_,λk q c=>?_,?_,hok⟩,.pk _ _ p⟩
 ·have w:k<z A.Q:=(a00.mp c).1;refine⟨?_,?_,λ_ q _ x=>d q (h.cJ k _ x q (by simp)).2⟩;·show(A.Q++[.pk])[k]?=_;grind
  grind
 ·have c:(A.Q++[.pk])[k]?=J N:=c;rw[aC0]at c;split at c;·rename_i w;refine HM.D (V:=V) (Y:=Y) g ?_ (λa e i hi=>d i (h.cJ k a e i hi).2) (λi hi _=>d i (aC9 hi h.dt)) (h.Q k N c);grind
  ·rename_i C;have:=(a00.mp c).1;simp at this;have v:k=z A.Q:=(by omega);subst v;simp at c;subst c;exact⟨o,ms,p,n,D⟩
 ·rcases m k a e with e|⟨rfl,rfl⟩<;>rcases m B b hb with hb|⟨rfl,rfl⟩;·exact h.dw k B a b j e hb i hi u
  ·grind [G]
  ·grind [G]
  ·exact j rfl
 ·grind [G]
 ·have c:(V.ρ++[J o])[k]?=J (J q):=c;rw[aC0]at c;grind [G,Val.le]
 grind [G]
def G.lf (h:G PK O0 V A E Y) {k o:Nat} {ms:List Nat} {b:St} (q:A.Q[k]?=J .pk) (t:V.ρ[k]?=J (J o)) (p:V.ac[k]?=J (o::ms)) (hok:Ok b) (n:z b=z Y) (hr:∀i,i∉o::ms->b[i]?=Y[i]?) (v:PK.ok b o ms):
  Ch V A Y V {A with wr:=k::A.wr} b/\G PK O0 V {A with wr:=k::A.wr} E b:=by
 have f:∀i∈o::ms,i<O0.I->i∉O0.w->False:=λi hi w h2=>by grind [G]
 refine⟨⟨.cf,λj hj=>by simp[hj],rfl,rfl,λj x hj s=>⟨hj,rfl,λl m y u=>hr m λd=>?_⟩⟩,⟨h.az,h.lν,h.lρ,h.lo,h.aa,h.X,λj N hj=>?_,h.dw,λj a e i hi=>by rw[n];exact h.cJ j a e i hi,λj m hj=>by rw[n];exact h.ρl j m hj,?_,hok⟩⟩;·grind [G]
 ·by_cases c:k=j;·subst c;rw[q]at hj;cases hj;exact⟨o,ms,t,p,v⟩
  ·refine HM.D (V:=V) (Y:=Y) .cf rfl (λa e i hi=>hr i λd=>h.dw k j _ _ c p e i d hi) (λi hi g=>hr i λd=>f i d hi g) (h.Q j N hj)
 grind [G]
def UZ{F:Frm}:∀{m:List Bool} {H:List HO} {k0:Nat} {V:Vo} {A:Ab},G PK F V A E Y->(∀(j:Nat) h,H[j]?=J h->HM PK V F Y (k0+j) h)->∃V':Vo,Op V A V' (jO A m H).2/\G PK F V' (jO A m H).2 E Y/\(jO A m H).1.length=z H/\∀(j:Nat) h,(jO A m H).1[j]?=J h->HM PK V' F Y (k0+j) h
 |m,[],k0,V,A,g,_=>by have f:jO A m []=([],A):=(by cases m<;>simp[jO]);rw[f];exact⟨V,.ah,g,rfl,λj h hj=>by simp at hj⟩
 |[],x::H,k0,V,A,g,i=>by have f:jO A [] (x::H)=(x::H,A):=(by simp[jO]);rw[f];exact⟨V,.ah,g,rfl,i⟩
 |b::m,x::H,k0,V,A,g,i=>by
  have p:=i 0 x rfl;have c:∀(j:Nat) h,H[j]?=J h->HM PK V F Y (k0+1+j) h:=λj h hj=>by have:=i (j+1) h (by simpa using hj);grind
  have keep:jO A (b::m) (x::H)=(x::(jO A m H).1,(jO A m H).2)->∃V':Vo,Op V A V' (jO A (b::m) (x::H)).2/\G PK F V' (jO A (b::m) (x::H)).2 E Y/\(jO A (b::m) (x::H)).1.length=z (x::H)/\∀(j:Nat) h,(jO A (b::m) (x::H)).1[j]?=J h->HM PK V' F Y (k0+j) h:=λf=>by
   obtain⟨V',d,n,l1,q⟩:=UZ (m:=m) (k0:=k0+1) g c;rw[f];refine⟨V',d,n,by simp[l1],λj h hj=>?_⟩;cases j with
   |zero=>simp at hj;subst hj;exact HM.D (V:=V) (Y:=Y) d.le (by rw[d.ac]) (λ_ _ _ _=>rfl) (λ_ _ _=>rfl) p|succ j=>grind
  cases b with
  |false=>exact keep (by simp[jO])
  |true=>
   cases x with
   |cH l=>
    obtain⟨o,cs,q1,q2,q3,q4⟩:=p;obtain⟨u,d,n,q⟩:=JF g q4;obtain⟨s,k,t,l2,w⟩:=UZ (m:=m) (k0:=k0+1) n (λj h hj=>HM.D (V:=V) (Y:=Y) d.le (by rw[d.ac]) (λ_ _ _ _=>rfl) (λ_ _ _=>rfl) (c j h hj));refine⟨s,d.N k,t,by simp[jO,l2],λj h hj=>?_⟩;cases j with
    |zero=>simp only[jO,aF5,a05]at hj;subst hj;exact⟨o,cs,k.le.ρ _ _ (d.le.ρ _ _ q1),by rw[k.ac,d.ac];exact q2,q3,q.D k.le⟩|succ j=>grind [jO]
   |ro l=>exact keep rfl|g9 a e=>exact keep rfl|fN a e=>exact keep rfl|ec v=>exact keep rfl|pk=>exact keep rfl|eq=>exact keep rfl
def RG:∀{m:List Bool} {H:List HO} {A:Ab} {k:Nat},m[k]?≠J eT->(jO A m H).1[k]?=H[k]?
 |m,[],A,k,_=>by cases m<;>simp[jO]
 |[],x::H,A,k,_=>by simp[jO]
 |b::m,x::H,A,0,h=>by
  cases b with
  |true=>simp at h|false=>simp[jO]
 |b::m,x::H,A,k+1,h=>by
  cases b with
  |false=>simp only[jO,aB7];exact RG h|true=>cases x<;>(simp only[jO,aB7];exact RG h)
def G.ho{F:Frm}(h:G PK F V A E Y){H:List HO}(a:z H=z A.Q)(b:∀(k:Nat) x,H[k]?=J x->HM PK V F Y k x):G PK F V {A with Q:=H} E Y:=
 ⟨h.az,h.lν,by rw[a];exact h.lρ,by rw[a];exact h.lo,h.aa,h.X,b,h.dw,h.cJ,h.ρl,h.bE,h.ok⟩
theorem NZ:∀(H l:List HO),z (Dz H l)=z l|[],l=>rfl|h::H,[]=>rfl|h::H,x::l=>by simp[Dz,NZ H l]
def aem:∀{H l:List HO} {k:Nat} {d:HO},(Dz H l)[k]?=J d->(∃h,H[k]?=J h/\lG h=eF/\d=h)\/(l[k]?=J d/\∀h,H[k]?=J h->lG h=eT)
 |[],l,k,d,a=>.inr ⟨a,λh b=>by simp at b⟩|h::H,[],k,d,a=>by simp[Dz]at a
 |h::H,x::l,0,d,a=>by simp only[Dz,aF5,a05]at a;grind
 |h::H,x::l,k+1,d,a=>by simp only[Dz,aB7]at a;have:=aem a;simpa using this
def ae5:∀{H:List HO} {j k:Nat} {h:HO},H[k]?=J h->lG h=eF->j+k∈ixs j H
 |[],_,_,_,a,_=>by simp at a
 |c::H,j,0,h,a,b=>by grind [ixs]
 |c::H,j,k+1,h,a,b=>by have:=ae5 (j:=j+1) (by simpa using a) b;grind [ixs]
theorem HM.fi{V W:Vo}{F:Frm}(a:W.toVal.le V.toVal){k:Nat}(b:V.ac[k]?=W.ac[k]?){Y:St}{x:HO}(h:HM PK W F Y k x):HM PK V F Y k x:=HM.D a b (λ_ _ _ _=>rfl) (λ_ _ _=>rfl) h
def G.jp (h:G PK O0 V A E Y) {H:List HO} {W:Vo} (hs:z H<=z A.Q) (P:W.ν=νθ V.toVal [(0,0)]) (L:W.ρ=ρθ V.toVal (List.range (z H))) (m:W.ac=abp V (List.range (z H)) H) {g:St} (hok:Ok g) (C:z g=z Y) (hr:∀i,(∀(k:Nat) a,W.ac[k]?=J a->i∉a)->g[i]?=Y[i]?) (S:∀(k:Nat) h,H[k]?=J h->HM PK W O0 g k h):
  W.toVal.le V.toVal/\Ch V A Y V {A with Q:=Dz H A.Q,wr:=ixs 0 H++A.wr} g/\G PK O0 V {A with Q:=Dz H A.Q,wr:=ixs 0 H++A.wr} E g:=by
 have I:z (List.range (z H))=z H:=by simp
 have R:∀(k:Nat) a,W.ac[k]?=J a->a=[]\/V.ac[k]?=J a/\∃x,H[k]?=J x/\lG x=eF:=λk a d=>by
  rw[m]at d;have e:k<z H:=by have:=(a00.mp d).1;rwa[U3 I]at this
  rw[U2 (List.getElem?_range e) (a02 e)]at d;grind
 have N:∀(k:Nat) x,H[k]?=J x->lG x=eF->k<z V.ac->V.ac[k]?=W.ac[k]?:=λk x K s e=>by have w:=(a00.mp K).1;rw[m,U2 (List.getElem?_range w) K,s,a02 e];rfl
 have D:W.toVal.le V.toVal:=by
  refine⟨λi a d=>?_,λi a d=>?_⟩;·grind [νθ,h.aa]
  ·rw[L]at d;have hi:i<z H:=(by grind [ρθ]);unfold ρθ at d;grind [G]
 have q:∀(k:Nat) a,V.ac[k]?=J a->(∀x,H[k]?=J x->lG x=eT)->∀i∈a,g[i]?=Y[i]?:=λk a d s i hi=>hr i λQ b hb u=>by grind [G]
 have t:∀i,i<O0.I->i∉O0.w->g[i]?=Y[i]?:=λi hi v=>hr i λQ b hb u=>by grind [G]
 refine⟨D,⟨.cf,λk e=>aE7 _ e,rfl,rfl,λk x e B=>?_⟩,⟨h.az,h.lν,by simp[NZ,h.lρ],by simp[NZ,h.lo],h.aa,h.X,λk f e=>?_,h.dw,λk a d i hi=>by rw[C];exact h.cJ k a d i hi,λk o F=>by rw[C];exact h.ρl k o F,⟨by rw[C];exact h.dt,λi hi v=>by grind [G]⟩,hok⟩⟩
 ·have c:∀y,H[k]?=J y->lG y=eT:=λy n=>by
   cases s:lG y with
   |true=>rfl|false=>exact absurd (aC8 _ (by have:=ae5 (j:=0) n s;rwa[az5]at this)) B
  refine⟨?_,rfl,λl o K F=>q k _ F c o (by simp)⟩;cases O:(Dz H A.Q)[k]? with
  |none=>grind [NZ]
  |some f=>
   rcases aem O with⟨y,n,p,rfl⟩|⟨n,_⟩;·rw[c _ n]at p;cases p
   grind
 ·have e:(Dz H A.Q)[k]?=J f:=e;have M:k<z V.ac:=by rw[h.lo,<-NZ H A.Q];grind
  rcases aem e with⟨y,n,p,rfl⟩|⟨n,c⟩;·grind [HM.fi]
  ·exact HM.D (V:=V) (Y:=Y) .cf rfl (λa d i hi=>q k a d c i hi) t (h.Q k f n)
def aqi(h:G PK O0 V A E Y){f:FuncId}{m:Sm}(hs:dh C PK f m){ss S:List Sh}{azs:LA}(B:Mt V.toVal ss azs)(hh:LZ A.Q ss=J S){s:Sh}{A':Ab}(b:ab3 A S m=J (s,A')):Res PK O0 V A E Y (ai C f azs Y) s A':=by
 obtain⟨n,w,e1,e2,g,Z⟩:=ajO h B hh;have fin:∀{du:Option (AV×St)} {v:AV} {res:Sh},du=J (v,w)->M V0 res v->Res PK O0 V A E Y du (JC A res).1 (JC A res).2:=λ{du v res} hr hv=>by obtain⟨F,e,N,O⟩:=aah g (hv.D (abE h.aa));exact⟨v,w,F,hr,Z.N e.ch,N,O⟩
 cases m with
 |ez args res=>
  simp only[ab3]at b;split at b;·rename_i a;obtain⟨v,hv,t⟩:=hs Y azs n w h.ok e1 g.ok (Vm (Sb.fi h.aa h.X) e2 a);grind
  ·cases b
 |ro l args res=>
  simp only[ab3]at b;split at b
  ·rename_i k T;obtain⟨X,d,rfl⟩:∃X d,n=X::d:=by cases e2;exact⟨_,_,rfl⟩
   cases e2 with
   |cW _ _ _ _ m1 m2=>
    obtain⟨o,u,rfl⟩:=UH m1;obtain⟨bs,rfl⟩:=afN e1;have key:∀(R:List Sh) (cs:LA) (fz:Fz),w[o]?=J (.cH cs fz)->Ms V.toVal R cs->(if subs A.X [] [] l R&&Sj A.X [] [] args T then J (JC A res)else U)=J (s,A')->Res PK O0 V A E Y (ai C f (.c8 o 0::bs) Y) s A':=by
     intro R cs fz aa ab b;split at b;·rename_i a;rw[a01]at a;obtain⟨v,hv,t⟩:=hs Y o bs d w cs fz h.ok e1 g.ok aa (FK (Sb.fi h.aa h.X) ab a.1) (Vm (Sb.fi h.aa h.X) m2 a.2);grind
     ·cases b
    split at b;·rename_i R I;obtain⟨o',cs,fz,h1,h2,h3,h4,h5⟩:=g.Q _ _ I;grind
    ·rename_i R I;obtain⟨o',cs,h1,h2,h4,h5⟩:=g.Q _ _ I;grind
    ·cases b
  ·cases b
 |iP args=>
  simp only[ab3]at b;split at b;·rename_i a;cases b;obtain⟨L,o,ms,hv,hok,hr,D⟩:=hs Y azs n w h.ok e1 g.ok (Vm (Sb.fi h.aa h.X) e2 a);obtain⟨F,e,N,O⟩:=g.ld hok hr D;exact⟨_,_,F,hv,Z.N e,N,O⟩
  ·cases b
 |pk args res=>
  simp only[ab3]at b;split at b
  ·rename_i k T;split at b
   ·rename_i a;obtain⟨X,d,rfl⟩:∃X d,n=X::d:=by cases e2;exact⟨_,_,rfl⟩
    cases e2 with
    |cW _ _ _ _ m1 m2=>
     simp only[a01]at a;obtain⟨o,u,rfl⟩:=avO m1;obtain⟨bs,rfl⟩:=afN e1;have Q:A.Q[k]?=J .pk:=by
      cases K:A.Q[k]? with
      |none=>rw[K]at a;cases a.1|some y=>rw[K]at a;cases y<;>first|rfl|cases a.1
     obtain⟨o',ms,h1,h2,h3⟩:=g.Q _ _ Q;rw[u]at h1;cases h1;obtain⟨v,P,hv,t,hok,p,hr,D⟩:=hs Y o ms bs d w h.ok e1 g.ok h3 (Vm (Sb.fi h.aa h.X) m2 a.2);obtain⟨c2,g2⟩:=g.lf Q u h2 hok p hr D;obtain⟨F,e,N,O⟩:=aah g2 (t.D (abE h.aa));cases K:JC {A with wr:=k::A.wr} res;rw[K]at b e N O;cases b;exact⟨v,P,F,hv,Z.N (c2.N e.ch),N,O⟩
   ·cases b
  ·cases b
 |iy H args res=>
  simp only[ab3]at b;split at b
  ·rename_i a;simp only[a01,decide_eq_true_eq]at a;obtain⟨W,gW,w1,w2,w3,_⟩:=IX g a.1.2;have ac:Sb A.X [] (List.range (z H)) V.toVal W.toVal:=⟨h.aa,h.X,λj i c u=>by simp[BV]at u,λk k' o u ad=>by
    cases D:(List.range (z H))[k]? with
    |none=>rw[D]at u;cases u
    |some q=>
     rw[D]at u;simp only[eqO,beq_iff_eq]at u;subst u;rw[w2];unfold ρθ;grind⟩
   obtain⟨v,P,hv,t,hok,p,hr,D⟩:=hs Y azs n w h.ok e1 g.ok O0 W E gW (Vm ac e2 a.2);obtain⟨_,c2,g2⟩:=g.jp a.1.1 w1 w2 w3 hok p hr D;obtain⟨V1,e,g3,l3,m3⟩:=UZ (m:=H.map λh=>!lG h) (k0:=0) g2 (H:=Dz H A.Q) (λj x hj=>by rw[az5];exact g2.Q j x hj);have g4:=g3.ho (H:=(jO {A with Q:=Dz H A.Q,wr:=ixs 0 H++A.wr} (H.map λh=>!lG h) (Dz H A.Q)).1) (by rw[l3,e.Q]) (λk x hk=>by grind);have c3:Ch V {A with Q:=Dz H A.Q,wr:=ixs 0 H++A.wr} P V1 {(jO {A with Q:=Dz H A.Q,wr:=ixs 0 H++A.wr} (H.map λh=>!lG h) (Dz H A.Q)).2 with Q:=(jO {A with Q:=Dz H A.Q,wr:=ixs 0 H++A.wr} (H.map λh=>!lG h) (Dz H A.Q)).1} P:=by
    refine⟨e.le,λk hk=>by show k∈(jO _ _ _).2.wr;rw[e.wr];exact hk,e.ls,e.az,λk x hk hw=>⟨?_,by rw[e.ac],λ_ _ _ _=>rfl⟩⟩;have hw:k∉(jO {A with Q:=Dz H A.Q,wr:=ixs 0 H++A.wr} (H.map λh=>!lG h) (Dz H A.Q)).2.wr:=hw;rw[e.wr]at hw;refine(RG λB=>hw ?_).trans hk;rw[aC6]at B;cases hy:H[k]? with
    |none=>rw[hy]at B;cases B|some y=>rw[hy]at B;simp only[az2,a05,aF6]at B;exact aC8 _ (by have:=ae5 (j:=0) hy B;rwa[az5]at this)
   obtain⟨F,o4,o5,o6⟩:=aah g4 ((t.D (abE h.aa)).D e.le);cases K:JC {(jO {A with Q:=Dz H A.Q,wr:=ixs 0 H++A.wr} (H.map λh=>!lG h) (Dz H A.Q)).2 with Q:=(jO {A with Q:=Dz H A.Q,wr:=ixs 0 H++A.wr} (H.map λh=>!lG h) (Dz H A.Q)).1} res;rw[K]at b o4 o5 o6;cases b;exact⟨v,P,F,hv,Z.N (c2.N (c3.N o4.ch)),o5,o6⟩
  ·cases b
def P9(C:Ctx)(X:Cfg)(PK:PkI):Prop:=∀f m,m∈X.sm f->dh C PK f m
def ad6(h:G PK O0 V A E Y){f:FuncId}{ss b:List Sh}{azs:LA}(c:Mt V.toVal ss azs)(d:LZ A.Q ss=J b){s:Sh}{A':Ab}:∀(l:List Sm),(∀m∈l,dh C PK f m)->aeV A b l=J (s,A')->Res PK O0 V A E Y (ai C f azs Y) s A'
 |[],_,a=>by cases a
 |m::l,hs,a=>by
  unfold aeV at a;split at a;·rename_i i hr;cases a;exact aqi h (hs m (by simp)) c d hr
  ·exact ad6 h c d l (λm c=>hs m (by simp[c])) a
def afj(hs:P9 C X PK):Hu C X PK O0:=λV A E Y f i b s g h d a=>by
 unfold YX at a;split at a;·rename_i e c;exact ad6 h d c _ (hs f) a
 ·cases a
end
section
variable{C:Ctx}{X:Cfg}{PK:PkI}{O0:Frm}{V:Vo}{A:Ab}{E:As}{Y:St}
theorem acp(h:G PK O0 V A E Y){c:XA}{b:Bool}(hb:avA C E c=.cX b):G PK O0 V (ways.kn c A b) E Y:=by
 cases c with
 |t n=>
  refine h.f4 λt s a=>?_;simp only[la]at a;split at a;·rename_i d;cases a;subst d;have:look E n=.cX b:=hb;rw[this];exact .bc b
  ·exact h.az t s a
 |c v=>exact h|g n=>exact h
structure Same(A A':Ab):Prop where
 nx:A'.nx=A.nx
 Q:A'.Q=A.Q
 wr:A'.wr=A.wr
 ls:A'.ls=A.ls
theorem Same.facts(A:Ab)(fs:Fs):Same A {A with X:=fs}:=⟨rfl,rfl,rfl,rfl⟩
theorem Same.kn{A B:Ab}(h:Same A B)(c:XA)(b:Bool):Same A (ways.kn c B b):=by cases c<;>exact⟨h.nx,h.Q,h.wr,h.ls⟩
def aeY(l:Jo C X)(h:G PK O0 V A E Y){c:XA}{s:List (Bool×Ab)}(j:ways X A c=J s):∃b A',(b,A')∈s/\avA C E c=.cX b/\G PK O0 V A' E Y/\Same A A':=by
 unfold ways at j;split at j;·rename_i b hb;cases j;exact⟨b,A,by simp,avN (bV l h hb),h,⟨rfl,rfl,rfl,rfl⟩⟩
 ·rename_i hb;cases j;have o:=bV l h hb;obtain⟨b,a⟩:∃b,avA C E c=.cX b:=(by grind [M]);refine⟨b,ways.kn c A b,?_,a,acp h a,Same.kn ⟨rfl,rfl,rfl,rfl⟩ c b⟩;cases b<;>simp
 ·rename_i x d y hb;cases j;have o:=bV l h hb;obtain⟨p,q,g,i,a⟩:∃p q:Nat,V.ν[x]?=J p/\V.ν[y]?=J q/\avA C E c=.cX (decide ((p:Int)+d<=q)):=(by grind [M]);by_cases k:(p:Int)+d<=q;·rw[decide_eq_true k]at a;have n:=h.gS (f:=(x,d,y)) ⟨p,q,g,i,k⟩;grind [acp,Same.kn,Same.facts]
  ·rw[decide_eq_false k]at a;have n:=h.gS (f:=(y,1-d,x)) ⟨q,p,i,g,by simp only;omega⟩;grind [acp,Same.kn,Same.facts]
 ·rename_i e x d y hb;cases j;have o:=bV l h hb;obtain⟨p,q,g,i,a⟩:∃p q:Nat,V.ν[x]?=J p/\V.ν[y]?=J q/\avA C E c=.cX (decide ((p:Int)+d=q)==e):=(by grind [M]);by_cases k:(p:Int)+d=q;·rw[decide_eq_true k,show(eT==e)=e by cases e<;>rfl]at a;have n:=(h.gS (f:=(y,-d,x)) ⟨q,p,i,g,by simp only;omega⟩).gS (f:=(x,d,y)) ⟨p,q,g,i,by simp only;omega⟩;grind [acp,Same.kn,Same.facts]
  ·rw[decide_eq_false k,show(eF==e)= !e by cases e<;>rfl]at a;refine⟨!e,_,aF2 _ List.mem_cons_self,a,?_,?_⟩
   ·split;·rename_i m;simp only[a01,beq_iff_eq]at m;obtain⟨rfl,m⟩:=m;rw[h.aa]at i;cases i;have:=G5 h.aa h.X m h.aa g;exact acp (h.gS (f:=(0,1-d,x)) ⟨0,p,h.aa,g,by simp only;omega⟩) a
    ·exact acp h a
   ·split;·exact Same.kn (Same.facts A _) c _
    ·exact Same.kn ⟨rfl,rfl,rfl,rfl⟩ c _
 ·cases j
def G.lh(h:G PK O0 V A E Y){s:Sh}{v:AV}(hv:M V.toVal s v)(d:Option Nat):G PK O0 V (ptS A d s) (A8 E d v) Y:=by
 cases d with
 |none=>exact h|some d=>exact h.b9 hv d
def G.fq(h:G PK O0 V A E Y)(k:List Nat):G PK O0 V (A.fq k) E Y:=⟨h.az,h.lν,h.lρ,h.lo,h.aa,h.X,h.Q,h.dw,h.cJ,h.ρl,h.bE,h.ok⟩
structure Cr(V:Vo)(A:Ab)(Y:St)(V':Vo)(A':Ab)(Y':St):Prop where
 le:V.toVal.le V'.toVal
 wr:∀k∈A.wr,k∈A'.wr
 ls:∀k∈A.ls,k∈A'.ls
 c:∀k x,A.Q[k]?=some x->k∉A'.wr->A'.Q[k]?=some x/\V'.ac[k]?=V.ac[k]? /\∀l o,x=.cH l->V.ac[k]?=some [o]->Y'[o]?=Y[o]?
def Cr.ah:Cr V A Y V A Y:=⟨.cf,λ_ h=>h,λ_ h=>h,λ_ _ h _=>⟨h,rfl,λ_ _ _ _=>rfl⟩⟩
def Cr.N{V' b:Vo}{A' a:Ab}{e c:St}(h:Cr V A Y V' A' e)(k:Cr V' A' e b a c):Cr V A Y b a c:=by refine⟨h.le.N k.le,λq d=>k.wr q (h.wr q d),λq d=>k.ls q (h.ls q d),λq l d f=>?_⟩;grind [Cr]
def Ch.cr{V':Vo}{A':Ab}{a:St}(h:Ch V A Y V' A' a):Cr V A Y V' A' a:=⟨h.le,h.wr,λk b=>by rw[h.ls];exact b,h.c⟩
def Same.cr{A':Ab}(h:Same A A'):Cr V A Y V A' Y:=⟨.cf,λk a=>by rw[h.wr];exact a,λk a=>by rw[h.ls];exact a,λk l a _=>⟨by rw[h.Q];exact a,rfl,λ_ _ _ _=>rfl⟩⟩
def Cr.b9{V':Vo}{A':Ab}{a:St}(h:Cr V A Y V' A' a)(d:Option Nat)(s:Sh):Cr V A Y V' (ptS A' d s) a:=by
 cases d with
 |none=>exact h|some d=>exact⟨h.le,h.wr,h.ls,h.c⟩
def Cr.fq{V':Vo}{A':Ab}{a:St}(h:Cr V A Y V' A' a)(k:List Nat):Cr V A Y V' (A'.fq k) a:=⟨h.le,h.wr,λq b=>aE7 _ (h.ls q b),h.c⟩
mutual
theorem RU:∀v:AV,same v v=eT
 |.cX b=>Pz b|.cU k a=>Oc k a|.cV s=>Oe s|.ev=>rfl|.c8 a b=>by simp[same]
 |.em a=>by rw[same];exact vG a
 |.cY=>rfl|.fu=>rfl|.sl n a=>by rw[same,vG a];simp
 |.eC n a=>by rw[same,vG a];simp
 |.dj a b c d=>by simp[same]
 |.ec a=>by simp[same]
 |.eA=>rfl|.ea f a b=>by rw[same,vG a,vG b];simp
 |.ep=>rfl|.eb t a=>by rw[same,RU a];simp
 |.ej=>rfl|.da a=>by rw[same];exact vG a
 |.df a=>by rw[same];exact vG a
theorem vG:∀l:LA,xk l l=eT|[]=>rfl|a::l=>by rw[xk,RU a,vG l];rfl
end
end
section
variable{C:Ctx}{X:Cfg}{PK:PkI}{O0:Frm}{V:Vo}{A:Ab}{E:As}{Y:St}
def ajc (l:Jo C X) (g:SE C X) (b:Hu C X PK O0) (h:G PK O0 V A E Y) {n:Nat} {i:Bool} {o:XOp} {e:Ab} (a:adw X n i o A=J e):
  ∃v c d,opR (ai C) (aB C (avA C E) n Y o.i)=J (v,c)/\Cr V A Y d e c/\G PK O0 d e (A8 E o.aM v) c/\(i=eT->o.aT≠[]->∃ks,Ep X A o.i=J ks/\∀k∈ks,k∈e.ls):=by
 unfold adw at a;split at a
 ·rename_i s j hi;obtain⟨v,c,d,e1,e2,e3,e4⟩:=atz l g b h hi;split at a
  ·split at a
   ·rename_i ks f;cases a;exact⟨v,c,d,e1,(e2.cr.fq ks).b9 _ _,(e3.fq ks).lh e4 _,λ_ _=>⟨ks,f,λk m=>by
     have:k∈(j.fq ks).ls:=aC8 _ m;cases o.aM<;>exact this⟩⟩
   ·cases a
  ·rename_i q;cases a;refine⟨v,c,d,e1,e2.cr.b9 _ _,e3.lh e4 _,λp h2=>?_⟩;grind
 ·cases a
def look_ok(e:Jo C X)(h:G PK O0 V A E Y){n:Nat}{i:XI}{ks:List Nat}(a:Ep X A i=J ks){v:AV}{g:St}(hr:opR (ai C) (aB C (avA C E) n Y i)=J (v,g)){R:St}(m:∀k∈ks,∀o,V.ρ[k]?=J (J o)->R[o]?=Y[o]?):aB C (avA C E) n R i=J (.ew v R):=by
 unfold Ep at a;split at a
 ·rename_i ag f x;split at a
  ·rename_i k off d;cases a;obtain⟨o,j,c⟩:=UH (bV e h d);rw[aB.eq_7,c]at hr⊢;dsimp only at hr⊢;rw[m k (by simp) o j];split at hr;·rename_i l p q;cases b:pt ag f (l.drop off)with|none=>rw[b]at hr;cases hr|some y=>rw[b]at hr;cases hr;rfl
   ·cases hr
  ·rename_i off l d;cases a;obtain⟨w,N,c,_⟩:=ae0 (bV e h d);rw[aB.eq_7,c]at hr⊢;dsimp only at hr⊢;cases b:pt ag f ((w++N).drop off)with|none=>rw[b]at hr;cases hr|some y=>rw[b]at hr;cases hr;rfl
  ·cases a
 ·rename_i x;rw[xJ]at hr⊢;have:bP R 0 (avA C E x)=bP Y 0 (avA C E x):=rfl;rw[this];split at hr;·cases hr;rfl
  ·cases hr
 ·rename_i x;rw[xJ]at hr⊢;have:bP R 1 (avA C E x)=bP Y 1 (avA C E x):=rfl;rw[this];split at hr;·cases hr;rfl
  ·cases hr
 ·cases a
theorem Xq(d:Jo C X)(h:G PK O0 V A E Y){n:Nat}{i:XI}{s:Sh}{A':Ab}(hi:abI X n A i=J (s,A')){ks:List Nat}(b:Ep X A i=J ks):∀k∈ks,(∃l,A.Q[k]?=J (.cH l))\/(∃l,A.Q[k]?=J (.ro l)):=by
 intro k a;unfold Ep at b;split at b
 ·rename_i ag f x;split at b;·rename_i e off c;cases b;simp at a;subst a;simp only[abI,c]at hi;grind
  ·cases b;simp at a
  ·cases b
 ·cases b;simp at a
 ·cases b;simp at a
 ·cases b
def ac4{n:Nat}{o:XOp}{E:As}{Y:St}(h:lH o E=eT):vw C (ai C) n o E Y=opR (ai C) (aB C (avA C E) n Y o.i):=by
 unfold vw;rw[if_pos h];cases aB C (avA C E) n Y o.i with
 |none=>rfl|some d=>cases d<;>rfl
def afC{n:Nat}{o:XOp}{E:As}{Y:St}(h:lH o E=eF):vw C (ai C) n o E Y=J (.dT,Y):=by unfold vw;rw[h];rfl
def VP{c d e:Type}{f:c->Option d}{g:d->Option (List e)}:∀{b:List c} {As:List e},b.foldr (λw q=>stepM (f w) g q) (J [])=J As->∀w∈b,∃A azs,f w=J A/\g A=J azs/\∀B∈azs,B∈As
 |[],_,_,w,a=>by simp at a
 |m::b,As,h,w,a=>by
  rw[List.foldr_cons]at h;unfold stepM at h;split at h
  ·rename_i A l;split at h
   ·rename_i azs bs k h2;cases h;rcases az4.mp a with rfl|a;·grind
    ·obtain⟨j,i,e1,e2,e3⟩:=VP h2 w a;grind
   ·cases h
  ·cases h
def step_ok (Q:Jo C X) (Z:SE C X) (x:Hu C X PK O0) (h:G PK O0 V A E Y) {n:Nat} {u:Bool} {o:XOp} {l:List XOp} {As:List Ab} (H:Qa X n u (o::l) A=J As):
  ∃v e i d azs,vw C (ai C) n o E Y=J (v,e)/\Cr V A Y i d e/\G PK O0 i d (A8 E o.aM v) e/\Qa X n u l d=J azs/\(∀B∈azs,B∈As)/\
   (u=eT->lH o E=eT->o.aT≠[]->∃ks:List Nat,(∀k∈ks,k∈d.ls/\((∃l,A.Q[k]?=J (.cH l))\/(∃l,A.Q[k]?=J (.ro l))))/\∀co:St,(∀k∈ks,∀o:Nat,V.ρ[k]?=J (J o)->co[o]?=Y[o]?)->aB C (avA C E) n co o.i=J (.ew v co)):=by
 have wanted:∀{M:Vo} {a:Ab},G PK O0 M a E Y->M.ρ=V.ρ->a.Q=A.Q->lH o E=eT->∀{d:Ab},adw X n u o a=J d->∃v e i,vw C (ai C) n o E Y=J (v,e)/\Cr M a Y i d e/\G PK O0 i d (A8 E o.aM v) e/\(u=eT->lH o E=eT->o.aT≠[]->∃ks:List Nat,(∀k∈ks,k∈d.ls/\((∃l,A.Q[k]?=J (.cH l))\/(∃l,A.Q[k]?=J (.ro l))))/\∀co:St,(∀k∈ks,∀o:Nat,V.ρ[k]?=J (J o)->co[o]?=Y[o]?)->aB C (avA C E) n co o.i=J (.ew v co)):=by intro M a N ab hh y d O;obtain⟨v,e,i,e1,e2,e3,e4⟩:=ajc Q Z x N O;refine⟨v,e,i,by rw[ac4 y];exact e1,e2,e3,λhd _ hl=>?_⟩;obtain⟨ks,T,S⟩:=e4 hd hl;have P:∃s A2,abI X n a o.i=J (s,A2):=(by grind [adw]);obtain⟨s,A2,hi⟩:=P;refine⟨ks,λk R=>⟨S k R,by grind [Xq]⟩,λco hz=>look_ok Q N T e1 (λk R o' aa=>hz k R o' (by rw[<-ab];exact aa))⟩
 have L:∀{a:Ab},G PK O0 V a E Y->lH o E=eF->vw C (ai C) n o E Y=J (.dT,Y)/\G PK O0 V (ptS a o.aM .dT) (A8 E o.aM .dT) Y:=λN y=>⟨afC y,N.lh .dT _⟩;cases m:o.aS with
 |none=>
  have y:lH o E=eT:=by unfold lH;rw[m]
  simp only[Qa,m]at H;grind
 |some p=>
  obtain⟨t,b⟩:=p;have K:lH o E=vM b (look E t):=by unfold lH;rw[m]
  simp only[Qa,m]at H;split at H;·cases H
  ·rename_i ws D;have:∃q a,(q,a)∈ws/\vM b (look E t)=(q==b)/\G PK O0 V a E Y/\Same A a:=by
    split at D
    ·rename_i hu;cases D;have W:=h.az _ _ hu;have he:look E t=.dT:=by revert W;generalize look E t=v;intro W;cases W;rfl
     exact⟨!b,A,by simp,by rw[he];cases b<;>rfl,h,⟨rfl,rfl,rfl,rfl⟩⟩
    ·obtain⟨q,a,O,h2,h3,h4⟩:=aeY Q h D;refine⟨q,a,O,?_,h3,h4⟩;have:look E t=.cX q:=h2;rw[this];rfl
   obtain⟨q,a,F,hb,g',c⟩:=this;obtain⟨d,azs,f1,f2,f3⟩:=VP (f:=λw:Bool×Ab=>if w.1==b then adw X n u o w.2 else J (ptS w.2 o.aM .dT)) (g:=λA=>Qa X n u l A) H _ F;cases j:q==b with
   |true=>simp only[j,if_true]at f1;obtain⟨v,e,i,e1,e2,e3,e4⟩:=wanted g' rfl c.Q (by rw[K,hb,j]) f1;exact⟨v,e,i,d,azs,e1,c.cr.N e2,e3,f2,f3,e4⟩
   |false=>simp only[j,aC3,if_false,a05]at f1;subst f1;have y:lH o E=eF:=(by rw[K,hb,j]);obtain⟨e1,e2⟩:=L g' y;exact⟨.dT,Y,V,_,azs,e1,c.cr.b9 _ _,e2,f2,f3,λ_ I=>by rw[y]at I;cases I⟩
def YY (g:Jo C X) (c:SE C X) (a:Hu C X PK O0) {n:Nat}:∀(l:List XOp) {V:Vo} {A:Ab} {E:As} {Y:St} {As:List Ab},G PK O0 V A E Y->Qa X n eF l A=J As->
  ∃A'∈As,∃V' d b,dY C (ai C) n l E Y=J (d,b)/\Cr V A Y V' A' b/\G PK O0 V' A' d b
 |[],V,A,E,Y,As,h,f=>by cases f;exact⟨A,by simp,V,E,Y,rfl,.ah,h⟩
 |o::l,V,A,E,Y,As,h,f=>by obtain⟨v,t,s,q,i,e1,j,m,e2,e3,e4⟩:=step_ok g c a h f;obtain⟨A',e,V',d,b,r1,k,p⟩:=YY g c a l m e2;refine⟨A',e3 A' e,V',d,b,?_,j.N k,p⟩;unfold dY;rw[e1];exact r1
structure Wn(V:Vo)(A:Ab)(Y:St)(V':Vo)(A':Ab)(Y':St)(new:List Nat):Prop where
 le:V.toVal.le V'.toVal
 c:∀k x,A.Q[k]?=some x->k∉new->A'.Q[k]?=some x/\V'.ac[k]?=V.ac[k]? /\∀l o,x=.cH l->V.ac[k]?=some [o]->Y'[o]?=Y[o]?
def al3 (Q:Jo C X) (W:SE C X) (u:Hu C X PK O0) (h:G PK O0 V A E Y) {n j:Nat} {o:XOp} {l:List XOp} {I:List (Nat×Nat)} {lt:List (Nat×Nat×List Nat)} {As:List Rg} (N:adt X n (o::l) j (A,I,lt)=J As):
  ∃(v:AV) (d:St) (i:Vo) (c:Ab) (new:List Nat) (ks:List Nat) (azs:List Rg),vw C (ai C) n o E Y=J (v,d)/\Wn V A Y i c d new/\G PK O0 i c (A8 E o.aM v) d/\adt X n l (j+1) (c,new.map (λk=>(k,j))++I,ks.map (λk=>(k,j,o.aT))++lt)=J azs/\(∀B∈azs,B∈As)/\
   (lH o E=eT->o.aT≠[]->(∀k∈ks,(∃l,A.Q[k]?=J (.cH l))\/(∃l,A.Q[k]?=J (.ro l)))/\∀co:St,(∀k∈ks,∀o:Nat,V.ρ[k]?=J (J o)->co[o]?=Y[o]?)->aB C (avA C E) n co o.i=J (.ew v co)):=by
 have wanted:∀{a:Ab} {q:Rg},G PK O0 V a E Y->a.Q=A.Q->lH o E=eT->anh X n j o a I lt=J q->∃(v:AV) (d:St) (i:Vo) (c:Ab) (new:List Nat) (ks:List Nat),q=(c,new.map (λk=>(k,j))++I,ks.map (λk=>(k,j,o.aT))++lt)/\vw C (ai C) n o E Y=J (v,d)/\Wn V A Y i c d new/\G PK O0 i c (A8 E o.aM v) d/\
   (lH o E=eT->o.aT≠[]->(∀k∈ks,(∃l,A.Q[k]?=J (.cH l))\/(∃l,A.Q[k]?=J (.ro l)))/\∀co:St,(∀k∈ks,∀o:Nat,V.ρ[k]?=J (J o)->co[o]?=Y[o]?)->aB C (avA C E) n co o.i=J (.ew v co)):=by
  intro a q h' hh O H;have h0:G PK O0 V {a with wr:=[]} E Y:=wrA a [] h';unfold anh at H;split at H
  ·rename_i c R;split at H;·rename_i ks y;cases H;obtain⟨v,d,i,e1,e2,e3,_⟩:=ajc Q W u h0 R;refine⟨v,d,i,c,c.wr,ks,rfl,by rw[ac4 O];exact e1,⟨e2.le,λk x L hn=>e2.c k x (by show a.Q[k]?=_;rw[hh];exact L) hn⟩,e3,λ_ hl=>?_⟩;have y:Ep X a o.i=J ks:=(by grind);have S:∃s A2,abI X n {a with wr:=[]} o.i=J (s,A2):=(by grind [adw]);obtain⟨s,A2,hi⟩:=S;exact⟨λk L=>by rw[<-hh];exact Xq Q h0 hi (ks:=ks) y k L,λco hz=>look_ok Q h' y e1 hz⟩
   ·cases H
  ·cases H
 cases e:o.aS with
 |none=>
  have O:lH o E=eT:=by unfold lH;rw[e]
  simp only[adt,e]at N;grind
 |some p=>
  obtain⟨t,b⟩:=p;have Z:lH o E=vM b (look E t):=by unfold lH;rw[e]
  simp only[adt,e]at N;split at N;·cases N
  ·rename_i ws F;have:∃m a,(m,a)∈ws/\vM b (look E t)=(m==b)/\G PK O0 V a E Y/\Same A a:=by
    split at F
    ·rename_i hu;cases F;have T:=h.az _ _ hu;have he:look E t=.dT:=by revert T;generalize look E t=v;intro T;cases T;rfl
     exact⟨!b,A,by simp,by rw[he];cases b<;>rfl,h,⟨rfl,rfl,rfl,rfl⟩⟩
    ·obtain⟨m,a,R,h2,h3,h4⟩:=aeY Q h F;refine⟨m,a,R,?_,h3,h4⟩;have:look E t=.cX m:=h2;rw[this];rfl
   obtain⟨m,a,M,hb,g',D⟩:=this;obtain⟨q,azs,f1,f2,f3⟩:=VP (f:=λw:Bool×Ab=>if w.1==b then anh X n j o w.2 I lt else J (ptS w.2 o.aM .dT,I,lt)) (g:=λq=>adt X n l (j+1) q) N _ M;cases K:m==b with
   |true=>grind [Same]|false=>simp only[K,aC3,if_false,a05]at f1;subst f1;have O:lH o E=eF:=(by rw[Z,hb,K]);refine⟨.dT,Y,V,_,[],[],azs,afC O,⟨.cf,λk x L _=>⟨?_,rfl,λ_ _ _ _=>rfl⟩⟩,g'.lh .dT _,f2,f3,λP=>by rw[O]at P;cases P⟩;have:(ptS a o.aM .dT).Q=a.Q:=(by cases o.aM<;>rfl);rw[this,D.Q];exact L
def ar9{V':Vo}{A':Ab}{b:As}{c:St}(h:G PK O0 V A E Y)(d:G PK O0 V' A' b c)(a:V.toVal.le V'.toVal):z A.Q<=z A'.Q:=by
 rw[<-h.lρ,<-d.lρ];by_cases e:z V.ρ=0;·omega
 ·have:=a.ρ (z V.ρ-1) _ (a02 (by omega));grind
def At(O0:Frm)(N:Nat)(V:Vo)(A:Ab)(Y:St)(c:List (Nat×Nat))(a b:Nat)(d:St):Prop:=∀o,(o<O0.I/\o∉O0.w\/∃k l,k<N/\A.Q[k]?=J (.cH l)/\V.ac[k]?=J [o]/\∀w,(k,w)∈c->¬(a<=w/\w<b))->d[o]?=Y[o]?
def aja (hg:Jo C X) (Q:SE C X) (g:Hu C X PK O0) {n N:Nat}:∀(l:List XOp) {j:Nat} {V:Vo} {A:Ab} {E:As} {Y:St} {T:List (Nat×Nat)} {lt:List (Nat×Nat×List Nat)} {As:List Rg},N<=z A.Q->G PK O0 V A E Y->adt X n l j (A,T,lt)=J As->
  ∃p∈As,∃V' W Z rs ss,qM C (ai C) n l E Y=J (W,Z,rs,ss)/\V.toVal.le V'.toVal/\G PK O0 V' p.1 W Z/\z ss=z l+1/\(∀q∈T,q∈p.2.1)/\(∀q∈lt,q∈p.2.2)/\
   (∀(d:Nat) (dv:St),ss[d]?=J dv->At O0 N V A Y p.2.1 j (j+d) dv)/\
   ∀m:List St,z m=j->(∀(c:Nat) (dv:St),m[c]?=J dv->At O0 N V A Y T c j dv)->(∀o∈l,∀c∈o.aT,c+1<z (m++ss))->(∀q∈p.2.2,q.1<N/\∀c∈q.2.2,∀w,(q.1,w)∈p.2.1->¬(min q.2.1 c<=w/\w<max q.2.1 (c+1)))->gG C n (m++ss) l rs=eT
 |[],j,V,A,E,Y,T,lt,As,hN,h,ho=>by
  cases ho;refine⟨_,List.mem_singleton_self _,V,E,Y,[],[Y],rfl,.cf,h,rfl,λq e=>e,λq e=>e,λd dv f=>?_,λ_ _ _ _ _=>rfl⟩;cases d with
  |zero=>simp at f;subst f;exactλ_ _=>rfl|succ d=>simp at f
 |o::l,j,V,A,E,Y,T,lt,As,hN,h,ho=>by
  obtain⟨v,Y1,V1,A1,new,ks,aq,e1,wn,g1,e2,e3,e4⟩:=al3 hg Q g h ho;have ac:=ar9 h g1 wn.le;obtain⟨p,hp,V',W,Z,rs,ss,r1,ak,g2,r2,w1,t1,post,fin⟩:=aja hg Q g l (aB9 hN ac) g1 e2;have K:∀(d:Nat) (dv:St),(Y::ss)[d]?=J dv->At O0 N V A Y p.2.1 j (j+d) dv:=λd dv f=>by
   cases d with
   |zero=>simp at f;subst f;exactλ_ _=>rfl
   |succ d=>
    intro q e;have h1:=post d dv (by simpa using f);rcases e with e|⟨k,c,k1,k2,k3,S⟩;·rw[h1 q (.inl e),g1.bv e.1 e.2,h.bv e.1 e.2]
    ·have F:k∉new:=λF=>S j (w1 _ (aC8 _ (aC1.mpr ⟨k,F,rfl⟩))) ⟨a06 _,by omega⟩;obtain⟨c1,c2,c3⟩:=wn.c k _ k2 F;rw[h1 q (.inr ⟨k,c,k1,c1,c2.trans k3,λw R u=>S w R ⟨by omega,by omega⟩⟩)];exact c3 c q rfl k3
  refine⟨p,e3 p hp,V',W,Z,(E,v)::rs,Y::ss,?_,wn.le.N ak,g2,by simp[r2],λq e=>w1 q (aE7 _ e),λq e=>t1 q (aE7 _ e),K,λm af hpre ad t=>?_⟩;·grind [qM]
  ·have ah:m++Y::ss=(m++[Y])++ss:=by simp
   have i:=fin (m++[Y]) (by simp[af]) (λc dv f=>by
    intro q e;rw[aC0]at f;rcases e with e|⟨k,O,k1,k2,k3,S⟩
    ·split at f;·rw[hpre c dv f q (.inl e),g1.bv e.1 e.2,h.bv e.1 e.2]
     grind [G]
    ·have ab:c<=j:=(by grind);have F:k∉new:=λF=>S j (aC8 _ (aC1.mpr ⟨k,F,rfl⟩)) ⟨ab,by omega⟩;obtain⟨x,hx⟩:∃x,A.Q[k]?=J x:=⟨_,a02 (aC9 k1 hN)⟩;obtain⟨c1,c2,c3⟩:=wn.c k x hx F;rw[k2]at c1;cases c1;have I:V.ac[k]?=J [q]:=c2.symm.trans k3;rw[c3 O q rfl I];split at f;·exact hpre c dv f q (.inr ⟨k,O,k1,hx,I,λw R u=>S w (aE7 _ R) ⟨u.1,by omega⟩⟩)
     grind) (λo' I c u=>by grind) t
   rw[<-ah]at i;unfold gG;rw[i,aA5];cases R:lH o E with
   |false=>rfl
   |true=>
    by_cases y:o.aT=[];·rw[y];simp[oC]
    ·obtain⟨B,D⟩:=e4 R y;have key:∀c∈o.aT,∀(d:Nat) (dv:St),(d=c\/d=c+1)->(m++Y::ss)[d]?=J dv->aB C (avA C E) n dv o.i=J (.ew v dv):=λc u d dv hd f=>by
      refine D dv λk hk q e=>?_;obtain⟨kN,H⟩:=t (k,j,o.aT) (t1 _ (aC8 _ (aC1.mpr ⟨k,hk,rfl⟩)));have H:=H c u;dsimp only at H;have al:∀(M:List (Nat×Nat)) (a b:Nat),(∀w,(k,w)∈M->¬(a<=w/\w<b))->At O0 N V A Y M a b dv->dv[q]?=Y[q]?:=λM a b aa P=>by
       rcases B k hk with⟨l',s⟩|⟨l',s⟩;·obtain⟨o2,cs,q1,q2,q3,q4⟩:=h.Q _ _ s;rw[e]at q1;cases q1;exact P q (.inr ⟨k,l',kN,s,q2,aa⟩)
       ·obtain⟨o2,cs,fz,q1,q2,q3,q4⟩:=h.Q _ _ s;rw[e]at q1;cases q1;exact P q (.inl q3)
      rw[aC0]at f;split at f;·grind
      grind
     have an:∀L:List Nat,(∀c∈L,c∈o.aT)->oC C n o E v (m++Y::ss) L=eT:=by
      intro L
      induction L with
      |nil=>intro _;rfl|cons c L ih=>intro hL;have u:=ad o (by simp) c (hL c (by simp));unfold oC;rw[a02 (show c<z (m++Y::ss) by omega),a02 u];dsimp only;rw[key c (hL c (by simp)) c _ (.inl rfl) (a02 (by omega)),key c (hL c (by simp)) (c+1) _ (.inr rfl) (a02 u)];grind [RU]
     grind
end
section
variable{C:Ctx}{X:Cfg}{PK:PkI}{O0:Frm}{V:Vo}{A:Ab}{E:As}{Y:St}
def ae7{env:List (Nat×Sh)}{t:Nat}{s:Sh}:∀(m:List Nat),la t (m.filterMap λt=>(la t env).map λs=>(t,s))=J s->t∈m/\la t env=J s
 |[],h=>by cases h
 |d::m,h=>by
  rw[List.filterMap_cons]at h;split at h;·obtain⟨b,h2⟩:=ae7 m h;exact⟨by simp[b],h2⟩
  ·rename_i p a;cases c:la d env with
   |none=>rw[c]at a;cases a
   |some s0=>
    rw[c]at a;cases a;simp only[la]at h;split at h;·grind
    ·obtain⟨b,h2⟩:=ae7 m h;exact⟨by simp[b],h2⟩
theorem G.an(h:G PK O0 V A E Y)(m:List Nat):G PK O0 V (A.an m) (keepA m E) Y:=by refine⟨λt s b=>?_,h.lν,h.lρ,h.lo,h.aa,h.X,h.Q,h.dw,h.cJ,h.ρl,h.bE,h.ok⟩;obtain⟨a,h2⟩:=ae7 m b;rw[Pj m E t a];exact h.az t s h2
def AU:∀{o:xu} {B:Ab},(XE.dp,B)∈o->B∈FC o
 |[],B,a=>by simp at a
 |(x,b)::o,B,a=>by
  rcases az4.mp a with h|h;·cases h;exact List.mem_cons_self
  ·clear a;cases x with|dp=>exact aF2 _ (AU h)|dq i=>exact AU (o:=o) h|ef=>exact AU (o:=o) h
def vW:∀{o:xu} {x:XE} {B:Ab},(x,B)∈o->x≠ .dp->(x,B)∈others o
 |[],x,B,a,b=>by simp at a
 |(y,c)::o,x,B,a,b=>by
  rcases az4.mp a with h|h;·cases h;clear a;cases y with|dp=>exact absurd rfl b|dq i=>exact List.mem_cons_self|ef=>exact List.mem_cons_self
  ·clear a;cases y with|dp=>exact vW (o:=o) h b|dq i=>exact aF2 _ (vW h b)|ef=>exact aF2 _ (vW h b)
def VQ{a d:Option xu}{o:xu}(h:aco a d=J o):∃x y,a=J x/\d=J y/\o=x++y:=by unfold aco at h;grind
def VH{f:Ab->Option xu}:∀{l:List Ab} {o:xu},ajk f l=J o->∀B∈l,∃x,f B=J x/\∀p∈x,p∈o
 |[],_,_,B,hB=>by simp at hB
 |a::l,o,h,B,hB=>by
  obtain⟨x,y,b,h2,rfl⟩:=VQ h;rcases az4.mp hB with rfl|hB;·grind
  ·obtain⟨d,h3,h4⟩:=VH h2 B hB;grind
def aca{c:Type}{f:c->Option xu}:∀{b:List c} {o:xu},b.foldr (λw i=>aco (f w) i) (J [])=J o->∀w∈b,∃x,f w=J x/\∀p∈x,p∈o
 |[],_,_,w,a=>by simp at a
 |e::b,o,h,w,a=>by
  rw[List.foldr_cons]at h;obtain⟨x,y,d,h2,rfl⟩:=VQ h;rcases az4.mp a with rfl|a;·grind
  ·obtain⟨j,h3,h4⟩:=aca h2 w a;grind
def arc{n i:Nat}(h:i<n):(au6 n)[i]?=J (i,0):=by unfold au6;grind
theorem GZ(n h:Nat):∀(k:Nat) (l m:List HO),z (NG n h k l m)=k
 |0,_,_=>by simp[NG]
 |k+1,x::l,y::m=>by simp[NG,GZ n h k l m]
 |k+1,[],m=>by simp[NG,GZ n h k [] []]
 |k+1,x::l,[]=>by simp[NG,GZ n h k [] []]
theorem ajY(base:Ab)(lv:List Nat):∀(l:List Ab) (a:Ab),z a.Q=z base.Q->(l.foldl (acn base lv) a).Q.length=z base.Q|[],a,h=>h|B::l,a,h=>ajY base lv l _ (GZ _ _ _ _ _)
theorem ahd{V:Val}{a:List Nat}{k:Nat}(h:a[k]?=J k)(b:k<z V.ρ):(ρθ V a)[k]?=V.ρ[k]?:=by unfold ρθ;grind
def ajZ(base:Ab)(lv:List Nat):∀(l:List Ab) (a:Ab),a.nx=base.nx->(l.foldl (acn base lv) a).nx=base.nx|[],a,h=>h|B::l,a,h=>ajZ base lv l _ rfl
def ahQ{nb hb:Nat}{a S:Ab}{i:Nat}(h:i<nb)(b:i<a.nx):(fit nb hb a S).1[i]?=J (i,0):=by unfold fit;grind
theorem anz{nb hb:Nat}{a S:Ab}{k:Nat}(h:k<hb)(b:k<z a.Q):(fit nb hb a S).2[k]?=J k:=by unfold fit;grind
def ai9(h:G PK O0 V A E Y){base:Ab}{lv:List Nat}{l:List Ab}(e:A∈l):∃c∈Yx base lv l,∃W:Vo,G PK O0 W c E Y/\(∀i,i<base.nx->i<A.nx->W.ν[i]?=V.ν[i]?)/\∀k,k<z base.Q->k<z A.Q->W.ρ[k]?=V.ρ[k]?:=by
 rcases l with _|⟨B,_|⟨m,l⟩⟩;·simp at e
 ·simp at e;subst e;exact⟨A,by simp[Yx],V,h,λ_ _ _=>rfl,λ_ _ _=>rfl⟩
 ·unfold Yx;dsimp only;split
  ·rename_i d;rw[a01]at d;have hs:=a97.mp d.2 A e;obtain⟨W,g,e1,e2,_,e3⟩:=IX h hs;refine⟨_,List.mem_singleton_self _,W,g,λi hi f=>?_,λk o j=>?_⟩;·obtain⟨a,b,n,h2,h3⟩:=e3 i (i,0) (arc (by rw[ajZ base lv (m::l) (acn base lv B B) rfl];exact hi));grind
   grind [ahd,ajY,acn,GZ,h.lρ]
  ·split
   ·rename_i d;rw[a01,a01,decide_eq_true_eq]at d;have hs:=a97.mp d.2.2 A e;obtain⟨W,g,e1,e2,_,e3⟩:=IX h hs;refine⟨_,List.mem_singleton_self _,W,g,λi hi f=>?_,λk o j=>?_⟩;·obtain⟨a,b,n,h2,h3⟩:=e3 i (i,0) (ahQ hi (by omega));grind
    grind [ahd,anz,h.lρ]
   grind
def aoe(h:G PK O0 V A E Y){k:KC}{base:Ab}{lv:List Nat}{l:List Ab}(b:A∈l):∃a∈aod k base lv l,∃W:Vo,G PK O0 W a E Y/\(∀i,i<base.nx->i<A.nx->W.ν[i]?=V.ν[i]?)/\∀k,k<z base.Q->k<z A.Q->W.ρ[k]?=V.ρ[k]?:=by
 unfold aod;split;·grind
 ·exact ai9 h b
def Rk(PK:PkI)(O0:Frm)(V:Vo)(A:Ab)(o:xu)(f:Option (XE×As×St)):Prop:=∃x c d b a,(x,b)∈o/\f=J (x,c,d)/\G PK O0 a b c d/\(∀i,i<A.nx->a.ν[i]?=V.ν[i]?)/\∀k,k<z A.Q->a.ρ[k]?=V.ρ[k]?
def aug{V V':Vo}(h:V.toVal.le V'.toVal)(g:G PK O0 V A E Y):∀i,i<A.nx->V'.ν[i]?=V.ν[i]?:=λi hi=>by grind [Val.le,G]
def auh{V V':Vo}(h:V.toVal.le V'.toVal)(g:G PK O0 V A E Y):∀k,k<z A.Q->V'.ρ[k]?=V.ρ[k]?:=λi hi=>by grind [Val.le,G]
def anQ{V V':Vo}{A':Ab}{a:As}{b:St}(g:G PK O0 V A E Y)(g':G PK O0 V' A' a b)(h:∀i,i<z A.Q->V'.ρ[i]?=V.ρ[i]?):z A.Q<=z A'.Q:=by grind [G]
def aoQ{V V':Vo}{A':Ab}{a:As}{b:St}(g:G PK O0 V A E Y)(g':G PK O0 V' A' a b)(h:∀i,i<A.nx->V'.ν[i]?=V.ν[i]?):A.nx<=A'.nx:=by grind [G]
def arh {m:List Nat} {run:Ab->Option xu} {body:FU} (F:∀(H:Ab) (o:xu),run H=J o->∀(V:Vo) (E:As) (Y:St),G PK O0 V H E Y->Rk PK O0 V H o (body E Y))
  {o':xu} (t:ahu m run A=J o') (h:G PK O0 V A E Y):Rk PK O0 V A o' (Ce (λe O=>body (keepA m e) O) E Y):=by
 unfold ahu at t;dsimp only at t;split at t;·cases t
 ·rename_i H hH;clear hH;split at t;·cases t
  ·rename_i o ho;split at t
   ·rename_i hc;simp only[a01,decide_eq_true_eq]at hc;obtain⟨⟨⟨⟨c1,aa⟩,c2⟩,c3⟩,D⟩:=hc;cases t;have af:(A.an m).nx=A.nx:=rfl;have ad:(A.an m).Q.length=z A.Q:=rfl;have B:∃f:Vo->Nat,∀(W j q:Vo) (N:Ab) (v:As) (w:St),(∀i,i<H.nx->j.ν[i]?=W.ν[i]?)->N∈(FC o).map (·.an m)->G PK O0 j N v w->(∀(i:Nat) (p:Nat×Int),(fit (A.an m).nx (A.an m).Q.length H N).1[i]?=J p->∃a b:Nat,j.ν[p.1]?=J a/\q.ν[i]?=J b/\(b:Int)=a+p.2)->(∀i,i<A.nx->q.ν[i]?=W.ν[i]?)->f q<f W:=by
     simp only[aB4]at D;rcases D with D|D;·simp_all
     ·obtain⟨x,hx,K⟩:=aG9.mp D;simp only[a01,aB4,decide_eq_true_eq]at K;obtain⟨hx1,hx2⟩:=K;have T:x<H.nx:=aD4.mp hx;rcases hx2 with hx2|hx2
      ·obtain⟨s,hs,S⟩:=aG9.mp hx2;have ah:s<A.nx:=aD4.mp hs;refine⟨λW=>(W.ν[s]?.getD 0)-(W.ν[x]?.getD 0),λW j q N v w e1 C P e2 e3=>?_⟩;have c:=a97.mp S N C;unfold asQ at c;split at c;·rename_i i d hid;simp only[a01,beq_iff_eq,decide_eq_true_eq]at c;obtain⟨⟨⟨rfl,hd⟩,_⟩,Q⟩:=c;obtain⟨a,b,q1,q2,q3⟩:=e2 _ _ hid;have ab:j.ν[s]?=W.ν[s]?:=e1 s (by omega);have ac:j.ν[i]?=W.ν[i]?:=e1 i T;obtain⟨ns,R⟩:∃ns,j.ν[s]?=J ns:=(by grind);have h2:=G5 P.aa P.X Q q1 R;grind
       ·cases c
      ·refine⟨λW=>W.ν[x]?.getD 0,λW j q N v w e1 C P e2 e3=>?_⟩;have c:=a97.mp hx2 N C;unfold lowers at c;grind
    obtain⟨f,hf⟩:=B;have u:∀(M:Nat) (W:Vo) (E:As) (Y:St),f W<M->G PK O0 W H (keepA m E) Y->(∀i,i<A.nx->W.ν[i]?=V.ν[i]?)->(∀k,k<z A.Q->W.ρ[k]?=V.ρ[k]?)->Rk PK O0 V A (others o) (Ce (λe O=>body (keepA m e) O) E Y):=by
     intro M
     induction M with
     |zero=>intro W E Y X;omega
     |succ M ih=>
      intro W E Y X g hb n;obtain⟨x,v,w,L,j,r1,r2,r3,r4,r5⟩:=F H o ho W _ _ g;rw[Ez];rw[r2];cases x with
      |dq i=>exact⟨_,v,w,L,j,vW r1 (by simp),rfl,r3,λi hi=>by rw[r4 i (by omega),hb i hi],λk y=>by rw[r5 k (by omega),n k y]⟩|ef=>exact⟨_,v,w,L,j,vW r1 (by simp),rfl,r3,λi hi=>by rw[r4 i (by omega),hb i hi],λk y=>by rw[r5 k (by omega),n k y]⟩
      |dp=>
       dsimp only;have C:L.an m∈(FC o).map (·.an m):=aC1.mpr ⟨L,AU r1,rfl⟩;have I:=a97.mp c3 _ C;have Z:=r3.an m;obtain⟨q,g',e1,e2,_,e3⟩:=IX Z I;have l:∀i,i<A.nx->q.ν[i]?=W.ν[i]?:=λi hi=>by obtain⟨a,b,q1,q2,q3⟩:=e3 i (i,0) (ahQ (nb:=(A.an m).nx) hi (by omega));rw[q2,<-r4 i (by omega),q1];congr 1;dsimp only at q3;omega
       exact ih q v w (by have:=hf W j q _ _ _ r4 C Z e3 l;omega) g' (λi hi=>by rw[l i hi,hb i hi]) (λk y=>by rw[e2,ahd (anz (nb:=(A.an m).nx) (hb:=(A.an m).Q.length) y (by omega)) (by grind [G]),r5 k (by omega),n k y])
    obtain⟨W,g,e1,e2,_,e3⟩:=IX (h.an m) c2;refine u (f W+1) W E Y (by omega) g (λi hi=>?_) (λk y=>?_);·obtain⟨a,b,q1,q2,q3⟩:=e3 i (i,0) (ahQ (nb:=(A.an m).nx) hi (by omega));rw[q2,q1];congr 1;dsimp only at q3;omega
    grind [ahd,anz,h.lρ]
   ·cases t
def aqg{m:List Nat}{run:Ab->Option xu}{body:FU}(c:∀(H:Ab) (o:xu),run H=J o->∀(V:Vo) (E:As) (Y:St),G PK O0 V H E Y->Rk PK O0 V H o (body E Y)):∀(n:Nat) {V:Vo} {A:Ab} {E:As} {Y:St} {g:xu},ajd m run n A=J g->G PK O0 V A E Y->Rk PK O0 V A g (Ce (λe O=>body (keepA m e) O) E Y)
 |0,V,A,E,Y,g,d,h=>by cases d
 |n+1,V,A,E,Y,g,d,h=>by
  unfold ajd at d;split at d;·cases d
  ·rename_i o D;obtain⟨a,b,C,h2,rfl⟩:=VQ d;cases C;obtain⟨x,q,t,j,s,r1,r2,r3,r4,r5⟩:=c _ o D V _ _ (h.an m);rw[Ez,r2];cases x with|dq i=>exact⟨_,q,t,j,s,aC8 _ (vW r1 (by simp)),rfl,r3,r4,r5⟩|ef=>exact⟨_,q,t,j,s,aC8 _ (vW r1 (by simp)),rfl,r3,r4,r5⟩|dp=>dsimp only;obtain⟨N,F,f⟩:=VH h2 j (AU r1);obtain⟨x2,w,B,v,y,s1,s2,s3,s4,s5⟩:=aqg c n F r3;have l:=aoQ (h.an m) r3 r4;have p:=anQ (h.an m) r3 r5;exact⟨x2,w,B,v,y,aE7 _ (f _ s1),s2,s3,λi hi=>by rw[s4 i (aC9 hi l),r4 i hi],λk u=>by rw[s5 k (aC9 u p),r5 k u]⟩
def amF(hg:Jo C X)(M:SE C X)(s:Hu C X PK O0){n:Nat}:∀(k:KC) (lv:List Nat) (A:Ab) (o:xu),abK X n k lv A=J o->∀(V:Vo) (E:As) (Y:St),G PK O0 V A E Y->Rk PK O0 V A o (eX C (ai C) n k E Y):=by
 intro k
 induction k with
 |eI=>intro lv A o e V E Y h;cases e;exact⟨.dp,E,Y,A,V,by simp,rfl,h,λ_ _=>rfl,λ_ _=>rfl⟩|eD=>intro lv A o e V E Y h;cases e|dq m id=>intro lv A o e V E Y h;cases e;exact⟨.dq id,_,Y,_,V,by simp,rfl,h.an m,λ_ _=>rfl,λ_ _=>rfl⟩|ef m=>intro lv A o e V E Y h;cases e;exact⟨.ef,_,Y,_,V,by simp,rfl,h.an m,λ_ _=>rfl,λ_ _=>rfl⟩|eV b Q=>intro lv A o e V E Y h;exact Q lv A o e V E Y h|fe l=>intro lv A o e V E Y h;simp only[abK,ay4]at e;obtain⟨Z,has,rfl⟩:=e;obtain⟨F,L,S,R,T,r1,c1,g1⟩:=YY hg M s l h has;refine⟨.dp,R,T,F,S,aC1.mpr ⟨F,L,rfl⟩,?_,g1,aug c1.le h,auh c1.le h⟩;unfold eX;rw[r1]
 |eO l=>intro lv A o e V E Y h;simp only[abK,ay4]at e;obtain⟨Z,has,rfl⟩:=e;obtain⟨F,L,S,R,T,r1,c1,g1⟩:=YY hg M s l h has;refine⟨.dp,R,T,F,S,aC1.mpr ⟨F,L,rfl⟩,?_,g1,aug c1.le h,auh c1.le h⟩;unfold eX;rw[r1]
 |eL l=>
  intro lv A o e V E Y h;simp only[abK]at e;split at e
  ·rename_i Z has;split at e
   ·rename_i hc;rw[a01]at hc;cases e;obtain⟨p,hp,S,R,T,rs,ss,r1,ac,g1,r2,_,_,_,fin⟩:=aja (N:=z A.Q) hg M s l (a06 _) h has;have aw:gG C n ss l rs=eT:=by
     have:=fin [] rfl (λc dx hz=>by simp at hz) (λo ho c au=>by
      grind) (λq hq=>by
      have h1:=a97.mp hc.1 p hp;unfold agu at h1;grind)
     simpa using this
    refine⟨.dp,R,T,p.1,S,aC1.mpr ⟨p,hp,rfl⟩,?_,g1,aug ac h,auh ac h⟩;unfold eX xA;grind
   ·cases e
  ·cases e
 |eK a b O P=>
  intro lv A o e V E Y h;simp only[abK]at e;split at e;·cases e
  ·rename_i o1 v;split at e
   ·rename_i o2 ad;cases e;obtain⟨x,B,D,I,K,r1,r2,r3,r4,r5⟩:=O _ _ _ v V E Y h;cases x with
    |dq i=>refine⟨_,B,D,I,K,aC8 _ (vW r1 (by simp)),?_,r3,r4,r5⟩;unfold eX;rw[r2]|ef=>refine⟨_,B,D,I,K,aC8 _ (vW r1 (by simp)),?_,r3,r4,r5⟩;unfold eX;rw[r2]
    |dp=>
     obtain⟨d,hJ,W,gW,eW,ab⟩:=aoe (k:=a) (base:=A) (lv:=Ld b++lv) r3 (AU r1);obtain⟨oJ,af,t⟩:=VH ad d hJ;have al:=aoQ h r3 r4;have aa:∀i,i<A.nx->W.ν[i]?=V.ν[i]?:=λi hi=>by rw[eW i hi (by omega),r4 i hi]
     have aq:=aoQ h gW aa;have ak:=anQ h r3 r5;have u:∀k,k<z A.Q->W.ρ[k]?=V.ρ[k]?:=λk e=>by rw[ab k e (by omega),r5 k e]
     have an:=anQ h gW u;obtain⟨x2,E2,Y2,A2,V2,s1,s2,s3,s4,s5⟩:=P _ _ _ af W B D gW;refine⟨x2,E2,Y2,A2,V2,aE7 _ (t _ s1),?_,s3,λi hi=>by rw[s4 i (by omega),aa i hi],λk e=>by rw[s5 k (by omega),u k e]⟩;unfold eX;rw[r2];exact s2
   ·cases e
 |eJ c a b O P=>
  intro lv A o e V E Y h;simp only[abK]at e;split at e;·cases e
  ·rename_i ws ah;obtain⟨bb,F,hm,he,g',j⟩:=aeY hg h ah;obtain⟨x,hx,t⟩:=aca (f:=λw:Bool×Ab=>if w.1 then abK X n a lv w.2 else abK X n b lv w.2) e _ hm;cases bb with
   |true=>obtain⟨y,B,D,I,K,r1,r2,r3,r4,r5⟩:=O lv F x hx V E Y g';refine⟨y,B,D,I,K,t _ r1,?_,r3,λi hi=>r4 i (by rw[j.nx];exact hi),λk e=>r5 k (by rw[j.Q];exact e)⟩;unfold eX;rw[he];exact r2
   |false=>obtain⟨y,B,D,I,K,r1,r2,r3,r4,r5⟩:=P lv F x (by simpa using hx) V E Y g';refine⟨y,B,D,I,K,t _ r1,?_,r3,λi hi=>r4 i (by rw[j.nx];exact hi),λk e=>r5 k (by rw[j.Q];exact e)⟩;unfold eX;rw[he];exact r2
 |eE id b Q=>
  intro lv A o e V E Y h;simp only[abK]at e;split at e;·rename_i o1 v;cases e;obtain⟨x,B,D,I,K,r1,r2,r3,r4,r5⟩:=Q _ _ _ v V E Y h;refine⟨outOf id x,B,D,I,K,aC1.mpr ⟨_,r1,rfl⟩,?_,r3,r4,r5⟩;unfold eX;rw[r2];cases x with|dq i=>rfl|ef=>rfl|dp=>rfl
  ·cases e
 |fp m b Q=>
  intro lv A o e V E Y h;have e:adv m (λH=>abK X n b m H) A=J o:=e;unfold adv at e;split at e;·rename_i o1 v;cases e;exact arh (body:=eX C (ai C) n b) (λH o ho V E Y g=>Q m H o ho V E Y g) v h
  ·exact aqg (body:=eX C (ai C) n b) (λH o ho V E Y g=>Q m H o ho V E Y g) 6 e h
end
theorem Rj:∀(fs:List Nat) (O:St),z (freeze O fs)=z O
 |[],O=>rfl
 |o::fs,O=>by
  unfold freeze;split;·rw[Rj fs];simp
  ·exact Rj fs O
def UE{O O1:St}{azs a:LA}(h:hand eF azs O=J (a,O1)):z O1=z O:=by have h:(match dS O 12 azs with|J (l,fs)=>J (l,freeze O fs)|U=>U)=J (a,O1):=h;grind [Rj]
def abf{l:LA}(h:below 0 (bW l)=eT):ae 0 l=eT:=by
 unfold bW at h;split at h;·rw[ae,h];rfl
 ·rw[below]at h;exact h
def avb{V:Val}{l:List Sh}{w:LA}(h:Mt V l w):M V (ava l) (bW w):=by
 cases h with
 |de=>exact .df _ _ .de
 |cW s t v b a h2=>
  cases h2 with
  |de=>exact a|cW d e f c h3 h4=>exact .df _ _ (.cW _ _ _ _ a (.cW _ _ _ _ h3 h4))
def MS{V:Val}:∀{l:List Sh} {w:LA},Mt V l w->∀{i t:Nat} {s:Sh},la t (Qb i l)=J s->M V s (look (lQ i w) t)
 |_,_,.de,i,t,s,h=>by cases h
 |_,_,.cW s0 l v w a h2,i,t,s,h=>by
  simp only[Qb,la]at h;simp only[lQ,look];split at h;·grind
  ·rename_i hi;rw[if_neg hi];exact MS h2 h
section
variable{C:Ctx}{X:Cfg}{PK:PkI}{O0:Frm}{V:Vo}{A:Ab}{E:As}{Y:St}
def YD(h:G PK O0 V A E Y):∀{rs:List XR} {l:List Sh},rsS A rs=J l->∃vs,aU E Y rs=J vs/\Mt V.toVal l vs
 |[],l,hr=>by cases hr;exact⟨[],rfl,.de⟩
 |.fX t::rs,l,hr=>by
  simp only[rsS]at hr;split at hr;·rename_i s q hs a;cases hr;obtain⟨vs,b,h2⟩:=YD h a;grind [aU,G,Mt]
  ·cases hr
 |.eS t ag j::rs,l,hr=>by
  simp only[rsS]at hr;split at hr
  ·rename_i k off q hs a;obtain⟨vs,b,h2⟩:=YD h a;split at hr
   ·rename_i c d;split at hr;·rename_i s f;cases hr;obtain⟨o,g,e⟩:=UH (h.az t _ hs);obtain⟨i,cs,q1,q2,q3,q4⟩:=h.Q _ _ d;grind [UT,aU,Mt]
    ·cases hr
   ·cases hr
  ·cases hr
def aku (u:Jo C X) (m:SE C X) (hs:P9 C X PK) {K:KF} {O O1:St} {azs c:LA} (B:hand eF azs O=J (c,O1)) (p:z c<=K.L) {F:Frm} (h:G PK F V A (lQ 0 c) O1) {o:xu} (w:abK X K.L K.aE [] A=J o) {res:Sh} (i:cl res=eT) (he:endOk K res o=eT):
  ∃v vs x A' V' e b,(x,A')∈o/\Ey C K eF azs O=J (v,tidy (z O) vs b)/\M V0 res v/\ae 0 vs=eT/\G PK F V' A' e b/\∀k,k<z A.Q->V'.ρ[k]?=V.ρ[k]?:=by
 obtain⟨x,e,n,A',V',r1,r2,g,_,t⟩:=amF u m (afj hs) K.aE [] A o w V _ _ h;have a:=a97.mp he _ r1;have fin:(match rsS A' K.Y with
  |J l=>match LZ A'.Q l with|J l=>sub A'.X [] [] res (ava l)|U=>eF
  |U=>eF)=eT->∃v vs b,(match aU e n K.Y with|U=>U|J vs=>match hand eF vs n with|U=>U|J (vs,s)=>J (bW vs,tidy (z O) vs s))=J (v,tidy (z O) vs b)/\M V0 res v/\ae 0 vs=eT/\G PK F V' A' e b:=by
  intro a;split at a
  ·rename_i l y;split at a;·rename_i D j;obtain⟨vs,e1,e2⟩:=YD g y;obtain⟨d,b,e3,e4,f,_⟩:=ajO g e2 j;have q:M V0 res (bW d):=Wx (Sb.fi f.aa f.X) (avb e4) a;refine⟨bW d,d,b,?_,q,abf (q.nv i).cl,f⟩;grind
   ·cases a
  ·cases a
 unfold Ey;grind
def akF{n:Nat}{vs:LA}{Y:St}(hb:ae 0 vs=eT)(a:(Y.take n).all (AO.below n)=eT)(b:n<=z Y):tidy n vs Y=Y.take n:=by
 unfold tidy;split;·grind
 ·rw[a,wR (a99 n) hb];rfl
def abP{O1 Y:St}(a:z O1<=z Y)(h2:∀i,i<z O1->Y[i]?=O1[i]?):Y.take (z O1)=O1:=by apply aA9;grind
def apy(p:Jo C X)(f:SE C X)(hs:P9 C X PK){K:KF}{O O1:St}{azs a:LA}(c:Ok O1)(g:hand eF azs O=J (a,O1))(b:z a<=K.L)(h:G PK ⟨O1,[]⟩ V A (lQ 0 a) O1){o:xu}(q:abK X K.L K.aE [] A=J o){res:Sh}(e:cl res=eT)(he:endOk K res o=eT):∃v,Ey C K eF azs O=J (v,O1)/\M V0 res v:=by obtain⟨v,vs,x,t,w,u,k,_,f1,l,m,d,_⟩:=aku p f hs g b h q e he;have s:z O1=z O:=UE g;have j:k.take (z O1)=O1:=abP d.bE.1 (λi hi=>d.bE.2 i hi (by simp));refine⟨v,?_,l⟩;rw[f1,<-s,akF (n:=z O1) m (by rw[j];exact c) d.bE.1,j]
def G.gf(PK:PkI){O1:St}(h:Ok O1)(E:As):G PK ⟨O1,[]⟩ ⟨V0,[]⟩ {az:=[],Q:=[],nx:=1,X:=[]} E O1:=
 ⟨λt s g=>(by cases g),rfl,rfl,rfl,rfl,λf hf=>(by simp at hf),λk x d=>(by simp at d),λk i a b _ c=>(by simp at c),λk a c=>(by simp at c),λk o e=>(by simp[V0]at e),⟨a06 _,λ_ _ _=>rfl⟩,h⟩
theorem adu(hg:Jo C X)(af:SE C X)(hs:P9 C X PK){f:FuncId}{K:KF}(hK:Has C f K){m:Sm}(h:abF X K m=eT):dh C PK f m:=by
 cases m with
 |ez args res=>
  simp only[abF,a01,decide_eq_true_eq]at h;obtain⟨⟨⟨h1,h2⟩,h3⟩,h4⟩:=h;split at h4;·rename_i o ho;intro O ak D u hok hh c hm;rw[hK.cm];obtain⟨V1,o1,T,m1⟩:=JE (G.gf PK c (lQ 0 D)) hm;refine apy hg af hs c hh (by rw[hm.dt];exact h3) (T.f4 (l:=Qb 0 (JD {az:=[],Q:=[],nx:=1,X:=[]} args).1) λt s I=>MS m1 I) ho h2 h4
  ·cases h4
 |ro l args res=>
  simp only[abF,a01,decide_eq_true_eq]at h;obtain⟨⟨⟨⟨h0,h1⟩,h2⟩,h3⟩,h4⟩:=h;split at h4
  ·rename_i o ho;intro O q ak D u cs fz hok hh c al hl hm;rw[hK.cm];obtain⟨V1,o1,T,m1⟩:=JF (G.gf PK c (lQ 0 (.c8 q 0::D))) hl;have hq:q<z u:=(a00.mp al).1;have ad:V1.toVal.le (⟨V1.ν,[J q]⟩:Val):=⟨λ_ _ hi=>hi,λi a hi=>by rw[o1.ρ]at hi;simp[V0]at hi⟩;have g2:G PK ⟨u,[]⟩ ⟨⟨V1.ν,[J q]⟩,[[]]⟩ {(Ev.opened {az:=[],Q:=[],nx:=1,X:=[]} l).2 with Q:=[.ro (Ev.opened {az:=[],Q:=[],nx:=1,X:=[]} l).1]} (lQ 0 (.c8 q 0::D)) u:=by
    refine⟨λt s I=>(T.az t s I).D ad,T.lν,rfl,rfl,T.aa,λf hf=>(T.X f hf).D ad,λk x g=>?_,λk k' a b aw E hb i hi=>?_,λk a E i hi=>?_,λk o' ax=>?_,T.bE,T.ok⟩;·cases k with|zero=>simp at g;subst g;exact⟨q,cs,fz,rfl,rfl,⟨hq,by simp⟩,al,m1.D ad⟩|succ k=>simp at g
    ·grind
    ·grind
    grind
   obtain⟨V3,o3,g3,m3⟩:=JE g2 (hm.D (abE g2.aa));refine apy hg af hs c hh (by rw[a90,hm.dt];exact h3) (g3.f4 (l:=(0,.c8 0 0)::Qb 1 (JD {(Ev.opened {az:=[],Q:=[],nx:=1,X:=[]} l).2 with Q:=[.ro (Ev.opened {az:=[],Q:=[],nx:=1,X:=[]} l).1]} args).1) λt s I=>?_) ho h2 h4;simp only[la]at I;simp only[lQ,look];split at I;·rename_i hi;cases I;rw[if_pos hi];exact .c8 _ _ q (o3.le.ρ 0 (J q) rfl)
   ·rename_i hi;rw[if_neg hi];exact MS m3 I
  ·cases h4
 |iP args=>cases h|pk args res=>cases h
 |iy H args res=>
  simp only[abF,a01,decide_eq_true_eq]at h;obtain⟨⟨⟨h1,h2⟩,h3⟩,h4⟩:=h;split at h4
  ·rename_i o ho;intro O ak D u hok hh c F W E0 w hm;rw[hK.cm];have aa:∀(k:Nat) x,H[k]?=J x->okH x=eT:=λk x hx=>a97.mp h1 x (a08 hx);have gS:G PK ⟨u,W.ac.flatten⟩ W (Hab H) (lQ 0 D) u:=by
    refine⟨λt s I=>(by cases I),w.lν,w.lρ,w.lo,w.aa,w.X,λk x g=>?_,w.dw,λk a E i hi=>⟨.inr (List.mem_flatten.mpr ⟨a,a08 E,hi⟩),(w.cJ k a E i hi).2⟩,w.ρl,⟨a06 _,λ_ _ _=>rfl⟩,w.ok⟩;have h5:=w.Q k x g;have h6:=aa k x g;cases x with
    |cH l=>exact h5|ec v=>exact h5|eq=>exact h5|ro l=>cases h6|g9 a e=>cases h6|fN a e=>cases h6|pk=>cases h6
   obtain⟨V1,o1,T,l1,m1⟩:=UZ (k0:=0) (m:=H.map λ_=>eT) gS (H:=H) (λj x hj=>by rw[az5];exact gS.Q j x hj);have g2:=T.ho (H:=(jO (Hab H) (H.map λ_=>eT) H).1) (by rw[l1,o1.Q];rfl) (λk x g=>by grind);obtain⟨V3,o3,g3,m3⟩:=JE g2 (hm.D o1.le);simp only[anm,a01]at h4;obtain⟨v,vs,x,A',V',E',Y1,r1,f1,f2,f3,f4,f5⟩:=aku hg af hs hh (by rw[hm.dt];exact h3) (g3.f4 (l:=Qb 0 (JD {(jO (Hab H) (H.map λ_=>eT) H).2 with Q:=(jO (Hab H) (H.map λ_=>eT) H).1} args).1) λt s I=>MS m3 I) ho h2 h4.1;obtain⟨W2,gE,w1,w2,w3,_⟩:=IX f4 (a97.mp h4.2 _ r1);have hn:z u=z O:=UE hh;have N:(JD {(jO (Hab H) (H.map λ_=>eT) H).2 with Q:=(jO (Hab H) (H.map λ_=>eT) H).1} args).2.Q.length=z H:=by rw[o3.Q];exact l1
   have V:∀k,k<z H->W2.ρ[k]?=W.ρ[k]?:=λk g=>by
    have h6:k<z V'.ρ:=by
     have h7:=f5 k (by show k<_;rw[N];exact g);rw[o3.ρ]at h7;have h8:(V1.ρ)[k]?=W.ρ[k]?:=(by rw[o1.ρ]);have h9:k<z W.ρ:=by rw[w.lρ];exact g
     grind
    rw[w2,ahd (List.getElem?_range g) h6,f5 k (by show k<_;rw[N];exact g),o3.ρ];show V1.ρ[k]?=_;rw[o1.ρ]
   have ab:W2.toVal.le W.toVal:=by
    refine⟨λi a E=>?_,λi a E=>?_⟩;·have h0:=gE.aa;grind [gE.lν,w.aa,Hab]
    ·have:=(a00.mp E).1;rw[gE.lρ]at this;rw[<-V i this];exact E
   have hN:∀(k o:Nat),W2.ρ[k]?=J (J o)->o<z u:=λk o g=>w.ρl k o (ab.ρ _ _ g);have aq:z u<=z Y1:=f4.bE.1;have Z:(Y1.take (z u)).all (AO.below (z u))=eT:=by
    rw[a97];intro co hz;obtain⟨i,hi,rfl⟩:=List.mem_iff_getElem.mp hz;have ac:i<z u:=by simp at hi;omega
    have Q:Y1[i]?=J ((Y1.take (z u))[i]):=(by grind);by_cases hw:i∈W.ac.flatten
    ·obtain⟨a,E,P⟩:=List.mem_flatten.mp hw;obtain⟨k,g,rfl⟩:=List.mem_iff_getElem.mp E;have R:k<z H:=by rw[w.lo]at g;exact g
     have hx:H[k]?=J H[k]:=a02 R;have d:=w.Q k _ hx;have A:=gE.Q k _ hx;have au:W.ac[k]?=J W.ac[k]:=a02 g;have h6:=aa k _ hx;revert d A h6;generalize H[k]=y;intro d A h6;cases y with
     |cH l=>obtain⟨q,cs,p1,p2,p3,p4⟩:=d;obtain⟨q',L,n,ah,Y,B⟩:=A;rw[V k R,p1]at n;cases n;rw[au]at p2;simp only[a05]at p2;rw[p2]at P;simp at P;subst P;rw[Y]at Q;rw[<-aE0 Q];exact Ms.b5 hN B
     |ec v=>obtain⟨q,cs,p1,p2,p3,p4⟩:=d;obtain⟨q',L,n,ah,Y,B⟩:=A;grind [Zr,M.ay]
     |eq=>have d:W.ac[k]?=J []:=d;grind|ro l=>cases h6|g9 a e=>cases h6|fN a e=>cases h6|pk=>cases h6
    ·have h7:=f4.bE.2 i ac hw;rw[Q]at h7;exact a97.mp c _ (a08 h7.symm)
   have S:z (Y1.take (z u))=z u:=by simp;omega
   refine⟨v,Y1.take (z u),?_,f2,by unfold Ok;rw[S];exact Z,S,λi hi=>?_,λk y hy=>?_⟩;·rw[f1,<-hn,akF f3 Z aq]
   ·rw[aA4];split;·rename_i ac;refine f4.bE.2 i ac λhw=>?_;obtain⟨a,E,P⟩:=List.mem_flatten.mp hw;obtain⟨k,g,rfl⟩:=List.mem_iff_getElem.mp E;exact hi k _ (a02 g) P
    grind
   ·have R:k<z H:=(a00.mp hy).1;have d:=w.Q k _ hy;have A:=gE.Q k _ hy;have h6:=aa k _ hy;cases y with
    |cH l=>obtain⟨q,cs,p1,p2,p3,p4⟩:=d;obtain⟨q',L,n,ah,Y,B⟩:=A;rw[V k R,p1]at n;cases n;refine⟨q,L,p1,p2,?_,B.D ab⟩;grind
    |ec v=>obtain⟨q,cs,p1,p2,p3,p4⟩:=d;obtain⟨q',L,n,ah,Y,B⟩:=A;rw[V k R,p1]at n;cases n;refine⟨q,L,p1,p2,?_,λp hp=>⟨(B p hp).1,(B p hp).2.D ab⟩⟩;grind
    |eq=>exact d|ro l=>cases h6|g9 a e=>cases h6|fN a e=>cases h6|pk=>cases h6
  ·cases h4
def Cfg.jj(X:Cfg)(f:FuncId)(m:Sm):Cfg:={X with sm:=λg=>if g=f then m::X.sm g else X.sm g}
def av1(hs:P9 C X PK){f:FuncId}{m:Sm}(h:dh C PK f m):P9 C (X.jj f m) PK:=λg q a=>by
 by_cases b:g=f
 ·have a:q∈(if g=f then m::X.sm g else X.sm g):=a;rw[if_pos b]at a;rcases az4.mp a with rfl|a;·exact b▸h
  ·exact hs g q a
 ·have a:q∈(if g=f then m::X.sm g else X.sm g):=a;rw[if_neg b]at a;exact hs g q a
end
def errs:List Int:=[10,3]
def atG(e:Int):LA:=[.cU .u8 0,.cU r 0,.cV [],.cY,.cY,.eA,.cU r e]
def dL:PkI where
 ok Y o ms:=(∃(j:JV) (m:Nat) (es:List (AV×AV)) (e:Int),ms=[m]/\o≠m/\Y[o]?=J (.cH (j.B++[.ec m,.cU r e]) FZ)/\Y[m]?=J (.ec es)/\∀p∈es,(∃s,p.1=.cV s)/\∃n,p.2=.cU r n)\/(∃e∈errs,ms=[]/\Y[o]?=J (.cH (atG e) FZ))
 fr:=by grind
def HA:List HO:=[.cH [.jv,.ec 1,.cU r],.ec (.cU r)]
def HE(e:Int):List HO:=[.cH [.ic .u8 0,.ic r 0,.sc [],.cY,.cY,.ga,.ic r e]]
section
variable{C:Ctx}{X:Cfg}{O0:Frm}{V:Vo}{A:Ab}{E:As}{Y:St}
def atH{V:Val}(e:Int):Ms V [.ic .u8 0,.ic r 0,.sc [],.cY,.cY,.ga,.ic r e] (atG e):=
 .eo _ _ _ _ rfl (.ic _ _) (.eo _ _ _ _ rfl (.ic _ _) (.eo _ _ _ _ rfl (.sc _) (.eo _ _ _ _ rfl .cY (.eo _ _ _ _ rfl .cY (.eo _ _ _ _ rfl .ga (.eo _ _ _ _ rfl (.ic _ _) .de))))))
def ajh{V:Val}{e:Int}{cs:LA}(h:Ms V [.ic .u8 0,.ic r 0,.sc [],.cY,.cY,.ga,.ic r e] cs):cs=atG e:=by obtain⟨v1,r1,rfl,a,h⟩:=h.cy rfl;obtain⟨v2,r2,rfl,b,h⟩:=h.cy rfl;obtain⟨v3,r3,rfl,c,h⟩:=h.cy rfl;obtain⟨v4,r4,rfl,d,h⟩:=h.cy rfl;obtain⟨v5,r5,rfl,f,h⟩:=h.cy rfl;obtain⟨v6,j,rfl,g,h⟩:=h.cy rfl;obtain⟨v7,k,rfl,i,h⟩:=h.cy rfl;cases h;cases a;cases b;cases c;cases d;cases f;cases g;cases i;rfl
def afM{V:Val}{cs:LA}(h:Ms V [.jv,.ec 1,.cU r] cs):∃(j:JV) (m:Nat) (e:Int),cs=j.B++[.ec m,.cU r e]/\V.ρ[1]?=J (J m):=by
 cases h with
 |eo _ _ _ _ h=>cases h|jv _ j b h=>obtain⟨v1,r1,rfl,c,h⟩:=h.cy rfl;obtain⟨v2,r2,rfl,d,h⟩:=h.cy rfl;cases h;obtain⟨m,a,rfl⟩:=anS c;cases d;exact⟨j,m,_,rfl,a⟩
def ar6{V:Val}(j:JV){m:Nat}(e:Int)(h:V.ρ[1]?=J (J m)):Ms V [.jv,.ec 1,.cU r] (j.B++[.ec m,.cU r e]):=
 .jv _ _ _ (.eo _ _ _ _ rfl (.ec _ _ h) (.eo _ _ _ _ rfl (.cU _ _) .de))
theorem awj{f:FuncId}{args:List Sh}{res:Sh}(h1:dh C dL f (.iy HA (.c8 0 0::args) res))(h2:∀e∈errs,dh C dL f (.iy (HE e) (.c8 0 0::args) res)):dh C dL f (.pk args res):=by
 intro O o ms Y X l hok S c n T;rcases n with⟨j,m,es,e,rfl,N,A,y,H⟩|⟨e,R,rfl,A⟩
 ·have P:=(a00.mp A).1;have aa:=(a00.mp y).1;have h:V0.le (⟨[0],[J o,J m]⟩:Val):=abE rfl;have g:G dL ⟨l,[o,m]⟩ ⟨⟨[0],[J o,J m]⟩,[[o],[m]]⟩ (Hab HA) [] l:=by
   refine⟨λt s Q=>(by cases Q),rfl,rfl,rfl,rfl,λf hf=>(by simp[Hab]at hf),λk x d=>?_,λk k' a b L u hb i hi I=>?_,λk a u i hi=>?_,λk q d=>?_,⟨a06 _,λ_ _ _=>rfl⟩,c⟩
   ·rcases k with _|_|k;·simp[Hab,HA]at d;subst d;exact⟨o,_,rfl,rfl,A,ar6 j e rfl⟩
    ·simp[Hab,HA]at d;subst d;exact⟨m,es,rfl,rfl,y,λp n=>⟨(H p n).1,by grind [M]⟩⟩
    ·simp[Hab,HA]at d
   ·grind
   ·grind
   grind
  obtain⟨v,E,e1,e2,e3,e4,e5,D⟩:=h1 O _ _ l hok S c _ _ _ g (.cW _ _ _ _ (.c8 _ _ o rfl) (T.D h));refine⟨v,E,e1,e2,e3,e4,λi hi=>e5 i λk a u K=>?_,.inl ?_⟩;·grind
  ·obtain⟨o',cs,q1,q2,q3,q4⟩:=D 0 _ rfl;obtain⟨m',F,V,p2,p3,W⟩:=D 1 _ rfl;simp at q1 V;subst q1 V;obtain⟨j',ab,Z,rfl,B⟩:=afM q4;simp at B;subst B;exact⟨j',_,F,Z,rfl,N,q3,p3,λp n=>⟨(W p n).1,by
    have:=(W p n).2;revert this;generalize p.2=w;intro this;cases this;exact⟨_,rfl⟩⟩⟩
 ·have P:=(a00.mp A).1;have h:V0.le (⟨[0],[J o]⟩:Val):=abE rfl;have g:G dL ⟨l,[o]⟩ ⟨⟨[0],[J o]⟩,[[o]]⟩ (Hab (HE e)) [] l:=by
   refine⟨λt s Q=>(by cases Q),rfl,rfl,rfl,rfl,λf hf=>(by simp[Hab]at hf),λk x d=>?_,λk k' a b L u hb i hi I=>?_,λk a u i hi=>?_,λk q d=>?_,⟨a06 _,λ_ _ _=>rfl⟩,c⟩
   ·rcases k with _|k;·simp[Hab,HE]at d;subst d;exact⟨o,_,rfl,rfl,A,atH e⟩
    ·simp[Hab,HE]at d
   ·grind
   ·grind
   grind
  obtain⟨v,E,e1,e2,e3,e4,e5,D⟩:=h2 e R O _ _ l hok S c _ _ _ g (.cW _ _ _ _ (.c8 _ _ o rfl) (T.D h));refine⟨v,E,e1,e2,e3,e4,λi hi=>e5 i λk a u K=>?_,.inr ?_⟩;·grind
  ·obtain⟨o',cs,q1,q2,q3,q4⟩:=D 0 _ rfl;simp at q1;subst q1;exact⟨e,R,rfl,by rw[ajh q4]at q3;exact q3⟩
def asN:List Sh->Option Nat|[]=>U|.ec k::_=>J k|_::l=>asN l
def UI(A:Ab)(k:Nat):Bool:=match A.Q[k]? with|J (.cH l)=>(match asN l with|J a=>aaQ (Hab HA) A [(0,0)] [k,a]|U=>errs.any λe=>aaQ (Hab (HE e)) A [(0,0)] [k])|_=>eF
def atT(K:KF)(o:xu):Bool:=o.all λp=>match p.1 with|.dq _=>eF|_=>match rsS p.2 K.Y with|J [.c8 k 0]=>UI p.2 k|_=>eF
def afR{F:Frm}(h:G dL F V A E Y)(L:F.w=[]){k o:Nat}(n:V.ρ[k]?=J (J o))(b:UI A k=eT):∃ms,dL.ok Y o ms/\∀i∈o::ms,F.I<=i/\i<z Y:=by
 have v:∀(W:Vo) (H:List HO) (m:As),G dL F W (Hab H) m Y->∀(k:Nat) a,W.ac[k]?=J a->∀i∈a,F.I<=i/\i<z Y:=λW H m g k a N i hi=>by grind [G]
 unfold UI at b;split at b
 ·rename_i l O;split at b
  ·rename_i P w;obtain⟨W,g,I,j,K,_⟩:=IX h b;obtain⟨f,cs,q1,q2,q3,q4⟩:=g.Q 0 _ rfl;obtain⟨q,d,C,Q,D,s⟩:=g.Q 1 _ rfl;rw[j]at q1;simp only[ρθ,az3,aF5,n,a05]at q1;have q1:J o=J f:=q1;cases q1;obtain⟨y,B,t,rfl,c⟩:=afM q4;rw[C]at c;cases c;refine⟨[q],.inl ⟨y,q,d,t,rfl,λx=>?_,q3,D,λp b=>⟨(s p b).1,by
    have:=(s p b).2;grind [M]⟩⟩,λi hi=>?_⟩
   ·grind
   grind
  ·obtain⟨e,u,hs⟩:=aG9.mp b;obtain⟨W,g,I,j,K,_⟩:=IX h hs;obtain⟨f,cs,q1,q2,q3,q4⟩:=g.Q 0 _ rfl;rw[j]at q1;simp only[ρθ,az3,aF5,n,a05]at q1;have q1:J o=J f:=q1;cases q1;refine⟨[],.inr ⟨e,u,rfl,by rw[ajh q4]at q3;exact q3⟩,λi hi=>?_⟩;grind
 ·cases b
def amG(X:Cfg)(K:KF)(args:List Sh):Bool:=decide (z args<=K.L)&&(match abK X K.L K.aE [] (startA args)with|J o=>atT K o|U=>eF)
def auy(M:Jo C X)(p:SE C X)(hs:P9 C X dL){f:FuncId}{K:KF}(I:Has C f K){args:List Sh}(h:amG X K args=eT):dh C dL f (.iP args):=by
 simp only[amG,a01,decide_eq_true_eq]at h;obtain⟨h3,h4⟩:=h;split at h4
 ·rename_i o P;intro O F n c hok w m y;rw[I.cm];obtain⟨E,o1,H,S⟩:=JE (G.gf dL m (lQ 0 n)) y;obtain⟨x,B,d,u,Y,r1,r2,g,_,_⟩:=amF M p (afj hs) K.aE [] _ o P E _ _ (H.f4 (l:=Qb 0 (JD {az:=[],Q:=[],nx:=1,X:=[]} args).1) λt s R=>MS S R);have a:=a97.mp h4 _ r1;have Z:z c=z O:=UE w;have fin:(match rsS u K.Y with
   |J [.c8 k 0]=>UI u k|_=>eF)=eT->∃(L:St) (o:Nat) (ms:List Nat),(match aU B d K.Y with|U=>U|J vs=>match hand eF vs d with|U=>U|J (vs,D)=>J (bW vs,tidy (z O) vs D))=J (.c8 o 0,c++L)/\Ok (c++L)/\(∀i∈o::ms,z c<=i/\i<z (c++L))/\dL.ok (c++L) o ms:=by
   intro a;split at a
   ·rename_i k N;obtain⟨vs,e1,e2⟩:=YD g N;cases e2 with
    |cW _ _ v b T V=>
     cases V;obtain⟨q,Q,rfl⟩:=UH T;obtain⟨ms,W,A⟩:=afR g rfl Q a;have j:d.take (z c)=c:=abP g.bE.1 (λi hi=>g.bE.2 i hi (by simp));have e:d=c++d.drop (z c):=by
      conv=>lhs;rw[<-List.take_append_drop (z c) d,j]
     refine⟨d.drop (z c),q,ms,?_,by rw[<-e];exact g.ok,by rw[<-e];exact A,by rw[<-e];exact W⟩
     rw[e1];dsimp only;rw[show hand eF [AV.c8 q 0] d=J ([.c8 q 0],d)from rfl];dsimp only;rw[wW (by
      have:¬q<z O:=by have:=(A q (by simp)).1;have h5:z c<=q:=this;omega
      simp only[ae,below,decide_eq_false this,aF3]),<-e]
     rfl
   ·cases a
  unfold Ey;rw[w];dsimp only;rw[if_neg (by rw[y.dt];omega),r2];grind
 ·cases h4
def abG(X:Cfg)(K:KF):Sm->Bool|.pk args res=>abF X K (.iy HA (.c8 0 0::args) res)&&errs.all λe=>abF X K (.iy (HE e) (.c8 0 0::args) res)|.iP args=>amG X K args|m=>abF X K m
def aty(c:Jo C X)(a:SE C X)(hs:P9 C X dL){f:FuncId}{K:KF}(b:Has C f K){m:Sm}(h:abG X K m=eT):dh C dL f m:=by
 cases m with
 |pk args res=>simp only[abG,a01]at h;grind [awj,adu]|iP args=>exact auy c a hs b h|ez args res=>exact adu c a hs b h|ro l args res=>exact adu c a hs b h|iy H args res=>exact adu c a hs b h
def aht(X:Cfg):List (FuncId×KF×Sm)->Option Cfg|[]=>J X|(f,K,m)::l=>match abG X K m with|eT=>aht (X.jj f m) l|eF=>U
def ajb:∀{l:List (FuncId×KF×Sm)} {X b:Cfg},Jo C X->SE C X->P9 C X dL->(∀p∈l,Has C p.1 p.2.1)->aht X l=J b->P9 C b dL/\Jo C b/\SE C b
 |[],X,b,c,a,hs,_,h=>by cases h;exact⟨hs,c,a⟩
 |(f,K,m)::l,X,b,c,a,hs,d,h=>by
  unfold aht at h;split at h;·rename_i hf;exact ajb (X:=X.jj f m) c a (av1 hs (aty c a hs (d (f,K,m) (by simp)) hf)) (λp e=>d p (by simp[e])) h
  ·cases h
end
section
variable{C:Ctx}{PK:PkI}
theorem anM{f:FuncId}{K:KF}(h:Has C f K){O O1:St}{azs a:LA}(b:hand eF azs O=J (a,O1))(c:NVs a):ai C f azs O=ai C f a O1:=by rw[h.cm,h.cm];unfold Ey;rw[b,c.e O1];dsimp only;rw[UE b]
def nK{f:FuncId}{K:KF}{args:List Sh}{res:Sh}(d:Has C f K)(e:cls args=eT)(h:∀azs,Mt V0 args azs->∀O,Ok O->∃v,ai C f azs O=J (v,O)/\M V0 res v):dh C PK f (.ez args res):=λO azs b c hok g a i=>by grind [anM,Mt.af]
theorem alG{O:St}{d:LA->Option (LA×List Nat)}{v:AV}{s:LU}{fs:List Nat}(h:bI O d v=J (.cV s,fs)):v=.cV s/\fs=[]:=by
 cases v<;>simp only[bI]at h<;>(first|(cases h;done)|skip);all_goals (repeat' split at h)<;>cases h
 all_goals exact⟨rfl,rfl⟩
def ali{O O1:St}:∀{azs:LA} {ss:List LU},hand eF azs O=J (ss.map .cV,O1)->azs=ss.map .cV/\O1=O:=by
 have key:∀{azs:LA} {ss:List LU} {fs:List Nat},aZ O (dS O 11) azs=J (ss.map .cV,fs)->azs=ss.map .cV/\fs=[]:=by
  intro azs
  induction azs with
  |nil=>
   intro ss fs h;cases ss with
   |nil=>cases h;exact⟨rfl,rfl⟩|cons s ss=>cases h
  |cons a azs d=>
   intro ss fs h;cases b:bI O (dS O 11) a with
   |none=>grind [aZ]
   |some p=>
    obtain⟨v,c⟩:=p;cases h2:aZ O (dS O 11) azs with
    |none=>grind [aZ]
    |some q=>
     obtain⟨w,hs⟩:=q;unfold aZ at h;rw[b,h2]at h;cases ss with
     |nil=>cases h|cons s ss=>grind [alG]
 intro azs ss h;have h:(match dS O 12 azs with|J (l,fs)=>J (l,freeze O fs)|U=>U)=J (ss.map AV.cV,O1):=h;rw[show dS O 12 azs=aZ O (dS O 11) azs from rfl]at h;cases b:aZ O (dS O 11) azs with
 |none=>rw[b]at h;cases h|some p=>obtain⟨l,fs⟩:=p;rw[b]at h;simp only[a05,ay8]at h;obtain⟨rfl,rfl⟩:=h;obtain⟨e1,e2⟩:=key b;exact⟨e1,by rw[e2];rfl⟩
def wY{V:Val}{v:AV}(h:M V .ds v):∃s,v=.cV s/\z s<=LB:=by grind [M]
def acm{V:Val}{v:AV}(h:M V .jv v):∃j:JV,v=j.av:=by grind [M]
def Ro{V:Val}{a:Sh}{azs:LA}(h:Mt V [a] azs):∃x,azs=[x]/\M V a x:=by grind [Mt]
def ae1{V:Val}{a b:Sh}{azs:LA}(h:Mt V [a,b] azs):∃x y,azs=[x,y]/\M V a x/\M V b y:=by grind [Mt]
end
def aeU(m:Nat):List Nat:=(List.range (Nat.log2 m+1)).filter λt=>m.testBit t
def anA(g:Nat->KC×Nat):Nat->Nat->KC×Nat|0,m=>(.fp (aeU m) (g m).1,m)|n+1,m=>match Nat.beq ((g m).2|||m) m with|eT=>(.fp (aeU m) (g m).1,m)|eF=>anA g n ((g m).2|||m)
def ann(R:Nat):XC->Nat->(Nat->Nat)->KC×Nat
 |.eI,N,_=>(.eI,N)|.fe l,N,_=>(.fe l,IG l N)|.eL l,N,_=>(match Pn l with|eT=>.eO l|eF=>.eL l,IG l N)|.eK a b,N,X=>match ann R b N X with|(b,M)=>match ann R a M X with|(a,L)=>(.eK a b,L)
 |.eJ c a b,N,X=>match ann R a N X with|(a,A)=>match ann R b N X with|(b,B)=>(.eJ c a b,bits c.aw|||(A|||B))
 |.eE id b,N,X=>match ann R b N λi=>if i=id then N else X i with|(b,B)=>(.eE id b,B)
 |.fp b,_,X=>anA (λm=>ann R b m X) 60 0|.dq id,_,X=>(.dq (aeU (X id)) id,X id)|.ef,_,_=>(.ef (aeU R),R)|.eV b,N,X=>match ann R b N X with|(b,B)=>(.eV b,B)
 |.eD,_,_=>(.eD,0)
theorem Xf{g:Nat->KC×Nat}{c:XC}(h:∀m,(g m).1.V=c):∀n m,(anA g n m).1.V=.fp c
 |0,m=>by unfold anA;simp only[KC.V,h]
 |n+1,m=>by
  unfold anA;split;·simp only[KC.V,h]
  ·exact Xf h n _
def ahx(R:Nat):∀(c:XC) (N:Nat) (X:Nat->Nat),(ann R c N X).1.V=c:=by
 intro c
 induction c with
 |eI=>intro N X;rfl|eD=>intro N X;rfl|fe l=>intro N X;rfl|dq id=>intro N X;rfl|ef=>intro N X;rfl|eL l=>intro N X;unfold ann;cases Pn l<;>rfl|eK a b f g=>grind [ann,KC.V]|eJ c a b f g=>grind [ann,KC.V]|eE id b d=>intro N X;unfold ann;rcases hb:ann R b N (λi=>if i=id then N else X i)with⟨h,M⟩;have e:=d N λi=>if i=id then N else X i;rw[hb]at e;dsimp only at e⊢;rw[KC.V,e]
 |eV b d=>intro N X;unfold ann;rcases hb:ann R b N X with⟨h,M⟩;have e:=d N X;rw[hb]at e;dsimp only at e⊢;rw[KC.V,e]
 |fp b d=>grind [ann,Xf]
def atB(x:XF):KF:=⟨x.f5,x.L,x.Y,(ann (FH x.Y) x.aE (FH x.Y) λ_=>FH x.Y).1⟩
theorem WP(x:XF):(atB x).V=x:=by unfold atB KF.V;dsimp only;rw[ahx]
def kA(P:Program)(f:FuncId):KF:=atB ((cF P f).getD ⟨0,0,[],.eD⟩)
def Y8(P:Program)(f:FuncId):Bool:=(cF P f).isSome&&Ri P f&&(kA P f).ok
def ar8{P:Program}{gl raw prim}{f:FuncId}(h:Y8 P f=eT)(a:prim f=U)(hr:raw f=eF):Has (iW P gl raw prim) f (kA P f):=by unfold Y8 at h;rw[a01,a01]at h;grind [ahZ,kA,WP,aA7]
theorem aum{P:Program}{t:TypeId}{m:String}{f:FuncId}(h:methodOf P t .ev m=J (f,.ev))(v:AV):methodOf P t v m=J (f,v):=by
 unfold methodOf at h⊢;split at h
 ·rename_i i hi;split at h;·grind
  ·cases h
 ·cases h
def avy(mt:List (TypeId×String×FuncId))(h:List (FuncId×Sm)):Cfg:={gl:=λ_=>U,sm:=λf=>(h.filter λp=>Nat.beq p.1 f).map (·.2),mt:=λt m=>(mt.find? λp=>p.1==t&&p.2.1==m).map (·.2.2)}
def af6:∀{l:List (FuncId×KF×Sm)} {X a:Cfg},aht X l=J a->(∀f m,m∈X.sm f->m∈a.sm f)/\∀p∈l,p.2.2∈a.sm p.1
 |[],X,a,h=>by cases h;grind
 |(f,K,m)::l,X,a,h=>by
  unfold aht at h;split at h
  ·obtain⟨b,h2⟩:=af6 h;have add:∀g k,k∈X.sm g\/(g=f/\k=m)->k∈(X.jj f m).sm g:=λg k c=>by unfold Cfg.jj;grind
   grind
  ·cases h
def at7(P:Program)(l:List (FuncId×Sm)):List (FuncId×KF×Sm):=l.map λp=>(p.1,kA P p.1,p.2)
noncomputable section
def inL(l:List Nat)(f:Nat):Bool:=List.rec (motive:=λ_=>Bool) eF (λx _ a=>Bool.rec a eT (Nat.beq f x)) l
def aqV:List (FuncId×adg)->FuncId->Option adg|[],_=>U|(g,e)::l,f=>match Nat.beq f g with|eT=>J e|eF=>aqV l f
def tA(P:Program)(a:List (FuncId×adg))(raw imp:List Nat)(M:MM):Tr2:=λf=>match aqV a f with|J e=>J e|U=>match Y8 P f with|eT=>J (.ib (aoD (M f)) (kA P f) (inL raw f) (Bool.rec eT eF (inL imp f)))|eF=>U
def UN{P:Program}{gl raw prim}{f:FuncId}(h:Y8 P f=eT):KOK (iW P gl raw prim) f (kA P f):=by unfold Y8 at h;rw[a01,a01]at h;grind [aud,kA,WP,aA7]
theorem ajD{C:Ctx}:∀{l:List (FuncId×adg)},(∀p∈l,EOK C p.1 p.2)->∀f e,aqV l f=J e->EOK C f e
 |[],_,f,e,h=>by cases h
 |(g,k)::l,a,f,e,h=>by
  unfold aqV at h;split at h;·simp_all
  ·exact ajD (λp b=>a p (by simp[b])) f e h
def awJ{P:Program}{gl raw prim}{b:List (FuncId×adg)}{a imp:List Nat}{M:MM}(hs:∀p∈b,EOK (iW P gl raw prim) p.1 p.2)(c:MOK (iW P gl raw prim) M):∀f e,tA P b a imp M f=J e->EOK (iW P gl raw prim) f e:=by
 intro f e h;unfold tA at h;split at h;·grind [ajD]
 ·split at h;·rename_i d;cases h;exact⟨aoE c f,UN d⟩
  ·cases h
end
def trL:KC->List KC->List KC->KC×List KC×List KC
 |.eK a b,l,d=>match trL a l d with|(a,l,d)=>match trL b l d with|(b,s)=>(.eK a b,s)
 |.eJ c a b,l,d=>match trL a l d with|(a,l,d)=>match trL b l d with|(b,s)=>(.eJ c a b,s)
 |.eE i b,l,d=>match trL b l d with|(b,s)=>(.eE i b,s)
 |.eV b,l,d=>match trL b l d with|(b,s)=>(.eV b,s)
 |.fp m b,l,d=>match trL b l d with|(b,x::l,d)=>(.fp m x,l,d++[b])|(b,[],d)=>(.fp m b,[],d++[b])
 |c,l,d=>(c,l,d)
def rdU(n:Nat)(h:n<2^8):UInt8.ofBitVec (BitVec.ofFin ⟨n,h⟩)=UInt8.ofNat n:=by apply aI0.mp;rw[UInt8.toNat_ofNat'];exact(Nat.mod_eq_of_lt h).symm
def RD:(∀n:Nat,Int.ofNat (no_index (OfNat.ofNat n))=(OfNat.ofNat n:Int))/\(∀n:Nat,Int.negSucc n= -((n+1:Nat):Int))/\(∀(n:Nat) (h:n<2^8),UInt8.ofBitVec (BitVec.ofFin ⟨n,h⟩)=UInt8.ofNat n)/\(∀d i,(⟨J d,i,U,[]⟩:XOp)=o d i)/\(∀i,(⟨U,i,U,[]⟩:XOp)=u i)/\(∀d t b i,(⟨J d,i,J (t,b),[]⟩:XOp)=og d t b i)/\(∀d s,o d (.mv (.t s))=m d s)/\(∀n:Nat,((no_index (OfNat.ofNat n):Nat):Int)=OfNat.ofNat n)/\(∀n:Nat,UInt8.ofBitVec (BitVec.ofNat 8 n)=UInt8.ofNat n):=⟨λ_=>rfl,λ_=>rfl,rdU,λ_ _=>rfl,λ_=>rfl,λ_ _ _ _=>rfl,λ_ _=>rfl,λ_=>rfl,λ_=>rfl⟩
structure KSP(P:Program)(f:Nat)(ls:List KC)where
 k:KF
 p:(⟨(kA P f).f5,(kA P f).L,(kA P f).Y,(trL (kA P f).aE ls []).1⟩:KF)=k:=by conv=>lhs;reduce;simp only[RD,seval]
structure LSP(P:Program)(f:Nat)(ls:List KC)(i:Nat)where
 k:KC
 p:(trL (kA P f).aE ls []).2.2.getD i .eD=k:=by conv=>lhs;reduce;simp only[RD,seval]
set_option maxRecDepth 1000000
abbrev Gv:FuncId:=5
abbrev uj:FuncId:=6
abbrev gX:FuncId:=7
abbrev oO:FuncId:=8
abbrev Gw:FuncId:=9
abbrev Af:FuncId:=10
abbrev Ai:FuncId:=11
abbrev o9:FuncId:=12
abbrev uF:FuncId:=13
abbrev qO:FuncId:=14
abbrev Nq:FuncId:=15
abbrev KP:FuncId:=17
abbrev Ud:FuncId:=18
abbrev Qg:FuncId:=19
abbrev xE:FuncId:=20
abbrev yR:FuncId:=21
abbrev uH:FuncId:=22
abbrev lI:FuncId:=23
abbrev gK:FuncId:=24
abbrev Dt:FuncId:=25
abbrev vz:FuncId:=26
abbrev Jf:FuncId:=27
abbrev Ah:FuncId:=28
abbrev yP:FuncId:=29
abbrev mZ:FuncId:=30
abbrev CU:FuncId:=31
abbrev Ue:FuncId:=34
abbrev sD:FuncId:=37
abbrev adP:FuncId:=39
abbrev Iw:FuncId:=41
abbrev Je:FuncId:=42
abbrev BH:FuncId:=43
abbrev jk:FuncId:=44
abbrev Ei:FuncId:=45
abbrev uG:FuncId:=46
abbrev BL:FuncId:=47
abbrev qi:FuncId:=48
abbrev oh:FuncId:=49
abbrev mJ:FuncId:=50
abbrev uK:FuncId:=51
abbrev Jd:FuncId:=52
abbrev jC:FuncId:=53
abbrev oP:FuncId:=54
abbrev nJ:FuncId:=55
abbrev ji:FuncId:=56
abbrev GR:FuncId:=57
abbrev GN:FuncId:=58
abbrev afD:FuncId:=60
abbrev Ip:FuncId:=61
abbrev jW:FuncId:=64
abbrev Qj:FuncId:=65
abbrev Uf:FuncId:=66
abbrev anq:FuncId:=67
abbrev zq:FuncId:=68
abbrev Qk:FuncId:=72
abbrev Fp:FuncId:=73
abbrev Du:FuncId:=74
abbrev xG:FuncId:=77
abbrev lm:FuncId:=78
abbrev Eh:FuncId:=79
abbrev Jt:FuncId:=80
abbrev jK:FuncId:=81
abbrev VO:FuncId:=82
abbrev GK:FuncId:=83
abbrev iM:FuncId:=84
abbrev su:FuncId:=85
abbrev qC:FuncId:=86
abbrev dM:FuncId:=87
abbrev BM:FuncId:=88
abbrev Il:FuncId:=89
abbrev Gs:FuncId:=90
abbrev Ij:FuncId:=91
abbrev Dl:FuncId:=92
abbrev ZB:FuncId:=93
abbrev ahJ:FuncId:=95
abbrev Uj:FuncId:=96
abbrev Xc:FuncId:=97
abbrev Jb:FuncId:=99
abbrev dN:FuncId:=100
abbrev o7:FuncId:=101
abbrev Gp:FuncId:=102
abbrev fE:FuncId:=103
abbrev lW:FuncId:=104
abbrev Ir:FuncId:=105
abbrev dZ:FuncId:=108
abbrev QZ:FuncId:=109
abbrev BI:FuncId:=110
abbrev zi:FuncId:=111
abbrev kE:FuncId:=114
abbrev VN:FuncId:=118
abbrev yz:FuncId:=119
abbrev GM:FuncId:=120
abbrev qQ:FuncId:=123
abbrev iL:FuncId:=124
abbrev uJ:FuncId:=125
abbrev ac7:FuncId:=126
abbrev LW:FuncId:=127
abbrev LV:FuncId:=128
abbrev Nw:FuncId:=129
abbrev Em:FuncId:=130
abbrev Iq:FuncId:=132
abbrev LQ:FuncId:=134
abbrev yT:FuncId:=136
abbrev Ik:FuncId:=137
abbrev BF:FuncId:=138
abbrev qh:FuncId:=139
abbrev oI:FuncId:=140
abbrev vS:FuncId:=141
abbrev yA:FuncId:=142
abbrev Ja:FuncId:=143
abbrev rU:FuncId:=144
abbrev yu:FuncId:=145
abbrev ui:FuncId:=146
abbrev oH:FuncId:=147
abbrev qX:FuncId:=148
abbrev rQ:FuncId:=149
abbrev iC:FuncId:=150
abbrev oU:FuncId:=151
abbrev lC:FuncId:=152
abbrev Dn:FuncId:=154
abbrev xC:FuncId:=156
abbrev Ub:FuncId:=157
abbrev Zy:FuncId:=158
abbrev WZ:FuncId:=159
abbrev zJ:FuncId:=160
abbrev Io:FuncId:=161
abbrev Xd:FuncId:=164
abbrev qE:FuncId:=166
abbrev GG:FuncId:=169
abbrev yj:FuncId:=173
abbrev wS:FuncId:=174
abbrev ou:FuncId:=175
abbrev uD:FuncId:=176
abbrev QY:FuncId:=177
abbrev fO:FuncId:=178
abbrev fJ:FuncId:=179
abbrev Np:FuncId:=181
abbrev nY:FuncId:=182
abbrev Nu:FuncId:=183
abbrev Jc:FuncId:=184
abbrev KH:FuncId:=185
abbrev KI:FuncId:=186
abbrev Xb:FuncId:=188
abbrev uI:FuncId:=190
abbrev GH:FuncId:=194
abbrev yQ:FuncId:=195
abbrev Jh:FuncId:=203
abbrev Nz:FuncId:=204
abbrev al9:FuncId:=208
abbrev ahK:FuncId:=209
abbrev rX:FuncId:=211
abbrev ZF:FuncId:=212
abbrev BG:FuncId:=213
abbrev yD:FuncId:=214
abbrev Ae:FuncId:=215
abbrev iG:FuncId:=216
abbrev ru:FuncId:=217
abbrev yS:FuncId:=218
abbrev Uh:FuncId:=219
abbrev qj:FuncId:=220
abbrev EF:FuncId:=221
abbrev Gt:FuncId:=223
abbrev Qi:FuncId:=224
abbrev Gq:FuncId:=225
abbrev ZA:FuncId:=226
abbrev Uc:FuncId:=227
abbrev Zz:FuncId:=228
abbrev Xa:FuncId:=229
abbrev Nv:FuncId:=231
abbrev CV:FuncId:=236
abbrev rY:FuncId:=246
abbrev uX:FuncId:=255
abbrev fP:FuncId:=256
abbrev EY:FuncId:=257
abbrev Ny:FuncId:=259
abbrev bY:FuncId:=260
abbrev KO:FuncId:=263
abbrev ZE:FuncId:=264
abbrev ul:FuncId:=265
abbrev vT:FuncId:=266
abbrev rZ:FuncId:=267
abbrev Ej:FuncId:=271
abbrev zl:FuncId:=277
abbrev yC:FuncId:=278
abbrev uo:FuncId:=279
abbrev um:FuncId:=280
abbrev yB:FuncId:=281
abbrev Qh:FuncId:=282
abbrev jU:FuncId:=283
abbrev LY:FuncId:=296
abbrev sF:FuncId:=297
abbrev fD:FuncId:=298
abbrev AC:FuncId:=299
abbrev Nr:FuncId:=300
abbrev KG:FuncId:=301
abbrev GI:FuncId:=302
abbrev nZ:FuncId:=303
abbrev DU:FuncId:=304
abbrev Ui:FuncId:=305
abbrev ZC:FuncId:=307
abbrev X5:FuncId:=310
abbrev Ug:FuncId:=311
abbrev zh:FuncId:=312
abbrev jV:FuncId:=313
abbrev dR:FuncId:=314
abbrev iV:FuncId:=319
abbrev Gy:FuncId:=320
abbrev Gz:FuncId:=321
abbrev Ef:FuncId:=322
abbrev Gx:FuncId:=323
abbrev Ee:FuncId:=324
abbrev Ed:FuncId:=325
abbrev yx:FuncId:=326
abbrev Dp:FuncId:=327
abbrev Dq:FuncId:=328
abbrev Eg:FuncId:=329
abbrev iD:FuncId:=330
abbrev EG:FuncId:=331
abbrev oQ:FuncId:=332
abbrev Jg:FuncId:=333
abbrev lD:FuncId:=334
abbrev oN:FuncId:=340
abbrev oM:FuncId:=341
abbrev QW:FuncId:=344
abbrev QX:FuncId:=345
abbrev BJ:FuncId:=346
abbrev KJ:FuncId:=352
abbrev GU:FuncId:=353
abbrev KN:FuncId:=354
abbrev Ju:FuncId:=355
abbrev GV:FuncId:=368
abbrev LX:FuncId:=369
abbrev Aj:FuncId:=378
abbrev Iu:FuncId:=379
abbrev o8:FuncId:=380
abbrev DT:FuncId:=381
abbrev KL:FuncId:=387
abbrev zk:FuncId:=388
abbrev BK:FuncId:=389
abbrev qN:FuncId:=406
abbrev rV:FuncId:=412
abbrev KD:FuncId:=415
abbrev KE:FuncId:=416
abbrev Gu:FuncId:=417
abbrev rW:FuncId:=418
abbrev Eo:Nat:=0
abbrev Fv:Nat:=1
abbrev wU:Nat:=2
abbrev zt:Nat:=3
abbrev vU:Nat:=5
abbrev uM:Nat:=6
abbrev pF:Nat:=9
abbrev qR:Nat:=10
def Ry:LA:=List.replicate 256 .ep
abbrev VU:LU:=[0,1,2,2,3,3,3,3,4,4,4,4,4,4,4,4,5,5,5,5,5,5,5,5,5,5,5,5,5,5,5,5,6,6,6,6,6,6,6,6,6,6,6,6,6,6,6,6,6,6,6,6,6,6,6,6,6,6,6,6,6,6,6,6,7,7,7,7,7,7,7,7,7,7,7,7,7,7,7,7,7,7,7,7,7,7,7,7,7,7,7,7,7,7,7,7,7,7,7,7,7,7,7,7,7,7,7,7,7,7,7,7,7,7,7,7,7,7,7,7,7,7,7,7,7,7,7,7,8,8,8,8,8,8,8,8,8,8,8,8,8,8,8,8,8,8,8,8,8,8,8,8,8,8,8,8,8,8,8,8,8,8,8,8,8,8,8,8,8,8,8,8,8,8,8,8,8,8,8,8,8,8,8,8,8,8,8,8,8,8,8,8,8,8,8,8,8,8,8,8,8,8,8,8,8,8,8,8,8,8,8,8,8,8,8,8,8,8,8,8,8,8,8,8,8,8,8,8,8,8,8,8,8,8,8,8,8,8,8,8,8,8,8,8,8,8,8,8,8,8,8,8,8,8,8,8]
abbrev gQ:LU:=[48,48,48,49,48,50,48,51,48,52,48,53,48,54,48,55,48,56,48,57,49,48,49,49,49,50,49,51,49,52,49,53,49,54,49,55,49,56,49,57,50,48,50,49,50,50,50,51,50,52,50,53,50,54,50,55,50,56,50,57,51,48,51,49,51,50,51,51,51,52,51,53,51,54,51,55,51,56,51,57,52,48,52,49,52,50,52,51,52,52,52,53,52,54,52,55,52,56,52,57,53,48,53,49,53,50,53,51,53,52,53,53,53,54,53,55,53,56,53,57,54,48,54,49,54,50,54,51,54,52,54,53,54,54,54,55,54,56,54,57,55,48,55,49,55,50,55,51,55,52,55,53,55,54,55,55,55,56,55,57,56,48,56,49,56,50,56,51,56,52,56,53,56,54,56,55,56,56,56,57,57,48,57,49,57,50,57,51,57,52,57,53,57,54,57,55,57,56,57,57]
abbrev KsA(f:Nat)(ls:List KC):Type:=KSP Go.Proofs.Tryz.prog f ls
abbrev LsA(f:Nat)(ls:List KC)(i:Nat):Type:=LSP Go.Proofs.Tryz.prog f ls i
noncomputable section
def Be:KF:=(.mk ?k:KsA 108 []).1
def Jp:KF:=(.mk ?k:KsA 173 []).1
def fG:KC:=(.mk ?k:LsA 176 [] 0).1
attribute [local irreducible] fG
def gU:KC:=(.mk ?k:LsA 176 [fG] 1).1
attribute [local irreducible] gU
def kz:KF:=(.mk ?k:KsA 176 [fG,gU]).1
def kP:KF:=(.mk ?k:KsA 138 []).1
def FV:KF:=(.mk ?k:KsA 213 []).1
def gm:KF:=(.mk ?k:KsA 86 []).1
def zQ:KF:=(.mk ?k:KsA 141 []).1
def xQ:KF:=(.mk ?k:KsA 145 []).1
def DY:KF:=(.mk ?k:KsA 149 []).1
def DZ:KF:=(.mk ?k:KsA 144 []).1
def Au:KF:=(.mk ?k:KsA 147 []).1
def EO:KF:=(.mk ?k:KsA 146 []).1
def nC:KF:=(.mk ?k:KsA 216 []).1
def yK:KF:=(.mk ?k:KsA 217 []).1
def zU:KF:=(.mk ?k:KsA 215 []).1
def CO:KF:=(.mk ?k:KsA 148 []).1
def eQ:KC:=(.mk ?k:LsA 143 [] 0).1
attribute [local irreducible] eQ
def DF:KF:=(.mk ?k:KsA 143 [eQ]).1
def nS:KC:=(.mk ?k:LsA 110 [] 0).1
attribute [local irreducible] nS
def E5:KF:=(.mk ?k:KsA 110 [nS]).1
def iT:KF:=(.mk ?k:KsA 298 []).1
def fA:KF:=(.mk ?k:KsA 319 []).1
def QL:KF:=⟨2,24,[(.eS 4 eT 5),(.fX 5)],(ckQ [o 4 (.eN [cvU 0,cvI 0,cvI 0,cvI 0,cvE] U),cqI 5 0]
 (.eK (ckQ [m 7 1,cqC 8 .lss 0 eT 7 0,m 9 8,og 10 9 eF (.mv (.t 1)),og 11 9 eF (.mv (.t 0)),og 12 9 eF (.dt 0 (.t 11)),og 13 9 eF (.e9 .gtr 0 eF (.t 10) (.t 12)),o 14 (.gL (.t 9) (.c (.cX eT)) (.t 13))]
 (.eJ (.t 14)
 (ckQ [o 15 (.hA [cvU 0,cvI 0,cvI 0,cvI 0,cvE] []),cqS 5 4 15,cqI 5 1]
 (.ef [4,5]))
 .eI))
 (ckQ [cqK 16 AC [],o 6 (.eN Ry U),cqS 256 6 16]
 (ckQ [m 17 0,m 18 0,m 19 1,cqK 20 KG [18,19],cqK 21 Nr [6,17,20],cqE 22 21 0,cqE 23 21 1,cqS 5 4 22,m 5 23]
 (.ef [4,5])))))⟩
def WI:KF:=(.mk ?k:KsA 325 []).1
def WJ:KF:=(.mk ?k:KsA 324 []).1
def WL:KF:=(.mk ?k:KsA 322 []).1
def YO:KF:=(.mk ?k:KsA 323 []).1
def E8:KF:=(.mk ?k:KsA 326 []).1
def YP:KF:=(.mk ?k:KsA 320 []).1
def YQ:KF:=(.mk ?k:KsA 321 []).1
def QM:KF:=(.mk ?k:KsA 344 []).1
def jS:KC:=(.mk ?k:LsA 301 [] 0).1
attribute [local irreducible] jS
def QN:KF:=(.mk ?k:KsA 301 [jS]).1
def J3:KF:=(.mk ?k:KsA 327 []).1
def HY:KF:=(.mk ?k:KsA 300 []).1
def nH:KC:=(.mk ?k:LsA 328 [] 0).1
attribute [local irreducible] nH
def F6:KF:=(.mk ?k:KsA 328 [nH]).1
def dC:KC:=(.mk ?k:LsA 345 [] 0).1
attribute [local irreducible] dC
def J4:KF:=(.mk ?k:KsA 345 [dC]).1
def jh:KC:=(.mk ?k:LsA 352 [] 0).1
attribute [local irreducible] jh
def kV:KF:=(.mk ?k:KsA 352 [jh]).1
def dD:KC:=(.mk ?k:LsA 64 [] 0).1
attribute [local irreducible] dD
def zI:KF:=(.mk ?k:KsA 64 [dD]).1
def uZ:KF:=(.mk ?k:KsA 124 []).1
def ik:KC:=(.mk ?k:LsA 304 [] 0).1
attribute [local irreducible] ik
def IZ:KF:=(.mk ?k:KsA 304 [ik]).1
def xX:KF:=(.mk ?k:KsA 263 []).1
def dJ:KC:=(.mk ?k:LsA 194 [] 0).1
attribute [local irreducible] dJ
def zZ:KF:=(.mk ?k:KsA 194 [dJ]).1
def rH:KF:=(.mk ?k:KsA 329 []).1
def cZ:KC:=(.mk ?k:LsA 266 [] 0).1
attribute [local irreducible] cZ
def qJ:KF:=(.mk ?k:KsA 266 [cZ]).1
def dV:KF:=(.mk ?k:KsA 303 []).1
def mP:KF:=(.mk ?k:KsA 302 []).1
def bJ:KC:=(.mk ?k:LsA 267 [] 0).1
attribute [local irreducible] bJ
def nP:KF:=(.mk ?k:KsA 267 [bJ]).1
def bC:KF:=(.mk ?k:KsA 195 []).1
def oW:KF:=(.mk ?k:KsA 265 []).1
def aW:KC:=(.mk ?k:LsA 332 [] 0).1
attribute [local irreducible] aW
def jR:KF:=(.mk ?k:KsA 332 [aW]).1
def qc:KC:=(.mk ?k:LsA 142 [] 0).1
attribute [local irreducible] qc
def Ov:KF:=(.mk ?k:KsA 142 [qc]).1
def ET:KF:=(.mk ?k:KsA 280 []).1
def dP:KC:=(.mk ?k:LsA 281 [] 0).1
attribute [local irreducible] dP
def Df:KF:=(.mk ?k:KsA 281 [dP]).1
def Dh:KF:=(.mk ?k:KsA 278 []).1
def EU:KF:=(.mk ?k:KsA 279 []).1
def SB:KF:=(.mk ?k:KsA 219 []).1
def jT:KC:=(.mk ?k:LsA 333 [] 0).1
attribute [local irreducible] jT
def I7:KF:=(.mk ?k:KsA 333 [jT]).1
def nV:KC:=(.mk ?k:LsA 88 [] 0).1
attribute [local irreducible] nV
def SC:KF:=(.mk ?k:KsA 88 [nV]).1
def Az:KF:=(.mk ?k:KsA 271 []).1
def WN:KF:=(.mk ?k:KsA 114 []).1
def dE:KC:=(.mk ?k:LsA 297 [] 0).1
attribute [local irreducible] dE
def rJ:KF:=(.mk ?k:KsA 297 [dE]).1
def iJ:KC:=(.mk ?k:LsA 152 [] 0).1
attribute [local irreducible] iJ
def Bl:KF:=(.mk ?k:KsA 152 [iJ]).1
def iU:KC:=(.mk ?k:LsA 151 [] 0).1
attribute [local irreducible] iU
def wz:KF:=(.mk ?k:KsA 151 [iU]).1
def Fb:KF:=(.mk ?k:KsA 305 []).1
def xn:KF:=(.mk ?k:KsA 334 []).1
def jw:KC:=(.mk ?k:LsA 188 [] 0).1
attribute [local irreducible] jw
def pX:KF:=(.mk ?k:KsA 188 [jw]).1
def eU:KC:=(.mk ?k:LsA 259 [] 0).1
attribute [local irreducible] eU
def aQ:KF:=(.mk ?k:KsA 259 [eU]).1
def EE:KF:=(.mk ?k:KsA 296 []).1
def vg:KF:=(.mk ?k:KsA 97 []).1
def iI:KF:=(.mk ?k:KsA 130 []).1
def jG:KF:=(.mk ?k:KsA 175 []).1
def pK:KF:=(.mk ?k:KsA 178 []).1
def nR:KF:=(.mk ?k:KsA 103 []).1
def gI:KF:=⟨1,25,[(.fX 2)],(ckQ [cqI 2 0]
 (.eK (ckQ [m 3 0,o 4 (.e9 .geq 0 eT (.t 3) (.c (.cU .u64 4294967296)))]
 (.eJ (.t 4)
 (ckQ [m 5 0,o 6 (.e9 .shr 0 eT (.t 5) (.c (.cU .u64 32))),m 0 6]
 (.fe [cqI 2 32]))
 .eI))
 (.eK (ckQ [m 7 0,o 8 (.e9 .geq 0 eT (.t 7) (.c (.cU .u64 65536)))]
 (.eJ (.t 8)
 (ckQ [m 9 0,o 10 (.e9 .shr 0 eT (.t 9) (.c (.cU .u64 16))),m 0 10]
 (.fe [m 11 2,cqC 12 .add 0 eT 11 16,m 2 12]))
 .eI))
 (.eK (ckQ [m 13 0,o 14 (.e9 .geq 0 eT (.t 13) (.c (.cU .u64 256)))]
 (.eJ (.t 14)
 (ckQ [m 15 0,o 16 (.e9 .shr 0 eT (.t 15) (.c (.cU .u64 8))),m 0 16]
 (.fe [m 17 2,cqC 18 .add 0 eT 17 8,m 2 18]))
 .eI))
 (ckQ [m 19 2,m 20 0,o 21 (.iv .u8 (.t 20)),o 22 (.fa (ccS VU) (.t 21)),o 23 (.iv r (.t 22)),cqB 24 .add 0 eF 19 23,m 2 24]
 (.ef [2]))))))⟩
def oL:KF:=(.mk ?k:KsA 340 []).1
def oK:KF:=(.mk ?k:KsA 341 []).1
def vZ:KF:=(.mk ?k:KsA 313 []).1
def bu:KC:=
 (.eK (ckQ [m 19 4,cqC 20 .geq 0 eT 19 8]
 (.eJ (.t 20)
 .eI
 (.dq [0,1,4] 0)))
 (.eE 1
 (ckQ [m 21 1,o 22 (.e9 .rem 0 eT (.t 21) (.c (.cU .u64 100000000))),o 23 (.iv .u32 (.t 22)),m 5 23]
 (ckQ [m 24 1,o 25 (.e9 .quo 0 eT (.t 24) (.c (.cU .u64 100000000))),m 1 25]
 (ckQ [m 26 5,o 27 (.e9 .quo 0 eT (.t 26) (.c (.cU .u32 10000))),m 28 5,o 29 (.e9 .rem 0 eT (.t 28) (.c (.cU .u32 10000))),m 6 27,m 7 29]
 (ckQ [m 30 7,o 31 (.e9 .quo 0 eT (.t 30) (.c (.cU .u32 100))),o 32 (.e9 .mul 0 eT (.t 31) (.c (.cU .u32 2))),m 33 7,o 34 (.e9 .rem 0 eT (.t 33) (.c (.cU .u32 100))),o 35 (.e9 .mul 0 eT (.t 34) (.c (.cU .u32 2))),m 8 32,m 9 35]
 (ckQ [m 36 6,o 37 (.e9 .quo 0 eT (.t 36) (.c (.cU .u32 100))),o 38 (.e9 .mul 0 eT (.t 37) (.c (.cU .u32 2))),m 39 6,o 40 (.e9 .rem 0 eT (.t 39) (.c (.cU .u32 100))),o 41 (.e9 .mul 0 eT (.t 40) (.c (.cU .u32 2))),m 10 38,m 11 41]
 (.eK (.eO [m 42 0,m 43 4,cqC 44 .sub 0 eT 43 1,m 45 0,m 46 4,cqC 47 .sub 0 eT 46 2,m 48 9,o 49 (.e9 .add 0 eT (.t 48) (.c (.cU .u32 1))),o 50 (.fa (ccS gQ) (.t 49)),m 51 9,o 52 (.fa (ccS gQ) (.t 51)),o 53 (.ey 1 (.t 42) (.t 44)),cqS 1 53 50,o 54 (.ey 1 (.t 45) (.t 47)),cqS 1 54 52])
 (.eK (.eO [m 55 0,m 56 4,cqC 57 .sub 0 eT 56 3,m 58 0,m 59 4,cqC 60 .sub 0 eT 59 4,m 61 8,o 62 (.e9 .add 0 eT (.t 61) (.c (.cU .u32 1))),o 63 (.fa (ccS gQ) (.t 62)),m 64 8,o 65 (.fa (ccS gQ) (.t 64)),o 66 (.ey 1 (.t 55) (.t 57)),cqS 1 66 63,o 67 (.ey 1 (.t 58) (.t 60)),cqS 1 67 65])
 (.eK (.eO [m 68 0,m 69 4,cqC 70 .sub 0 eT 69 5,m 71 0,m 72 4,cqC 73 .sub 0 eT 72 6,m 74 11,o 75 (.e9 .add 0 eT (.t 74) (.c (.cU .u32 1))),o 76 (.fa (ccS gQ) (.t 75)),m 77 11,o 78 (.fa (ccS gQ) (.t 77)),o 79 (.ey 1 (.t 68) (.t 70)),cqS 1 79 76,o 80 (.ey 1 (.t 71) (.t 73)),cqS 1 80 78])
 (.eK (.eO [m 81 0,m 82 4,cqC 83 .sub 0 eT 82 7,m 84 0,m 85 4,cqC 86 .sub 0 eT 85 8,m 87 10,o 88 (.e9 .add 0 eT (.t 87) (.c (.cU .u32 1))),o 89 (.fa (ccS gQ) (.t 88)),m 90 10,o 91 (.fa (ccS gQ) (.t 90)),o 92 (.ey 1 (.t 81) (.t 83)),cqS 1 92 89,o 93 (.ey 1 (.t 84) (.t 86)),cqS 1 93 91])
 (.fe [m 94 4,cqC 95 .sub 0 eT 94 8,m 4 95]))))))))))))
def fQ:KF:=⟨2,167,[],(ckQ [m 17 0,cqN 18 1 17,m 4 18]
 (.eK (.eE 0
 (.fp [0,1,4] bu))
 (ckQ [m 96 1,o 97 (.iv .u32 (.t 96)),m 12 97]
 (.eK (ckQ [m 98 4,cqC 99 .geq 0 eT 98 4]
 (.eJ (.t 99)
 (ckQ [m 100 12,o 101 (.e9 .rem 0 eT (.t 100) (.c (.cU .u32 10000))),m 13 101]
 (ckQ [m 102 12,o 103 (.e9 .quo 0 eT (.t 102) (.c (.cU .u32 10000))),m 12 103]
 (ckQ [m 104 13,o 105 (.e9 .quo 0 eT (.t 104) (.c (.cU .u32 100))),o 106 (.e9 .mul 0 eT (.t 105) (.c (.cU .u32 2))),m 107 13,o 108 (.e9 .rem 0 eT (.t 107) (.c (.cU .u32 100))),o 109 (.e9 .mul 0 eT (.t 108) (.c (.cU .u32 2))),m 14 106,m 15 109]
 (.eK (.eO [m 110 0,m 111 4,cqC 112 .sub 0 eT 111 1,m 113 0,m 114 4,cqC 115 .sub 0 eT 114 2,m 116 15,o 117 (.e9 .add 0 eT (.t 116) (.c (.cU .u32 1))),o 118 (.fa (ccS gQ) (.t 117)),m 119 15,o 120 (.fa (ccS gQ) (.t 119)),o 121 (.ey 1 (.t 110) (.t 112)),cqS 1 121 118,o 122 (.ey 1 (.t 113) (.t 115)),cqS 1 122 120])
 (.eK (.eO [m 123 0,m 124 4,cqC 125 .sub 0 eT 124 3,m 126 0,m 127 4,cqC 128 .sub 0 eT 127 4,m 129 14,o 130 (.e9 .add 0 eT (.t 129) (.c (.cU .u32 1))),o 131 (.fa (ccS gQ) (.t 130)),m 132 14,o 133 (.fa (ccS gQ) (.t 132)),o 134 (.ey 1 (.t 123) (.t 125)),cqS 1 134 131,o 135 (.ey 1 (.t 126) (.t 128)),cqS 1 135 133])
 (.fe [m 136 4,cqC 137 .sub 0 eT 136 4,m 4 137]))))))
 .eI))
 (.eK (ckQ [m 138 4,cqC 139 .geq 0 eT 138 2]
 (.eJ (.t 139)
 (ckQ [m 140 12,o 141 (.e9 .rem 0 eT (.t 140) (.c (.cU .u32 100))),o 142 (.e9 .mul 0 eT (.t 141) (.c (.cU .u32 2))),m 16 142]
 (ckQ [m 143 12,o 144 (.e9 .quo 0 eT (.t 143) (.c (.cU .u32 100))),m 12 144]
 (.eK (.eO [m 145 0,m 146 4,cqC 147 .sub 0 eT 146 1,m 148 0,m 149 4,cqC 150 .sub 0 eT 149 2,m 151 16,o 152 (.e9 .add 0 eT (.t 151) (.c (.cU .u32 1))),o 153 (.fa (ccS gQ) (.t 152)),m 154 16,o 155 (.fa (ccS gQ) (.t 154)),o 156 (.ey 1 (.t 145) (.t 147)),cqS 1 156 153,o 157 (.ey 1 (.t 148) (.t 150)),cqS 1 157 155])
 (.fe [m 158 4,cqC 159 .sub 0 eT 158 2,m 4 159]))))
 .eI))
 (ckQ [m 160 4,cqC 161 .gtr 0 eT 160 0]
 (.eJ (.t 161)
 (.fe [m 162 0,m 163 12,o 164 (.e9 .add 0 eT (.c (.cU .u32 48)) (.t 163)),o 165 (.iv .u8 (.t 164)),o 166 (.ey 1 (.t 162) (ccI 0)),cqS 1 166 165])
 .eI)))))))⟩
def sK:KF:=⟨1,15,[(.fX 2)],(ckQ [o 2 (.mv (ccS []))]
 (.eK (ckQ [m 3 0,cqC 4 .lss 0 eT 3 10]
 (.eJ (.t 4)
 (ckQ [m 5 0,m 6 0,cqC 7 .add 0 eT 6 1,o 8 (.gt (ccS [48,49,50,51,52,53,54,55,56,57,97,98,99,100,101,102,103,104,105,106,107,108,109,110,111,112,113,114,115,116,117,118,119,120,121,122]) (J (.t 5)) (J (.t 7))),m 2 8]
 (.ef [2]))
 .eI))
 (ckQ [m 9 0,cqC 10 .mul 0 eT 9 2,m 11 0,cqC 12 .mul 0 eT 11 2,cqC 13 .add 0 eT 12 2,o 14 (.gt (ccS gQ) (J (.t 10)) (J (.t 13))),m 2 14]
 (.ef [2]))))⟩
def eP:KF:=(.mk ?k:KsA 283 []).1
def EW:KF:=(.mk ?k:KsA 257 []).1
def YR:KF:=(.mk ?k:KsA 177 []).1
end
noncomputable section
def DX:KF:=(.mk ?k:KsA 137 []).1
def Bg:KF:=(.mk ?k:KsA 43 []).1
def Sz:KF:=(.mk ?k:KsA 18 []).1
def P6:KF:=(.mk ?k:KsA 19 []).1
def cu:KC:=(.mk ?k:LsA 14 [] 0).1
attribute [local irreducible] cu
def kU:KF:=(.mk ?k:KsA 14 [cu]).1
def jc:KC:=(.mk ?k:LsA 56 [] 0).1
attribute [local irreducible] jc
def kC:KC:=(.mk ?k:LsA 56 [jc] 1).1
attribute [local irreducible] kC
def qH:KF:=(.mk ?k:KsA 56 [jc,kC]).1
def jI:KC:=(.mk ?k:LsA 29 [] 0).1
attribute [local irreducible] jI
def yM:KF:=(.mk ?k:KsA 29 [jI]).1
def zX:KF:=(.mk ?k:KsA 28 []).1
def gq:KC:=(.mk ?k:LsA 55 [] 0).1
attribute [local irreducible] gq
def nG:KF:=(.mk ?k:KsA 55 [gq]).1
def xm:KF:=(.mk ?k:KsA 139 []).1
def sO:KC:=(.mk ?k:LsA 77 [] 0).1
attribute [local irreducible] sO
def Aw:KF:=(.mk ?k:KsA 77 [sO]).1
def qI:KF:=(.mk ?k:KsA 123 []).1
def Dc:KF:=(.mk ?k:KsA 17 []).1
def yZ:KF:=(.mk ?k:KsA 42 []).1
def rM:KC:=(.mk ?k:LsA 212 [] 0).1
attribute [local irreducible] rM
def J5:KF:=(.mk ?k:KsA 212 [rM]).1
def sQ:KC:=(.mk ?k:LsA 41 [] 0).1
attribute [local irreducible] sQ
def D6:KF:=(.mk ?k:KsA 41 [sQ]).1
def iY:KC:=(.mk ?k:LsA 31 [] 0).1
attribute [local irreducible] iY
def CP:KF:=(.mk ?k:KsA 31 [iY]).1
def Bj:KF:=(.mk ?k:KsA 140 []).1
def F8:KF:=(.mk ?k:KsA 58 []).1
def fV:KC:=(.mk ?k:LsA 218 [] 0).1
attribute [local irreducible] fV
def tZ:KF:=(.mk ?k:KsA 218 [fV]).1
def F9:KF:=(.mk ?k:KsA 57 []).1
def eH:KC:=(.mk ?k:LsA 13 [] 0).1
attribute [local irreducible] eH
def uz:KF:=(.mk ?k:KsA 13 [eH]).1
def nT:KC:=
 (.eK (ckQ [m 11 5,m 12 0,cqN 13 1 12,cqB 14 .lss 0 eF 11 13]
 (.eJ (.t 14)
 .eI
 (.dq [] 0)))
 (.eK (.eE 1
 (.eK (.eO [m 17 0,m 18 5,o 19 (.ey 4 (.t 17) (.t 18)),cqL 20 4 19,m 21 1,m 22 5,o 23 (.ey 4 (.t 21) (.t 22)),cqL 24 4 23,cqB 25 .neq 73740 eF 20 24])
 (.eJ (.t 25)
 (ckQ [cqT 4 eF]
 (.ef [4]))
 .eI)))
 (.fe [m 15 5,cqC 16 .add 0 eT 15 1,m 5 16])))
def zY:KF:=⟨2,26,[(.fX 4)],(ckQ [cqT 4 eF]
 (.eK (ckQ [m 6 0,cqN 7 1 6,m 8 1,cqN 9 1 8,cqB 10 .neq 0 eF 7 9]
 (.eJ (.t 10)
 (ckQ [cqT 4 eF]
 (.ef [4]))
 .eI))
 (.eK (ckQ [cqI 5 0]
 (.eE 0
 (.fp [0,1,5] nT)))
 (ckQ [cqT 4 eT]
 (.ef [4])))))⟩
def EQ:KF:=(.mk ?k:KsA 12 []).1
def qp:KF:=(.mk ?k:KsA 30 []).1
def ES:KF:=(.mk ?k:KsA 23 []).1
def yN:KF:=(.mk ?k:KsA 21 []).1
def AA:KF:=(.mk ?k:KsA 220 []).1
end
set_option maxRecDepth 100000
variable{C:Ctx}
def sC(s:LU):LA:=[.cV s]
def Ob(s:LU):z (sC s)=1:=rfl
def auP(ns:List LU):ns.map AV.cV=ns.flatMap sC:=by
 induction ns with
 |nil=>rfl|cons a l b=>rw[az3,b];rfl
def aaY (ns:List LU) (c:z ns<=1099511627776) (O:St):∀(n i:Nat),i+n=z ns->
  aH C (ai C) 26 [0,1,5] jI [(0,.sl (z ns) (ns.flatMap sC)),(1,.sl (z ns) (ns.flatMap sC)),(5,.cU r i)] O=J (.dq 0,[],O)
 |0,i,hi=>by rw[aA (he:=rfl)];have h:¬((i:Int)<(z ns:Int)):=(by omega);simp only[jI,h,bP,EVX,seval]
 |n+1,i,hi=>by rw[aA (he:=rfl)];have h:((i:Int)<(z ns:Int)):=(by omega);have h2:i<z ns:=(by omega);have hb:ns[i]?=J ns[i]:=a02 h2;have d:=wrS i (by omega);have h3:(0:Int)<=i:=(by omega);have fl:=bZ Ob ns;have fd:=kK Ob hb;obtain⟨p,a⟩:∃p,p=ns[i]:=⟨_,rfl⟩;rw[<-a,aB5]at fd;rw[aB5]at fl;have pc:sC p=[.cV p]:=rfl;have e:=aaY ns c O n (i+1) (by omega);generalize f:aH C (ai C) 26 [0,1,5] jI=k at*;simp only[jI,h,h2,h3,d,fl,fd,pc,bP,e,a09,aB5,EVX,seval]
def nz(ns:List LU):NV (.sl (z ns) (ns.flatMap sC)):=.sl _ (by
 induction ns with
 |nil=>rfl|cons a l b=>rw[aC7];show ae 0 (.cV a::l.flatMap sC)=eT;rw[ae,b];rfl)
def agt(b:Has C yP yM)(ns:List LU)(c:z ns<=1099511627776)(O:St):ai C yP [.sl (z ns) (ns.flatMap sC),.sl (z ns) (ns.flatMap sC)] O=J (.cX eT,O):=by rw[b.go (NVs.e (.cW (nz ns) (.cW (nz ns) .de)) _)];have a:=aaY (C:=C) ns c O (z ns) 0 (by omega);simp only[ay1]at a;simp only[yM,a,bP,EVX,seval]
abbrev PS:=LU×LU
def pC(p:PS):LA:=[.cV p.1,.cV p.2]
def Dy(p:PS):z (pC p)=2:=rfl
def wL(l:List PS):NV (.sl (z l) (l.flatMap pC)):=.sl _ (gu (λ_=>rfl) l)
def Xh (l:List PS) (c:z l<=1099511627776) (O:St):∀(n i:Nat),i+n=z l->
  aH C (ai C) 41 [0,1,5] gq [(0,.sl (z l) (l.flatMap pC)),(1,.sl (z l) (l.flatMap pC)),(5,.cU r i)] O=J (.dq 0,[],O)
 |0,i,hi=>by rw[aA (he:=rfl)];have h:¬((i:Int)<(z l:Int)):=(by omega);simp only[gq,h,bP,EVX,seval]
 |n+1,i,hi=>by rw[aA (he:=rfl)];have h:((i:Int)<(z l:Int)):=(by omega);have h2:i<z l:=(by omega);have hb:l[i]?=J l[i]:=a02 h2;have d:=wrS i (by omega);have h3:(0:Int)<=i:=(by omega);have fl:=bZ Dy l;have fd:=kK Dy hb;obtain⟨p,a⟩:∃p,p=l[i]:=⟨_,rfl⟩;rw[<-a]at fd;have pc:pC p=[.cV p.1,.cV p.2]:=rfl;have e:=Xh l c O n (i+1) (by omega);generalize f:aH C (ai C) 41 [0,1,5] gq=k at*;simp only[gq,h,h2,h3,d,fl,fd,pc,bP,e,a09,EVX,seval]
def V8(b:Has C nJ nG)(l:List PS)(c:z l<=1099511627776)(O:St):ai C nJ [.sl (z l) (l.flatMap pC),.sl (z l) (l.flatMap pC)] O=J (.cX eT,O):=by rw[b.go (NVs.e (.cW (wL l) (.cW (wL l) .de)) _)];have a:=Xh (C:=C) l c O (z l) 0 (by omega);simp only[ay1]at a;simp only[nG,a,bP,EVX,seval]
def aC(t:Int)(ns:List LU):LA:=[.cU r t,.sl (z ns) (ns.flatMap sC)]
def Ok.H{Y:St}(h:Ok Y){L:St}(a:L.all (AO.below 0)=eT):Ok (Y++L):=h.eG (by
 rw[a97]at*;exactλx b=>AO.au (a99 _) x (a x b))
def Ok.gn{O:St}(h:Ok O):Ok (O++[.cH [.cU .u8 0,.cU r 0,.cU r 0,.cU r 0,.cV []] FZ]):=h.H rfl
def qV(k a d n:Int)(t:LU):LA:=[.cU .u8 k,.cU r a,.cU r d,.cU r n,.cV t]
abbrev BS:Type:={s:LU//z s<=LB}
def lb0:z ([]:LU)<=LB:=a99 _
def rF{O:St}(b:Ok O)(k a d n:Int)(t:LU)(e:Int)(L:St):tidy (z O) [.da (qV k a d n t),.cU r e] (O++L)=O:=bz b (vs:=[.da (qV k a d n t),.cU r e]) rfl L
def JB(c:Has C QW QM)(k a:Int)(O:St)(b:Ok O):ai C QW [.cU .u8 k,.cU r a] O=J (.df [.da (qV k a (IntKind.i64.wrap (a+1)) 0 []),.cU r 0],O):=by have d:=rF b;unfold qV at*;rw[c.go (NVs.e (.cW (.cU _ _) (.cW (.cU _ _) .de)) _)];simp only[QM,d,aU,bG,AV.cH,AV.C,EVX,seval]
structure H7(C:Ctx):Prop where
 c6:Has C QW QM
 mh:Has C Gy YP
 mx:Has C Gz YQ
 k4:Has C Ef WL
 md:Has C Gx YO
 k0:Has C Ee WJ
 kT:Has C Ed WI
def aom(H:H7 C)(s:LU)(a:Int)(O:St)(b:Ok O):ai C Gy [.cV s,.cU r a] O=J (.df [.da (qV 1 a (IntKind.i64.wrap (a+1)) 0 []),.cU r 0],O):=by have e:=rF b;have q:=λL d=>JB H.c6 1 a (O++L) d;have c:=b.gn;have q:=q _ c;unfold qV at*;rw[H.mh.go (NVs.e (.cW (.cV _) (.cW (.cU _ _) .de)) _)];simp only[YP,e,q,aU,bG,AV.cH,AV.C,EVX,seval]
def aoo(H:H7 C)(s:LU)(a:Int)(O:St)(b:Ok O):ai C Gz [.cV s,.cU r a] O=J (.df [.da (qV 2 a (IntKind.i64.wrap (a+1)) 0 []),.cU r 0],O):=by have e:=rF b;have q:=λL d=>JB H.c6 2 a (O++L) d;have c:=b.gn;have q:=q _ c;unfold qV at*;rw[H.mx.go (NVs.e (.cW (.cV _) (.cW (.cU _ _) .de)) _)];simp only[YQ,e,q,aU,bG,AV.cH,AV.C,EVX,seval]
def aly(H:H7 C)(s:LU)(a:Int)(O:St)(b:Ok O):ai C Ef [.cV s,.cU r a] O=J (.df [.da (qV 3 a (IntKind.i64.wrap (a+1)) 0 []),.cU r 0],O):=by have e:=rF b;have q:=λL d=>JB H.c6 3 a (O++L) d;have c:=b.gn;have q:=q _ c;unfold qV at*;rw[H.k4.go (NVs.e (.cW (.cV _) (.cW (.cU _ _) .de)) _)];simp only[WL,e,q,aU,bG,AV.cH,AV.C,EVX,seval]
def aol(H:H7 C)(s:LU)(a:Int)(O:St)(b:Ok O):ai C Gx [.cV s,.cU r a] O=J (.df [.da (qV 4 a (IntKind.i64.wrap (a+1)) 0 []),.cU r 0],O):=by have e:=rF b;have q:=λL d=>JB H.c6 4 a (O++L) d;have c:=b.gn;have q:=q _ c;unfold qV at*;rw[H.md.go (NVs.e (.cW (.cV _) (.cW (.cU _ _) .de)) _)];simp only[YO,e,q,aU,bG,AV.cH,AV.C,EVX,seval]
def alx(H:H7 C)(s:LU)(a:Int)(O:St)(b:Ok O):ai C Ee [.cV s,.cU r a] O=J (.df [.da (qV 5 a (IntKind.i64.wrap (a+1)) 0 []),.cU r 0],O):=by have e:=rF b;have q:=λL d=>JB H.c6 5 a (O++L) d;have c:=b.gn;have q:=q _ c;unfold qV at*;rw[H.k0.go (NVs.e (.cW (.cV _) (.cW (.cU _ _) .de)) _)];simp only[WJ,e,q,aU,bG,AV.cH,AV.C,EVX,seval]
def alv(H:H7 C)(s:LU)(a:Int)(O:St)(b:Ok O):ai C Ed [.cV s,.cU r a] O=J (.df [.da (qV 6 a (IntKind.i64.wrap (a+1)) 0 []),.cU r 0],O):=by have e:=rF b;have q:=λL d=>JB H.c6 6 a (O++L) d;have c:=b.gn;have q:=q _ c;unfold qV at*;rw[H.kT.go (NVs.e (.cW (.cV _) (.cW (.cU _ _) .de)) _)];simp only[WI,e,q,aU,bG,AV.cH,AV.C,EVX,seval]
def CE(b:UInt8):Bool:=b.toNat==32||b.toNat==9||b.toNat==10||b.toNat==13
def runN(p:UInt8->Bool)(s:LU)(i:Nat):Nat:=i+z ((s.drop i).takeWhile p)
def aeu(p:UInt8->Bool)(s:LU)(i:Nat)(h:i<=z s):runN p s i<=z s:=by unfold runN;have a:=(List.takeWhile_sublist p (l:=s.drop i)).length_le;rw[aH7]at a;omega
def akt(p:UInt8->Bool)(s:LU)(i:Nat):i<=runN p s i:=by unfold runN;omega
def Vb(p:UInt8->Bool)(s:LU)(i:Nat)(h:i<z s)(hb:p s[i]=eF):runN p s i=i:=by unfold runN;rw[ay6 h,List.takeWhile_cons,hb];rfl
def jP(p:UInt8->Bool)(s:LU)(i:Nat)(h:i<z s)(hb:p s[i]=eT):runN p s i=runN p s (i+1):=by unfold runN;rw[ay6 h,List.takeWhile_cons,hb];simp;omega
def Va(p:UInt8->Bool)(s:LU)(i:Nat)(h:z s<=i):runN p s i=i:=by unfold runN;rw[az1 h];rfl
def Qq (s:LU) (hs:z s<1099511627777) (O:St):∀(n i:Nat),i+n=z s->
  aH C (ai C) 36 [0,1] jS [(0,.cV s),(1,.cU r i)] O=J (.dq 0,[(1,.cU r (runN CE s i))],O)
 |0,i,hi=>by rw[aA (he:=rfl)];have h:¬((i:Int)<(z s:Int)):=(by omega);have j:=Va CE s i (by omega);simp only[jS,h,j,EVX,seval]
 |n+1,i,hi=>by
  rw[aA (he:=rfl)];generalize m:aH C (ai C) 36 [0,1] jS=k;have h:((i:Int)<(z s:Int)):=(by omega);have h2:i<z s:=(by omega);have hb:s[i]?=J s[i]:=a02 h2;have g:=wrS i (by omega);have h3:(0:Int)<=i:=(by omega);have e:=Qq s hs O n (i+1) (by omega);rw[m]at e;cases b:((s[i].toNat:Int)==32)
  ·cases c:((s[i].toNat:Int)==9)
   ·cases d:((s[i].toNat:Int)==10)
    ·cases f:((s[i].toNat:Int)==13)
     ·have a:CE s[i]=eF:=by simp only[beq_eq_false_iff_ne,ne_eq]at b c d f;simp[CE];omega
      simp only[jS,h,h3,hb,b,c,d,f,Vb CE s i h2 a,EVX,seval]
     ·have a:CE s[i]=eT:=by simp only[beq_iff_eq]at f;simp[CE];omega
      simp only[jS,h,h3,hb,g,b,c,d,f,jP CE s i h2 a,e,EVX,seval]
    ·have a:CE s[i]=eT:=by simp only[beq_iff_eq]at d;simp[CE];omega
     simp only[jS,h,h3,hb,g,b,c,d,jP CE s i h2 a,e,EVX,seval]
   ·have a:CE s[i]=eT:=by simp only[beq_iff_eq]at c;simp[CE];omega
    simp only[jS,h,h3,hb,g,b,c,jP CE s i h2 a,e,EVX,seval]
  ·have a:CE s[i]=eT:=by simp only[beq_iff_eq]at b;simp[CE];omega
   simp only[jS,h,h3,hb,g,b,jP CE s i h2 a,e,EVX,seval]
def aop(a:Has C KG QN)(s:LU)(hs:z s<1099511627777)(i:Nat)(hi:i<=z s)(O:St):ai C KG [.cV s,.cU r i] O=J (.cU r (runN CE s i),O):=by have b:=Qq (C:=C) s hs O (z s-i) i (by omega);rw[a.go (NVs.e (.cW (.cV _) (.cW (.cU _ _) .de)) _)];simp only[QN,b,EVX,seval]
def PW(b:UInt8):Bool:=decide (97<=b.toNat)&&decide (b.toNat<=122)
def Qr (s:LU) (hs:z s<1099511627777) (a4:AV) (a:Int) (O:St):∀(n i:Nat),i+n=z s->
  aH C (ai C) 41 [0,1,4,6] nH [(0,.cV s),(1,.cU r a),(4,a4),(6,.cU r i)] O=J (.dq 0,[(0,.cV s),(1,.cU r a),(4,a4),(6,.cU r (runN PW s i))],O)
 |0,i,hi=>by rw[aA (he:=rfl)];have h:¬((i:Int)<(z s:Int)):=(by omega);have f:=Va PW s i (by omega);simp only[nH,h,f,EVX,seval]
 |n+1,i,hi=>by
  rw[aA (he:=rfl)];generalize j:aH C (ai C) 41 [0,1,4,6] nH=k;have h:((i:Int)<(z s:Int)):=(by omega);have h2:i<z s:=(by omega);have hb:s[i]?=J s[i]:=a02 h2;have l:=wrS i (by omega);have h3:(0:Int)<=i:=(by omega);have e:=Qr s hs a4 a O n (i+1) (by omega);rw[j]at e;by_cases c:(97:Int)<=(s[i].toNat:Int)
  ·by_cases d:(s[i].toNat:Int)<=122
   ·have b:PW s[i]=eT:=by simp[PW];omega
    simp only[nH,h,h3,hb,l,c,d,jP PW s i h2 b,e,EVX,seval]
   ·have b:PW s[i]=eF:=by simp[PW];omega
    simp only[nH,h,h3,hb,c,d,Vb PW s i h2 b,EVX,seval]
  ·have b:PW s[i]=eF:=by simp[PW];omega
   simp only[nH,h,h3,hb,c,Vb PW s i h2 b,EVX,seval]
def akN(v:AV):Prop:=∃k a d n t e,v=.df [.da (qV k a d n t),.cU r e]/\0<=d/\z t<=LB
def aor(l:Has C Dq F6)(s:LU)(hs:z s<1099511627777)(i:Nat)(hi:i<=z s)(O:St)(g:Ok O):∃v,ai C Dq [.cV s,.cU r i] O=J (v,O)/\akN v:=by
 have h:=λa4 a Y=>Qr (C:=C) s hs a4 a Y (z s-i) i (by omega);have j:=rF g;have d:runN PW s i<=z s:=aeu PW s i hi;have e:=akt PW s i;have c:(0:Int)<=i:=by omega
 have h2:(0:Int)<=(runN PW s i:Nat):=by omega
 rw[l.go (NVs.e (.cW (.cV _) (.cW (.cU _ _) .de)) _)];generalize runN PW s i=q at*;generalize f:(s.take q).drop i=w;cases b:decide (w=[116,114,117,101])
 ·cases k:decide (w=[102,97,108,115,101]);·refine⟨_,?_,0,0,0,0,[],3,rfl,by omega,lb0⟩;unfold qV at*;simp only[F6,h,c,h2,d,e,f,b,k,j,aU,bG,AV.cH,AV.C,EVX,seval]
  ·refine⟨_,?_,8,i,q,0,[],0,rfl,h2,lb0⟩;unfold qV at*;simp only[F6,h,c,h2,d,e,f,b,k,j,aU,bG,AV.cH,AV.C,EVX,seval]
 ·refine⟨_,?_,7,i,q,0,[],0,rfl,h2,lb0⟩;unfold qV at*;simp only[F6,h,c,h2,d,e,f,b,j,aU,bG,AV.cH,AV.C,EVX,seval]
def ahn(C:Ctx):Prop:=∀(s:LU) (i:Nat) (Y:St),z s<1099511627777->i<=z s->Ok Y->∃n d e:Int,ai C QX [.cV s,.cU r i] Y=J (.df [.cU r n,.cU r d,.cU r e],Y)/\0<=d
def adp(C:Ctx):Prop:=∀(s:LU) (i:Nat) (Y:St),z s<1099511627777->i<=z s->Ok Y->∃(t:LU) (d e:Int),ai C BJ [.cV s,.cU r i] Y=J (.df [.cV t,.cU r d,.cU r e],Y)/\0<=d/\z t<=LB
def aid(g:Has C yx E8)(h:ahn C)(s:LU)(hs:z s<1099511627777)(i:Nat)(hi:i<=z s)(O:St)(a:Ok O):∃v,ai C yx [.cV s,.cU r i] O=J (v,O)/\akN v:=by
 have b:=a.gn;obtain⟨n,x,e,q,j⟩:=h s i _ hs hi b;have d:=rF a;rw[g.go (NVs.e (.cW (.cV _) (.cW (.cU _ _) .de)) _)];by_cases c:e=0;·subst c;refine⟨_,?_,9,i,x,n,[],0,rfl,j,lb0⟩;unfold qV at*;simp only[E8,q,d,aU,bG,AV.cH,AV.C,EVX,seval]
 ·have f:(e !=0)=eT:=(by simpa using c);refine⟨_,?_,0,0,0,0,[],e,rfl,by omega,lb0⟩;unfold qV at*;simp only[E8,q,f,d,aU,bG,AV.cH,AV.C,EVX,seval]
def aoq(h:Has C Dp J3)(j:adp C)(s:LU)(hs:z s<1099511627777)(i:Nat)(hi:i<=z s)(O:St)(a:Ok O):∃v,ai C Dp [.cV s,.cU r i] O=J (v,O)/\akN v:=by
 have b:=a.gn;obtain⟨n,x,e,q,d⟩:=j s i _ hs hi b;have f:=rF a;rw[h.go (NVs.e (.cW (.cV _) (.cW (.cU _ _) .de)) _)];by_cases c:e=0;·subst c;refine⟨_,?_,10,i,x,0,n,0,rfl,d.1,d.2⟩;unfold qV at*;simp only[J3,q,f,aU,bG,AV.cH,AV.C,EVX,seval]
 ·have g:(e !=0)=eT:=(by simpa using c);refine⟨_,?_,0,0,0,0,[],e,rfl,by omega,lb0⟩;unfold qV at*;simp only[J3,q,g,f,aU,bG,AV.cH,AV.C,EVX,seval]
def fnA(f:FuncId):AV:=.ea (.func f) [] []
def Ew(n:Nat):AV:=
 if n=123 then fnA Gy else if n=125 then fnA Gz else if n=91 then fnA Ef else if n=93 then fnA Gx else if n=44 then fnA Ee else if n=58 then fnA Ed else
 if n=34 then fnA Dp else if n=45\/n=43\/n=46\/(48<=n/\n<=57)then fnA yx else if 97<=n/\n<=122 then fnA Dq else .ep
def Cb:LA:=(List.range 256).map Ew
def aaA:z Cb=256:=by simp[Cb]
def alX{n:Nat}(h:n<256):Cb[n]?=J (Ew n):=by simp[Cb,h]
def RQ(n:Nat):Ew n=fnA Gy\/Ew n=fnA Gz\/Ew n=fnA Ef\/Ew n=fnA Gx\/Ew n=fnA Ee\/Ew n=fnA Ed\/Ew n=fnA Dp\/Ew n=fnA yx\/Ew n=fnA Dq\/Ew n=.ep:=by
 unfold Ew;repeat' split
 all_goals simp
def agE:Cb.all AV.C=eT:=by rw[a97];intro x a;obtain⟨n,_,rfl⟩:=aC1.mp a;rcases RQ n with h|h|h|h|h|h|h|h|h|h<;>rw[h]<;>rfl
def aet:ae 0 Cb=eT:=by
 have:∀l:List Nat,ae 0 (l.map Ew)=eT:=by
  intro l
  induction l with
  |nil=>rfl|cons n l a=>rw[az3,ae,a,aA5];rcases RQ n with h|h|h|h|h|h|h|h|h|h<;>rw[h]<;>rfl
 exact this _
def alE:splice Ry 0 Cb=Cb:=by
 have:z Ry=256:=by simp[Ry]
 simp[splice,aaA,Ry]
def af5(C:Ctx):Prop:=∀Y,Ok Y->ai C AC [] Y=J (.da Cb,Y)
structure YS(C:Ctx):Prop where
 c6:H7 C
 eI:Has C KG QN
 ny:Has C Dq F6
 es:Has C yx E8
 eW:Has C Dp J3
 ht:ahn C
 oc:adp C
 mu:af5 C
 token:Has C Nr HY
 f6:Has C ZE QL
def aon(H:YS C)(s:LU)(hs:z s<1099511627777)(i:Nat)(hi:i<=z s)(n:Nat)(d:Ew n≠ .ep)(O:St)(a:Ok O):∃f v,Ew n=fnA f/\ai C f [.cV s,.cU r i] O=J (v,O)/\akN v:=by
 have b:(0:Int)<=IntKind.i64.wrap ((i:Int)+1):=by rw[w64]<;>omega
 rcases RQ n with h|h|h|h|h|h|h|h|h|h;·exact⟨_,_,h,aom H.c6 s i O a,_,_,_,_,_,_,rfl,b,lb0⟩
 ·exact⟨_,_,h,aoo H.c6 s i O a,_,_,_,_,_,_,rfl,b,lb0⟩
 ·exact⟨_,_,h,aly H.c6 s i O a,_,_,_,_,_,_,rfl,b,lb0⟩
 ·exact⟨_,_,h,aol H.c6 s i O a,_,_,_,_,_,_,rfl,b,lb0⟩
 ·exact⟨_,_,h,alx H.c6 s i O a,_,_,_,_,_,_,rfl,b,lb0⟩
 ·exact⟨_,_,h,alv H.c6 s i O a,_,_,_,_,_,_,rfl,b,lb0⟩
 ·obtain⟨v,c,h2⟩:=aoq H.eW H.oc s hs i hi O a;exact⟨_,v,h,c,h2⟩
 ·obtain⟨v,c,h2⟩:=aid H.es H.ht s hs i hi O a;exact⟨_,v,h,c,h2⟩
 ·obtain⟨v,c,h2⟩:=aor H.ny s hs i hi O a;exact⟨_,v,h,c,h2⟩
 ·exact absurd h d
def alz(H:YS C)(s:LU)(hs:z s<1099511627777)(i:Nat)(hi:i<=z s)(O:St)(g:Ok O)(o:Nat)(fz:Fz)(p:O[o]?=J (.cH Cb fz)):∃v,ai C Nr [.c8 o 0,.cV s,.cU r i] O=J (v,O)/\akN v:=by
 have u:hand eF [.c8 o 0,.cV s,.cU r i] O=J ([.c8 o 0,.cV s,.cU r i],O):=rfl;have n:=rF g;have l:=g.gn;rw[H.token.go u];by_cases h:i=z s;·have j:((i:Int)==(z s:Int))=eT:=(by simp[h]);refine⟨_,?_,11,i,i,0,[],0,rfl,by omega,lb0⟩;unfold qV at*;simp only[HY,j,n,aU,bG,AV.cH,AV.C,EVX,seval]
 ·have j:((i:Int)==(z s:Int))=eF:=by simp;omega
  have h2:i<z s:=(by omega);have h3:(0:Int)<=i:=(by omega);have hb:s[i]?=J s[i]:=a02 h2;have hr:=alX (UInt8.toNat_lt s[i]);obtain⟨x,hr⟩:=drop_at hr;have b:s[i].toNat<256:=UInt8.toNat_lt _;have q:(0:Int)<=(s[i].toNat:Int):=(by omega);have d:∀L:St,(O++L)[o]?=J (.cH Cb fz):=λL=>by rw[aA3 (a00.mp p).1];exact p
  by_cases c:Ew s[i].toNat=.ep;·refine⟨_,?_,0,0,0,0,[],3,rfl,by omega,lb0⟩;unfold qV at*;rw[c]at hr;simp only[HY,j,h3,hb,d,hr,q,b,n,aU,bG,AV.cH,AV.C,EVX,seval]
  ·obtain⟨f,v,hf,hv,k,a,y,m,t,e,rfl,w⟩:=aon H s hs i hi _ c _ l;refine⟨_,?_,k,a,y,m,t,e,rfl,w⟩;rw[hf]at hr;unfold qV fnA at*;simp only[HY,j,h3,hb,d,hr,q,b,hv,jH,n,aU,bG,AV.cH,AV.C,EVX,seval]
def aok(H:YS C)(s:LU)(hs:z s<1099511627777)(i:Nat)(O:St)(b:Ok O):∃v,ai C ZE [.cV s,.cU r i] O=J (v,O)/\akN v:=by
 have j:=rF b;have h3:¬((i:Int)<0):=by omega
 rw[H.f6.go (NVs.e (.cW (.cV _) (.cW (.cU _ _) .de)) _)];by_cases h:i<=z s;·have d:¬((z s:Int)<(i:Int)):=(by omega);have f:=b.gn;have q1:=H.mu _ f;have g:Ok (O++[.cH [.cU .u8 0,.cU r 0,.cU r 0,.cU r 0,.cV []] FZ,.cH Cb FZ]):=b.H (by simp only[a07,az6,AO.below,aet];rfl);have q2:=aop H.eI s hs i h;obtain⟨v,q3,k,a,q,m,t,e,rfl,l⟩:=alz H s hs (runN CE s i) (aeu CE s i h) _ g (z O+1) FZ (by simp[aC0]);have c:z Ry=256:=(by simp[Ry]);refine⟨_,?_,k,a,q,m,t,e,rfl,l⟩;unfold qV at*;simp only[QL,h3,d,q1,q2,q3,aaA,agE,alE,c,j,aU,bG,AV.cH,AV.C,EVX,seval]
 ·have d:(z s:Int)<(i:Int):=(by omega);refine⟨_,?_,0,0,0,0,[],1,rfl,by omega,lb0⟩;unfold qV at*;simp only[QL,h3,d,j,aU,bG,AV.cH,AV.C,EVX,seval]
def Qp(b:UInt8):Bool:=decide (48<=b.toNat)&&decide (b.toNat<=57)
def Mc (s:LU) (hs:z s<9223372036854775807) (O:St):∀(n i:Nat),i+n=z s->
  aH C (ai C) 38 [0,23,24] jh [(0,.cV s),(23,.cU r (z s)),(24,.cU r i)] O=if(s.drop i).all Qp then J (.dq 0,[],O)else J (.ef,[(2,.cX eF)],O)
 |0,i,hi=>by rw[aA (he:=rfl)];have h:¬((i:Int)<(z s:Int)):=(by omega);have a:s.drop i=[]:=az1 (by omega);simp only[jh,h,a,EVX,seval]
 |n+1,i,hi=>by
  rw[aA (he:=rfl)];generalize g:aH C (ai C) 38 [0,23,24] jh=k;have h:((i:Int)<(z s:Int)):=(by omega);have h2:i<z s:=(by omega);have hb:s[i]?=J s[i]:=a02 h2;have a:s.drop i=s[i]::s.drop (i+1):=ay6 h2;have j:=wrS i (by omega);have h3:(0:Int)<=i:=(by omega);have e:=Mc s hs O n (i+1) (by omega);rw[g]at e;by_cases c:(s[i].toNat:Int)<48
  ·have b:Qp s[i]=eF:=by simp[Qp];omega
   simp only[jh,h,a,h3,hb,c,b,aF3,EVX,seval]
  ·by_cases d:(57:Int)<(s[i].toNat:Int)
   ·have b:Qp s[i]=eF:=by simp[Qp];omega
    simp only[jh,h,a,h3,hb,c,d,b,aF3,EVX,seval]
   ·have b:Qp s[i]=eT:=by simp[Qp];omega
    simp only[jh,h,a,h3,hb,j,c,d,b,e,aA6,EVX,seval]
def ail(o:Has C KJ kV)(s:LU)(hs:z s<9223372036854775807)(O:St):∃b,ai C KJ [.cV s] O=J (.cX b,O):=by
 have fin:∀w:LU,z w<9223372036854775807->aH C (ai C) 38 [0,23,24] jh [(0,.cV w),(23,.cU r (z w)),(24,.cU r 0)] O=if w.all Qp then J (.dq 0,[],O)else J (.ef,[(2,.cX eF)],O):=λw q=>by have:=Mc (C:=C) w q O (z w) 0 (by omega);simpa using this
 rw[o.go (NVs.e (.cW (.cV _) .de) _)];cases c:decide (s=[48])
 case true=>exact⟨eT,by simp only[kV,c,EVX,seval]⟩
 cases s with
 |nil=>exact⟨eF,by simp only[kV,EVX,seval]⟩
 |cons b l=>
  have j:decide (b::l=[])=eF:=(by simp);have hb:(b::l)[0]?=J b:=rfl;have p:z l<9223372036854775807:=by simp at hs;omega
  cases d:((b.toNat:Int)==45)
  ·cases e:((b.toNat:Int)==48)
   ·have f:=fin (b::l) hs;generalize b::l=w at*;cases k:w.all Qp;·rw[k]at f;exact⟨eF,by simp only[kV,c,d,e,j,hb,f,aF4,EVX,seval]⟩
    ·rw[k]at f;exact⟨eT,by simp only[kV,c,d,e,j,hb,f,aF4,EVX,seval]⟩
   ·generalize b::l=w at*;exact⟨eF,by simp only[kV,c,d,e,j,hb,aF4,EVX,seval]⟩
  ·have m:((b::l).take (z (b::l))).drop 1=l:=(by simp);have t:(1:Int)<=(z (b::l):Int):=by simp;omega
   have h:1<=z (b::l):=(by simp);cases l with
   |nil=>exact⟨eF,by simp only[kV,c,d,hb,aF4,Int.toNat_one,EVX,seval]⟩
   |cons a l2=>
    have g:decide (a::l2=[])=eF:=(by simp);have i:(a::l2)[0]?=J a:=rfl;cases e:((a.toNat:Int)==48)
    ·have f:=fin (a::l2) p;generalize b::a::l2=w at*;generalize a::l2=n at*;cases k:n.all Qp;·rw[k]at f;exact⟨eF,by simp only[kV,c,d,e,j,hb,g,i,m,h,f,aF4,Int.toNat_one,EVX,seval]⟩
     ·rw[k]at f;exact⟨eT,by simp only[kV,c,d,e,j,hb,g,i,m,h,f,aF4,Int.toNat_one,EVX,seval]⟩
    ·generalize b::a::l2=w at*;generalize a::l2=n at*;exact⟨eF,by simp only[kV,c,d,e,j,hb,g,i,m,h,aF4,Int.toNat_one,EVX,seval]⟩
def gz(b:UInt8):Bool:=(decide (48<=b.toNat)&&decide (b.toNat<=57))||b.toNat==45||b.toNat==43||b.toNat==46||b.toNat==101||b.toNat==69
def Qv (s:LU) (hs:z s<9223372036854775807) (a:Int) (O:St):∀(n i:Nat),i+n=z s->
  aH C (ai C) 61 [0,1,7] dC [(0,.cV s),(1,.cU r a),(7,.cU r i)] O=J (.dq 0,[(0,.cV s),(1,.cU r a),(7,.cU r (runN gz s i))],O)
 |0,i,hi=>by rw[aA (he:=rfl)];have h:¬((i:Int)<(z s:Int)):=(by omega);have A:=Va gz s i (by omega);simp only[dC,h,A,EVX,seval]
 |n+1,i,hi=>by
  rw[aA (he:=rfl)];generalize D:aH C (ai C) 61 [0,1,7] dC=k;have h:((i:Int)<(z s:Int)):=(by omega);have h2:i<z s:=(by omega);have hb:s[i]?=J s[i]:=a02 h2;have m:=wrS i (by omega);have h3:(0:Int)<=i:=(by omega);have g:=Qv s hs a O n (i+1) (by omega);rw[D]at g;cases c:((s[i].toNat:Int)==48)
  case true=>
   have b:gz s[i]=eT:=by simp only[beq_iff_eq]at c;simp[gz];omega
   simp only[dC,h,h3,hb,m,c,jP gz s i h2 b,g,EVX,seval]
  cases d:((s[i].toNat:Int)==49)
  case true=>
   have b:gz s[i]=eT:=by simp only[beq_iff_eq]at d;simp[gz];omega
   simp only[dC,h,h3,hb,m,c,d,jP gz s i h2 b,g,EVX,seval]
  cases f:((s[i].toNat:Int)==50)
  case true=>
   have b:gz s[i]=eT:=by simp only[beq_iff_eq]at f;simp[gz];omega
   simp only[dC,h,h3,hb,m,c,d,f,jP gz s i h2 b,g,EVX,seval]
  cases l:((s[i].toNat:Int)==51)
  case true=>
   have b:gz s[i]=eT:=by simp only[beq_iff_eq]at l;simp[gz];omega
   simp only[dC,h,h3,hb,m,c,d,f,l,jP gz s i h2 b,g,EVX,seval]
  cases o:((s[i].toNat:Int)==52)
  case true=>
   have b:gz s[i]=eT:=by simp only[beq_iff_eq]at o;simp[gz];omega
   simp only[dC,h,h3,hb,m,c,d,f,l,o,jP gz s i h2 b,g,EVX,seval]
  cases q:((s[i].toNat:Int)==53)
  case true=>
   have b:gz s[i]=eT:=by simp only[beq_iff_eq]at q;simp[gz];omega
   simp only[dC,h,h3,hb,m,c,d,f,l,o,q,jP gz s i h2 b,g,EVX,seval]
  cases t:((s[i].toNat:Int)==54)
  case true=>
   have b:gz s[i]=eT:=by simp only[beq_iff_eq]at t;simp[gz];omega
   simp only[dC,h,h3,hb,m,c,d,f,l,o,q,t,jP gz s i h2 b,g,EVX,seval]
  cases v:((s[i].toNat:Int)==55)
  case true=>
   have b:gz s[i]=eT:=by simp only[beq_iff_eq]at v;simp[gz];omega
   simp only[dC,h,h3,hb,m,c,d,f,l,o,q,t,v,jP gz s i h2 b,g,EVX,seval]
  cases w:((s[i].toNat:Int)==56)
  case true=>
   have b:gz s[i]=eT:=by simp only[beq_iff_eq]at w;simp[gz];omega
   simp only[dC,h,h3,hb,m,c,d,f,l,o,q,t,v,w,jP gz s i h2 b,g,EVX,seval]
  cases y:((s[i].toNat:Int)==57)
  case true=>
   have b:gz s[i]=eT:=by simp only[beq_iff_eq]at y;simp[gz];omega
   simp only[dC,h,h3,hb,m,c,d,f,l,o,q,t,v,w,y,jP gz s i h2 b,g,EVX,seval]
  cases e:((s[i].toNat:Int)==45)
  case true=>
   have b:gz s[i]=eT:=by simp only[beq_iff_eq]at e;simp[gz];omega
   simp only[dC,h,h3,hb,m,c,d,f,l,o,q,t,v,w,y,e,jP gz s i h2 b,g,EVX,seval]
  cases j:((s[i].toNat:Int)==43)
  case true=>
   have b:gz s[i]=eT:=by simp only[beq_iff_eq]at j;simp[gz];omega
   simp only[dC,h,h3,hb,m,c,d,f,l,o,q,t,v,w,y,e,j,jP gz s i h2 b,g,EVX,seval]
  cases p:((s[i].toNat:Int)==46)
  case true=>
   have b:gz s[i]=eT:=by simp only[beq_iff_eq]at p;simp[gz];omega
   simp only[dC,h,h3,hb,m,c,d,f,l,o,q,t,v,w,y,e,j,p,jP gz s i h2 b,g,EVX,seval]
  cases u:((s[i].toNat:Int)==101)
  case true=>
   have b:gz s[i]=eT:=by simp only[beq_iff_eq]at u;simp[gz];omega
   simp only[dC,h,h3,hb,m,c,d,f,l,o,q,t,v,w,y,e,j,p,u,jP gz s i h2 b,g,EVX,seval]
  cases x:((s[i].toNat:Int)==69)
  case true=>
   have b:gz s[i]=eT:=by simp only[beq_iff_eq]at x;simp[gz];omega
   simp only[dC,h,h3,hb,m,c,d,f,l,o,q,t,v,w,y,e,j,p,u,x,jP gz s i h2 b,g,EVX,seval]
  have b:gz s[i]=eF:=by simp only[beq_eq_false_iff_ne,ne_eq]at c d f l o q t v w y e j p u x;simp[gz];omega
  simp only[dC,h,h3,hb,c,d,f,l,o,q,t,v,w,y,e,j,p,u,x,Vb gz s i h2 b,EVX,seval]
def aj3(C:Ctx):Prop:=∀(s:LU) (Y:St),z s<1099511627777->Ok Y->∃(n:Int) (v:AV),ai C GU [.cV s,.cU r 10,.cU r 64] Y=J (.df [.cU r n,v],Y)/\(v=.ej\/∃t x,v=.eb t x)
def aoO(p:Has C QX J4)(hf:Has C KJ kV)(q:aj3 C)(s:LU)(hs:z s<1099511627777)(i:Nat)(hi:i<=z s)(O:St)(l:Ok O):∃n y e:Int,ai C QX [.cV s,.cU r i] O=J (.df [.cU r n,.cU r y,.cU r e],O)/\0<=y:=by
 have m:=Qv (C:=C) s (by omega) i O (z s-i) i (by omega);have o:=λa b c=>bi O [.cU r a,.cU r b,.cU r c];have h:runN gz s i<=z s:=aeu gz s i hi;have j:=akt gz s i;have f:¬((i:Int)<0):=by omega
 have d:¬((z s:Int)<(i:Int)):=by omega
 have g:(0:Int)<=i:=by omega
 have h2:(0:Int)<=(runN gz s i:Nat):=by omega
 rw[p.go (NVs.e (.cW (.cV _) (.cW (.cU _ _) .de)) _)];generalize runN gz s i=y at*;have u:z ((s.take y).drop i)<1099511627777:=by simp;omega
 generalize k:(s.take y).drop i=w at*;obtain⟨b,q1⟩:=ail hf w (by omega) O;obtain⟨n,v,q2,hv⟩:=q w O u l;cases b;·exact⟨0,0,3,by simp only[J4,m,f,d,g,h2,h,j,k,q1,o,EVX,seval],by omega⟩
 ·rcases hv with rfl|⟨t,x,rfl⟩;·exact⟨n,y,0,by simp only[J4,m,f,d,g,h2,h,j,k,q1,q2,o,EVX,seval],h2⟩
  ·exact⟨0,0,9,by simp only[J4,m,f,d,g,h2,h,j,k,q1,q2,o,EVX,seval],by omega⟩
def aiw(f:Has C KO xX)(b:UInt8)(O:St):ai C KO [.cU .u8 b.toNat] O=J (.cX (CE b),O):=by
 rw[f.go (NVs.e (.cW (.cU _ _) .de) _)];have g:CE b=(((b.toNat:Int)==32)||((b.toNat:Int)==9)||((b.toNat:Int)==10)||((b.toNat:Int)==13)):=by rw[aH5];simp[CE];omega
 rw[g];cases a:((b.toNat:Int)==32)
 ·cases c:((b.toNat:Int)==9)
  ·cases d:((b.toNat:Int)==10);·cases e:((b.toNat:Int)==13)<;>simp only[xX,a,c,d,e,EVX,seval]
   ·simp only[xX,a,c,d,aE4,aG0,EVX,seval]
  ·simp only[xX,a,c,aE4,aG0,EVX,seval]
 ·simp only[xX,a,aG0,EVX,seval]
structure RV where
 cD:Int
 k:Int
 a:Int
 z:Int
 n:Int
 t:BS
 bU:Int
 aD:Int
 ad:Int
def RV.B(s:LU)(d:RV):LA:=[.cV s,.cU r d.cD,.cU .u8 d.k,.cU r d.a,.cU r d.z,.cU r d.n,.cV d.t.1,.cU r d.bU,.cU r d.aD,.cU r d.ad]
def RV.o(s:LU)(d:RV):AO:=.cH (d.B s) FZ
theorem RV.below(s:LU)(d:RV):(d.o s).below 0=eT:=rfl
def Ok.co{O:St}(h:Ok O)(o:Nat){x:AO}(b:x.below 0=eT):Ok (O.set o x):=by
 unfold Ok at*;rw[a96];rw[a97]at*;intro y a;rcases List.mem_or_eq_of_mem_set a with a|rfl;·exact h y a
 ·exact AO.au (a99 _) _ b
def aaS(O:St)(o:Nat)(x:AO)(L:St)(k:Nat):(O.set o x++L)[z O+k]?=L[k]?:=by rw[aE3 (by simp)];simp
def nM(O:St)(o:Nat)(x:AO)(L:St):(O.set o x++L)[z O]?=L[0]?:=aaS O o x L 0
def aaT(O:St)(o:Nat)(x y:AO)(L:St)(k:Nat):(O.set o x++L).set (z O+k) y=O.set o x++L.set k y:=by rw[List.set_append_right _ _ (by simp)];simp
def zM(O:St)(o:Nat)(x y:AO)(L:St):(O.set o x++L).set (z O) y=O.set o x++L.set 0 y:=aaT O o x y L 0
structure NextHas(C:Ctx):Prop where
 n0:YS C
 mz:Has C KO xX
 f6:Has C GH zZ
def XW (H:NextHas C) (s:LU) (hs:z s<1099511627777) (f:RV) (O:St) (o:Nat) (c:o<z O):∀(n i:Nat),i+n=z s->
  aH C (ai C) 65 [0] dJ [(0,.c8 o 0)] (O.set o ({f with cD:=(i:Int)}.o s))=J (.dq 0,[(0,.c8 o 0)],O.set o ({f with cD:=(runN CE s i:Nat)}.o s))
 |0,i,hi=>by
  rw[aA (he:=rfl)];have h:¬((i:Int)<(z s:Int)):=(by omega);have e:=Va CE s i (by omega);have a:∀x:AO,(O.set o x)[o]?=J x:=λx=>by simp[c]
  unfold RV.o RV.B;simp only[dJ,h,e,a,EVX,seval]
 |n+1,i,hi=>by
  rw[aA (he:=rfl)];generalize g:aH C (ai C) 65 [0] dJ=k;have h:((i:Int)<(z s:Int)):=(by omega);have h2:i<z s:=(by omega);have hb:s[i]?=J s[i]:=a02 h2;have j:=wrS i (by omega);have h3:(0:Int)<=i:=(by omega);have a:∀x:AO,(O.set o x)[o]?=J x:=λx=>by simp[c]
  have d:=XW H s hs f O o c n (i+1) (by omega);rw[g]at d;have q:=λY=>aiw H.mz s[i] Y;dsimp only[RV.o,RV.B]at*;cases b:CE s[i];·simp only[dJ,h,h3,hb,a,q,b,Vb CE s i h2 b,EVX,seval]
  ·simp only[dJ,h,h3,hb,j,a,q,b,jP CE s i h2 b,splice,aB8,d,EVX,seval]
def vI (H:NextHas C) (s:LU) (hs:s.length<1099511627777) (du:RV) (hr:0<=du.bU) (O:St) (d:Ok O) (o:Nat) (M:O[o]?=J (du.o s)):
  ∃(D:RV) (e:Int),ai C GH [.c8 o 0] O=J (.cU r e,O.set o (D.o s))/\0<=D.bU/\D.aD=du.aD/\D.ad=du.ad:=by
 have u:o<O.length:=(a00.mp M).1;have Y:=jM o O;have l:∀(x:AO),(O.set o x)[o]?=J x:=λx=>by simp[u]
 have W:∀(x:AO) (L:St),(O.set o x++L)[o]?=J x:=λx L=>by rw[aA3 (by simpa using u)];exact l x
 have sa:∀(x y:AO) (L:St),(O.set o x++L).set o y=O.set o y++L:=λx y L=>by rw[aD2 _ _ (by simpa using u),aB8]
 have T:∀(B w f F A:Int) (E:LU) (j b g e:Int) (L:St),tidy O.length [.cU r e] (O.set o (.cH [.cV s,.cU r B,.cU .u8 w,.cU r f,.cU r F,.cU r A,.cV E,.cU r j,.cU r b,.cU r g] FZ)++L)=O.set o (.cH [.cV s,.cU r B,.cU .u8 w,.cU r f,.cU r F,.cU r A,.cV E,.cU r j,.cU r b,.cU r g] FZ):=λB w f F A E j b g e L=>by have:=bz (d.co o (x:=.cH [.cV s,.cU r B,.cU .u8 w,.cU r f,.cU r F,.cU r A,.cV E,.cU r j,.cU r b,.cU r g] FZ) rfl) (vs:=[.cU r e]) rfl L;rwa[a96]at this
 rw[H.f6.go Y];obtain⟨pl,P,a0,V,R,S,N,G,I⟩:=du;dsimp only at hr;obtain⟨i,rfl⟩:∃i:Nat,N=i:=⟨N.toNat,by omega⟩;generalize K:RV.mk pl P a0 V R S i G I=du at*;have hi:du.bU=i:=by rw[<-K]
 obtain⟨p,hp,Q⟩:∃p:Nat,0<=p/\aH C (ai C) 65 [0] dJ [(0,.c8 o 0)] (O.set o ({du with cD:=(i:Int)}.o s))=J (.dq 0,[(0,.c8 o 0)],O.set o ({du with cD:=(p:Int)}.o s)):=by
  by_cases X:i<=s.length;·exact⟨_,a99 _,XW H s hs du O o u (s.length-i) i (by omega)⟩
  ·refine⟨i,a99 _,?_⟩;rw[aA (he:=rfl)];have h:¬((i:Int)<(s.length:Int)):=(by omega);unfold RV.o RV.B;simp only[dJ,h,l,EVX,seval]
 obtain⟨v,q,k,a,dv,m,t,e,rfl,hz,Z⟩:=aok H.n0 s hs p _ (d.co o (RV.below s {du with cD:=(p:Int)}));by_cases c:e=0;·subst c;subst K;refine⟨{cD:=p,aD:=G,ad:=I,k:=k,a:=a,z:=dv,n:=m,t:=⟨t,Z⟩,bU:=dv},0,?_,hz,rfl,rfl⟩;unfold qV at*;dsimp only[RV.o,RV.B]at*;simp only[zZ,M,l,W,sa,Q,q,splice,T,a96,nM,AV.cH,AV.C,EVX,seval]
 ·have b:(e !=0)=eT:=(by simpa using c);subst K;refine⟨⟨p,P,a0,V,R,S,i,G,I⟩,e,?_,hr,rfl,rfl⟩;unfold qV at*;dsimp only[RV.o,RV.B]at*;simp only[zZ,M,b,l,Q,q,splice,T,a96,AV.cH,AV.C,EVX,seval]
def FM(b:Has C ul oW)(s:LU)(f:RV)(O:St)(o:Nat)(a:O[o]?=J (f.o s)):∃e:Int,ai C ul [.c8 o 0] O=J (.cU r e,O)/\e≠0:=by
 have d:=jM o O;rw[b.go d];dsimp only[RV.o,RV.B]at a;cases c:(f.k==11);·exact⟨3,by simp only[oW,a,c,EVX,seval],by omega⟩
 ·exact⟨4,by simp only[oW,a,c,EVX,seval],by omega⟩
structure ReadHas(C:Ctx)extends NextHas C where
 eh:Has C ul oW
 k3:Has C Eg rH
 ab:Has C GI mP
def RV.ka(d a:RV):Prop:=0<=a.bU/\a.aD=d.aD/\a.ad=d.ad
def abB (H:ReadHas C) (s:LU) (hs:z s<1099511627777) (kind:Int) (y:RV) (hr:0<=y.bU) (O:St) (d:Ok O) (o:Nat) (k:O[o]?=J (y.o s)):
  ∃(a:RV) (e:Int),ai C Eg [.c8 o 0,.cU .u8 kind] O=J (.cU r e,O.set o (a.o s))/\y.ka a:=by
 have m:o<z O:=(a00.mp k).1;have n:hand eF [.c8 o 0,.cU .u8 kind] O=J ([.c8 o 0,.cU .u8 kind],O):=rfl;have b:∀(x:AO) (e:Int),tidy (z O) [.cU r e] (O.set o x)=O.set o x:=λx e=>by grind [bi,a96]
 obtain⟨a,e,q,f,h,i⟩:=vI H.toNextHas s hs y hr O d o k;have g:(O.set o (a.o s))[o]?=J (a.o s):=by simp[m]
 obtain⟨e2,w,p⟩:=FM H.eh s a _ o g;rw[H.k3.go n];dsimp only[RV.o,RV.B]at g w q;cases c:(e !=0)
 ·have l:e=0:=(by simpa using c);subst l;cases j:(a.k !=kind);·exact⟨a,0,by dsimp only[RV.o,RV.B];simp only[rH,q,g,j,b,EVX,seval],f,h,i⟩
  ·exact⟨a,e2,by dsimp only[RV.o,RV.B];simp only[rH,q,g,w,j,b,EVX,seval],f,h,i⟩
 ·exact⟨a,e,by dsimp only[RV.o,RV.B];simp only[rH,q,c,b,EVX,seval],f,h,i⟩
def XY (H:ReadHas C) (s:LU) (hs:z s<1099511627777) (last:Int) (N:RV) (hr:0<=N.bU) (O:St) (f:Ok O) (o:Nat) (p:O[o]?=J (N.o s)):
  ∃(a:RV) (b:Bool) (e:Int),ai C GI [.c8 o 0,.cU .u8 last] O=J (.df [.cX b,.cU r e],O.set o (a.o s))/\N.ka a:=by
 have y:o<z O:=(a00.mp p).1;have A:hand eF [.c8 o 0,.cU .u8 last] O=J ([.c8 o 0,.cU .u8 last],O):=rfl;have d:∀(x:AO) (b:Bool) (e:Int),tidy (z O) [.cX b,.cU r e] (O.set o x)=O.set o x:=λx b e=>by grind [bi,a96]
 obtain⟨a,e,q,k,h,i⟩:=vI H.toNextHas s hs N hr O f o p;have g:(O.set o (a.o s))[o]?=J (a.o s):=by simp[y]
 obtain⟨e2,w,B⟩:=FM H.eh s a _ o g;obtain⟨r2,e3,q2,t,u,v⟩:=vI H.toNextHas s hs a k _ (f.co o (RV.below s a)) o g;rw[aB8]at q2;rw[H.ab.go A];dsimp only[RV.o,RV.B]at g w q q2;cases c:(e !=0)
 ·have l:e=0:=(by simpa using c);subst l;cases j:(a.k==last)
  ·cases m:(a.k==5);·exact⟨a,eF,e2,by dsimp only[RV.o,RV.B];simp only[mP,q,g,w,j,m,d,EVX,seval],k,h,i⟩
   ·cases n:(e3 !=0);·have l:e3=0:=(by simpa using n);subst l;exact⟨r2,eT,0,by dsimp only[RV.o,RV.B];simp only[mP,q,q2,g,j,m,d,EVX,seval],t,u.trans h,v.trans i⟩
    ·exact⟨r2,eF,e3,by dsimp only[RV.o,RV.B];simp only[mP,q,q2,g,j,m,n,d,EVX,seval],t,u.trans h,v.trans i⟩
  ·exact⟨a,eF,0,by dsimp only[RV.o,RV.B];simp only[mP,q,g,j,d,EVX,seval],k,h,i⟩
 ·exact⟨a,eF,e,by dsimp only[RV.o,RV.B];simp only[mP,q,c,d,EVX,seval],k,h,i⟩
def GY:∀l:List JV,NVs (aJ l)
 |[]=>by rw[aJ];exact .de
 |j::l=>by
  rw[aJ];intro v hv;rcases aD3.mp hv with h|h;·exact j.af v h
  ·exact GY l v h
def aq5(l:List LU):NVs (l.map AV.cV):=by intro v hv;obtain⟨s,_,rfl⟩:=aC1.mp hv;exact .cV _
def JV.aa:JV:=JV.er 0 0 [] lb0
def JV.ba:JV.aa.B=[.cU .u8 0,.cU r 0,.cV [],.sl 0 [],.sl 0 []]:=JV.cz 0 0 [] lb0
structure Su(C:Ctx)(f:FuncId)(K:KF):Prop where
 fs:C.fs f=some K.V
 fg:C.fg f=none
 dF:C.dF f=true
 ok:K.ok=true
def aqU(n:Nat)(rs:List XR)(d:RX):Option (AV×St):=match d with|J (.dq _,_,_)=>U|U=>U|J (_,e,a)=>match aU e a rs with|U=>U|J vs=>J (bW vs,tidy n vs a)
def Su.go{f:FuncId}{K:KF}(h:Su C f K){args:LA}{O:St}(a:Nat.ble (z args) K.L=eT:=by rfl):ai C f args O=aqU (z O) K.Y (eX C (ai C) K.L K.aE (lQ 0 args) O):=by have a:=Nat.not_lt.mpr (az7 a);rw[apF h.fs h.fg h.dF h.ok];unfold Ey aqU;rw[show hand eT args O=J (args,O)from rfl];dsimp only;rw[if_neg a];rfl
def qL(n rs e O):aqU n rs (J (.ef,e,O))=match aU e O rs with|U=>U|J vs=>J (bW vs,tidy n vs O):=rfl
def WX(n rs e O):aqU n rs (J (.dp,e,O))=match aU e O rs with|U=>U|J vs=>J (bW vs,tidy n vs O):=rfl
abbrev EL:Type:=BS×JV
def elC(x:EL):LA:=.cV x.1.1::x.2.B
def dH(xs:List EL):LA:=xs.flatMap elC
def jB(x:EL):z (elC x)=6:=by simp[elC,JV.dt]
def Gn(xs:List EL):z (dH xs)=z xs*6:=bZ jB xs
def Kz(x:EL):ae 0 (elC x)=eT:=by unfold elC;rw[ae,JV.ay];rfl
def wG(xs:List EL):ae 0 (dH xs)=eT:=gu Kz xs
def oZ(x:EL):(elC x).all AV.C=eT:=by unfold elC;rw[a07,JV.C];rfl
def wF(x:EL)(R:LA):(elC x++R).take 6=elC x:=by rw[<-jB x];simp
def atQ(x:EL)(R:LA):6<=z (elC x++R):=by simp[jB]
def FP(xs:List EL)(i:Nat)(h:i<z xs):(dH xs).drop (i*6)=elC xs[i]++dH (xs.drop (i+1)):=kK jB (a02 h)
def row(O:St)(o:Nat)(t:Option (TypeId×Bool))(xs:List EL):St:=O.set o (.cH (dH xs) ⟨eF,t⟩)
def akr{O:St}{o:Nat}(h:o<z O)(t:Option (TypeId×Bool))(xs:List EL):(row O o t xs)[o]?=J (.cH (dH xs) ⟨eF,t⟩):=by simp[row,h]
def arQ(O:St)(o:Nat)(t:Option (TypeId×Bool))(xs a:List EL):(row O o t xs).set o (.cH (dH a) ⟨eF,t⟩)=row O o t a:=by simp[row]
def YE(O:St)(o:Nat)(t:Option (TypeId×Bool))(xs:List EL):z (row O o t xs)=z O:=by simp[row]
def afk(a:FuncId):AV:=.ea (.func a) [] []
def ajA(x:EL):NVs (elC x):=by unfold elC;exact .cW (.cV _) x.2.af
def set_self{Y:St}{p:Nat}{x:AO}(h:Y[p]?=J x):Y.set p x=Y:=by apply aA9;grind
def vY{S:St}{n:Nat}(h:z S=n)(L:St)(k:Nat):(S++L)[n+k]?=L[k]?:=by grind
def bK{S:St}{n:Nat}(h:z S=n)(L:St):(S++L)[n]?=L[0]?:=vY h L 0
def aaU{S:St}{n:Nat}(h:z S=n)(L:St)(k:Nat)(y:AO):(S++L).set (n+k) y=S++L.set k y:=by grind
def iF{S:St}{n:Nat}(h:z S=n)(L:St)(y:AO):(S++L).set n y=S++L.set 0 y:=aaU h L 0 y
def aj{S:St}{q:Nat}{x:AO}(h:S[q]?=J x)(L:St):(S++L)[q]?=J x:=by grind
def fK{S:St}{q:Nat}{x:AO}(h:S[q]?=J x)(L:St)(y:AO):(S++L).set q y=S.set q y++L:=by grind
def aX{S:St}{q:Nat}{x:AO}(h:S[q]?=J x)(y:AO):(S.set q y)[q]?=J y:=by simp[(a00.mp h).1]
def aG{S:St}{p q:Nat}{x:AO}(h:S[p]?=J x)(a:p≠q)(y:AO):(S.set q y)[p]?=J x:=by grind
def dK(S:St)(k q:Nat)(h:k<=q)(y:AO):(S.set q y).take k=S.take k:=by apply aA9;grind
def oD(S L:St)(k:Nat)(h:k<=z S):(S++L).take k=S.take k:=aC4 h
def kL(xs:List EL):LA:=xs.map λx=>.cV x.1.1
def vJ(xs:List EL):LA:=aJ (xs.map (·.2))
def KY(xs:List EL):z (kL xs)=z xs:=by simp[kL]
def PR(xs:List EL):z (vJ xs)=z xs*5:=by simp[vJ,jF]
def NL(xs:List EL)(x:EL):kL (xs++[x])=kL xs++[.cV x.1.1]:=by simp[kL]
def Sl(xs:List EL)(x:EL):vJ (xs++[x])=vJ xs++x.2.B:=by simp[vJ,Jj,aJ]
def MR{O:St}{sz bytes n m q:Nat}{l:LA}(cs:LA)(d:O[q]?=J (.cH l FZ))(c:¬m=0)(b:z l=n*sz)(a:(n+m)*bytes<=70368744177664)(h2:n+m<=70368744177664):tX O sz bytes U (.dj q 0 n sz) m cs=J (.dj (z O) 0 (n+m) sz,O.set q .eq++[.cH (l++cs) FZ]):=by unfold tX;grind
def auu(q1 q2 n:Nat):AO:=.cH [.cU .u8 5,.cU r 0,.cV [],.dj q1 0 n 1,.dj q2 0 n 5] FZ
structure atu(o n0 N:Nat)(t:Option (TypeId×Bool))(xs:List EL)(i q1 q2:Nat)(Y:St):Prop where
 ed:Y[o]?=some (.cH (dH xs) ⟨false,t⟩)
 v:Y[n0+1]?=some (auu q1 q2 i)
 n4:Y[q1]?=some (.cH (kL (xs.take i)) FZ)
 oE:Y[q2]?=some (.cH (vJ (xs.take i)) FZ)
 lo:o<n0
 l1:n0+2<=q1
 l2:n0+2<=q2
 ne:q1≠q2
def XQ (o n0 N:Nat) (hN:N<274877906944) (t:Option (TypeId×Bool)) (xs:List EL) (hx:z xs=N):∀(n i q1 q2:Nat) (Y:St),i+n=N->1<=i->atu o n0 N t xs i q1 q2 Y->
  ∃(j p:Nat) (q:St),aH C (ai C) 31 [2,3,9,10,11] ik [(2,.c8 n0 0),(3,.c8 (n0+1) 0),(9,.dj o 0 N 6),(10,.cU r N),(11,.cU r i)] Y=J (.dq 0,[(2,.c8 n0 0),(3,.c8 (n0+1) 0)],q)/\atu o n0 N t xs N j p q/\q.take (n0+1)=Y.take (n0+1)
 |0,i,q1,q2,Y,hi,Z,I=>by
  refine ⟨q1,q2,Y,?_,(by have:i=N:=by omega
                         subst this;exact I),rfl⟩
  rw[aA (he:=rfl)];have h:¬((i:Int)<(N:Int)):=(by omega);simp only[ik,h,EVX,seval]
 |n+1,i,q1,q2,Y,hi,Z,I=>by
  obtain⟨b,hv,s,E,B,aa,ab,D⟩:=I;have iN:i<N:=(by omega);have H:i<z xs:=(by omega);have h:((i:Int)<(N:Int)):=(by omega);have pi:(0:Int)<=(i:Int):=(by omega);have hw:=wrS i (by omega);have S:=FP xs i H;have G:xs.take (i+1)=xs.take i++[xs[i]]:=(by rw[aC5 H]);have u:=KY (xs.take i);have v:=PR (xs.take i);have lt:z (xs.take i)=i:=by simp;omega
  rw[lt]at u v;have ca:∀l,AV.cH (.da l)=l:=λ_=>rfl;generalize hm:xs[i]=x at*;have S1:z (Y.set q1 .eq)=z Y:=(by simp);have v1:=aG hv (show n0+1≠q1 by omega) .eq;have a1:=aG E (λe=>D e.symm) .eq;unfold auu at*;rw[aA (he:=rfl)];generalize hk:aH C (ai C) 31 [2,3,9,10,11] ik=k at*;have b0:=λL=>aj hv L;have Q:=λL=>aj s L;have p0:=λL y=>fK s L y;have X:=λL=>bK (rfl:z Y=_) L;have s1:=λL y=>iF (rfl:z Y=_) L y;have b1:=λL=>aj v1 L;have pv:=λL y=>fK v1 L y;have T:(elC x).head? =J (.cV x.1.1):=rfl;have W:(elC x).drop 1=x.2.B:=rfl;have V:x.2.B.take 5=x.2.B:=a95 (by rw[JV.dt];exact a06 _);have el:5<=z x.2.B:=by rw[JV.dt];exact a06 _
  have jl:=JV.dt x.2;have jf:=JV.C x.2;have na:=NL (xs.take i) x;have va:=Sl (xs.take i) x;have f:=MR (O:=Y++[.cH (elC x) FZ]) (sz:=1) (bytes:=16) (n:=i) (m:=1) [.cV x.1.1] (Q _) (by omega) (by rw[u];omega) (by omega) (by omega);rw[p0,a04,ay2]at f;simp only[a90,a94,a09,a98,az5,<-na]at f;have v2:=aX v1 (.cH [.cU .u8 5,.cU r 0,.cV [],.dj (z Y+1) 0 (i+1) 1,.dj q2 0 i 5] FZ);have a2:=aG a1 (show q2≠n0+1 by omega) (.cH [.cU .u8 5,.cU r 0,.cV [],.dj (z Y+1) 0 (i+1) 1,.dj q2 0 i 5] FZ);generalize a:(Y.set q1 .eq).set (n0+1) (.cH [.cU .u8 5,.cU r 0,.cV [],.dj (z Y+1) 0 (i+1) 1,.dj q2 0 i 5] FZ)=w at*;have c:z w=z Y:=by rw[<-a];simp
  have M:=λL=>aj v2 L;have R:=λL=>aj a2 L;have p2:=λL y=>fK a2 L y;have w1:=λL=>bK c L;have g:=MR (O:=w++[.cH (elC x) FZ,.cH (kL (xs.take i++[x])) FZ]) (sz:=5) (bytes:=80) (n:=i) (m:=1) x.2.B (R _) (by omega) v (by omega) (by omega);rw[p2,a04,ay2,c]at g;simp only[a90,a94,a09,a98,az5,<-va]at g;have v3:=aG v2 (show n0+1≠q2 by omega) .eq;have p3:=λL y=>fK v3 L y;have P:=λL=>aj v3 L;simp only[ik,h,T,W,V,jl,jf,f,g,a,M,w1,p3,P,iN,pi,hw,S,b,b0,X,s1,b1,pv,ca,wF,atQ,jB,oZ,splice,EVX,seval];have v4:=aX v3 (.cH [.cU .u8 5,.cU r 0,.cV [],.dj (z Y+1) 0 (i+1) 1,.dj (z Y+2) 0 (i+1) 5] FZ);have o1:=aG b (show o≠q1 by omega) .eq;have K:=aG o1 (show o≠n0+1 by omega) (.cH [.cU .u8 5,.cU r 0,.cV [],.dj (z Y+1) 0 (i+1) 1,.dj q2 0 i 5] FZ);rw[a]at K;have o3:=aG K (show o≠q2 by omega) .eq;have o4:=aG o3 (show o≠n0+1 by omega) (.cH [.cU .u8 5,.cU r 0,.cV [],.dj (z Y+1) 0 (i+1) 1,.dj (z Y+2) 0 (i+1) 5] FZ);have nl:n0+1<z Y:=(a00.mp hv).1;have t4:((w.set q2 .eq).set (n0+1) (.cH [.cU .u8 5,.cU r 0,.cV [],.dj (z Y+1) 0 (i+1) 1,.dj (z Y+2) 0 (i+1) 5] FZ)).take (n0+1)=Y.take (n0+1):=(by rw[dK _ _ _ (a06 _),dK _ _ _ (by omega),<-a,dK _ _ _ (a06 _),dK _ _ _ (by omega)]);generalize A:(w.set q2 .eq).set (n0+1) (.cH [.cU .u8 5,.cU r 0,.cV [],.dj (z Y+1) 0 (i+1) 1,.dj (z Y+2) 0 (i+1) 5] FZ)=F at*;have d:z F=z Y:=by rw[<-A];simp[c]
  obtain⟨j,p,q,e1,e2,e3⟩:=XQ o n0 N hN t xs hx n (i+1) (z Y+1) (z Y+2) (F++[.cH (elC x) FZ,.cH (kL (xs.take i++[x])) FZ,.cH (vJ (xs.take i++[x])) FZ]) (by omega) (by omega)
   ⟨aj o4 _,aj v4 _,by rw[vY d,G];rfl,by rw[vY d,G];rfl,B,by omega,by omega,by omega⟩
  rw[hk]at e1;exact⟨j,p,q,e1,e2,by rw[e3,oD _ _ _ (by rw[d];omega),t4]⟩
def aeL (o:Nat) (O:St) (n:o<z O) (N:Nat) (m:N<274877906944) (t:Option (TypeId×Bool)) (xs:List EL) (p:z xs=N) (w:1<=N) (res:AO):
  ∃(q1 q2:Nat) (a:St),aH C (ai C) 31 [2,3,9,10,11] ik [(2,.c8 (z O) 0),(3,.c8 (z O+1) 0),(9,.dj o 0 N 6),(10,.cU r N),(11,.cU r 0)] (row O o t xs++[res,.cH [.cU .u8 5,.cU r 0,.cV [],.cY,.cY] FZ])=J (.dq 0,[(2,.c8 (z O) 0),(3,.c8 (z O+1) 0)],a)/\
   atu o (z O) N t xs N q1 q2 a/\a.take (z O+1)=row O o t xs++[res]:=by
 have rl:z (row O o t xs)=z O:=YE O o t xs;have hr:=akr n t xs;have l0:0<z xs:=by omega
 have h:((0:Int)<(N:Int)):=by omega
 have u:0<N:=by omega
 have d:=FP xs 0 l0;have e:xs.take 1=[xs[0]]:=by
  cases xs with
  |nil=>simp at l0|cons x l=>rfl
 generalize D:xs[0]=x at*;have ca:∀l,AV.cH (.da l)=l:=λ_=>rfl;have r0:=λL=>aj hr L;have j:=λL k=>vY rl L k;have s2:=λL k y=>aaU rl L k y;have f:(elC x).head? =J (.cV x.1.1):=rfl;have i:(elC x).drop 1=x.2.B:=rfl;have g:x.2.B.take 5=x.2.B:=a95 (by rw[JV.dt];exact a06 _);have v:5<=z x.2.B:=by rw[JV.dt];exact a06 _
 have s:=JV.dt x.2;have q:=JV.C x.2;have b:∀S:St,tX S 1 16 U .cY 1 [.cV x.1.1]=J (.dj (z S) 0 1 1,S++[.cH [.cV x.1.1] FZ]):=λS=>J7 S U [.cV x.1.1] (by omega) (by omega) (by omega);have c:∀S:St,tX S 5 80 U .cY 1 x.2.B=J (.dj (z S) 0 1 5,S++[.cH x.2.B FZ]):=λS=>J7 S U x.2.B (by omega) (by omega) (by omega)
 rw[aA (he:=rfl)];have rc:=XQ (C:=C) o (z O) N m t xs p (N-1) 1 (z O+3) (z O+4) (row O o t xs++[res,.cH [.cU .u8 5,.cU r 0,.cV [],.dj (z O+3) 0 1 1,.dj (z O+4) 0 1 5] FZ,.cH (elC x) FZ,.cH [.cV x.1.1] FZ,.cH x.2.B FZ]) (by omega) (a06 _)
  ⟨aj hr _,by rw[vY rl];rfl,by rw[vY rl,e];rfl,by rw[vY rl,e];simp[vJ,aJ],by omega,by omega,by omega,by omega⟩
 obtain⟨q1,q2,a,e1,e2,e3⟩:=rc;generalize B:aH C (ai C) 31 [2,3,9,10,11] ik=k at*;refine⟨q1,q2,a,?_,e2,?_⟩;·simp only[ay1]at e1;simp only[Nat.zero_mul]at d;simp only[ik,h,u,d,r0,j,s2,rl,b,c,f,i,g,s,q,ca,wF,jB,oZ,splice,a04,aE9,EVX,seval];exact e1
 grind
def SK(C:Ctx)(fs c:FuncId):Prop:=∀(O:St),Ok O->∀(o:Nat),o<z O->∀(t:Option (TypeId×Bool)) (N:Nat),N<1099511627776->∀b:List EL,z b=N->∃a:List EL,z a=N/\ai C fs [.dj o 0 N 6,afk c] (row O o t b)=J (.df [],row O o t a)
def ags (w:SK C iD EG) (u:Su C DU IZ)
  (o:Nat) (O:St) (f:Ok O) (i:o<z O) (N:Nat) (v:N<274877906944) (t:Option (TypeId×Bool)) (xs:List EL) (x:z xs=N) (e:1<=N):
  ∃(b:List EL) (q1 q2:Nat) (a:St),z b=N/\ai C DU [.dj o 0 N 6] (row O o t xs)=J (.da [.cU .u8 5,.cU r 0,.cV [],.dj q1 0 N 1,.dj q2 0 N 5],a)/\a.take (z O)=row O o t b/\
   a[q1]?=J (.cH (kL b) FZ)/\a[q2]?=J (.cH (vJ b) FZ)/\z O+2<=q1/\z O+2<=q2/\q1≠q2:=by
 have rl:=YE O o t xs;have p:∀g:List EL,(O++[.cH [.cU .u8 0,.cU r 0,.cV [],.cY,.cY] FZ]:St).set o (.cH (dH g) ⟨eF,t⟩)=row O o t g++[.cH [.cU .u8 0,.cU r 0,.cV [],.cY,.cY] FZ]:=λg=>by rw[aD2 _ _ i];rfl
 obtain⟨x1,n,d⟩:=w (O++[.cH [.cU .u8 0,.cU r 0,.cV [],.cY,.cY] FZ]) (f.H rfl) o (by simp;omega) t N (by omega) xs x;unfold row at d;rw[p,p]at d;obtain⟨q1,q2,a,e1,I,e3⟩:=aeL (C:=C) o O i N v t x1 n e (.cH [.cU .u8 0,.cU r 0,.cV [],.cY,.cY] FZ);obtain⟨E,j,l,m,F,A,B,i8⟩:=I;have tk:x1.take N=x1:=a95 (by omega);rw[tk]at l m;unfold auu at j;have h:a[z O]?=J (.cH [.cU .u8 0,.cU r 0,.cV [],.cY,.cY] FZ):=by
  have:(a.take (z O+1))[z O]?=J (.cH [.cU .u8 0,.cU r 0,.cV [],.cY,.cY] FZ):=by rw[e3,bK (YE O o t x1)];rfl
  grind
 refine⟨x1,q1,q2,a.set (z O) (.cH [.cU .u8 5,.cU r 0,.cV [],.dj q1 0 N 1,.dj q2 0 N 5] FZ),n,?_,?_,aG l (by omega) _,aG m (by omega) _,A,B,i8⟩
 ·have c:=YE O o t x1;have s2:=λL k y=>aaU c L k y;have q:=λL k=>vY c L k;have s:=aX h (.cH [.cU .u8 5,.cU r 0,.cV [],.dj q1 0 N 1,.dj q2 0 N 5] FZ);have D:∀S:St,tidy (z O) [.da [.cU .u8 5,.cU r 0,.cV [],.dj q1 0 N 1,.dj q2 0 N 5]] S=S:=λS=>wW (by
   have:¬q1<z O:=(by omega);simp[ae,below,this]) S
  rw[u.go,rl];unfold afk at d;simp only[IZ,d,e1,rl,c,s2,q,h,s,j,D,aU,splice,AV.cH,AV.C,qL,EVX,seval]
 ·rw[dK _ _ _ (a06 _)];have:(a.take (z O+1)).take (z O)=row O o t x1:=(by grind);grind
def ahs(C:Ctx)(s:LU)(m:Nat):Prop:=∀(d:RV) (O:St) (o:Nat),Ok O->O[o]?=J (d.o s)->0<=d.bU->0<=d.aD->8192<=d.aD+m->
 ∃(j:JV) (e:Int) (a:RV),ai C yQ [.c8 o 0] O=J (.df [j.av,.cU r e],O.set o (a.o s))/\0<=a.bU/\d.aD<=a.aD/\(e=0->d.aD<a.aD/\a.aD<=8192)
def aqz(C:Ctx)(f:FuncId)(s:LU)(m:Nat):Prop:=∀(d:RV) (O:St) (o:Nat),Ok O->O[o]?=J (d.o s)->0<=d.bU->0<=d.aD->d.aD<=8192->8192<=d.aD+m->
 ∃(j:JV) (e:Int) (a:RV),ai C f [.c8 o 0] O=J (.df [j.av,.cU r e],O.set o (a.o s))/\0<=a.bU/\d.aD<=a.aD/\(e=0->a.aD<=8192)
def Oj{O:St}(a:Ok O)(o:Nat){x:AO}(b:x.below 0=eT)(vs:LA)(hv:ae 0 vs=eT)(L:St):tidy (z O) vs (O.set o x++L)=O.set o x:=by have:=bz (a.co o b) (vs:=vs) hv L;rwa[a96]at this
def kG:AO:=.cH [.cU .u8 0,.cU r 0,.cV [],.cY,.cY] FZ
def ad8(hC:Has C yQ bC)(hw:Has C ul oW)(s:LU)(m:Nat)(hL:0<m->aqz C vT s (m-1))(hO:0<m->aqz C rZ s (m-1)):ahs C s m:=by
 intro co O o B V p ac hm;have hn:=jM o O;have Z:∀(x:AO) (hx:x.below 0=eT) (L:St),L.all (AO.below 0)=eT->Ok (O.set o x++L):=λx hx L hL=>(B.co o hx).H hL;obtain⟨e1,w,we⟩:=FM hw s co (O++[kG]) o (aj V _);rw[hC.go hn];obtain⟨pl,k,a,du,n,t,i,b,f⟩:=co;dsimp only[RV.o,RV.B,kG]at*;have l:=λL=>aj V L;have D:=λL y=>fK V L y;have A:=λx L=>aj (aX V x) L;have p1:∀(x y:AO) (L:St),(O.set o x++L).set o y=O.set o y++L:=λx y L=>by rw[fK (aX V x),aB8]
 have c:=set_self V;have v:∀(q m':Int) (w:LU) (e Q N E T P:Int) (S:LU) (M G I:Int) (L:St),tidy (z O) [.da [.cU .u8 q,.cU r m',.cV w,.sl 0 [],.sl 0 []],.cU r e] (O.set o (.cH [.cV s,.cU r Q,.cU .u8 N,.cU r E,.cU r T,.cU r P,.cV S,.cU r M,.cU r G,.cU r I] FZ)++L)=O.set o (.cH [.cV s,.cU r Q,.cU .u8 N,.cU r E,.cU r T,.cU r P,.cV S,.cU r M,.cU r G,.cU r I] FZ):=λq m' w e Q N E T P S M G I L=>Oj B o rfl _ rfl L;have aa:∀(j:JV) (e Q N E T P:Int) (S:LU) (M G I:Int) (L:St),tidy (z O) [.da j.B,.cU r e] (O.set o (.cH [.cV s,.cU r Q,.cU .u8 N,.cU r E,.cU r T,.cU r P,.cV S,.cU r M,.cU r G,.cU r I] FZ)++L)=O.set o (.cH [.cV s,.cU r Q,.cU .u8 N,.cU r E,.cU r T,.cU r P,.cV S,.cU r M,.cU r G,.cU r I] FZ):=λj e Q N E T P S M G I L=>Oj B o rfl _ (by rw[ae,below,j.ay];rfl) L;have u:∀(e:Int) (L:St),tidy (z O) [.da [.cU .u8 0,.cU r 0,.cV [],.sl 0 [],.sl 0 []],.cU r e] (O++L)=O:=λe L=>bz B (vs:=[.da [.cU .u8 0,.cU r 0,.cV [],.sl 0 [],.sl 0 []],.cU r e]) rfl L;by_cases h7:k=7
 ·subst h7;by_cases g:8192<=b;·refine⟨JV.aa,5,⟨pl,7,a,du,n,t,i,b,f⟩,?_,p,aG1 _,λh=>absurd h (by decide)⟩;dsimp only[RV.o,RV.B];rw[c];simp only[bC,g,l,u,aU,bG,dO,AV.cH,AV.C,JV.av,JV.ba,splice,EVX,seval]
  ·have d:IntKind.i64.wrap (b+1)=b+1:=wrE (by omega);refine⟨JV.er 1 1 [] lb0,0,⟨pl,7,a,du,n,t,i,b+1,f⟩,?_,p,by dsimp only;omega,λ_=>by dsimp only;omega⟩;simp only[bC,g,d,l,D,A,nM,zM,v,aU,bG,dO,AV.cH,AV.C,JV.av,JV.cz,splice,EVX,seval]
 by_cases h8:k=8
 ·subst h8;by_cases g:8192<=b;·refine⟨JV.aa,5,⟨pl,8,a,du,n,t,i,b,f⟩,?_,p,aG1 _,λh=>absurd h (by decide)⟩;dsimp only[RV.o,RV.B];rw[c];simp only[bC,g,l,u,aU,bG,dO,AV.cH,AV.C,JV.av,JV.ba,splice,EVX,seval]
  ·have d:IntKind.i64.wrap (b+1)=b+1:=wrE (by omega);refine⟨JV.er 1 0 [] lb0,0,⟨pl,8,a,du,n,t,i,b+1,f⟩,?_,p,by dsimp only;omega,λ_=>by dsimp only;omega⟩;simp only[bC,g,d,l,D,A,nM,zM,v,aU,bG,dO,AV.cH,AV.C,JV.av,JV.cz,splice,EVX,seval]
 by_cases h9:k=9
 ·subst h9;by_cases g:8192<=b;·refine⟨JV.aa,5,⟨pl,9,a,du,n,t,i,b,f⟩,?_,p,aG1 _,λh=>absurd h (by decide)⟩;dsimp only[RV.o,RV.B];rw[c];simp only[bC,g,l,u,aU,bG,dO,AV.cH,AV.C,JV.av,JV.ba,splice,EVX,seval]
  ·have d:IntKind.i64.wrap (b+1)=b+1:=wrE (by omega);refine⟨JV.er 2 n [] lb0,0,⟨pl,9,a,du,n,t,i,b+1,f⟩,?_,p,by dsimp only;omega,λ_=>by dsimp only;omega⟩;simp only[bC,g,d,l,D,A,nM,zM,v,aU,bG,dO,AV.cH,AV.C,JV.av,JV.cz,splice,EVX,seval]
 by_cases W:k=10
 ·subst W;by_cases g:8192<=b;·refine⟨JV.aa,5,⟨pl,10,a,du,n,t,i,b,f⟩,?_,p,aG1 _,λh=>absurd h (by decide)⟩;dsimp only[RV.o,RV.B];rw[c];simp only[bC,g,l,u,aU,bG,dO,AV.cH,AV.C,JV.av,JV.ba,splice,EVX,seval]
  ·have d:IntKind.i64.wrap (b+1)=b+1:=wrE (by omega);refine⟨JV.er 3 0 t.1 t.2,0,⟨pl,10,a,du,n,t,i,b+1,f⟩,?_,p,by dsimp only;omega,λ_=>by dsimp only;omega⟩;simp only[bC,g,d,l,D,A,nM,zM,v,aU,bG,dO,AV.cH,AV.C,JV.av,JV.cz,splice,EVX,seval]
 by_cases h1:k=1
 ·subst h1;by_cases g:8192<=b;·refine⟨JV.aa,5,⟨pl,1,a,du,n,t,i,b,f⟩,?_,p,aG1 _,λh=>absurd h (by decide)⟩;dsimp only[RV.o,RV.B];rw[c];simp only[bC,g,l,u,aU,bG,dO,AV.cH,AV.C,JV.av,JV.ba,splice,EVX,seval]
  ·have d:IntKind.i64.wrap (b+1)=b+1:=wrE (by omega);by_cases X:12<=f;·refine⟨JV.aa,8,⟨pl,1,a,du,n,t,i,b+1,f⟩,?_,p,by dsimp only;omega,λh=>absurd h (by decide)⟩;simp only[bC,g,d,X,l,D,A,nM,zM,v,aU,bG,dO,AV.cH,AV.C,JV.av,JV.ba,splice,EVX,seval]
   ·obtain⟨j,e,r2,q1,q2,q3,q4⟩:=hO (by omega) ⟨pl,1,a,du,n,t,i,b+1,IntKind.i64.wrap (f+1)⟩ (O.set o (RV.o s ⟨pl,1,a,du,n,t,i,b+1,IntKind.i64.wrap (f+1)⟩)++[kG,kG]) o (Z _ rfl _ rfl) (A _ _) p (by dsimp only;omega) (by dsimp only;omega) (by dsimp only;omega);rw[p1]at q1;obtain⟨R,k2,a2,z2,n2,t2,F,H,K⟩:=r2;dsimp only[RV.o,RV.B,kG]at q1 q2 q3 q4;have nf:=λY co=>j.af.nf Y co;have jl:=JV.dt j;have jf:=JV.C j;have jt:j.B.take 5=j.B:=a95 (by rw[JV.dt];exact a06 _);have je:5<=z j.B:=by rw[JV.dt];exact a06 _
    refine⟨j,e,⟨R,k2,a2,z2,n2,t2,F,H,IntKind.i64.wrap (K-1)⟩,?_,q2,by dsimp only at*;omega,λh=>⟨by dsimp only at*;omega,q4 h⟩⟩;simp only[bC,g,d,X,q1,nf,jl,jf,jt,aa,l,D,A,p1,aaS,nM,aaT,zM,aU,bG,AV.cH,AV.C,JV.av,a96,splice,EVX,seval]
 by_cases h3:k=3
 ·subst h3;by_cases g:8192<=b;·refine⟨JV.aa,5,⟨pl,3,a,du,n,t,i,b,f⟩,?_,p,aG1 _,λh=>absurd h (by decide)⟩;dsimp only[RV.o,RV.B];rw[c];simp only[bC,g,l,u,aU,bG,dO,AV.cH,AV.C,JV.av,JV.ba,splice,EVX,seval]
  ·have d:IntKind.i64.wrap (b+1)=b+1:=wrE (by omega);by_cases X:12<=f;·refine⟨JV.aa,8,⟨pl,3,a,du,n,t,i,b+1,f⟩,?_,p,by dsimp only;omega,λh=>absurd h (by decide)⟩;simp only[bC,g,d,X,l,D,A,nM,zM,v,aU,bG,dO,AV.cH,AV.C,JV.av,JV.ba,splice,EVX,seval]
   ·obtain⟨j,e,r2,q1,q2,q3,q4⟩:=hL (by omega) ⟨pl,3,a,du,n,t,i,b+1,IntKind.i64.wrap (f+1)⟩ (O.set o (RV.o s ⟨pl,3,a,du,n,t,i,b+1,IntKind.i64.wrap (f+1)⟩)++[kG,kG]) o (Z _ rfl _ rfl) (A _ _) p (by dsimp only;omega) (by dsimp only;omega) (by dsimp only;omega);rw[p1]at q1;obtain⟨R,k2,a2,z2,n2,t2,F,H,K⟩:=r2;dsimp only[RV.o,RV.B,kG]at q1 q2 q3 q4;have nf:=λY co=>j.af.nf Y co;have jl:=JV.dt j;have jf:=JV.C j;have jt:j.B.take 5=j.B:=a95 (by rw[JV.dt];exact a06 _);have je:5<=z j.B:=by rw[JV.dt];exact a06 _
    refine⟨j,e,⟨R,k2,a2,z2,n2,t2,F,H,IntKind.i64.wrap (K-1)⟩,?_,q2,by dsimp only at*;omega,λh=>⟨by dsimp only at*;omega,q4 h⟩⟩;simp only[bC,g,d,X,q1,nf,jl,jf,jt,aa,l,D,A,p1,aaS,nM,aaT,zM,aU,bG,AV.cH,AV.C,JV.av,a96,splice,EVX,seval]
 have n7:(k==7)=eF:=by simpa using h7
 have n8:(k==8)=eF:=by simpa using h8
 have n9:(k==9)=eF:=by simpa using h9
 have ab:(k==10)=eF:=by simpa using W
 have n1:(k==1)=eF:=by simpa using h1
 have n3:(k==3)=eF:=by simpa using h3
 refine⟨JV.aa,e1,⟨pl,k,a,du,n,t,i,b,f⟩,?_,p,aG1 _,λh=>absurd h we⟩;dsimp only[RV.o,RV.B];rw[c];simp only[bC,n7,n8,n9,ab,n1,n3,w,l,u,aU,bG,dO,AV.cH,AV.C,JV.av,JV.ba,splice,EVX,seval]
end Go.Ev
