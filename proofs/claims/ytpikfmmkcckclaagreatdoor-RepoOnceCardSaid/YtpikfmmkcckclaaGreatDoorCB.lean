/- Code. No conditions. -/
import Derived.Test.YtpikfmmkcckclaaGreatDoorCA
import Derived.Test.YtpikfmmkcckclaaGreatDoorEB
import Derived.Test.YtpikfmmkcckclaaGreatDoorEC
import Derived.Test.YtpikfmmkcckclaaGreatDoorProg
set_option linter.unusedVariables false
set_option linter.unusedSimpArgs false
set_option linter.defProp false
namespace Go.Ev
def Ms.single{V:Val}{t:Sh}{v:AV}(h:Ms V [t] [v]):M V t v:=by
 generalize hl:[v]=w at h;cases h with
 |one _ _ x b h1 h2 h3=>cases hl;exact h2
 |jv _ j b hb=>
  have:=congrArg List.length hl;rw[a04,j.len]at this;simp at this;omega
 |jg _ _ _ j b hj hb=>
  have:=congrArg List.length hl;rw[a04,j.len]at this;simp at this;omega
section
variable{C:Ctx}{X:Cfg}{PK:PkI}{O0:Frm}{V:Vo}{A:Ab}{E:As}{Y:St}
structure Op(V:Vo)(A:Ab)(V':Vo)(A':Ab):Prop where
 le:V.toVal.le V'.toVal
 own:V'.own=V.own
 ρ:V'.ρ=V.ρ
 wr:A'.wr=A.wr
 ls:A'.ls=A.ls
 env:A'.env=A.env
 heap:A'.heap=A.heap
def Op.refl:Op V A V A:=⟨.rfl,rfl,rfl,rfl,rfl,rfl,rfl⟩
def Op.trans{V' V'':Vo}{A' A'':Ab}(h:Op V A V' A')(k:Op V' A' V'' A''):Op V A V'' A'':=⟨h.le.trans k.le,k.own.trans h.own,k.ρ.trans h.ρ,k.wr.trans h.wr,k.ls.trans h.ls,k.env.trans h.env,k.heap.trans h.heap⟩
def Op.ch{V':Vo}{A':Ab}(h:Op V A V' A'):Ch V A Y V' A' Y:=
 ⟨h.le,fun k hk=>by rw[h.wr];exact hk,h.ls,h.env,fun k l hk _=>⟨by rw[h.heap];exact hk,by rw[h.own],fun _ _ _ _=>rfl⟩⟩
def Gs(h:G PK O0 V A E Y){l:List Sh}{v:LA}(hl:Ms V.toVal l v):∃V':Vo,Op V A V' (opened A l).2/\G PK O0 V' (opened A l).2 E Y/\Ms V'.toVal (opened A l).1 v:=by
 obtain⟨V',h1,h2,h3,h4,h5⟩:=Z5 h hl;exact⟨V',⟨h1,h2,h3,rfl,rfl,rfl,rfl⟩,h4,h5⟩
def adr(h:G PK O0 V A E Y){s:Sh}{v:AV}(hm:M V.toVal s v):∃V':Vo,Op V A V' (adq A s).2/\G PK O0 V' (adq A s).2 E Y/\M V'.toVal (adq A s).1 v:=by
 have one:∀s:Sh,M V.toVal s v->∃V':Vo,Op V A V' (if s.one then(match opened A [s]with|([t],A)=>(t,A)|_=>(s,A))else(s,A)).2/\G PK O0 V' (if s.one then(match opened A [s]with|([t],A)=>(t,A)|_=>(s,A))else(s,A)).2 E Y/\M V'.toVal (if s.one then(match opened A [s]with|([t],A)=>(t,A)|_=>(s,A))else(s,A)).1 v:=by
  intro s hm;cases ho:s.one with
  |false=>exact⟨V,.refl,h,hm⟩
  |true=>
   simp only[if_true];obtain⟨V',h1,h2,h3⟩:=Gs h (Ms.one s [] v [] ho hm .nil);revert h1 h2 h3;generalize opened A [s]=q;obtain⟨t,A'⟩:=q;intro h1 h2 h3;rcases t with _|⟨t,_|⟨t',l⟩⟩
   ·exact⟨V,.refl,h,hm⟩
   ·exact⟨V',h1,h2,Ms.single h3⟩
   ·exact⟨V,.refl,h,hm⟩
 cases s with
 |agg l=>
  obtain⟨w,rfl,hw⟩:=anY hm;obtain⟨V',h1,h2,h3⟩:=Gs h hw;exact⟨V',h1,h2,.agg _ _ h3⟩
 |jv=>
  obtain⟨w,rfl,hw⟩:=arU hm;obtain⟨V',h1,h2,h3⟩:=Gs h hw;exact⟨V',h1,h2,OL h3⟩
 |_=>exact one _ hm
def Gq:∀{l:List Sh} {w:LA} {V:Vo} {A:Ab},G PK O0 V A E Y->Mt V.toVal l w->∃V':Vo,Op V A V' (Gp A l).2/\G PK O0 V' (Gp A l).2 E Y/\Mt V'.toVal (Gp A l).1 w
 |[],_,V,A,h,.nil=>⟨V,.refl,h,.nil⟩
 |s::l,_,V,A,h,.cons _ _ v b h1 h2=>by
  obtain⟨V1,o1,g1,m1⟩:=adr h h1;obtain⟨V2,o2,g2,m2⟩:=Gq g1 (Mt.mono o1.le h2);exact⟨V2,o1.trans o2,g2,.cons _ _ _ _ (m1.mono o2.le) m2⟩
def Xz(h:G PK O0 V A E Y){s:Sh}{v:AV}(hm:M V.toVal s v):∃V':Vo,Op V A V' (Gn A s).2/\G PK O0 V' (Gn A s).2 E Y/\M V'.toVal (Gn A s).1 v:=by
 cases s with
 |tup l=>
  obtain⟨w,rfl,hw⟩:=ajR hm;obtain⟨V',h1,h2,h3⟩:=Gq h hw;exact⟨V',h1,h2,.tup _ _ h3⟩
 |_=>exact adr h hm
theorem ai7{O:St}{r:LA->Option (LA×List Nat)}{v:AV}{o f:Nat}{fs:List Nat}(h:asb O r v=some (.ref o f,fs)):v=.ref o f:=by
 cases v<;>simp only[asb]at h<;>(first|(cases h;done)|skip)
 all_goals (repeat' split at h)<;>cases h
 all_goals rfl
def acU{O O1:St}{azs as':LA}{o f:Nat}(h:hand false azs O=some (.ref o f::as',O1)):∃bs,azs=.ref o f::bs:=by
 have h:(match df O 12 azs with|some (l,fs)=>some (l,freeze O fs)|none=>none)=some (.ref o f::as',O1):=h
 rw[show df O 12 azs=aT O (df O 11) azs from rfl]at h;cases azs with
 |nil=>cases h
 |cons a bs=>
  grind [aT,ai7]
def G.pk_new (h:G PK O0 V A E Y) {L:St} {o:Nat} {ms:List Nat} (hok:Ok (Y++L)) (hr:∀i∈o::ms,Y.length<=i/\i<(Y++L).length) (hp:PK.ok (Y++L) o ms):
  ∃V':Vo,Ch V A Y V' (A.push .pk) (Y++L)/\G PK O0 V' (A.push .pk) E (Y++L)/\M V'.toVal (.pk A.heap.length) (.ref o 0):=by
 have hle:V.toVal.le (⟨⟨V.ν,V.ρ++[some o]⟩,V.own++[o::ms]⟩:Vo).toVal:=⟨fun i a ha=>ha,fun i a ha=>by
  grind⟩
 have hρ:(V.ρ++[some o])[A.heap.length]?=some (some o):=by rw[<-h.lρ];simp
 have hown:(V.own++[o::ms])[A.heap.length]?=some (o::ms):=by rw[<-h.lo];simp
 have hoo:∀(k:Nat) a,(V.own++[o::ms])[k]?=some a->V.own[k]?=some a\/k=A.heap.length/\a=o::ms:=fun k a ha=>by
  grind [G]
 have hold:∀(i:Nat),i<Y.length->(Y++L)[i]?=Y[i]?:=fun i hi=>av1 hi;have hlen:Y.length<=(Y++L).length:=by simp
 refine⟨⟨⟨V.ν,V.ρ++[some o]⟩,V.own++[o::ms]⟩,⟨hle,fun _ hk=>hk,rfl,rfl,fun k l hk _=>?_⟩,⟨fun t s ht=>(h.env t s ht).mono hle,h.lν,by simp[h.lρ,Ab.push],by simp[h.lo,Ab.push],h.zero,fun f hf=>(h.facts f hf).mono hle,fun k z hk=>?_,fun k k' a b hkk ha hb i hi hi'=>?_,fun k a ha i hi=>?_,fun k o' hk=>?_,?_,hok⟩,.pk _ _ hρ⟩
 ·have hlt:k<A.heap.length:=(a00.mp hk).1;refine⟨?_,?_,fun _ o' _ ho'=>hold o' (h.rng k _ ho' o' (by simp)).2⟩
  ·show(A.heap++[.pk])[k]?=_
   grind
  grind
 ·have hk:(A.heap++[.pk])[k]?=some z:=hk;rw[ax2]at hk;split at hk
  ·rename_i hlt;refine HM.mono (V:=V) (Y:=Y) hle ?_ (fun a ha i hi=>hold i (h.rng k a ha i hi).2) (fun i hi _=>hold i (ax8 hi h.len)) (h.heap k z hk)
   grind
  ·rename_i hge;have:=(a00.mp hk).1;simp at this;have hk0:k=A.heap.length:=by omega
   subst hk0;simp at hk;subst hk;exact⟨o,ms,hρ,hown,hp⟩
 ·rcases hoo k a ha with ha|⟨rfl,rfl⟩<;>rcases hoo k' b hb with hb|⟨rfl,rfl⟩
  ·exact h.dis k k' a b hkk ha hb i hi hi'
  ·grind [G]
  ·grind [G]
  ·exact hkk rfl
 ·grind [G]
 ·have hk:(V.ρ++[some o])[k]?=some (some o'):=hk;rw[ax2]at hk
  grind [G,Val.le]
 grind [G]
def G.pk_upd (h:G PK O0 V A E Y) {k o:Nat} {ms:List Nat} {Y':St} (hh:A.heap[k]?=some .pk) (ho:V.ρ[k]?=some (some o)) (hw:V.own[k]?=some (o::ms)) (hok:Ok Y') (hl:Y'.length=Y.length) (hr:∀i,i∉o::ms->Y'[i]?=Y[i]?) (hp:PK.ok Y' o ms):
  Ch V A Y V {A with wr:=k::A.wr} Y'/\G PK O0 V {A with wr:=k::A.wr} E Y':=by
 have hge:∀i∈o::ms,i<O0.length->i∉O0.w->False:=fun i hi h1 h2=>by
  grind [G]
 refine⟨⟨.rfl,fun j hj=>by simp[hj],rfl,rfl,fun j x hj hjw=>⟨hj,rfl,fun l o' hx ho'=>hr o' fun hm=>?_⟩⟩,⟨h.env,h.lν,h.lρ,h.lo,h.zero,h.facts,fun j z hj=>?_,h.dis,fun j a ha i hi=>by rw[hl];exact h.rng j a ha i hi,fun j o' hj=>by rw[hl];exact h.ρl j o' hj,?_,hok⟩⟩
 ·grind [G]
 ·by_cases hkj:k=j
  ·subst hkj;rw[hh]at hj;cases hj;exact⟨o,ms,ho,hw,hp⟩
  ·refine HM.mono (V:=V) (Y:=Y) .rfl rfl (fun a ha i hi=>hr i fun hm=>h.dis k j _ _ hkj hw ha i hm hi) (fun i hi hw'=>hr i fun hm=>hge i hm hi hw') (h.heap j z hj)
 grind [G]
def QY{F:Frm}:∀{m:List Bool} {H:List HO} {k0:Nat} {V:Vo} {A:Ab},G PK F V A E Y->(∀(j:Nat) h,H[j]?=some h->HM PK V F Y (k0+j) h)->∃V':Vo,Op V A V' (iK A m H).2/\G PK F V' (iK A m H).2 E Y/\(iK A m H).1.length=H.length/\∀(j:Nat) h,(iK A m H).1[j]?=some h->HM PK V' F Y (k0+j) h
 |m,[],k0,V,A,g,_=>by
  have he:iK A m []=([],A):=by cases m<;>simp[iK]
  rw[he];exact⟨V,.refl,g,rfl,fun j h hj=>by simp at hj⟩
 |[],x::H,k0,V,A,g,hH=>by
  have he:iK A [] (x::H)=(x::H,A):=by simp[iK]
  rw[he];exact⟨V,.refl,g,rfl,hH⟩
 |b::m,x::H,k0,V,A,g,hH=>by
  have hx:=hH 0 x rfl;have hrest:∀(j:Nat) h,H[j]?=some h->HM PK V F Y (k0+1+j) h:=fun j h hj=>by
   have:=hH (j+1) h (by simpa using hj)
   grind
  have keep:iK A (b::m) (x::H)=(x::(iK A m H).1,(iK A m H).2)->∃V':Vo,Op V A V' (iK A (b::m) (x::H)).2/\G PK F V' (iK A (b::m) (x::H)).2 E Y/\(iK A (b::m) (x::H)).1.length=(x::H).length/\∀(j:Nat) h,(iK A (b::m) (x::H)).1[j]?=some h->HM PK V' F Y (k0+j) h:=fun he=>by
   obtain⟨V',o1,g1,l1,m1⟩:=QY (m:=m) (k0:=k0+1) g hrest;rw[he];refine⟨V',o1,g1,by simp[l1],fun j h hj=>?_⟩
   cases j with
   |zero=>
    simp at hj;subst hj;exact HM.mono (V:=V) (Y:=Y) o1.le (by rw[o1.own]) (fun _ _ _ _=>rfl) (fun _ _ _=>rfl) hx
   |succ j=>
    grind
  cases b with
  |false=>exact keep (by simp[iK])
  |true=>
   cases x with
   |cells l=>
    obtain⟨o,cs,q1,q2,q3,q4⟩:=hx;obtain⟨V1,o1,g1,m1⟩:=Gs g q4;obtain⟨V2,o2,g2,l2,m2⟩:=QY (m:=m) (k0:=k0+1) g1 (fun j h hj=>HM.mono (V:=V) (Y:=Y) o1.le (by rw[o1.own]) (fun _ _ _ _=>rfl) (fun _ _ _=>rfl) (hrest j h hj))
    refine⟨V2,o1.trans o2,g2,by simp[iK,l2],fun j h hj=>?_⟩
    cases j with
    |zero=>
     simp only[iK,aA7,a05]at hj;subst hj;exact⟨o,cs,o2.le.ρ _ _ (o1.le.ρ _ _ q1),by rw[o2.own,o1.own];exact q2,q3,m1.mono o2.le⟩
    |succ j=>
     grind [iK]
   |ro l=>exact keep rfl
   |arr a e=>exact keep rfl
   |arrm a e=>exact keep rfl
   |map v=>exact keep rfl
   |pk=>exact keep rfl
   |dead=>exact keep rfl
def OM:∀{m:List Bool} {H:List HO} {A:Ab} {k:Nat},m[k]?≠some true->(iK A m H).1[k]?=H[k]?
 |m,[],A,k,_=>by cases m<;>simp[iK]
 |[],x::H,A,k,_=>by simp[iK]
 |b::m,x::H,A,0,h=>by
  cases b with
  |true=>simp at h
  |false=>simp[iK]
 |b::m,x::H,A,k+1,h=>by
  cases b with
  |false=>simp only[iK,ax0];exact OM h
  |true=>
   cases x<;>(simp only[iK,ax0];exact OM h)
def G.heapset{F:Frm}(h:G PK F V A E Y){H:List HO}(hl:H.length=A.heap.length)(hH:∀(k:Nat) x,H[k]?=some x->HM PK V F Y k x):G PK F V {A with heap:=H} E Y:=
 ⟨h.env,h.lν,by rw[hl];exact h.lρ,by rw[hl];exact h.lo,h.zero,h.facts,hH,h.dis,h.rng,h.ρl,h.base,h.ok⟩
theorem JO:∀(H l:List HO),(zU H l).length=l.length
 |[],l=>rfl
 |h::H,[]=>rfl
 |h::H,x::l=>by simp[zU,JO H l]
def abz:∀{H l:List HO} {k:Nat} {z:HO},(zU H l)[k]?=some z->(∃h,H[k]?=some h/\jJ h=false/\z=h)\/(l[k]?=some z/\∀h,H[k]?=some h->jJ h=true)
 |[],l,k,z,hz=>.inr ⟨hz,fun h hh=>by simp at hh⟩
 |h::H,[],k,z,hz=>by simp[zU]at hz
 |h::H,x::l,0,z,hz=>by
  simp only[zU,aA7,a05]at hz
  grind
 |h::H,x::l,k+1,z,hz=>by
  simp only[zU,ax0]at hz;have:=abz hz;simpa using this
def abj:∀{H:List HO} {j k:Nat} {h:HO},H[k]?=some h->jJ h=false->j+k∈ixs j H
 |[],_,_,_,hh,_=>by simp at hh
 |h0::H,j,0,h,hh,hd=>by
  grind [ixs]
 |h0::H,j,k+1,h,hh,hd=>by
  have:=abj (j:=j+1) (by simpa using hh) hd
  grind [ixs]
theorem HM.into{V W:Vo}{F:Frm}(hle:W.toVal.le V.toVal){k:Nat}(ho:V.own[k]?=W.own[k]?){Y:St}{x:HO}(h:HM PK W F Y k x):HM PK V F Y k x:=HM.mono hle ho (fun _ _ _ _=>rfl) (fun _ _ _=>rfl) h
def G.chg_upd (h:G PK O0 V A E Y) {H:List HO} {W:Vo} (hs:H.length<=A.heap.length) (hν:W.ν=νθ V.toVal [(0,0)]) (hρ:W.ρ=ρθ V.toVal (List.range H.length)) (hown:W.own=YD V (List.range H.length) H) {Y':St} (hok:Ok Y') (hl:Y'.length=Y.length) (hr:∀i,(∀(k:Nat) a,W.own[k]?=some a->i∉a)->Y'[i]?=Y[i]?) (hh:∀(k:Nat) h,H[k]?=some h->HM PK W O0 Y' k h):
  W.toVal.le V.toVal/\Ch V A Y V {A with heap:=zU H A.heap,wr:=ixs 0 H++A.wr} Y'/\G PK O0 V {A with heap:=zU H A.heap,wr:=ixs 0 H++A.wr} E Y':=by
 have hrl:(List.range H.length).length=H.length:=by simp
 have hW:∀(k:Nat) a,W.own[k]?=some a->a=[]\/V.own[k]?=some a/\∃x,H[k]?=some x/\jJ x=false:=fun k a ha=>by
  rw[hown]at ha;have hk:k<H.length:=by
   have:=(a00.mp ha).1;rwa[Ri hrl]at this
  rw[Rh (List.getElem?_range hk) (a02 hk)]at ha
  grind
 have hWo:∀(k:Nat) x,H[k]?=some x->jJ x=false->k<V.own.length->V.own[k]?=W.own[k]?:=fun k x hx hd hk=>by
  have hk':=(a00.mp hx).1;rw[hown,Rh (List.getElem?_range hk') hx,hd,a02 hk];rfl
 have hle:W.toVal.le V.toVal:=by
  refine⟨fun i a ha=>?_,fun i a ha=>?_⟩
  ·grind [νθ,h.zero]
  ·rw[hρ]at ha;have hi:i<H.length:=by
    grind [ρθ]
   unfold ρθ at ha
   grind [G]
 have hun:∀(k:Nat) a,V.own[k]?=some a->(∀x,H[k]?=some x->jJ x=true)->∀i∈a,Y'[i]?=Y[i]?:=fun k a ha hd i hi=>hr i fun k' b hb hib=>by
  grind [G]
 have hfr:∀i,i<O0.length->i∉O0.w->Y'[i]?=Y[i]?:=fun i hi hiw=>hr i fun k' b hb hib=>by
  grind [G]
 refine⟨hle,⟨.rfl,fun k hk=>az9 _ hk,rfl,rfl,fun k x hk hkw=>?_⟩,⟨h.env,h.lν,by simp[JO,h.lρ],by simp[JO,h.lo],h.zero,h.facts,fun k z hk=>?_,h.dis,fun k a ha i hi=>by rw[hl];exact h.rng k a ha i hi,fun k o ho=>by rw[hl];exact h.ρl k o ho,⟨by rw[hl];exact h.len,fun i hi hiw=>by grind [G]⟩,hok⟩⟩
 ·have hdead:∀y,H[k]?=some y->jJ y=true:=fun y hy=>by
   cases hd:jJ y with
   |true=>rfl
   |false=>exact absurd (ax6 _ (by have:=abj (j:=0) hy hd;rwa[av2]at this)) hkw
  refine⟨?_,rfl,fun l o hx ho=>hun k _ ho hdead o (by simp)⟩
  cases hz:(zU H A.heap)[k]? with
  |none=>
   grind [JO]
  |some z=>
   rcases abz hz with⟨y,hy,hyd,rfl⟩|⟨hy,_⟩
   ·rw[hdead _ hy]at hyd;cases hyd
   grind
 ·have hk:(zU H A.heap)[k]?=some z:=hk;have hklt:k<V.own.length:=by
   rw[h.lo,<-JO H A.heap]
   grind
  rcases abz hk with⟨y,hy,hyd,rfl⟩|⟨hy,hdead⟩
  ·grind [HM.into]
  ·exact HM.mono (V:=V) (Y:=Y) .rfl rfl (fun a ha i hi=>hun k a ha hdead i hi) hfr (h.heap k z hy)
def alY(h:G PK O0 V A E Y){f:FuncId}{m:Sm}(hs:gu C PK f m){ss ss':List Sh}{azs:LA}(hm:Mt V.toVal ss azs)(hh:IA A.heap ss=some ss'){s:Sh}{A':Ab}(hu:Yk A ss' m=some (s,A')):Res PK O0 V A E Y (ai C f azs Y) s A':=by
 obtain⟨as',Y1,e1,e2,g1,c1⟩:=agq h hm hh;have fin:∀{r:Option (AV×St)} {v:AV} {res:Sh},r=some (v,Y1)->M V0 res v->Res PK O0 V A E Y r (Gn A res).1 (Gn A res).2:=fun{r v res} hr hv=>by
  obtain⟨V',o1,o2,o3⟩:=Xz g1 (hv.mono (YR h.zero));exact⟨v,Y1,V',hr,c1.trans o1.ch,o2,o3⟩
 cases m with
 |pure args res=>
  simp only[Yk]at hu;split at hu
  ·rename_i hsub;obtain⟨v,hv,hmv⟩:=hs Y azs as' Y1 h.ok e1 g1.ok (RI (Sb.into h.zero h.facts) e2 hsub)
   grind
  ·cases hu
 |ro l args res=>
  simp only[Yk]at hu;split at hu
  ·rename_i k ss2;obtain⟨v',as2,rfl⟩:∃v' as2,as'=v'::as2:=by cases e2;exact⟨_,_,rfl⟩
   cases e2 with
   |cons _ _ _ _ m1 m2=>
    obtain⟨o,ho,rfl⟩:=QJ m1;obtain⟨bs,rfl⟩:=acU e1;have key:∀(l':List Sh) (cs:LA) (fz:Fz),Y1[o]?=some (.cells cs fz)->Ms V.toVal l' cs->(if subs A.facts [] [] l l'&&O6 A.facts [] [] args ss2 then some (Gn A res)else none)=some (s,A')->Res PK O0 V A E Y (ai C f (.ref o 0::bs) Y) s A':=by
     intro l' cs fz hcs hms hu;split at hu
     ·rename_i hsub;rw[a01]at hsub;obtain⟨v,hv,hmv⟩:=hs Y o bs as2 Y1 cs fz h.ok e1 g1.ok hcs (Dh (Sb.into h.zero h.facts) hms hsub.1) (RI (Sb.into h.zero h.facts) m2 hsub.2)
      grind
     ·cases hu
    split at hu
    ·rename_i l' hl';obtain⟨o',cs,fz,h1,h2,h3,h4,h5⟩:=g1.heap _ _ hl'
     grind
    ·rename_i l' hl';obtain⟨o',cs,h1,h2,h4,h5⟩:=g1.heap _ _ hl'
     grind
    ·cases hu
  ·cases hu
 |pof args=>
  simp only[Yk]at hu;split at hu
  ·rename_i hsub;cases hu;obtain⟨L,o,ms,hv,hok,hr,hp⟩:=hs Y azs as' Y1 h.ok e1 g1.ok (RI (Sb.into h.zero h.facts) e2 hsub);obtain⟨V',o1,o2,o3⟩:=g1.pk_new hok hr hp;exact⟨_,_,V',hv,c1.trans o1,o2,o3⟩
  ·cases hu
 |pk args res=>
  simp only[Yk]at hu;split at hu
  ·rename_i k ss2;split at hu
   ·rename_i hsub;obtain⟨v',as2,rfl⟩:∃v' as2,as'=v'::as2:=by cases e2;exact⟨_,_,rfl⟩
    cases e2 with
    |cons _ _ _ _ m1 m2=>
     simp only[a01]at hsub;obtain⟨o,ho,rfl⟩:=aqO m1;obtain⟨bs,rfl⟩:=acU e1;have hpk:A.heap[k]?=some .pk:=by
      cases hq:A.heap[k]? with
      |none=>rw[hq]at hsub;cases hsub.1
      |some y=>rw[hq]at hsub;cases y<;>first|rfl|cases hsub.1
     obtain⟨o',ms,h1,h2,h3⟩:=g1.heap _ _ hpk;rw[ho]at h1;cases h1;obtain⟨v,Y2,hv,hmv,hok,hlen,hr,hp⟩:=hs Y o ms bs as2 Y1 h.ok e1 g1.ok h3 (RI (Sb.into h.zero h.facts) m2 hsub.2);obtain⟨c2,g2⟩:=g1.pk_upd hpk ho h2 hok hlen hr hp;obtain⟨V',o1,o2,o3⟩:=Xz g2 (hmv.mono (YR h.zero));cases hq:Gn {A with wr:=k::A.wr} res
     rw[hq]at hu o1 o2 o3;cases hu;exact⟨v,Y2,V',hv,c1.trans (c2.trans o1.ch),o2,o3⟩
   ·cases hu
  ·cases hu
 |chg H args res=>
  simp only[Yk]at hu;split at hu
  ·rename_i hsub;simp only[a01,decide_eq_true_eq]at hsub;obtain⟨W,gW,w1,w2,w3,_⟩:=Fq g1 hsub.1.2;have hsb:Sb A.facts [] (List.range H.length) V.toVal W.toVal:=⟨h.zero,h.facts,fun j i c ho=>by simp[yX]at ho,fun k k' o ho hk'=>by
    cases hp:(List.range H.length)[k]? with
    |none=>rw[hp]at ho;cases ho
    |some q=>
     rw[hp]at ho;simp only[eqO,beq_iff_eq]at ho;subst ho;rw[w2];unfold ρθ
     grind⟩
   obtain⟨v,Y2,hv,hmv,hok,hlen,hr,hp⟩:=hs Y azs as' Y1 h.ok e1 g1.ok O0 W E gW (RI hsb e2 hsub.2);obtain⟨_,c2,g2⟩:=g1.chg_upd hsub.1.1 w1 w2 w3 hok hlen hr hp;obtain⟨V1,o1,g3,l3,m3⟩:=QY (m:=H.map fun h=>!jJ h) (k0:=0) g2 (H:=zU H A.heap) (fun j x hj=>by rw[av2];exact g2.heap j x hj)
   have g4:=g3.heapset (H:=(iK {A with heap:=zU H A.heap,wr:=ixs 0 H++A.wr} (H.map fun h=>!jJ h) (zU H A.heap)).1) (by rw[l3,o1.heap]) (fun k x hk=>by grind)
   have c3:Ch V {A with heap:=zU H A.heap,wr:=ixs 0 H++A.wr} Y2 V1 {(iK {A with heap:=zU H A.heap,wr:=ixs 0 H++A.wr} (H.map fun h=>!jJ h) (zU H A.heap)).2 with heap:=(iK {A with heap:=zU H A.heap,wr:=ixs 0 H++A.wr} (H.map fun h=>!jJ h) (zU H A.heap)).1} Y2:=by
    refine⟨o1.le,fun k hk=>by show k∈(iK _ _ _).2.wr;rw[o1.wr];exact hk,o1.ls,o1.env,fun k x hk hw=>⟨?_,by rw[o1.own],fun _ _ _ _=>rfl⟩⟩
    have hw:k∉(iK {A with heap:=zU H A.heap,wr:=ixs 0 H++A.wr} (H.map fun h=>!jJ h) (zU H A.heap)).2.wr:=hw;rw[o1.wr]at hw;refine(OM fun hm=>hw ?_).trans hk;rw[ax5]at hm;cases hy:H[k]? with
    |none=>rw[hy]at hm;cases hm
    |some y=>
     rw[hy]at hm;simp only[au8,a05,aA8]at hm;exact ax6 _ (by have:=abj (j:=0) hy hm;rwa[av2]at this)
   obtain⟨V',o4,o5,o6⟩:=Xz g4 ((hmv.mono (YR h.zero)).mono o1.le);cases hq:Gn {(iK {A with heap:=zU H A.heap,wr:=ixs 0 H++A.wr} (H.map fun h=>!jJ h) (zU H A.heap)).2 with heap:=(iK {A with heap:=zU H A.heap,wr:=ixs 0 H++A.wr} (H.map fun h=>!jJ h) (zU H A.heap)).1} res
   rw[hq]at hu o4 o5 o6;cases hu;exact⟨v,Y2,V',hv,c1.trans (c2.trans (c3.trans o4.ch)),o5,o6⟩
  ·cases hu
def MQ(C:Ctx)(X:Cfg)(PK:PkI):Prop:=∀f m,m∈X.sm f->gu C PK f m
def aak(h:G PK O0 V A E Y){f:FuncId}{ss ss':List Sh}{azs:LA}(hm:Mt V.toVal ss azs)(hh:IA A.heap ss=some ss'){s:Sh}{A':Ab}:∀(l:List Sm),(∀m∈l,gu C PK f m)->ac6 A ss' l=some (s,A')->Res PK O0 V A E Y (ai C f azs Y) s A'
 |[],_,hu=>by cases hu
 |m::l,hs,hu=>by
  unfold ac6 at hu;split at hu
  ·rename_i r hr;cases hu;exact alY h (hs m (by simp)) hm hh hr
  ·exact aak h hm hh l (fun m hm=>hs m (by simp[hm])) hu
def acs(hs:MQ C X PK):Ew C X PK O0:=fun V A E Y f ss azs s A' h hm hc=>by
 unfold VY at hc;split at hc
 ·rename_i ss' hh;exact aak h hm hh _ (hs f) hc
 ·cases hc
end
section
variable{C:Ctx}{X:Cfg}{PK:PkI}{O0:Frm}{V:Vo}{A:Ab}{E:As}{Y:St}
theorem ZJ(h:G PK O0 V A E Y){c:XA}{b:Bool}(hb:avA C E c=.bool b):G PK O0 V (ways.kn c A b) E Y:=by
 cases c with
 |t n=>
  refine h.envle fun t s ht=>?_;simp only[la]at ht;split at ht
  ·rename_i hn;cases ht;subst hn;have:look E n=.bool b:=hb;rw[this];exact .bc b
  ·exact h.env t s ht
 |c v=>exact h
 |g n=>exact h
structure Same(A A':Ab):Prop where
 nx:A'.nx=A.nx
 heap:A'.heap=A.heap
 wr:A'.wr=A.wr
 ls:A'.ls=A.ls
theorem Same.facts(A:Ab)(fs:Fs):Same A {A with facts:=fs}:=⟨rfl,rfl,rfl,rfl⟩
theorem Same.kn{A B:Ab}(h:Same A B)(c:XA)(b:Bool):Same A (ways.kn c B b):=by
 cases c<;>exact⟨h.nx,h.heap,h.wr,h.ls⟩
def ac8(hg:F5 C X)(h:G PK O0 V A E Y){c:XA}{ws:List (Bool×Ab)}(hw:ways X A c=some ws):∃b A',(b,A')∈ws/\avA C E c=.bool b/\G PK O0 V A' E Y/\Same A A':=by
 unfold ways at hw;split at hw
 ·rename_i b hb;cases hw;exact⟨b,A,by simp,aqN (bC hg h hb),h,⟨rfl,rfl,rfl,rfl⟩⟩
 ·rename_i hb;cases hw;have hm:=bC hg h hb;obtain⟨b,he⟩:∃b,avA C E c=.bool b:=by
   grind [M]
  refine⟨b,ways.kn c A b,?_,he,ZJ h he,Same.kn ⟨rfl,rfl,rfl,rfl⟩ c b⟩;cases b<;>simp
 ·rename_i x c' y hb;cases hw;have hm:=bC hg h hb;obtain⟨p,q,hp,hq,he⟩:∃p q:Nat,V.ν[x]?=some p/\V.ν[y]?=some q/\avA C E c=.bool (decide ((p:Int)+c'<=q)):=by
   grind [M]
  by_cases hh:(p:Int)+c'<=q
  ·rw[decide_eq_true hh]at he;have h1:=h.fact (f:=(x,c',y)) ⟨p,q,hp,hq,hh⟩
   grind [ZJ,Same.kn,Same.facts]
  ·rw[decide_eq_false hh]at he;have h1:=h.fact (f:=(y,1-c',x)) ⟨q,p,hq,hp,by simp only;omega⟩
   grind [ZJ,Same.kn,Same.facts]
 ·rename_i pp x c' y hb;cases hw;have hm:=bC hg h hb;obtain⟨p,q,hp,hq,he⟩:∃p q:Nat,V.ν[x]?=some p/\V.ν[y]?=some q/\avA C E c=.bool (decide ((p:Int)+c'=q)==pp):=by
   grind [M]
  by_cases hh:(p:Int)+c'=q
  ·rw[decide_eq_true hh,show(true==pp)=pp by cases pp<;>rfl]at he
   have h1:=(h.fact (f:=(y,-c',x)) ⟨q,p,hq,hp,by simp only;omega⟩).fact (f:=(x,c',y)) ⟨p,q,hp,hq,by simp only;omega⟩
   grind [ZJ,Same.kn,Same.facts]
  ·rw[decide_eq_false hh,show(false==pp)= !pp by cases pp<;>rfl]at he
   refine⟨!pp,_,aB6 _ List.mem_cons_self,he,?_,?_⟩
   ·split
    ·rename_i hy;simp only[a01,beq_iff_eq]at hy;obtain⟨rfl,hy⟩:=hy;rw[h.zero]at hq;cases hq;have:=Ed h.zero h.facts hy h.zero hp;exact ZJ (h.fact (f:=(0,1-c',x)) ⟨0,p,h.zero,hp,by simp only;omega⟩) he
    ·exact ZJ h he
   ·split
    ·exact Same.kn (Same.facts A _) c _
    ·exact Same.kn ⟨rfl,rfl,rfl,rfl⟩ c _
 ·cases hw
def G.ptS(h:G PK O0 V A E Y){s:Sh}{v:AV}(hv:M V.toVal s v)(d:Option Nat):G PK O0 V (ptS A d s) (yA E d v) Y:=by
 cases d with
 |none=>exact h
 |some d=>exact h.put hv d
def G.sees(h:G PK O0 V A E Y)(k:List Nat):G PK O0 V (A.sees k) E Y:=⟨h.env,h.lν,h.lρ,h.lo,h.zero,h.facts,h.heap,h.dis,h.rng,h.ρl,h.base,h.ok⟩
structure Cr(V:Vo)(A:Ab)(Y:St)(V':Vo)(A':Ab)(Y':St):Prop where
 le:V.toVal.le V'.toVal
 wr:∀k∈A.wr,k∈A'.wr
 ls:∀k∈A.ls,k∈A'.ls
 c:∀k x,A.heap[k]?=some x->k∉A'.wr->A'.heap[k]?=some x/\V'.own[k]?=V.own[k]? /\∀l o,x=.cells l->V.own[k]?=some [o]->Y'[o]?=Y[o]?
def Cr.refl:Cr V A Y V A Y:=⟨.rfl,fun _ h=>h,fun _ h=>h,fun _ _ h _=>⟨h,rfl,fun _ _ _ _=>rfl⟩⟩
def Cr.trans{V' V'':Vo}{A' A'':Ab}{Y' Y'':St}(h:Cr V A Y V' A' Y')(k:Cr V' A' Y' V'' A'' Y''):Cr V A Y V'' A'' Y'':=by
 refine⟨h.le.trans k.le,fun q hq=>k.wr q (h.wr q hq),fun q hq=>k.ls q (h.ls q hq),fun q l hq hw=>?_⟩
 grind [Cr]
def Ch.cr{V':Vo}{A':Ab}{Y':St}(h:Ch V A Y V' A' Y'):Cr V A Y V' A' Y':=⟨h.le,h.wr,fun k hk=>by rw[h.ls];exact hk,h.c⟩
def Same.cr{A':Ab}(h:Same A A'):Cr V A Y V A' Y:=⟨.rfl,fun k hk=>by rw[h.wr];exact hk,fun k hk=>by rw[h.ls];exact hk,fun k l hk _=>⟨by rw[h.heap];exact hk,rfl,fun _ _ _ _=>rfl⟩⟩
def Cr.put{V':Vo}{A':Ab}{Y':St}(h:Cr V A Y V' A' Y')(d:Option Nat)(s:Sh):Cr V A Y V' (ptS A' d s) Y':=by
 cases d with
 |none=>exact h
 |some d=>exact⟨h.le,h.wr,h.ls,h.c⟩
def Cr.sees{V':Vo}{A':Ab}{Y':St}(h:Cr V A Y V' A' Y')(k:List Nat):Cr V A Y V' (A'.sees k) Y':=⟨h.le,h.wr,fun q hq=>az9 _ (h.ls q hq),h.c⟩
mutual
theorem OX:∀v:AV,same v v=true
 |.bool b=>LP b
 |.int k a=>JU k a
 |.str s=>JX s
 |.nilp=>rfl
 |.ref a b=>by simp[same]
 |.eptr a=>by rw[same];exact rH a
 |.nils=>rfl
 |.emp=>rfl
 |.sl n a=>by rw[same,rH a];simp
 |.xsl n a=>by rw[same,rH a];simp
 |.msl a b c d=>by simp[same]
 |.map a=>by simp[same]
 |.nilMap=>rfl
 |.func f a b=>by rw[same,rH a,rH b];simp
 |.nilFunc=>rfl
 |.iface t a=>by rw[same,OX a];simp
 |.nilIface=>rfl
 |.agg a=>by rw[same];exact rH a
 |.tup a=>by rw[same];exact rH a
theorem rH:∀l:LA,vO l l=true
 |[]=>rfl
 |a::l=>by rw[vO,OX a,rH l];rfl
end
end
section
variable{C:Ctx}{X:Cfg}{PK:PkI}{O0:Frm}{V:Vo}{A:Ab}{E:As}{Y:St}
def afN (hg:F5 C X) (hmt:Pn C X) (hcall:Ew C X PK O0) (h:G PK O0 V A E Y) {n:Nat} {dr:Bool} {o:XOp} {A1:Ab} (ho:aaG X n dr o A=some A1):
  ∃v Y1 V1,opR (ai C) (aB C (avA C E) n Y o.i)=some (v,Y1)/\Cr V A Y V1 A1 Y1/\G PK O0 V1 A1 (yA E o.dst v) Y1/\(dr=true->o.loose≠[]->∃ks,Bl X A o.i=some ks/\∀k∈ks,k∈A1.ls):=by
 unfold aaG at ho;split at ho
 ·rename_i s A' hi;obtain⟨v,Y1,V1,e1,e2,e3,e4⟩:=aoI hg hmt hcall h hi;split at ho
  ·split at ho
   ·rename_i ks hks;cases ho;exact⟨v,Y1,V1,e1,(e2.cr.sees ks).put _ _,(e3.sees ks).ptS e4 _,fun _ _=>⟨ks,hks,fun k hk=>by
     have:k∈(A'.sees ks).ls:=ax6 _ hk;cases o.dst<;>exact this⟩⟩
   ·cases ho
  ·rename_i hd;cases ho;refine⟨v,Y1,V1,e1,e2.cr.put _ _,e3.ptS e4 _,fun h1 h2=>?_⟩
   grind
 ·cases ho
def look_ok(hg:F5 C X)(h:G PK O0 V A E Y){n:Nat}{i:XI}{ks:List Nat}(hk:Bl X A i=some ks){v:AV}{Y1:St}(hr:opR (ai C) (aB C (avA C E) n Y i)=some (v,Y1)){z:St}(hz:∀k∈ks,∀o,V.ρ[k]?=some (some o)->z[o]?=Y[o]?):aB C (avA C E) n z i=some (.val v z):=by
 unfold Bl at hk;split at hk
 ·rename_i ag sz x;split at hk
  ·rename_i k off hx;cases hk;obtain⟨o,ho,he⟩:=QJ (bC hg h hx);rw[aB.eq_7,he]at hr⊢;dsimp only at hr⊢;rw[hz k (by simp) o ho]
   split at hr
   ·rename_i l fz hl;cases hp:pt ag sz (l.drop off)with
    |none=>rw[hp]at hr;cases hr
    |some y=>rw[hp]at hr;cases hr;rfl
   ·cases hr
  ·rename_i off l hx;cases hk;obtain⟨w,r,he,_⟩:=abe (bC hg h hx);rw[aB.eq_7,he]at hr⊢;dsimp only at hr⊢;cases hp:pt ag sz ((w++r).drop off)with
   |none=>rw[hp]at hr;cases hr
   |some y=>rw[hp]at hr;cases hr;rfl
  ·cases hk
 ·rename_i x;rw[uK]at hr⊢;have:bU z 0 (avA C E x)=bU Y 0 (avA C E x):=rfl;rw[this];split at hr
  ·cases hr;rfl
  ·cases hr
 ·rename_i x;rw[uK]at hr⊢;have:bU z 1 (avA C E x)=bU Y 1 (avA C E x):=rfl;rw[this];split at hr
  ·cases hr;rfl
  ·cases hr
 ·cases hk
theorem Ux(hg:F5 C X)(h:G PK O0 V A E Y){n:Nat}{i:XI}{s:Sh}{A':Ab}(hi:abI X n A i=some (s,A')){ks:List Nat}(hk:Bl X A i=some ks):∀k∈ks,(∃l,A.heap[k]?=some (.cells l))\/(∃l,A.heap[k]?=some (.ro l)):=by
 intro k hkk;unfold Bl at hk;split at hk
 ·rename_i ag sz x;split at hk
  ·rename_i k' off hx;cases hk;simp at hkk;subst hkk;simp only[abI,hx]at hi
   grind
  ·cases hk;simp at hkk
  ·cases hk
 ·cases hk;simp at hkk
 ·cases hk;simp at hkk
 ·cases hk
def Zl{n:Nat}{o:XOp}{E:As}{Y:St}(h:kw o E=true):sZ C (ai C) n o E Y=opR (ai C) (aB C (avA C E) n Y o.i):=by
 unfold sZ;rw[if_pos h];cases aB C (avA C E) n Y o.i with
 |none=>rfl
 |some r=>cases r<;>rfl
def acL{n:Nat}{o:XOp}{E:As}{Y:St}(h:kw o E=false):sZ C (ai C) n o E Y=some (.undef,Y):=by
 unfold sZ;rw[h];rfl
def SX{α β γ:Type}{f:α->Option β}{g:β->Option (List γ)}:∀{ws:List α} {As:List γ},ws.foldr (fun w r=>stepM (f w) g r) (some [])=some As->∀w∈ws,∃A azs,f w=some A/\g A=some azs/\∀B∈azs,B∈As
 |[],_,_,w,hw=>by simp at hw
 |w0::ws,As,h,w,hw=>by
  rw[List.foldr_cons]at h;unfold stepM at h;split at h
  ·rename_i A hA;split at h
   ·rename_i azs bs h1 h2;cases h;rcases au9.mp hw with rfl|hw
    ·grind
    ·obtain⟨A',as',e1,e2,e3⟩:=SX h2 w hw
     grind
   ·cases h
  ·cases h
def step_ok (hg:F5 C X) (hmt:Pn C X) (hcall:Ew C X PK O0) (h:G PK O0 V A E Y) {n:Nat} {dr:Bool} {o:XOp} {l:List XOp} {As:List Ab} (ho:MR X n dr (o::l) A=some As):
  ∃v Y1 V1 A1 azs,sZ C (ai C) n o E Y=some (v,Y1)/\Cr V A Y V1 A1 Y1/\G PK O0 V1 A1 (yA E o.dst v) Y1/\MR X n dr l A1=some azs/\(∀B∈azs,B∈As)/\
   (dr=true->kw o E=true->o.loose≠[]->∃ks:List Nat,(∀k∈ks,k∈A1.ls/\((∃l,A.heap[k]?=some (.cells l))\/(∃l,A.heap[k]?=some (.ro l))))/\∀z:St,(∀k∈ks,∀o:Nat,V.ρ[k]?=some (some o)->z[o]?=Y[o]?)->aB C (avA C E) n z o.i=some (.val v z)):=by
 have wanted:∀{V':Vo} {A':Ab},G PK O0 V' A' E Y->V'.ρ=V.ρ->A'.heap=A.heap->kw o E=true->∀{A1:Ab},aaG X n dr o A'=some A1->∃v Y1 V1,sZ C (ai C) n o E Y=some (v,Y1)/\Cr V' A' Y V1 A1 Y1/\G PK O0 V1 A1 (yA E o.dst v) Y1/\(dr=true->kw o E=true->o.loose≠[]->∃ks:List Nat,(∀k∈ks,k∈A1.ls/\((∃l,A.heap[k]?=some (.cells l))\/(∃l,A.heap[k]?=some (.ro l))))/\∀z:St,(∀k∈ks,∀o:Nat,V.ρ[k]?=some (some o)->z[o]?=Y[o]?)->aB C (avA C E) n z o.i=some (.val v z)):=by
  intro V' A' h' hρ hh hw A1 h1;obtain⟨v,Y1,V1,e1,e2,e3,e4⟩:=afN hg hmt hcall h' h1;refine⟨v,Y1,V1,by rw[Zl hw];exact e1,e2,e3,fun hd _ hl=>?_⟩
  obtain⟨ks,hks,hkm⟩:=e4 hd hl;have hab:∃s A2,abI X n A' o.i=some (s,A2):=by
   grind [aaG]
  obtain⟨s,A2,hi⟩:=hab;refine⟨ks,fun k hk=>⟨hkm k hk,by grind [Ux]⟩,fun z hz=>look_ok hg h' hks e1 (fun k hk o' ho'=>hz k hk o' (by rw[<-hρ];exact ho'))⟩
 have notw:∀{A':Ab},G PK O0 V A' E Y->kw o E=false->sZ C (ai C) n o E Y=some (.undef,Y)/\G PK O0 V (ptS A' o.dst .undef) (yA E o.dst .undef) Y:=fun h' hw=>⟨acL hw,h'.ptS .undef _⟩;cases hgu:o.guard with
 |none=>
  have hw:kw o E=true:=by unfold kw;rw[hgu]
  simp only[MR,hgu]at ho
  grind
 |some p=>
  obtain⟨t,b⟩:=p;have hwe:kw o E=rU b (look E t):=by unfold kw;rw[hgu]
  simp only[MR,hgu]at ho;split at ho
  ·cases ho
  ·rename_i ws hws;have:∃b' A',(b',A')∈ws/\rU b (look E t)=(b'==b)/\G PK O0 V A' E Y/\Same A A':=by
    split at hws
    ·rename_i hu;cases hws;have hm:=h.env _ _ hu;have he:look E t=.undef:=by
      revert hm;generalize look E t=v;intro hm;cases hm;rfl
     exact⟨!b,A,by simp,by rw[he];cases b<;>rfl,h,⟨rfl,rfl,rfl,rfl⟩⟩
    ·obtain⟨b',A',h1,h2,h3,h4⟩:=ac8 hg h hws;refine⟨b',A',h1,?_,h3,h4⟩;have:look E t=.bool b':=h2;rw[this];rfl
   obtain⟨b',A',hmem,hb,g',hsame⟩:=this;obtain⟨A1,azs,f1,f2,f3⟩:=SX (f:=fun w:Bool×Ab=>if w.1==b then aaG X n dr o w.2 else some (ptS w.2 o.dst .undef)) (g:=fun A=>MR X n dr l A) ho _ hmem;cases hbb:b'==b with
   |true=>
    simp only[hbb,if_true]at f1;obtain⟨v,Y1,V1,e1,e2,e3,e4⟩:=wanted g' rfl hsame.heap (by rw[hwe,hb,hbb]) f1
    exact⟨v,Y1,V1,A1,azs,e1,hsame.cr.trans e2,e3,f2,f3,e4⟩
   |false=>
    simp only[hbb,ay4,if_false,a05]at f1;subst f1;have hw:kw o E=false:=by rw[hwe,hb,hbb]
    obtain⟨e1,e2⟩:=notw g' hw;exact⟨.undef,Y,V,_,azs,e1,hsame.cr.put _ _,e2,f2,f3,fun _ hw'=>by rw[hw]at hw';cases hw'⟩
def VZ (hg:F5 C X) (hmt:Pn C X) (hcall:Ew C X PK O0) {n:Nat}:∀(l:List XOp) {V:Vo} {A:Ab} {E:As} {Y:St} {As:List Ab},G PK O0 V A E Y->MR X n false l A=some As->
  ∃A'∈As,∃V' E' Y',ase C (ai C) n l E Y=some (E',Y')/\Cr V A Y V' A' Y'/\G PK O0 V' A' E' Y'
 |[],V,A,E,Y,As,h,ho=>by
  cases ho;exact⟨A,by simp,V,E,Y,rfl,.refl,h⟩
 |o::l,V,A,E,Y,As,h,ho=>by
  obtain⟨v,Y1,V1,A1,azs,e1,c1,g1,e2,e3,e4⟩:=step_ok hg hmt hcall h ho;obtain⟨A',hA',V',E',Y',r1,c2,g2⟩:=VZ hg hmt hcall l g1 e2;refine⟨A',e3 A' hA',V',E',Y',?_,c1.trans c2,g2⟩;unfold ase;rw[e1];exact r1
structure Wn(V:Vo)(A:Ab)(Y:St)(V':Vo)(A':Ab)(Y':St)(new:List Nat):Prop where
 le:V.toVal.le V'.toVal
 c:∀k x,A.heap[k]?=some x->k∉new->A'.heap[k]?=some x/\V'.own[k]?=V.own[k]? /\∀l o,x=.cells l->V.own[k]?=some [o]->Y'[o]?=Y[o]?
def ahw (hg:F5 C X) (hmt:Pn C X) (hcall:Ew C X PK O0) (h:G PK O0 V A E Y) {n j:Nat} {o:XOp} {l:List XOp} {wt:List (Nat×Nat)} {lt:List (Nat×Nat×List Nat)} {As:List Rg} (ho:aaD X n (o::l) j (A,wt,lt)=some As):
  ∃(v:AV) (Y1:St) (V1:Vo) (A1:Ab) (new:List Nat) (ks:List Nat) (azs:List Rg),sZ C (ai C) n o E Y=some (v,Y1)/\Wn V A Y V1 A1 Y1 new/\G PK O0 V1 A1 (yA E o.dst v) Y1/\aaD X n l (j+1) (A1,new.map (fun k=>(k,j))++wt,ks.map (fun k=>(k,j,o.loose))++lt)=some azs/\(∀B∈azs,B∈As)/\
   (kw o E=true->o.loose≠[]->(∀k∈ks,(∃l,A.heap[k]?=some (.cells l))\/(∃l,A.heap[k]?=some (.ro l)))/\∀z:St,(∀k∈ks,∀o:Nat,V.ρ[k]?=some (some o)->z[o]?=Y[o]?)->aB C (avA C E) n z o.i=some (.val v z)):=by
 have wanted:∀{A':Ab} {q:Rg},G PK O0 V A' E Y->A'.heap=A.heap->kw o E=true->ajm X n j o A' wt lt=some q->∃(v:AV) (Y1:St) (V1:Vo) (A1:Ab) (new:List Nat) (ks:List Nat),q=(A1,new.map (fun k=>(k,j))++wt,ks.map (fun k=>(k,j,o.loose))++lt)/\sZ C (ai C) n o E Y=some (v,Y1)/\Wn V A Y V1 A1 Y1 new/\G PK O0 V1 A1 (yA E o.dst v) Y1/\
   (kw o E=true->o.loose≠[]->(∀k∈ks,(∃l,A.heap[k]?=some (.cells l))\/(∃l,A.heap[k]?=some (.ro l)))/\∀z:St,(∀k∈ks,∀o:Nat,V.ρ[k]?=some (some o)->z[o]?=Y[o]?)->aB C (avA C E) n z o.i=some (.val v z)):=by
  intro A' q h' hh hw hq;have h0:G PK O0 V {A' with wr:=[]} E Y:=wrA A' [] h';unfold ajm at hq;split at hq
  ·rename_i A1 h1;split at hq
   ·rename_i ks hks;cases hq;obtain⟨v,Y1,V1,e1,e2,e3,_⟩:=afN hg hmt hcall h0 h1;refine⟨v,Y1,V1,A1,A1.wr,ks,rfl,by rw[Zl hw];exact e1,⟨e2.le,fun k x hk hn=>e2.c k x (by show A'.heap[k]?=_;rw[hh];exact hk) hn⟩,e3,fun _ hl=>?_⟩
    have hks:Bl X A' o.i=some ks:=by
     grind
    have hab:∃s A2,abI X n {A' with wr:=[]} o.i=some (s,A2):=by
     grind [aaG]
    obtain⟨s,A2,hi⟩:=hab;exact⟨fun k hk=>by rw[<-hh];exact Ux hg h0 hi (ks:=ks) hks k hk,fun z hz=>look_ok hg h' hks e1 hz⟩
   ·cases hq
  ·cases hq
 cases hgu:o.guard with
 |none=>
  have hw:kw o E=true:=by unfold kw;rw[hgu]
  simp only[aaD,hgu]at ho
  grind
 |some p=>
  obtain⟨t,b⟩:=p;have hwe:kw o E=rU b (look E t):=by unfold kw;rw[hgu]
  simp only[aaD,hgu]at ho;split at ho
  ·cases ho
  ·rename_i ws hws;have:∃b' A',(b',A')∈ws/\rU b (look E t)=(b'==b)/\G PK O0 V A' E Y/\Same A A':=by
    split at hws
    ·rename_i hu;cases hws;have hm:=h.env _ _ hu;have he:look E t=.undef:=by
      revert hm;generalize look E t=v;intro hm;cases hm;rfl
     exact⟨!b,A,by simp,by rw[he];cases b<;>rfl,h,⟨rfl,rfl,rfl,rfl⟩⟩
    ·obtain⟨b',A',h1,h2,h3,h4⟩:=ac8 hg h hws;refine⟨b',A',h1,?_,h3,h4⟩;have:look E t=.bool b':=h2;rw[this];rfl
   obtain⟨b',A',hmem,hb,g',hsame⟩:=this;obtain⟨q,azs,f1,f2,f3⟩:=SX (f:=fun w:Bool×Ab=>if w.1==b then ajm X n j o w.2 wt lt else some (ptS w.2 o.dst .undef,wt,lt)) (g:=fun q=>aaD X n l (j+1) q) ho _ hmem;cases hbb:b'==b with
   |true=>
    grind [Same]
   |false=>
    simp only[hbb,ay4,if_false,a05]at f1;subst f1;have hw:kw o E=false:=by rw[hwe,hb,hbb]
    refine⟨.undef,Y,V,_,[],[],azs,acL hw,⟨.rfl,fun k x hk _=>⟨?_,rfl,fun _ _ _ _=>rfl⟩⟩,g'.ptS .undef _,f2,f3,fun hw'=>by rw[hw]at hw';cases hw'⟩
    have:(ptS A' o.dst .undef).heap=A'.heap:=by cases o.dst<;>rfl
    rw[this,hsame.heap];exact hk
def amJ{V':Vo}{A':Ab}{E':As}{Y':St}(h:G PK O0 V A E Y)(h':G PK O0 V' A' E' Y')(hle:V.toVal.le V'.toVal):A.heap.length<=A'.heap.length:=by
 rw[<-h.lρ,<-h'.lρ];by_cases hn:V.ρ.length=0
 ·omega
 ·have:=hle.ρ (V.ρ.length-1) _ (a02 (by omega))
  grind
def At(O0:Frm)(N:Nat)(V:Vo)(A:Ab)(Y:St)(wt:List (Nat×Nat))(a b:Nat)(z:St):Prop:=∀o,(o<O0.length/\o∉O0.w\/∃k l,k<N/\A.heap[k]?=some (.cells l)/\V.own[k]?=some [o]/\∀w,(k,w)∈wt->¬(a<=w/\w<b))->z[o]?=Y[o]?
def afL (hg:F5 C X) (hmt:Pn C X) (hcall:Ew C X PK O0) {n N:Nat}:∀(l:List XOp) {j:Nat} {V:Vo} {A:Ab} {E:As} {Y:St} {wt:List (Nat×Nat)} {lt:List (Nat×Nat×List Nat)} {As:List Rg},N<=A.heap.length->G PK O0 V A E Y->aaD X n l j (A,wt,lt)=some As->
  ∃p∈As,∃V' E' Y' rs ss,qH C (ai C) n l E Y=some (E',Y',rs,ss)/\V.toVal.le V'.toVal/\G PK O0 V' p.1 E' Y'/\ss.length=l.length+1/\(∀q∈wt,q∈p.2.1)/\(∀q∈lt,q∈p.2.2)/\
   (∀(d:Nat) (z:St),ss[d]?=some z->At O0 N V A Y p.2.1 j (j+d) z)/\
   ∀ps:List St,ps.length=j->(∀(c:Nat) (z:St),ps[c]?=some z->At O0 N V A Y wt c j z)->(∀o∈l,∀c∈o.loose,c+1<(ps++ss).length)->(∀q∈p.2.2,q.1<N/\∀c∈q.2.2,∀w,(q.1,w)∈p.2.1->¬(min q.2.1 c<=w/\w<max q.2.1 (c+1)))->gB C n (ps++ss) l rs=true
 |[],j,V,A,E,Y,wt,lt,As,hN,h,ho=>by
  cases ho;refine⟨_,List.mem_singleton_self _,V,E,Y,[],[Y],rfl,.rfl,h,rfl,fun q hq=>hq,fun q hq=>hq,fun d z hz=>?_,fun _ _ _ _ _=>rfl⟩;cases d with
  |zero=>simp at hz;subst hz;exact fun _ _=>rfl
  |succ d=>simp at hz
 |o::l,j,V,A,E,Y,wt,lt,As,hN,h,ho=>by
  obtain⟨v,Y1,V1,A1,new,ks,azs,e1,wn,g1,e2,e3,e4⟩:=ahw hg hmt hcall h ho;have hl1:=amJ h g1 wn.le;obtain⟨p,hp,V',E',Y',rs,ss,r1,le2,g2,r2,w1,t1,post,fin⟩:=afL hg hmt hcall l (ax7 hN hl1) g1 e2;have hpost:∀(d:Nat) (z:St),(Y::ss)[d]?=some z->At O0 N V A Y p.2.1 j (j+d) z:=fun d z hz=>by
   cases d with
   |zero=>simp at hz;subst hz;exact fun _ _=>rfl
   |succ d=>
    intro q hq;have h1:=post d z (by simpa using hz)
    rcases hq with hq|⟨k,c,k1,k2,k3,k4⟩
    ·rw[h1 q (.inl hq),g1.old hq.1 hq.2,h.old hq.1 hq.2]
    ·have hn:k∉new:=fun hn=>k4 j (w1 _ (ax6 _ (ax1.mpr ⟨k,hn,rfl⟩))) ⟨a06 _,by omega⟩
     obtain⟨c1,c2,c3⟩:=wn.c k _ k2 hn;rw[h1 q (.inr ⟨k,c,k1,c1,c2.trans k3,fun w hw hc=>k4 w hw ⟨by omega,by omega⟩⟩)]
     exact c3 c q rfl k3
  refine⟨p,e3 p hp,V',E',Y',(E,v)::rs,Y::ss,?_,wn.le.trans le2,g2,by simp[r2],fun q hq=>w1 q (az9 _ hq),fun q hq=>t1 q (az9 _ hq),hpost,fun ps hps hpre hlo hall=>?_⟩
  ·grind [qH]
  ·have hzs:ps++Y::ss=(ps++[Y])++ss:=by simp
   have hrest:=fin (ps++[Y]) (by simp[hps]) (fun c z hz=>by
    intro q hq;rw[ax2]at hz;rcases hq with hq|⟨k,cl',k1,k2,k3,k4⟩
    ·split at hz
     ·rw[hpre c z hz q (.inl hq),g1.old hq.1 hq.2,h.old hq.1 hq.2]
     grind [G]
    ·have hcj:c<=j:=by
      grind
     have hn:k∉new:=fun hn=>k4 j (ax6 _ (ax1.mpr ⟨k,hn,rfl⟩)) ⟨hcj,by omega⟩
     obtain⟨x,hx⟩:∃x,A.heap[k]?=some x:=⟨_,a02 (ax8 k1 hN)⟩;obtain⟨c1,c2,c3⟩:=wn.c k x hx hn;rw[k2]at c1;cases c1;have ho':V.own[k]?=some [q]:=c2.symm.trans k3;rw[c3 cl' q rfl ho'];split at hz
     ·exact hpre c z hz q (.inr ⟨k,cl',k1,hx,ho',fun w hw hc=>k4 w (az9 _ hw) ⟨hc.1,by omega⟩⟩)
     grind) (fun o' ho' c hc=>by grind) hall
   rw[<-hzs]at hrest;unfold gB;rw[hrest,aw7];cases hw:kw o E with
   |false=>rfl
   |true=>
    by_cases hlo0:o.loose=[]
    ·rw[hlo0];simp[mG]
    ·obtain⟨hkind,hlook⟩:=e4 hw hlo0;have key:∀c∈o.loose,∀(d:Nat) (z:St),(d=c\/d=c+1)->(ps++Y::ss)[d]?=some z->aB C (avA C E) n z o.i=some (.val v z):=fun c hc d z hd hz=>by
      refine hlook z fun k hk q hq=>?_;obtain⟨kN,hno⟩:=hall (k,j,o.loose) (t1 _ (ax6 _ (ax1.mpr ⟨k,hk,rfl⟩)));have hno:=hno c hc;dsimp only at hno;have hobj:∀(wt':List (Nat×Nat)) (a b:Nat),(∀w,(k,w)∈wt'->¬(a<=w/\w<b))->At O0 N V A Y wt' a b z->z[q]?=Y[q]?:=fun wt' a b hab hat=>by
       rcases hkind k hk with⟨l',hl'⟩|⟨l',hl'⟩
       ·obtain⟨o2,cs,q1,q2,q3,q4⟩:=h.heap _ _ hl';rw[hq]at q1;cases q1;exact hat q (.inr ⟨k,l',kN,hl',q2,hab⟩)
       ·obtain⟨o2,cs,fz,q1,q2,q3,q4⟩:=h.heap _ _ hl';rw[hq]at q1;cases q1;exact hat q (.inl q3)
      rw[ax2]at hz;split at hz
      ·grind
      grind
     have recs:∀L:List Nat,(∀c∈L,c∈o.loose)->mG C n o E v (ps++Y::ss) L=true:=by
      intro L
      induction L with
      |nil=>intro _;rfl
      |cons c L ih=>
       intro hL;have hc:=hlo o (by simp) c (hL c (by simp))
       unfold mG;rw[a02 (show c<(ps++Y::ss).length by omega),a02 hc]
       dsimp only;rw[key c (hL c (by simp)) c _ (.inl rfl) (a02 (by omega)),key c (hL c (by simp)) (c+1) _ (.inr rfl) (a02 hc)]
       grind [OX]
     grind
end
section
variable{C:Ctx}{X:Cfg}{PK:PkI}{O0:Frm}{V:Vo}{A:Ab}{E:As}{Y:St}
def abk{env:List (Nat×Sh)}{t:Nat}{s:Sh}:∀(m:List Nat),la t (m.filterMap fun t=>(la t env).map fun s=>(t,s))=some s->t∈m/\la t env=some s
 |[],h=>by cases h
 |t0::m,h=>by
  rw[List.filterMap_cons]at h;split at h
  ·obtain⟨h1,h2⟩:=abk m h;exact⟨by simp[h1],h2⟩
  ·rename_i p hp;cases hq:la t0 env with
   |none=>rw[hq]at hp;cases hp
   |some s0=>
    rw[hq]at hp;cases hp;simp only[la]at h;split at h
    ·grind
    ·obtain⟨h1,h2⟩:=abk m h;exact⟨by simp[h1],h2⟩
theorem G.keep(h:G PK O0 V A E Y)(m:List Nat):G PK O0 V (A.keep m) (keepA m E) Y:=by
 refine⟨fun t s ht=>?_,h.lν,h.lρ,h.lo,h.zero,h.facts,h.heap,h.dis,h.rng,h.ρl,h.base,h.ok⟩;obtain⟨h1,h2⟩:=abk m ht;rw[Ls m E t h1];exact h.env t s h2
def xZ:∀{o:uz} {B:Ab},(XE.normal,B)∈o->B∈C9 o
 |[],B,h0=>by simp at h0
 |(x,B')::o,B,h0=>by
  rcases au9.mp h0 with h|h
  ·cases h;exact List.mem_cons_self
  ·clear h0;cases x with
   |normal=>exact aB6 _ (xZ h)
   |exit i=>exact xZ (o:=o) h
   |ret=>exact xZ (o:=o) h
def sJ:∀{o:uz} {x:XE} {B:Ab},(x,B)∈o->x≠ .normal->(x,B)∈others o
 |[],x,B,h0,hx=>by simp at h0
 |(y,B')::o,x,B,h0,hx=>by
  rcases au9.mp h0 with h|h
  ·cases h;clear h0;cases y with
   |normal=>exact absurd rfl hx
   |exit i=>exact List.mem_cons_self
   |ret=>exact List.mem_cons_self
  ·clear h0;cases y with
   |normal=>exact sJ (o:=o) h hx
   |exit i=>exact aB6 _ (sJ h hx)
   |ret=>exact aB6 _ (sJ h hx)
def SY{a r:Option uz}{o:uz}(h:ZG a r=some o):∃x y,a=some x/\r=some y/\o=x++y:=by
 unfold ZG at h
 grind
def SC{f:Ab->Option uz}:∀{l:List Ab} {o:uz},afX f l=some o->∀B∈l,∃x,f B=some x/\∀p∈x,p∈o
 |[],_,_,B,hB=>by simp at hB
 |B0::l,o,h,B,hB=>by
  obtain⟨x,y,h1,h2,rfl⟩:=SY h;rcases au9.mp hB with rfl|hB
  ·grind
  ·obtain⟨z,h3,h4⟩:=SC h2 B hB
   grind
def Zt{α:Type}{f:α->Option uz}:∀{ws:List α} {o:uz},ws.foldr (fun w r=>ZG (f w) r) (some [])=some o->∀w∈ws,∃x,f w=some x/\∀p∈x,p∈o
 |[],_,_,w,hw=>by simp at hw
 |w0::ws,o,h,w,hw=>by
  rw[List.foldr_cons]at h;obtain⟨x,y,h1,h2,rfl⟩:=SY h;rcases au9.mp hw with rfl|hw
  ·grind
  ·obtain⟨z,h3,h4⟩:=Zt h2 w hw
   grind
def amM{n i:Nat}(h:i<n):(apf n)[i]?=some (i,0):=by
 unfold apf
 grind
theorem Ec(n h:Nat):∀(k:Nat) (l m:List HO),(Jw n h k l m).length=k
 |0,_,_=>by simp[Jw]
 |k+1,x::l,y::m=>by simp[Jw,Ec n h k l m]
 |k+1,[],m=>by simp[Jw,Ec n h k [] []]
 |k+1,x::l,[]=>by simp[Jw,Ec n h k [] []]
theorem agy(base:Ab)(lv:List Nat):∀(l:List Ab) (J:Ab),J.heap.length=base.heap.length->(l.foldl (ZF base lv) J).heap.length=base.heap.length
 |[],J,h=>h
 |B::l,J,h=>agy base lv l _ (Ec _ _ _ _ _)
theorem ae8{V:Val}{θo:List Nat}{k:Nat}(h:θo[k]?=some k)(hk:k<V.ρ.length):(ρθ V θo)[k]?=V.ρ[k]?:=by
 unfold ρθ
 grind
def agz(base:Ab)(lv:List Nat):∀(l:List Ab) (J:Ab),J.nx=base.nx->(l.foldl (ZF base lv) J).nx=base.nx
 |[],J,h=>h
 |B::l,J,h=>agz base lv l _ rfl
def aeF{nb hb:Nat}{J S:Ab}{i:Nat}(h:i<nb)(hJ:i<J.nx):(fit nb hb J S).1[i]?=some (i,0):=by
 unfold fit
 grind
theorem ajx{nb hb:Nat}{J S:Ab}{k:Nat}(h:k<hb)(hJ:k<J.heap.length):(fit nb hb J S).2[k]?=some k:=by
 unfold fit
 grind
def aeT(h:G PK O0 V A E Y){base:Ab}{lv:List Nat}{l:List Ab}(hA:A∈l):∃J∈VB base lv l,∃W:Vo,G PK O0 W J E Y/\(∀i,i<base.nx->i<A.nx->W.ν[i]?=V.ν[i]?)/\∀k,k<base.heap.length->k<A.heap.length->W.ρ[k]?=V.ρ[k]?:=by
 rcases l with _|⟨B,_|⟨B',l⟩⟩
 ·simp at hA
 ·simp at hA;subst hA;exact⟨A,by simp[VB],V,h,fun _ _ _=>rfl,fun _ _ _=>rfl⟩
 ·unfold VB;dsimp only;split
  ·rename_i hall;rw[a01]at hall;have hs:=a90.mp hall.2 A hA;obtain⟨W,g,e1,e2,_,e3⟩:=Fq h hs;refine⟨_,List.mem_singleton_self _,W,g,fun i hi hi'=>?_,fun k hk hk'=>?_⟩
   ·obtain⟨a,b,h1,h2,h3⟩:=e3 i (i,0) (amM (by rw[agz base lv (B'::l) (ZF base lv B B) rfl];exact hi))
    grind
   grind [ae8,agy,ZF,Ec,h.lρ]
  ·split
   ·rename_i hall;rw[a01,a01,decide_eq_true_eq]at hall;have hs:=a90.mp hall.2.2 A hA;obtain⟨W,g,e1,e2,_,e3⟩:=Fq h hs;refine⟨_,List.mem_singleton_self _,W,g,fun i hi hi'=>?_,fun k hk hk'=>?_⟩
    ·obtain⟨a,b,h1,h2,h3⟩:=e3 i (i,0) (aeF hi (by omega))
     grind
    grind [ae8,ajx,h.lρ]
   grind
def ak7(h:G PK O0 V A E Y){k:KC}{base:Ab}{lv:List Nat}{l:List Ab}(hA:A∈l):∃J∈ak6 k base lv l,∃W:Vo,G PK O0 W J E Y/\(∀i,i<base.nx->i<A.nx->W.ν[i]?=V.ν[i]?)/\∀k,k<base.heap.length->k<A.heap.length->W.ρ[k]?=V.ρ[k]?:=by
 unfold ak6;split
 ·grind
 ·exact aeT h hA
def Rk(PK:PkI)(O0:Frm)(V:Vo)(A:Ab)(o:uz)(r:Option (XE×As×St)):Prop:=∃x E' Y' A' V',(x,A')∈o/\r=some (x,E',Y')/\G PK O0 V' A' E' Y'/\(∀i,i<A.nx->V'.ν[i]?=V.ν[i]?)/\∀k,k<A.heap.length->V'.ρ[k]?=V.ρ[k]?
def apm{V V':Vo}(h:V.toVal.le V'.toVal)(g:G PK O0 V A E Y):∀i,i<A.nx->V'.ν[i]?=V.ν[i]?:=fun i hi=>by
 grind [Val.le,G]
def apn{V V':Vo}(h:V.toVal.le V'.toVal)(g:G PK O0 V A E Y):∀k,k<A.heap.length->V'.ρ[k]?=V.ρ[k]?:=fun i hi=>by
 grind [Val.le,G]
def ajK{V V':Vo}{A':Ab}{E':As}{Y':St}(g:G PK O0 V A E Y)(g':G PK O0 V' A' E' Y')(h:∀i,i<A.heap.length->V'.ρ[i]?=V.ρ[i]?):A.heap.length<=A'.heap.length:=by
 grind [G]
def akJ{V V':Vo}{A':Ab}{E':As}{Y':St}(g:G PK O0 V A E Y)(g':G PK O0 V' A' E' Y')(h:∀i,i<A.nx->V'.ν[i]?=V.ν[i]?):A.nx<=A'.nx:=by
 grind [G]
def amS {m:List Nat} {run:Ab->Option uz} {body:Dq} (hrun:∀(H:Ab) (o:uz),run H=some o->∀(V:Vo) (E:As) (Y:St),G PK O0 V H E Y->Rk PK O0 V H o (body E Y))
  {o':uz} (hl:aek m run A=some o') (h:G PK O0 V A E Y):Rk PK O0 V A o' (zg (fun e O=>body (keepA m e) O) E Y):=by
 unfold aek at hl;dsimp only at hl;split at hl
 ·cases hl
 ·rename_i H hH;clear hH;split at hl
  ·cases hl
  ·rename_i o ho;split at hl
   ·rename_i hc;simp only[a01,decide_eq_true_eq]at hc;obtain⟨⟨⟨⟨c1,c1'⟩,c2⟩,c3⟩,c4⟩:=hc;cases hl;have hnx:(A.keep m).nx=A.nx:=rfl;have hhl:(A.keep m).heap.length=A.heap.length:=rfl;have hmeas:∃f:Vo->Nat,∀(W V1 W':Vo) (N:Ab) (E1:As) (Y1:St),(∀i,i<H.nx->V1.ν[i]?=W.ν[i]?)->N∈(C9 o).map (·.keep m)->G PK O0 V1 N E1 Y1->(∀(i:Nat) (p:Nat×Int),(fit (A.keep m).nx (A.keep m).heap.length H N).1[i]?=some p->∃a b:Nat,V1.ν[p.1]?=some a/\W'.ν[i]?=some b/\(b:Int)=a+p.2)->(∀i,i<A.nx->W'.ν[i]?=W.ν[i]?)->f W'<f W:=by
     simp only[az0]at c4;rcases c4 with c4|c4
     ·simp_all
     ·obtain⟨x,hx,hx'⟩:=aC1.mp c4;simp only[a01,az0,decide_eq_true_eq]at hx';obtain⟨hx1,hx2⟩:=hx';have hxn:x<H.nx:=ay9.mp hx;rcases hx2 with hx2|hx2
      ·obtain⟨s,hs,hs'⟩:=aC1.mp hx2;have hsn:s<A.nx:=ay9.mp hs;refine⟨fun W=>(W.ν[s]?.getD 0)-(W.ν[x]?.getD 0),fun W V1 W' N E1 Y1 e1 hN g1 e2 e3=>?_⟩;have hne:=a90.mp hs' N hN;unfold aob at hne;split at hne
       ·rename_i i d hid;simp only[a01,beq_iff_eq,decide_eq_true_eq]at hne;obtain⟨⟨⟨rfl,hd⟩,_⟩,hle⟩:=hne;obtain⟨a,b,q1,q2,q3⟩:=e2 _ _ hid;have hVs:V1.ν[s]?=W.ν[s]?:=e1 s (by omega)
        have hVx:V1.ν[i]?=W.ν[i]?:=e1 i hxn;obtain⟨ns,hns⟩:∃ns,V1.ν[s]?=some ns:=by
         grind
        have h2:=Ed g1.zero g1.facts hle q1 hns
        grind
       ·cases hne
      ·refine⟨fun W=>W.ν[x]?.getD 0,fun W V1 W' N E1 Y1 e1 hN g1 e2 e3=>?_⟩;have hne:=a90.mp hx2 N hN;unfold lowers at hne
       grind
    obtain⟨f,hf⟩:=hmeas;have rounds:∀(μ:Nat) (W:Vo) (E:As) (Y:St),f W<μ->G PK O0 W H (keepA m E) Y->(∀i,i<A.nx->W.ν[i]?=V.ν[i]?)->(∀k,k<A.heap.length->W.ρ[k]?=V.ρ[k]?)->Rk PK O0 V A (others o) (zg (fun e O=>body (keepA m e) O) E Y):=by
     intro μ
     induction μ with
     |zero=>intro W E Y hμ;omega
     |succ μ ih=>
      intro W E Y hμ g hb hbρ;obtain⟨x,E1,Y1,A1,V1,r1,r2,r3,r4,r5⟩:=hrun H o ho W _ _ g;rw[Bv];rw[r2];cases x with
      |exit i=>exact⟨_,E1,Y1,A1,V1,sJ r1 (by simp),rfl,r3,fun i hi=>by rw[r4 i (by omega),hb i hi],fun k hk=>by rw[r5 k (by omega),hbρ k hk]⟩
      |ret=>exact⟨_,E1,Y1,A1,V1,sJ r1 (by simp),rfl,r3,fun i hi=>by rw[r4 i (by omega),hb i hi],fun k hk=>by rw[r5 k (by omega),hbρ k hk]⟩
      |normal=>
       dsimp only;have hN:A1.keep m∈(C9 o).map (·.keep m):=ax1.mpr ⟨A1,xZ r1,rfl⟩;have hsub:=a90.mp c3 _ hN;have gk:=r3.keep m;obtain⟨W',g',e1,e2,_,e3⟩:=Fq gk hsub;have hbase:∀i,i<A.nx->W'.ν[i]?=W.ν[i]?:=fun i hi=>by
        obtain⟨a,b,q1,q2,q3⟩:=e3 i (i,0) (aeF (nb:=(A.keep m).nx) hi (by omega))
        rw[q2,<-r4 i (by omega),q1]
        congr 1
        dsimp only at q3;omega
       exact ih W' E1 Y1 (by have:=hf W V1 W' _ _ _ r4 hN gk e3 hbase;omega) g' (fun i hi=>by rw[hbase i hi,hb i hi]) (fun k hk=>by rw[e2,ae8 (ajx (nb:=(A.keep m).nx) (hb:=(A.keep m).heap.length) hk (by omega)) (by grind [G]),r5 k (by omega),hbρ k hk])
    obtain⟨W,g,e1,e2,_,e3⟩:=Fq (h.keep m) c2;refine rounds (f W+1) W E Y (by omega) g (fun i hi=>?_) (fun k hk=>?_)
    ·obtain⟨a,b,q1,q2,q3⟩:=e3 i (i,0) (aeF (nb:=(A.keep m).nx) hi (by omega))
     rw[q2,q1]
     congr 1
     dsimp only at q3;omega
    grind [ae8,ajx,h.lρ]
   ·cases hl
def alW{m:List Nat}{run:Ab->Option uz}{body:Dq}(hrun:∀(H:Ab) (o:uz),run H=some o->∀(V:Vo) (E:As) (Y:St),G PK O0 V H E Y->Rk PK O0 V H o (body E Y)):∀(n:Nat) {V:Vo} {A:Ab} {E:As} {Y:St} {o':uz},afO m run n A=some o'->G PK O0 V A E Y->Rk PK O0 V A o' (zg (fun e O=>body (keepA m e) O) E Y)
 |0,V,A,E,Y,o',hu,h=>by cases hu
 |n+1,V,A,E,Y,o',hu,h=>by
  unfold afO at hu;split at hu
  ·cases hu
  ·rename_i o ho;obtain⟨a,b,h1,h2,rfl⟩:=SY hu;cases h1;obtain⟨x,E1,Y1,A1,V1,r1,r2,r3,r4,r5⟩:=hrun _ o ho V _ _ (h.keep m);rw[Bv,r2];cases x with
   |exit i=>exact⟨_,E1,Y1,A1,V1,ax6 _ (sJ r1 (by simp)),rfl,r3,r4,r5⟩
   |ret=>exact⟨_,E1,Y1,A1,V1,ax6 _ (sJ r1 (by simp)),rfl,r3,r4,r5⟩
   |normal=>
    dsimp only;obtain⟨z,hz,hsub⟩:=SC h2 A1 (xZ r1);obtain⟨x2,E2,Y2,A2,V2,s1,s2,s3,s4,s5⟩:=alW hrun n hz r3;have hA1:=akJ (h.keep m) r3 r4;have hA2:=ajK (h.keep m) r3 r5;exact⟨x2,E2,Y2,A2,V2,az9 _ (hsub _ s1),s2,s3,fun i hi=>by rw[s4 i (ax8 hi hA1),r4 i hi],fun k hk=>by rw[s5 k (ax8 hk hA2),r5 k hk]⟩
def aiM(hg:F5 C X)(hmt:Pn C X)(hcall:Ew C X PK O0){n:Nat}:∀(k:KC) (lv:List Nat) (A:Ab) (o:uz),abK X n k lv A=some o->∀(V:Vo) (E:As) (Y:St),G PK O0 V A E Y->Rk PK O0 V A o (dL C (ai C) n k E Y):=by
 intro k
 induction k with
 |skip=>intro lv A o hk V E Y h;cases hk;exact⟨.normal,E,Y,A,V,by simp,rfl,h,fun _ _=>rfl,fun _ _=>rfl⟩
 |fail=>intro lv A o hk V E Y h;cases hk
 |exit m id=>intro lv A o hk V E Y h;cases hk;exact⟨.exit id,_,Y,_,V,by simp,rfl,h.keep m,fun _ _=>rfl,fun _ _=>rfl⟩
 |ret m=>intro lv A o hk V E Y h;cases hk;exact⟨.ret,_,Y,_,V,by simp,rfl,h.keep m,fun _ _=>rfl,fun _ _=>rfl⟩
 |scope b ih=>intro lv A o hk V E Y h;exact ih lv A o hk V E Y h
 |ops l=>
  intro lv A o hk V E Y h;simp only[abK,a97]at hk;obtain⟨azs,has,rfl⟩:=hk;obtain⟨A',hA',V',E',Y',r1,c1,g1⟩:=VZ hg hmt hcall l h has;refine⟨.normal,E',Y',A',V',ax1.mpr ⟨A',hA',rfl⟩,?_,g1,apm c1.le h,apn c1.le h⟩;unfold dL;rw[r1]
 |plain l=>
  intro lv A o hk V E Y h;simp only[abK,a97]at hk;obtain⟨azs,has,rfl⟩:=hk;obtain⟨A',hA',V',E',Y',r1,c1,g1⟩:=VZ hg hmt hcall l h has;refine⟨.normal,E',Y',A',V',ax1.mpr ⟨A',hA',rfl⟩,?_,g1,apm c1.le h,apn c1.le h⟩;unfold dL;rw[r1]
 |drawn l=>
  intro lv A o hk V E Y h;simp only[abK]at hk;split at hk
  ·rename_i azs has;split at hk
   ·rename_i hc;rw[a01]at hc;cases hk;obtain⟨p,hp,V',E',Y',rs,ss,r1,le1,g1,r2,_,_,_,fin⟩:=afL (N:=A.heap.length) hg hmt hcall l (a06 _) h has;have hre:gB C n ss l rs=true:=by
     have:=fin [] rfl (fun c z hz=>by simp at hz) (fun o ho c hc'=>by
      grind) (fun q hq=>by
      have h1:=a90.mp hc.1 p hp;unfold adB at h1
      grind)
     simpa using this
    refine⟨.normal,E',Y',p.1,V',ax1.mpr ⟨p,hp,rfl⟩,?_,g1,apm le1 h,apn le1 h⟩;unfold dL sW
    grind
   ·cases hk
  ·cases hk
 |seq a b iha ihb=>
  intro lv A o hk V E Y h;simp only[abK]at hk;split at hk
  ·cases hk
  ·rename_i o1 ho1;split at hk
   ·rename_i o2 ho2;cases hk;obtain⟨x,E1,Y1,A1,V1,r1,r2,r3,r4,r5⟩:=iha _ _ _ ho1 V E Y h;cases x with
    |exit i=>
     refine⟨_,E1,Y1,A1,V1,ax6 _ (sJ r1 (by simp)),?_,r3,r4,r5⟩
     unfold dL;rw[r2]
    |ret=>
     refine⟨_,E1,Y1,A1,V1,ax6 _ (sJ r1 (by simp)),?_,r3,r4,r5⟩
     unfold dL;rw[r2]
    |normal=>
     obtain⟨J,hJ,W,gW,eW,eWρ⟩:=ak7 (k:=a) (base:=A) (lv:=Ib b++lv) r3 (xZ r1);obtain⟨oJ,hoJ,hsub⟩:=SC ho2 J hJ;have hA1:=akJ h r3 r4;have eWV:∀i,i<A.nx->W.ν[i]?=V.ν[i]?:=fun i hi=>by rw[eW i hi (by omega),r4 i hi]
     have hJn:=akJ h gW eWV;have hA1h:=ajK h r3 r5;have eWVρ:∀k,k<A.heap.length->W.ρ[k]?=V.ρ[k]?:=fun k hk=>by rw[eWρ k hk (by omega),r5 k hk]
     have hJh:=ajK h gW eWVρ;obtain⟨x2,E2,Y2,A2,V2,s1,s2,s3,s4,s5⟩:=ihb _ _ _ hoJ W E1 Y1 gW;refine⟨x2,E2,Y2,A2,V2,az9 _ (hsub _ s1),?_,s3,fun i hi=>by rw[s4 i (by omega),eWV i hi],fun k hk=>by rw[s5 k (by omega),eWVρ k hk]⟩
     unfold dL;rw[r2];exact s2
   ·cases hk
 |cond c a b iha ihb=>
  intro lv A o hk V E Y h;simp only[abK]at hk;split at hk
  ·cases hk
  ·rename_i ws hws;obtain⟨bb,A',hm,he,g',hsame⟩:=ac8 hg h hws;obtain⟨x,hx,hsub⟩:=Zt (f:=fun w:Bool×Ab=>if w.1 then abK X n a lv w.2 else abK X n b lv w.2) hk _ hm;cases bb with
   |true=>
    obtain⟨y,E1,Y1,A1,V1,r1,r2,r3,r4,r5⟩:=iha lv A' x hx V E Y g';refine⟨y,E1,Y1,A1,V1,hsub _ r1,?_,r3,fun i hi=>r4 i (by rw[hsame.nx];exact hi),fun k hk=>r5 k (by rw[hsame.heap];exact hk)⟩
    unfold dL;rw[he];exact r2
   |false=>
    obtain⟨y,E1,Y1,A1,V1,r1,r2,r3,r4,r5⟩:=ihb lv A' x (by simpa using hx) V E Y g'
    refine⟨y,E1,Y1,A1,V1,hsub _ r1,?_,r3,fun i hi=>r4 i (by rw[hsame.nx];exact hi),fun k hk=>r5 k (by rw[hsame.heap];exact hk)⟩
    unfold dL;rw[he];exact r2
 |block id b ih=>
  intro lv A o hk V E Y h;simp only[abK]at hk;split at hk
  ·rename_i o1 ho1;cases hk;obtain⟨x,E1,Y1,A1,V1,r1,r2,r3,r4,r5⟩:=ih _ _ _ ho1 V E Y h;refine⟨outOf id x,E1,Y1,A1,V1,ax1.mpr ⟨_,r1,rfl⟩,?_,r3,r4,r5⟩;unfold dL;rw[r2];cases x with
   |exit i=>rfl
   |ret=>rfl
   |normal=>rfl
  ·cases hk
 |loop m b ih=>
  intro lv A o hk V E Y h;have hk:aaF m (fun H=>abK X n b m H) A=some o:=hk;unfold aaF at hk;split at hk
  ·rename_i o1 ho1;cases hk;exact amS (body:=dL C (ai C) n b) (fun H o ho V E Y g=>ih m H o ho V E Y g) ho1 h
  ·exact alW (body:=dL C (ai C) n b) (fun H o ho V E Y g=>ih m H o ho V E Y g) 6 hk h
end
theorem Oy:∀(fs:List Nat) (O:St),(freeze O fs).length=O.length
 |[],O=>rfl
 |o::fs,O=>by
  unfold freeze;split
  ·rw[Oy fs];simp
  ·exact Oy fs O
def QF{O O1:St}{azs as':LA}(h:hand false azs O=some (as',O1)):O1.length=O.length:=by
 have h:(match df O 12 azs with|some (l,fs)=>some (l,freeze O fs)|none=>none)=some (as',O1):=h
 grind [Oy]
def Yu{l:LA}(h:below 0 (bD l)=true):ae 0 l=true:=by
 unfold bD at h;split at h
 ·rw[ae,h];rfl
 ·rw[below]at h;exact h
def aqg{V:Val}{l:List Sh}{w:LA}(h:Mt V l w):M V (aqf l) (bD w):=by
 cases h with
 |nil=>exact .tup _ _ .nil
 |cons s t v b h1 h2=>
  cases h2 with
  |nil=>exact h1
  |cons s' t' v' b' h3 h4=>exact .tup _ _ (.cons _ _ _ _ h1 (.cons _ _ _ _ h3 h4))
def Ja{V:Val}:∀{l:List Sh} {w:LA},Mt V l w->∀{i t:Nat} {s:Sh},la t (MS i l)=some s->M V s (look (jF i w) t)
 |_,_,.nil,i,t,s,h=>by cases h
 |_,_,.cons s0 l v w h1 h2,i,t,s,h=>by
  simp only[MS,la]at h;simp only[jF,look];split at h
  ·grind
  ·rename_i hi;rw[if_neg hi];exact Ja h2 h
section
variable{C:Ctx}{X:Cfg}{PK:PkI}{O0:Frm}{V:Vo}{A:Ab}{E:As}{Y:St}
def VH(h:G PK O0 V A E Y):∀{rs:List XR} {l:List Sh},rsS A rs=some l->∃vs,aY E Y rs=some vs/\Mt V.toVal l vs
 |[],l,hr=>by cases hr;exact⟨[],rfl,.nil⟩
 |.tmp t::rs,l,hr=>by
  simp only[rsS]at hr;split at hr
  ·rename_i s r hs hr';cases hr;obtain⟨vs,h1,h2⟩:=VH h hr'
   grind [aY,G,Mt]
  ·cases hr
 |.cell t ag sz::rs,l,hr=>by
  simp only[rsS]at hr;split at hr
  ·rename_i k off r hs hr';obtain⟨vs,h1,h2⟩:=VH h hr';split at hr
   ·rename_i c hc;split at hr
    ·rename_i s hl;cases hr;obtain⟨o,ho,he⟩:=QJ (h.env t _ hs);obtain⟨o',cs,q1,q2,q3,q4⟩:=h.heap _ _ hc
     grind [QR,aY,Mt]
    ·cases hr
   ·cases hr
  ·cases hr
def ah3 (hg:F5 C X) (hmt:Pn C X) (hs:MQ C X PK) {K:KF} {O O1:St} {azs as':LA} (hh:hand false azs O=some (as',O1)) (hlen:as'.length<=K.ntmps) {F:Frm} (h:G PK F V A (jF 0 as') O1) {o:uz} (hk:abK X K.ntmps K.body [] A=some o) {res:Sh} (hcl:cl res=true) (he:endOk K res o=true):
  ∃v vs x A' V' E' Y1,(x,A')∈o/\BG C K false azs O=some (v,tidy O.length vs Y1)/\M V0 res v/\ae 0 vs=true/\G PK F V' A' E' Y1/\∀k,k<A.heap.length->V'.ρ[k]?=V.ρ[k]?:=by
 obtain⟨x,E',Y',A',V',r1,r2,g,_,gρ⟩:=aiM hg hmt (acs hs) K.body [] A o hk V _ _ h;have hend:=a90.mp he _ r1;have fin:(match rsS A' K.results with
  |some l=>match IA A'.heap l with
   |some l=>sub A'.facts [] [] res (aqf l)
   |none=>false
  |none=>false)=true->∃v vs Y1,(match aY E' Y' K.results with
   |none=>none
   |some vs=>match hand false vs Y' with
    |none=>none
    |some (vs,O3)=>some (bD vs,tidy O.length vs O3))=some (v,tidy O.length vs Y1)/\M V0 res v/\ae 0 vs=true/\G PK F V' A' E' Y1:=by
  intro hend;split at hend
  ·rename_i l hl;split at hend
   ·rename_i l' hl';obtain⟨vs,e1,e2⟩:=VH g hl;obtain⟨vs',Y1,e3,e4,g1,_⟩:=agq g e2 hl';have hm:M V0 res (bD vs'):=TG (Sb.into g1.zero g1.facts) (aqg e4) hend;refine⟨bD vs',vs',Y1,?_,hm,Yu (hm.nv hcl).cl,g1⟩
    grind
   ·cases hend
  ·cases hend
 unfold BG
 grind
def ahb{n:Nat}{vs:LA}{Y:St}(hb:ae 0 vs=true)(ha:(Y.take n).all (AO.below n)=true)(hn:n<=Y.length):tidy n vs Y=Y.take n:=by
 unfold tidy;split
 ·grind
 ·rw[ha,tY (a98 n) hb];rfl
def Y7{O1 Y:St}(h1:O1.length<=Y.length)(h2:∀i,i<O1.length->Y[i]?=O1[i]?):Y.take O1.length=O1:=by
 apply aw5
 grind
def alj(hg:F5 C X)(hmt:Pn C X)(hs:MQ C X PK){K:KF}{O O1:St}{azs as':LA}(hok1:Ok O1)(hh:hand false azs O=some (as',O1))(hlen:as'.length<=K.ntmps)(h:G PK ⟨O1,[]⟩ V A (jF 0 as') O1){o:uz}(hk:abK X K.ntmps K.body [] A=some o){res:Sh}(hcl:cl res=true)(he:endOk K res o=true):∃v,BG C K false azs O=some (v,O1)/\M V0 res v:=by
 obtain⟨v,vs,x,A',V',E',Y1,_,f1,f2,f3,f4,_⟩:=ah3 hg hmt hs hh hlen h hk hcl he;have hn:O1.length=O.length:=QF hh;have ht:Y1.take O1.length=O1:=Y7 f4.base.1 (fun i hi=>f4.base.2 i hi (by simp))
 refine⟨v,?_,f2⟩;rw[f1,<-hn,ahb (n:=O1.length) f3 (by rw[ht];exact hok1) f4.base.1,ht]
def G.start(PK:PkI){O1:St}(h:Ok O1)(E:As):G PK ⟨O1,[]⟩ ⟨V0,[]⟩ {env:=[],heap:=[],nx:=1,facts:=[]} E O1:=
 ⟨fun t s ht=>(by cases ht),rfl,rfl,rfl,rfl,fun f hf=>(by simp at hf),fun k x hk=>(by simp at hk),fun k k' a b _ ha=>(by simp at ha),fun k a ha=>(by simp at ha),fun k o ho=>(by simp[V0]at ho),⟨a06 _,fun _ _ _=>rfl⟩,h⟩
theorem aaE(hg:F5 C X)(hmt:Pn C X)(hs:MQ C X PK){f:FuncId}{K:KF}(hK:Has C f K){m:Sm}(h:abF X K m=true):gu C PK f m:=by
 cases m with
 |pure args res=>
  simp only[abF,a01,decide_eq_true_eq]at h;obtain⟨⟨⟨h1,h2⟩,h3⟩,h4⟩:=h;split at h4
  ·rename_i o ho;intro O azs as' O1 hok hh hok1 hm;rw[hK.run];obtain⟨V1,o1,g1,m1⟩:=Gq (G.start PK hok1 (jF 0 as')) hm;refine alj hg hmt hs hok1 hh (by rw[hm.len];exact h3) (g1.envle (l:=MS 0 (Gp {env:=[],heap:=[],nx:=1,facts:=[]} args).1) fun t s ht=>Ja m1 ht) ho h2 h4
  ·cases h4
 |ro l args res=>
  simp only[abF,a01,decide_eq_true_eq]at h;obtain⟨⟨⟨⟨h0,h1⟩,h2⟩,h3⟩,h4⟩:=h;split at h4
  ·rename_i o ho;intro O q azs as' O1 cs fz hok hh hok1 hcs hl hm;rw[hK.run];obtain⟨V1,o1,g1,m1⟩:=Gs (G.start PK hok1 (jF 0 (.ref q 0::as'))) hl;have hq:q<O1.length:=(a00.mp hcs).1;have hle:V1.toVal.le (⟨V1.ν,[some q]⟩:Val):=⟨fun _ _ hi=>hi,fun i a hi=>by rw[o1.ρ]at hi;simp[V0]at hi⟩
   have g2:G PK ⟨O1,[]⟩ ⟨⟨V1.ν,[some q]⟩,[[]]⟩ {(Ev.opened {env:=[],heap:=[],nx:=1,facts:=[]} l).2 with heap:=[.ro (Ev.opened {env:=[],heap:=[],nx:=1,facts:=[]} l).1]} (jF 0 (.ref q 0::as')) O1:=by
    refine⟨fun t s ht=>(g1.env t s ht).mono hle,g1.lν,rfl,rfl,g1.zero,fun f hf=>(g1.facts f hf).mono hle,fun k x hk=>?_,fun k k' a b hkk ha hb i hi=>?_,fun k a ha i hi=>?_,fun k o' ho'=>?_,g1.base,g1.ok⟩
    ·cases k with
     |zero=>
      simp at hk;subst hk;exact⟨q,cs,fz,rfl,rfl,⟨hq,by simp⟩,hcs,m1.mono hle⟩
     |succ k=>simp at hk
    ·grind
    ·grind
    grind
   obtain⟨V3,o3,g3,m3⟩:=Gq g2 (hm.mono (YR g2.zero));refine alj hg hmt hs hok1 hh (by rw[a07,hm.len];exact h3) (g3.envle (l:=(0,.ref 0 0)::MS 1 (Gp {(Ev.opened {env:=[],heap:=[],nx:=1,facts:=[]} l).2 with heap:=[.ro (Ev.opened {env:=[],heap:=[],nx:=1,facts:=[]} l).1]} args).1) fun t s ht=>?_) ho h2 h4
   simp only[la]at ht;simp only[jF,look];split at ht
   ·rename_i hi;cases ht;rw[if_pos hi];exact .ref _ _ q (o3.le.ρ 0 (some q) rfl)
   ·rename_i hi;rw[if_neg hi];exact Ja m3 ht
  ·cases h4
 |pof args=>cases h
 |pk args res=>cases h
 |chg H args res=>
  simp only[abF,a01,decide_eq_true_eq]at h;obtain⟨⟨⟨h1,h2⟩,h3⟩,h4⟩:=h;split at h4
  ·rename_i o ho;intro O azs as' O1 hok hh hok1 F W E0 gW hm;rw[hK.run];have hHk:∀(k:Nat) x,H[k]?=some x->okH x=true:=fun k x hx=>a90.mp h1 x (a94 hx);have gS:G PK ⟨O1,W.own.flatten⟩ W (Hab H) (jF 0 as') O1:=by
    refine⟨fun t s ht=>(by cases ht),gW.lν,gW.lρ,gW.lo,gW.zero,gW.facts,fun k x hk=>?_,gW.dis,fun k a ha i hi=>⟨.inr (List.mem_flatten.mpr ⟨a,a94 ha,hi⟩),(gW.rng k a ha i hi).2⟩,gW.ρl,⟨a06 _,fun _ _ _=>rfl⟩,gW.ok⟩
    have h5:=gW.heap k x hk;have h6:=hHk k x hk;cases x with
    |cells l=>exact h5
    |map v=>exact h5
    |dead=>exact h5
    |ro l=>cases h6
    |arr a e=>cases h6
    |arrm a e=>cases h6
    |pk=>cases h6
   obtain⟨V1,o1,g1,l1,m1⟩:=QY (k0:=0) (m:=H.map fun _=>true) gS (H:=H) (fun j x hj=>by rw[av2];exact gS.heap j x hj)
   have g2:=g1.heapset (H:=(iK (Hab H) (H.map fun _=>true) H).1) (by rw[l1,o1.heap];rfl) (fun k x hk=>by grind)
   obtain⟨V3,o3,g3,m3⟩:=Gq g2 (hm.mono o1.le);simp only[ajr,a01]at h4;obtain⟨v,vs,x,A',V',E',Y1,r1,f1,f2,f3,f4,f5⟩:=ah3 hg hmt hs hh (by rw[hm.len];exact h3) (g3.envle (l:=MS 0 (Gp {(iK (Hab H) (H.map fun _=>true) H).2 with heap:=(iK (Hab H) (H.map fun _=>true) H).1} args).1) fun t s ht=>Ja m3 ht) ho h2 h4.1
   obtain⟨W2,gE,w1,w2,w3,_⟩:=Fq f4 (a90.mp h4.2 _ r1);have hn:O1.length=O.length:=QF hh;have hheap:(Gp {(iK (Hab H) (H.map fun _=>true) H).2 with heap:=(iK (Hab H) (H.map fun _=>true) H).1} args).2.heap.length=H.length:=by rw[o3.heap];exact l1
   have hρ:∀k,k<H.length->W2.ρ[k]?=W.ρ[k]?:=fun k hk=>by
    have h6:k<V'.ρ.length:=by
     have h7:=f5 k (by show k<_;rw[hheap];exact hk)
     rw[o3.ρ]at h7;have h8:(V1.ρ)[k]?=W.ρ[k]?:=by rw[o1.ρ]
     have h9:k<W.ρ.length:=by rw[gW.lρ];exact hk
     grind
    rw[w2,ae8 (List.getElem?_range hk) h6,f5 k (by show k<_;rw[hheap];exact hk),o3.ρ]
    show V1.ρ[k]?=_;rw[o1.ρ]
   have hW2:W2.toVal.le W.toVal:=by
    refine⟨fun i a ha=>?_,fun i a ha=>?_⟩
    ·have h0:=gE.zero
     grind [gE.lν,gW.zero,Hab]
    ·have:=(a00.mp ha).1;rw[gE.lρ]at this;rw[<-hρ i this];exact ha
   have hN:∀(k o:Nat),W2.ρ[k]?=some (some o)->o<O1.length:=fun k o hk=>gW.ρl k o (hW2.ρ _ _ hk);have hlt:O1.length<=Y1.length:=f4.base.1;have hall:(Y1.take O1.length).all (AO.below O1.length)=true:=by
    rw[a90];intro z hz;obtain⟨i,hi,rfl⟩:=List.mem_iff_getElem.mp hz;have hi1:i<O1.length:=by simp at hi;omega
    have hiτ:Y1[i]?=some ((Y1.take O1.length)[i]):=by grind
    by_cases hw:i∈W.own.flatten
    ·obtain⟨a,ha,hia⟩:=List.mem_flatten.mp hw;obtain⟨k,hk,rfl⟩:=List.mem_iff_getElem.mp ha;have hkH:k<H.length:=by rw[gW.lo]at hk;exact hk
     have hx:H[k]?=some H[k]:=a02 hkH;have hs1:=gW.heap k _ hx;have hs2:=gE.heap k _ hx;have ho1:W.own[k]?=some W.own[k]:=a02 hk;have h6:=hHk k _ hx;revert hs1 hs2 h6;generalize H[k]=y;intro hs1 hs2 h6;cases y with
     |cells l=>
      obtain⟨q,cs,p1,p2,p3,p4⟩:=hs1;obtain⟨q',cs',p1',p2',p3',p4'⟩:=hs2;rw[hρ k hkH,p1]at p1';cases p1';rw[ho1]at p2;simp only[a05]at p2;rw[p2]at hia;simp at hia;subst hia;rw[p3']at hiτ;rw[<-aA9 hiτ];exact Ms.bels hN p4'
     |map v=>
      obtain⟨q,cs,p1,p2,p3,p4⟩:=hs1;obtain⟨q',cs',p1',p2',p3',p4'⟩:=hs2
      grind [WG,M.bel]
     |dead=>
      have hs1:W.own[k]?=some []:=hs1
      grind
     |ro l=>cases h6
     |arr a e=>cases h6
     |arrm a e=>cases h6
     |pk=>cases h6
    ·have h7:=f4.base.2 i hi1 hw;rw[hiτ]at h7;exact a90.mp hok1 _ (a94 h7.symm)
   have hlen2:(Y1.take O1.length).length=O1.length:=by simp;omega
   refine⟨v,Y1.take O1.length,?_,f2,by unfold Ok;rw[hlen2];exact hall,hlen2,fun i hi=>?_,fun k y hy=>?_⟩
   ·rw[f1,<-hn,ahb f3 hall hlt]
   ·rw[au7];split
    ·rename_i hi1;refine f4.base.2 i hi1 fun hw=>?_;obtain⟨a,ha,hia⟩:=List.mem_flatten.mp hw;obtain⟨k,hk,rfl⟩:=List.mem_iff_getElem.mp ha;exact hi k _ (a02 hk) hia
    grind
   ·have hkH:k<H.length:=(a00.mp hy).1;have hs1:=gW.heap k _ hy;have hs2:=gE.heap k _ hy;have h6:=hHk k _ hy;cases y with
    |cells l=>
     obtain⟨q,cs,p1,p2,p3,p4⟩:=hs1;obtain⟨q',cs',p1',p2',p3',p4'⟩:=hs2;rw[hρ k hkH,p1]at p1';cases p1';refine⟨q,cs',p1,p2,?_,p4'.mono hW2⟩
     grind
    |map v=>
     obtain⟨q,cs,p1,p2,p3,p4⟩:=hs1;obtain⟨q',cs',p1',p2',p3',p4'⟩:=hs2;rw[hρ k hkH,p1]at p1';cases p1';refine⟨q,cs',p1,p2,?_,fun p hp=>⟨(p4' p hp).1,(p4' p hp).2.mono hW2⟩⟩
     grind
    |dead=>exact hs1
    |ro l=>cases h6
    |arr a e=>cases h6
    |arrm a e=>cases h6
    |pk=>cases h6
  ·cases h4
def Cfg.add(X:Cfg)(f:FuncId)(m:Sm):Cfg:={X with sm:=fun g=>if g=f then m::X.sm g else X.sm g}
def aq7(hs:MQ C X PK){f:FuncId}{m:Sm}(h:gu C PK f m):MQ C (X.add f m) PK:=fun g q hq=>by
 by_cases hgf:g=f
 ·have hq:q∈(if g=f then m::X.sm g else X.sm g):=hq;rw[if_pos hgf]at hq;rcases au9.mp hq with rfl|hq
  ·exact hgf▸h
  ·exact hs g q hq
 ·have hq:q∈(if g=f then m::X.sm g else X.sm g):=hq;rw[if_neg hgf]at hq;exact hs g q hq
end
def errs:List Int:=[10,3]
def aoP(e:Int):LA:=[.int .u8 0,.int .i64 0,.str [],.nils,.nils,.nilMap,.int .i64 e]
def gz:PkI where
 ok Y o ms:=(∃(j:JV) (m:Nat) (es:List (AV×AV)) (e:Int),ms=[m]/\o≠m/\Y[o]?=some (.cells (j.cs++[.map m,.int .i64 e]) FZ)/\Y[m]?=some (.map es)/\∀p∈es,(∃s,p.1=.str s)/\∃n,p.2=.int .i64 n)\/(∃e∈errs,ms=[]/\Y[o]?=some (.cells (aoP e) FZ))
 fr:=by
  grind
def HA:List HO:=[.cells [.jv,.map 1,.int .i64],.map (.int .i64)]
def HE(e:Int):List HO:=[.cells [.ic .u8 0,.ic .i64 0,.sc [],.nils,.nils,.nilM,.ic .i64 e]]
section
variable{C:Ctx}{X:Cfg}{O0:Frm}{V:Vo}{A:Ab}{E:As}{Y:St}
def aoQ{V:Val}(e:Int):Ms V [.ic .u8 0,.ic .i64 0,.sc [],.nils,.nils,.nilM,.ic .i64 e] (aoP e):=
 .one _ _ _ _ rfl (.ic _ _) (.one _ _ _ _ rfl (.ic _ _) (.one _ _ _ _ rfl (.sc _) (.one _ _ _ _ rfl .nils (.one _ _ _ _ rfl .nils (.one _ _ _ _ rfl .nilM (.one _ _ _ _ rfl (.ic _ _) .nil))))))
def afU{V:Val}{e:Int}{cs:LA}(h:Ms V [.ic .u8 0,.ic .i64 0,.sc [],.nils,.nils,.nilM,.ic .i64 e] cs):cs=aoP e:=by
 obtain⟨v1,r1,rfl,m1,h⟩:=h.inv rfl;obtain⟨v2,r2,rfl,m2,h⟩:=h.inv rfl;obtain⟨v3,r3,rfl,m3,h⟩:=h.inv rfl;obtain⟨v4,r4,rfl,m4,h⟩:=h.inv rfl;obtain⟨v5,r5,rfl,m5,h⟩:=h.inv rfl;obtain⟨v6,r6,rfl,m6,h⟩:=h.inv rfl;obtain⟨v7,r7,rfl,m7,h⟩:=h.inv rfl;cases h;cases m1;cases m2;cases m3;cases m4;cases m5;cases m6;cases m7;rfl
def acT{V:Val}{cs:LA}(h:Ms V [.jv,.map 1,.int .i64] cs):∃(j:JV) (m:Nat) (e:Int),cs=j.cs++[.map m,.int .i64 e]/\V.ρ[1]?=some (some m):=by
 cases h with
 |one _ _ _ _ h=>cases h
 |jv _ j b h=>
  obtain⟨v1,r1,rfl,m1,h⟩:=h.inv rfl;obtain⟨v2,r2,rfl,m2,h⟩:=h.inv rfl;cases h;obtain⟨m,h1,rfl⟩:=ajN m1;cases m2;exact⟨j,m,_,rfl,h1⟩
def amH{V:Val}(j:JV){m:Nat}(e:Int)(h:V.ρ[1]?=some (some m)):Ms V [.jv,.map 1,.int .i64] (j.cs++[.map m,.int .i64 e]):=
 .jv _ _ _ (.one _ _ _ _ rfl (.map _ _ h) (.one _ _ _ _ rfl (.int _ _) .nil))
theorem arf{f:FuncId}{args:List Sh}{res:Sh}(h1:gu C gz f (.chg HA (.ref 0 0::args) res))(h2:∀e∈errs,gu C gz f (.chg (HE e) (.ref 0 0::args) res)):gu C gz f (.pk args res):=by
 intro O o ms azs as' O1 hok hh hok1 hp hm;rcases hp with⟨j,m,es,e,rfl,hne,ho,hmm,hes⟩|⟨e,he,rfl,ho⟩
 ·have hol:=(a00.mp ho).1;have hml:=(a00.mp hmm).1;have hle:V0.le (⟨[0],[some o,some m]⟩:Val):=YR rfl;have g:G gz ⟨O1,[o,m]⟩ ⟨⟨[0],[some o,some m]⟩,[[o],[m]]⟩ (Hab HA) [] O1:=by
   refine⟨fun t s ht=>(by cases ht),rfl,rfl,rfl,rfl,fun f hf=>(by simp[Hab]at hf),fun k x hk=>?_,fun k k' a b hkk ha hb i hi hi'=>?_,fun k a ha i hi=>?_,fun k q hk=>?_,⟨a06 _,fun _ _ _=>rfl⟩,hok1⟩
   ·rcases k with _|_|k
    ·simp[Hab,HA]at hk;subst hk;exact⟨o,_,rfl,rfl,ho,amH j e rfl⟩
    ·simp[Hab,HA]at hk;subst hk;exact⟨m,es,rfl,rfl,hmm,fun p hp=>⟨(hes p hp).1,by grind [M]⟩⟩
    ·simp[Hab,HA]at hk
   ·grind
   ·grind
   grind
  obtain⟨v,O2,e1,e2,e3,e4,e5,e6⟩:=h1 O _ _ O1 hok hh hok1 _ _ _ g (.cons _ _ _ _ (.ref _ _ o rfl) (hm.mono hle));refine⟨v,O2,e1,e2,e3,e4,fun i hi=>e5 i fun k a ha hia=>?_,.inl ?_⟩
  ·grind
  ·obtain⟨o',cs,q1,q2,q3,q4⟩:=e6 0 _ rfl;obtain⟨m',es',p1,p2,p3,p4⟩:=e6 1 _ rfl;simp at q1 p1;subst q1 p1;obtain⟨j',m'',e',rfl,hρ⟩:=acT q4;simp at hρ;subst hρ;exact⟨j',_,es',e',rfl,hne,q3,p3,fun p hp=>⟨(p4 p hp).1,by
    have:=(p4 p hp).2;revert this;generalize p.2=w;intro this;cases this;exact⟨_,rfl⟩⟩⟩
 ·have hol:=(a00.mp ho).1;have hle:V0.le (⟨[0],[some o]⟩:Val):=YR rfl;have g:G gz ⟨O1,[o]⟩ ⟨⟨[0],[some o]⟩,[[o]]⟩ (Hab (HE e)) [] O1:=by
   refine⟨fun t s ht=>(by cases ht),rfl,rfl,rfl,rfl,fun f hf=>(by simp[Hab]at hf),fun k x hk=>?_,fun k k' a b hkk ha hb i hi hi'=>?_,fun k a ha i hi=>?_,fun k q hk=>?_,⟨a06 _,fun _ _ _=>rfl⟩,hok1⟩
   ·rcases k with _|k
    ·simp[Hab,HE]at hk;subst hk;exact⟨o,_,rfl,rfl,ho,aoQ e⟩
    ·simp[Hab,HE]at hk
   ·grind
   ·grind
   grind
  obtain⟨v,O2,e1,e2,e3,e4,e5,e6⟩:=h2 e he O _ _ O1 hok hh hok1 _ _ _ g (.cons _ _ _ _ (.ref _ _ o rfl) (hm.mono hle));refine⟨v,O2,e1,e2,e3,e4,fun i hi=>e5 i fun k a ha hia=>?_,.inr ?_⟩
  ·grind
  ·obtain⟨o',cs,q1,q2,q3,q4⟩:=e6 0 _ rfl;simp at q1;subst q1;exact⟨e,he,rfl,by rw[afU q4]at q3;exact q3⟩
def ao7:List Sh->Option Nat
 |[]=>none
 |.map k::_=>some k
 |_::l=>ao7 l
def QK(A:Ab)(k:Nat):Bool:=match A.heap[k]? with
 |some (.cells l)=>(match ao7 l with
  |some k'=>Ya (Hab HA) A [(0,0)] [k,k']
  |none=>errs.any fun e=>Ya (Hab (HE e)) A [(0,0)] [k])
 |_=>false
def ap0(K:KF)(o:uz):Bool:=o.all fun p=>match p.1 with
 |.exit _=>false
 |_=>match rsS p.2 K.results with
  |some [.ref k 0]=>QK p.2 k
  |_=>false
def acY{F:Frm}(h:G gz F V A E Y)(hF:F.w=[]){k o:Nat}(ho:V.ρ[k]?=some (some o))(hp:QK A k=true):∃ms,gz.ok Y o ms/\∀i∈o::ms,F.length<=i/\i<Y.length:=by
 have hge:∀(W:Vo) (H:List HO) (E':As),G gz F W (Hab H) E' Y->∀(k:Nat) a,W.own[k]?=some a->∀i∈a,F.length<=i/\i<Y.length:=fun W H E' g k a ha i hi=>by
  grind [G]
 unfold QK at hp;split at hp
 ·rename_i l hl;split at hp
  ·rename_i k' hk';obtain⟨W,g,w1,w2,w3,_⟩:=Fq h hp;obtain⟨o',cs,q1,q2,q3,q4⟩:=g.heap 0 _ rfl;obtain⟨m',es',p1,p2,p3,p4⟩:=g.heap 1 _ rfl;rw[w2]at q1;simp only[ρθ,av3,aA7,ho,a05]at q1;have q1:some o=some o':=q1;cases q1;obtain⟨j',m'',e',rfl,hρ⟩:=acT q4;rw[p1]at hρ;cases hρ;refine⟨[m'],.inl ⟨j',m',es',e',rfl,fun hne=>?_,q3,p3,fun p hp=>⟨(p4 p hp).1,by
    have:=(p4 p hp).2
    grind [M]⟩⟩,fun i hi=>?_⟩
   ·grind
   grind
  ·obtain⟨e,he,hs⟩:=aC1.mp hp;obtain⟨W,g,w1,w2,w3,_⟩:=Fq h hs;obtain⟨o',cs,q1,q2,q3,q4⟩:=g.heap 0 _ rfl;rw[w2]at q1;simp only[ρθ,av3,aA7,ho,a05]at q1;have q1:some o=some o':=q1;cases q1;refine⟨[],.inr ⟨e,he,rfl,by rw[afU q4]at q3;exact q3⟩,fun i hi=>?_⟩
   grind
 ·cases hp
def aiN(X:Cfg)(K:KF)(args:List Sh):Bool:=decide (args.length<=K.ntmps)&&(match abK X K.ntmps K.body [] (startA args)with
 |some o=>ap0 K o
 |none=>false)
def apE(hg:F5 C X)(hmt:Pn C X)(hs:MQ C X gz){f:FuncId}{K:KF}(hK:Has C f K){args:List Sh}(h:aiN X K args=true):gu C gz f (.pof args):=by
 simp only[aiN,a01,decide_eq_true_eq]at h;obtain⟨h3,h4⟩:=h;split at h4
 ·rename_i o ho;intro O azs as' O1 hok hh hok1 hm;rw[hK.run];obtain⟨V1,o1,g1,m1⟩:=Gq (G.start gz hok1 (jF 0 as')) hm;obtain⟨x,E',Y',A',V',r1,r2,g,_,_⟩:=aiM hg hmt (acs hs) K.body [] _ o ho V1 _ _ (g1.envle (l:=MS 0 (Gp {env:=[],heap:=[],nx:=1,facts:=[]} args).1) fun t s ht=>Ja m1 ht);have hend:=a90.mp h4 _ r1;have hn:O1.length=O.length:=QF hh;have fin:(match rsS A' K.results with
   |some [.ref k 0]=>QK A' k
   |_=>false)=true->∃(L:St) (o:Nat) (ms:List Nat),(match aY E' Y' K.results with
    |none=>none
    |some vs=>match hand false vs Y' with
     |none=>none
     |some (vs,O3)=>some (bD vs,tidy O.length vs O3))=some (.ref o 0,O1++L)/\Ok (O1++L)/\(∀i∈o::ms,O1.length<=i/\i<(O1++L).length)/\gz.ok (O1++L) o ms:=by
   intro hend;split at hend
   ·rename_i k hl;obtain⟨vs,e1,e2⟩:=VH g hl;cases e2 with
    |cons _ _ v b m2 m3=>
     cases m3;obtain⟨q,hq,rfl⟩:=QJ m2;obtain⟨ms,p1,p2⟩:=acY g rfl hq hend;have htake:Y'.take O1.length=O1:=Y7 g.base.1 (fun i hi=>g.base.2 i hi (by simp))
     have hτ:Y'=O1++Y'.drop O1.length:=by
      conv=>lhs;rw[<-List.take_append_drop O1.length Y',htake]
     refine⟨Y'.drop O1.length,q,ms,?_,by rw[<-hτ];exact g.ok,by rw[<-hτ];exact p2,by rw[<-hτ];exact p1⟩
     rw[e1];dsimp only;rw[show hand false [AV.ref q 0] Y'=some ([.ref q 0],Y')from rfl];dsimp only;rw[qX (by
      have:¬q<O.length:=by
       have:=(p2 q (by simp)).1
       have h5:O1.length<=q:=this;omega
      simp only[ae,below,decide_eq_false this,ay5]),<-hτ]
     rfl
   ·cases hend
  unfold BG;rw[hh];dsimp only;rw[if_neg (by rw[hm.len];omega),r2]
  grind
 ·cases h4
def abG(X:Cfg)(K:KF):Sm->Bool
 |.pk args res=>abF X K (.chg HA (.ref 0 0::args) res)&&errs.all fun e=>abF X K (.chg (HE e) (.ref 0 0::args) res)
 |.pof args=>aiN X K args
 |m=>abF X K m
def aoH(hg:F5 C X)(hmt:Pn C X)(hs:MQ C X gz){f:FuncId}{K:KF}(hK:Has C f K){m:Sm}(h:abG X K m=true):gu C gz f m:=by
 cases m with
 |pk args res=>
  simp only[abG,a01]at h
  grind [arf,aaE]
 |pof args=>exact apE hg hmt hs hK h
 |pure args res=>exact aaE hg hmt hs hK h
 |ro l args res=>exact aaE hg hmt hs hK h
 |chg H args res=>exact aaE hg hmt hs hK h
def aej(X:Cfg):List (FuncId×KF×Sm)->Option Cfg
 |[]=>some X
 |(f,K,m)::l=>match abG X K m with
  |true=>aej (X.add f m) l
  |false=>none
def afM:∀{l:List (FuncId×KF×Sm)} {X X':Cfg},F5 C X->Pn C X->MQ C X gz->(∀p∈l,Has C p.1 p.2.1)->aej X l=some X'->MQ C X' gz/\F5 C X'/\Pn C X'
 |[],X,X',hg,hmt,hs,_,h=>by cases h;exact⟨hs,hg,hmt⟩
 |(f,K,m)::l,X,X',hg,hmt,hs,hK,h=>by
  unfold aej at h;split at h
  ·rename_i hf;exact afM (X:=X.add f m) hg hmt (aq7 hs (aoH hg hmt hs (hK (f,K,m) (by simp)) hf)) (fun p hp=>hK p (by simp[hp])) h
  ·cases h
end
section
variable{C:Ctx}{PK:PkI}
theorem ajH{f:FuncId}{K:KF}(h:Has C f K){O O1:St}{azs as':LA}(hh:hand false azs O=some (as',O1))(hn:NVs as'):ai C f azs O=ai C f as' O1:=by
 rw[h.run,h.run];unfold BG;rw[hh,hn.hand O1];dsimp only;rw[QF hh]
def vI{f:FuncId}{K:KF}{args:List Sh}{res:Sh}(hK:Has C f K)(hc:cls args=true)(h:∀azs,Mt V0 args azs->∀O,Ok O->∃v,ai C f azs O=some (v,O)/\M V0 res v):gu C PK f (.pure args res):=fun O azs as' O1 hok hh hok1 hm=>by
 grind [ajH,Mt.nvs]
theorem ai8{O:St}{r:LA->Option (LA×List Nat)}{v:AV}{s:LU}{fs:List Nat}(h:asb O r v=some (.str s,fs)):v=.str s/\fs=[]:=by
 cases v<;>simp only[asb]at h<;>(first|(cases h;done)|skip)
 all_goals (repeat' split at h)<;>cases h
 all_goals exact⟨rfl,rfl⟩
def ahL{O O1:St}:∀{azs:LA} {ss:List LU},hand false azs O=some (ss.map .str,O1)->azs=ss.map .str/\O1=O:=by
 have key:∀{azs:LA} {ss:List LU} {fs:List Nat},aT O (df O 11) azs=some (ss.map .str,fs)->azs=ss.map .str/\fs=[]:=by
  intro azs
  induction azs with
  |nil=>
   intro ss fs h;cases ss with
   |nil=>cases h;exact⟨rfl,rfl⟩
   |cons s ss=>cases h
  |cons a azs ih=>
   intro ss fs h;cases h1:asb O (df O 11) a with
   |none=>grind [aT]
   |some p=>
    obtain⟨v,gs⟩:=p;cases h2:aT O (df O 11) azs with
    |none=>grind [aT]
    |some q=>
     obtain⟨w,hs⟩:=q;unfold aT at h;rw[h1,h2]at h;cases ss with
     |nil=>cases h
     |cons s ss=>
      grind [ai8]
 intro azs ss h;have h:(match df O 12 azs with|some (l,fs)=>some (l,freeze O fs)|none=>none)=some (ss.map AV.str,O1):=h
 rw[show df O 12 azs=aT O (df O 11) azs from rfl]at h;cases h1:aT O (df O 11) azs with
 |none=>rw[h1]at h;cases h
 |some p=>
  obtain⟨l,fs⟩:=p;rw[h1]at h;simp only[a05,av6]at h;obtain⟨rfl,rfl⟩:=h;obtain⟨e1,e2⟩:=key h1;exact⟨e1,by rw[e2];rfl⟩
def xC{V:Val}{v:AV}(h:M V .strb v):∃s,v=.str s/\s.length<=LB:=by grind [M]
def ZE{V:Val}{v:AV}(h:M V .jv v):∃j:JV,v=j.av:=by grind [M]
def YC{V:Val}{a:Sh}{azs:LA}(h:Mt V [a] azs):∃x,azs=[x]/\M V a x:=by
 grind [Mt]
def ahP{V:Val}{a b:Sh}{azs:LA}(h:Mt V [a,b] azs):∃x y,azs=[x,y]/\M V a x/\M V b y:=by
 grind [Mt]
end
def ac5(m:Nat):List Nat:=(List.range (Nat.log2 m+1)).filter fun t=>m.testBit t
def ajy(g:Nat->KC×Nat):Nat->Nat->KC×Nat
 |0,m=>(.loop (ac5 m) (g m).1,m)
 |n+1,m=>match Nat.beq ((g m).2|||m) m with
  |true=>(.loop (ac5 m) (g m).1,m)
  |false=>ajy g n ((g m).2|||m)
def ann(R:Nat):XC->Nat->(Nat->Nat)->KC×Nat
 |.skip,N,_=>(.skip,N)
 |.ops l,N,_=>(.ops l,E5 l N)
 |.drawn l,N,_=>(match LD l with|true=>.plain l|false=>.drawn l,E5 l N)
 |.seq a b,N,X=>match ann R b N X with
  |(b,M)=>match ann R a M X with
   |(a,L)=>(.seq a b,L)
 |.cond c a b,N,X=>match ann R a N X with
  |(a,A)=>match ann R b N X with
   |(b,B)=>(.cond c a b,bits c.reads|||(A|||B))
 |.block id b,N,X=>match ann R b N fun i=>if i=id then N else X i with
  |(b,B)=>(.block id b,B)
 |.loop b,_,X=>ajy (fun m=>ann R b m X) 60 0
 |.exit id,_,X=>(.exit (ac5 (X id)) id,X id)
 |.ret,_,_=>(.ret (ac5 R),R)
 |.scope b,N,X=>match ann R b N X with
  |(b,B)=>(.scope b,B)
 |.fail,_,_=>(.fail,0)
theorem Um{g:Nat->KC×Nat}{c:XC}(h:∀m,(g m).1.forget=c):∀n m,(ajy g n m).1.forget=.loop c
 |0,m=>by unfold ajy;simp only[KC.forget,h]
 |n+1,m=>by
  unfold ajy;split
  ·simp only[KC.forget,h]
  ·exact Um h n _
def aen(R:Nat):∀(c:XC) (N:Nat) (X:Nat->Nat),(ann R c N X).1.forget=c:=by
 intro c
 induction c with
 |skip=>intro N X;rfl
 |fail=>intro N X;rfl
 |ops l=>intro N X;rfl
 |exit id=>intro N X;rfl
 |ret=>intro N X;rfl
 |drawn l=>
  intro N X;unfold ann;cases LD l<;>rfl
 |seq a b iha ihb=>
  grind [ann,KC.forget]
 |cond c a b iha ihb=>
  grind [ann,KC.forget]
 |block id b ih=>
  intro N X;unfold ann;rcases hb:ann R b N (fun i=>if i=id then N else X i)with⟨b',M⟩;have e:=ih N fun i=>if i=id then N else X i;rw[hb]at e;dsimp only at e⊢;rw[KC.forget,e]
 |scope b ih=>
  intro N X;unfold ann;rcases hb:ann R b N X with⟨b',M⟩;have e:=ih N X;rw[hb]at e;dsimp only at e⊢;rw[KC.forget,e]
 |loop b ih=>
  grind [ann,Um]
def aoL(x:XF):KF:=⟨x.nargs,x.ntmps,x.results,(ann (Dc x.results) x.body (Dc x.results) fun _=>Dc x.results).1⟩
theorem TY(x:XF):(aoL x).forget=x:=by
 unfold aoL KF.forget;dsimp only;rw[aen]
def kA(P:Program)(f:FuncId):KF:=aoL ((cF P f).getD ⟨0,0,[],.fail⟩)
def V6(P:Program)(f:FuncId):Bool:=(cF P f).isSome&&QB P f&&(kA P f).ok
def amI{P:Program}{gl raw prim}{f:FuncId}(h:V6 P f=true)(hp:prim f=none)(hr:raw f=false):Has (iy P gl raw prim) f (kA P f):=by
 unfold V6 at h;rw[a01,a01]at h
 grind [abb,kA,TY,aw3]
theorem aps{P:Program}{t:TypeId}{m:String}{f:FuncId}(h:methodOf P t .nilp m=some (f,.nilp))(v:AV):methodOf P t v m=some (f,v):=by
 unfold methodOf at h⊢;split at h
 ·rename_i i hi;split at h
  ·grind
  ·cases h
 ·cases h
def aqD(mt:List (TypeId×String×FuncId))(h:List (FuncId×Sm)):Cfg:={gl:=fun _=>none,sm:=fun f=>(h.filter fun p=>Nat.beq p.1 f).map (·.2),mt:=fun t m=>(mt.find? fun p=>p.1==t&&p.2.1==m).map (·.2.2)}
def acd:∀{l:List (FuncId×KF×Sm)} {X X':Cfg},aej X l=some X'->(∀f m,m∈X.sm f->m∈X'.sm f)/\∀p∈l,p.2.2∈X'.sm p.1
 |[],X,X',h=>by cases h;grind
 |(f,K,m)::l,X,X',h=>by
  unfold aej at h;split at h
  ·obtain⟨h1,h2⟩:=acd h;have add:∀g k,k∈X.sm g\/(g=f/\k=m)->k∈(X.add f m).sm g:=fun g k hk=>by
    unfold Cfg.add
    grind
   grind
  ·cases h
def aoi(P:Program)(l:List (FuncId×Sm)):List (FuncId×KF×Sm):=l.map fun p=>(p.1,kA P p.1,p.2)
noncomputable section
def inL(l:List Nat)(f:Nat):Bool:=List.rec (motive:=fun _=>Bool) false (fun x _ ih=>Bool.rec ih true (Nat.beq f x)) l
def amA:List (FuncId×aap)->FuncId->Option aap
 |[],_=>none
 |(g,e)::l,f=>match Nat.beq f g with
  |true=>some e
  |false=>amA l f
def tA(P:Program)(sp:List (FuncId×aap))(raw imp:List Nat)(M:MM):Tr2:=fun f=>match amA sp f with
 |some e=>some e
 |none=>match V6 P f with
  |true=>some (.both (akv (M f)) (kA P f) (inL raw f) (Bool.rec true false (inL imp f)))
  |false=>none
def QP{P:Program}{gl raw prim}{f:FuncId}(h:V6 P f=true):KOK (iy P gl raw prim) f (kA P f):=by
 unfold V6 at h;rw[a01,a01]at h
 grind [apl,kA,TY,aw3]
theorem agf{C:Ctx}:∀{l:List (FuncId×aap)},(∀p∈l,EOK C p.1 p.2)->∀f e,amA l f=some e->EOK C f e
 |[],_,f,e,h=>by cases h
 |(g,k)::l,hl,f,e,h=>by
  unfold amA at h;split at h
  ·simp_all
  ·exact agf (fun p hp=>hl p (by simp[hp])) f e h
def arF{P:Program}{gl raw prim}{sp:List (FuncId×aap)}{rw_ imp:List Nat}{M:MM}(hs:∀p∈sp,EOK (iy P gl raw prim) p.1 p.2)(hM:MOK (iy P gl raw prim) M):∀f e,tA P sp rw_ imp M f=some e->EOK (iy P gl raw prim) f e:=by
 intro f e h;unfold tA at h;split at h
 ·grind [agf]
 ·split at h
  ·rename_i ha;cases h;exact⟨akw hM f,QP ha⟩
  ·cases h
end
def trL:KC->List KC->List KC->KC×List KC×List KC
 |.seq a b,l,r=>match trL a l r with
  |(a,l,r)=>match trL b l r with
   |(b,s)=>(.seq a b,s)
 |.cond c a b,l,r=>match trL a l r with
  |(a,l,r)=>match trL b l r with
   |(b,s)=>(.cond c a b,s)
 |.block i b,l,r=>match trL b l r with
  |(b,s)=>(.block i b,s)
 |.scope b,l,r=>match trL b l r with
  |(b,s)=>(.scope b,s)
 |.loop m b,l,r=>match trL b l r with
  |(b,x::l,r)=>(.loop m x,l,r++[b])
  |(b,[],r)=>(.loop m b,[],r++[b])
 |c,l,r=>(c,l,r)
def rdU(n:Nat)(h:n<2^8):UInt8.ofBitVec (BitVec.ofFin ⟨n,h⟩)=UInt8.ofNat n:=by
 apply UInt8.toNat_inj.mp;rw[UInt8.toNat_ofNat'];exact(Nat.mod_eq_of_lt h).symm
def RD:(∀n:Nat,Int.ofNat (no_index (OfNat.ofNat n))=(OfNat.ofNat n:Int))/\(∀n:Nat,Int.negSucc n= -((n+1:Nat):Int))/\(∀(n:Nat) (h:n<2^8),UInt8.ofBitVec (BitVec.ofFin ⟨n,h⟩)=UInt8.ofNat n)/\(∀d i,(⟨some d,i,none,[]⟩:XOp)=o d i)/\(∀i,(⟨none,i,none,[]⟩:XOp)=u i)/\(∀d t b i,(⟨some d,i,some (t,b),[]⟩:XOp)=og d t b i)/\(∀d s,o d (.mv (.t s))=m d s)/\(∀n:Nat,((no_index (OfNat.ofNat n):Nat):Int)=OfNat.ofNat n)/\(∀n:Nat,UInt8.ofBitVec (BitVec.ofNat 8 n)=UInt8.ofNat n):=⟨fun _=>rfl,fun _=>rfl,rdU,fun _ _=>rfl,fun _=>rfl,fun _ _ _ _=>rfl,fun _ _=>rfl,fun _=>rfl,fun _=>rfl⟩
structure KSP(P:Program)(f:Nat)(ls:List KC)where
 k:KF
 p:(⟨(kA P f).nargs,(kA P f).ntmps,(kA P f).results,(trL (kA P f).body ls []).1⟩:KF)=k:=by conv=>lhs;reduce;simp only[RD,seval]
structure LSP(P:Program)(f:Nat)(ls:List KC)(i:Nat)where
 k:KC
 p:(trL (kA P f).body ls []).2.2.getD i .fail=k:=by conv=>lhs;reduce;simp only[RD,seval]
set_option maxRecDepth 1000000
abbrev aso:FuncId:=3
abbrev xy:FuncId:=7
abbrev mD:FuncId:=8
abbrev dG:FuncId:=9
abbrev ik:FuncId:=10
abbrev jM:FuncId:=11
abbrev Oj:FuncId:=12
abbrev Ol:FuncId:=13
abbrev Om:FuncId:=14
abbrev gJ:FuncId:=15
abbrev Na:FuncId:=16
abbrev WP:FuncId:=17
abbrev MJ:FuncId:=19
abbrev Oi:FuncId:=20
abbrev SN:FuncId:=21
abbrev qJ:FuncId:=22
abbrev nN:FuncId:=23
abbrev rX:FuncId:=24
abbrev rY:FuncId:=25
abbrev SL:FuncId:=26
abbrev Cc:FuncId:=30
abbrev qK:FuncId:=31
abbrev Ht:FuncId:=32
abbrev yQ:FuncId:=33
abbrev kJ:FuncId:=34
abbrev zx:FuncId:=35
abbrev IR:FuncId:=36
abbrev Og:FuncId:=37
abbrev Oh:FuncId:=38
abbrev yS:FuncId:=39
abbrev mY:FuncId:=40
abbrev lG:FuncId:=41
abbrev Cf:FuncId:=42
abbrev xU:FuncId:=43
abbrev uI:FuncId:=44
abbrev gm:FuncId:=45
abbrev DT:FuncId:=46
abbrev DU:FuncId:=47
abbrev kK:FuncId:=48
abbrev U3:FuncId:=49
abbrev aaZ:FuncId:=50
abbrev ab1:FuncId:=52
abbrev xA:FuncId:=53
abbrev D5:FuncId:=56
abbrev fO:FuncId:=57
abbrev EU:FuncId:=58
abbrev FQ:FuncId:=59
abbrev uY:FuncId:=60
abbrev Qi:FuncId:=61
abbrev MZ:FuncId:=62
abbrev D8:FuncId:=63
abbrev D7:FuncId:=64
abbrev wC:FuncId:=65
abbrev MI:FuncId:=66
abbrev Oe:FuncId:=67
abbrev oQ:FuncId:=68
abbrev nG:FuncId:=69
abbrev bz:FuncId:=70
abbrev lC:FuncId:=71
abbrev bQ:FuncId:=72
abbrev tu:FuncId:=78
abbrev Nb:FuncId:=85
abbrev iE:FuncId:=89
abbrev oU:FuncId:=90
abbrev Uh:FuncId:=91
abbrev yO:FuncId:=92
abbrev fZ:FuncId:=93
abbrev Bc:FuncId:=94
abbrev F9:FuncId:=95
abbrev iF:FuncId:=96
abbrev gK:FuncId:=97
abbrev lL:FuncId:=98
abbrev rW:FuncId:=99
abbrev vz:FuncId:=100
abbrev FN:FuncId:=101
abbrev oN:FuncId:=102
abbrev uZ:FuncId:=103
abbrev ql:FuncId:=104
abbrev lK:FuncId:=105
abbrev nU:FuncId:=106
abbrev oM:FuncId:=107
abbrev cZ:FuncId:=108
abbrev Qn:FuncId:=111
abbrev Uj:FuncId:=112
abbrev dR:FuncId:=118
abbrev jS:FuncId:=119
abbrev ES:FuncId:=120
abbrev CV:FuncId:=122
abbrev Bg:FuncId:=127
abbrev aez:FuncId:=131
abbrev CS:FuncId:=132
abbrev CU:FuncId:=133
abbrev A8:FuncId:=134
abbrev uX:FuncId:=137
abbrev FP:FuncId:=138
abbrev rE:FuncId:=139
abbrev qI:FuncId:=140
abbrev Ot:FuncId:=141
abbrev gq:FuncId:=142
abbrev iG:FuncId:=143
abbrev SS:FuncId:=144
abbrev yP:FuncId:=145
abbrev Dl:FuncId:=146
abbrev xx:FuncId:=147
abbrev fJ:FuncId:=148
abbrev nY:FuncId:=149
abbrev iD:FuncId:=150
abbrev vw:FuncId:=151
abbrev Zo:FuncId:=152
abbrev Iw:FuncId:=153
abbrev Iu:FuncId:=154
abbrev Jq:FuncId:=155
abbrev Bh:FuncId:=156
abbrev aey:FuncId:=157
abbrev EQ:FuncId:=158
abbrev WO:FuncId:=159
abbrev Ir:FuncId:=160
abbrev vS:FuncId:=162
abbrev Ql:FuncId:=163
abbrev mZ:FuncId:=164
abbrev Uk:FuncId:=167
abbrev nH:FuncId:=169
abbrev lY:FuncId:=175
abbrev jH:FuncId:=176
abbrev Ui:FuncId:=186
abbrev Jn:FuncId:=189
abbrev ash:FuncId:=190
abbrev Jp:FuncId:=191
abbrev FO:FuncId:=192
abbrev Hl:FuncId:=193
abbrev Hm:FuncId:=194
abbrev Bd:FuncId:=195
abbrev jk:FuncId:=196
abbrev Ce:FuncId:=197
abbrev SQ:FuncId:=198
abbrev vk:FuncId:=199
abbrev D6:FuncId:=200
abbrev wF:FuncId:=204
abbrev DY:FuncId:=205
abbrev vP:FuncId:=206
abbrev FU:FuncId:=214
abbrev Js:FuncId:=215
abbrev vF:FuncId:=222
abbrev qw:FuncId:=223
abbrev qp:FuncId:=224
abbrev vC:FuncId:=225
abbrev zy:FuncId:=230
abbrev oO:FuncId:=240
abbrev qZ:FuncId:=249
abbrev Jr:FuncId:=259
abbrev Zp:FuncId:=260
abbrev iQ:FuncId:=262
abbrev qL:FuncId:=263
abbrev Be:FuncId:=265
abbrev Hr:FuncId:=268
abbrev WN:FuncId:=269
abbrev qm:FuncId:=270
abbrev su:FuncId:=271
abbrev oP:FuncId:=272
abbrev Qk:FuncId:=278
abbrev Iz:FuncId:=297
abbrev oV:FuncId:=298
abbrev wB:FuncId:=299
abbrev iR:FuncId:=300
abbrev dm:FuncId:=301
abbrev bG:FuncId:=303
abbrev Qm:FuncId:=306
abbrev xR:FuncId:=308
abbrev Jo:FuncId:=309
abbrev Hg:FuncId:=310
abbrev DZ:FuncId:=311
abbrev lD:FuncId:=312
abbrev Ah:FuncId:=313
abbrev lV:FuncId:=319
abbrev asi:FuncId:=320
abbrev lW:FuncId:=324
abbrev FT:FuncId:=325
abbrev jI:FuncId:=326
abbrev DW:FuncId:=328
abbrev DX:FuncId:=329
abbrev A7:FuncId:=330
abbrev DV:FuncId:=331
abbrev AZ:FuncId:=332
abbrev AY:FuncId:=333
abbrev vg:FuncId:=334
abbrev zJ:FuncId:=335
abbrev zK:FuncId:=336
abbrev Ba:FuncId:=337
abbrev fD:FuncId:=338
abbrev BD:FuncId:=339
abbrev Oo:FuncId:=346
abbrev Oq:FuncId:=347
abbrev iT:FuncId:=348
abbrev Ho:FuncId:=350
abbrev D9:FuncId:=351
abbrev Qj:FuncId:=352
abbrev SV:FuncId:=353
abbrev Ou:FuncId:=364
abbrev Iy:FuncId:=365
abbrev Hu:FuncId:=374
abbrev ET:FuncId:=375
abbrev mF:FuncId:=376
abbrev Af:FuncId:=377
abbrev Hq:FuncId:=383
abbrev wE:FuncId:=384
abbrev yR:FuncId:=385
abbrev Bj:Nat:=0
abbrev tZ:Nat:=1
abbrev CX:Nat:=2
abbrev wG:Nat:=4
abbrev sF:Nat:=5
abbrev qM:Nat:=6
abbrev qx:Nat:=9
abbrev sH:Nat:=10
def OE:LA:=List.replicate 256 .nilFunc
abbrev Td:LU:=[0,1,2,2,3,3,3,3,4,4,4,4,4,4,4,4,5,5,5,5,5,5,5,5,5,5,5,5,5,5,5,5,6,6,6,6,6,6,6,6,6,6,6,6,6,6,6,6,6,6,6,6,6,6,6,6,6,6,6,6,6,6,6,6,7,7,7,7,7,7,7,7,7,7,7,7,7,7,7,7,7,7,7,7,7,7,7,7,7,7,7,7,7,7,7,7,7,7,7,7,7,7,7,7,7,7,7,7,7,7,7,7,7,7,7,7,7,7,7,7,7,7,7,7,7,7,7,7,8,8,8,8,8,8,8,8,8,8,8,8,8,8,8,8,8,8,8,8,8,8,8,8,8,8,8,8,8,8,8,8,8,8,8,8,8,8,8,8,8,8,8,8,8,8,8,8,8,8,8,8,8,8,8,8,8,8,8,8,8,8,8,8,8,8,8,8,8,8,8,8,8,8,8,8,8,8,8,8,8,8,8,8,8,8,8,8,8,8,8,8,8,8,8,8,8,8,8,8,8,8,8,8,8,8,8,8,8,8,8,8,8,8,8,8,8,8,8,8,8,8,8,8,8,8,8,8]
abbrev eX:LU:=[48,48,48,49,48,50,48,51,48,52,48,53,48,54,48,55,48,56,48,57,49,48,49,49,49,50,49,51,49,52,49,53,49,54,49,55,49,56,49,57,50,48,50,49,50,50,50,51,50,52,50,53,50,54,50,55,50,56,50,57,51,48,51,49,51,50,51,51,51,52,51,53,51,54,51,55,51,56,51,57,52,48,52,49,52,50,52,51,52,52,52,53,52,54,52,55,52,56,52,57,53,48,53,49,53,50,53,51,53,52,53,53,53,54,53,55,53,56,53,57,54,48,54,49,54,50,54,51,54,52,54,53,54,54,54,55,54,56,54,57,55,48,55,49,55,50,55,51,55,52,55,53,55,54,55,55,55,56,55,57,56,48,56,49,56,50,56,51,56,52,56,53,56,54,56,55,56,56,56,57,57,48,57,49,57,50,57,51,57,52,57,53,57,54,57,55,57,56,57,57]
abbrev KsA(f:Nat)(ls:List KC):Type:=KSP Go.Proofs.Tryz.prog f ls
abbrev LsA(f:Nat)(ls:List KC)(i:Nat):Type:=LSP Go.Proofs.Tryz.prog f ls i
noncomputable section
def yC:KF:=(.mk ?k:KsA 89 []).1
def F6:KF:=(.mk ?k:KsA 137 []).1
def gG:KC:=(.mk ?k:LsA 140 [] 0).1
attribute [local irreducible] gG
def iU:KC:=(.mk ?k:LsA 140 [gG] 1).1
attribute [local irreducible] iU
def iZ:KF:=(.mk ?k:KsA 140 [gG,iU]).1
def jw:KF:=(.mk ?k:KsA 92 []).1
def Dw:KF:=(.mk ?k:KsA 145 []).1
def dY:KF:=(.mk ?k:KsA 69 []).1
def wZ:KF:=(.mk ?k:KsA 99 []).1
def uS:KF:=(.mk ?k:KsA 103 []).1
def Am:KF:=(.mk ?k:KsA 107 []).1
def Ap:KF:=(.mk ?k:KsA 102 []).1
def xN:KF:=(.mk ?k:KsA 105 []).1
def BO:KF:=(.mk ?k:KsA 104 []).1
def kM:KF:=(.mk ?k:KsA 148 []).1
def vN:KF:=(.mk ?k:KsA 149 []).1
def xg:KF:=(.mk ?k:KsA 147 []).1
def zq:KF:=(.mk ?k:KsA 106 []).1
def fB:KC:=(.mk ?k:LsA 101 [] 0).1
attribute [local irreducible] fB
def zY:KF:=(.mk ?k:KsA 101 [fB]).1
def qC:KC:=(.mk ?k:LsA 132 [] 0).1
attribute [local irreducible] qC
def CB:KF:=(.mk ?k:KsA 132 [qC]).1
def cu:KF:=(.mk ?k:KsA 70 []).1
def bK:KF:=(.mk ?k:KsA 108 []).1
def NT:KF:=⟨2,24,[(.cell 4 true 5),(.tmp 5)],(ckQ [o 4 (.new [cvU 0,cvI 0,cvI 0,cvI 0,cvE] none),cqI 5 0]
 (.seq (ckQ [m 7 1,cqC 8 .lss 0 true 7 0,m 9 8,og 10 9 false (.mv (.t 1)),og 11 9 false (.mv (.t 0)),og 12 9 false (.len 0 (.t 11)),og 13 9 false (.bin .gtr 0 false (.t 10) (.t 12)),o 14 (.pick (.t 9) (.c (.bool true)) (.t 13))]
 (.cond (.t 14)
 (ckQ [o 15 (.build [cvU 0,cvI 0,cvI 0,cvI 0,cvE] []),cqS 5 4 15,cqI 5 1]
 (.ret [4,5]))
 .skip))
 (ckQ [cqK 16 xR [],o 6 (.new OE none),cqS 256 6 16]
 (ckQ [m 17 0,m 18 0,m 19 1,cqK 20 Hg [18,19],cqK 21 Jo [6,17,20],cqE 22 21 0,cqE 23 21 1,cqS 5 4 22,m 5 23]
 (.ret [4,5])))))⟩
def TP:KF:=(.mk ?k:KsA 333 []).1
def TQ:KF:=(.mk ?k:KsA 332 []).1
def TS:KF:=(.mk ?k:KsA 330 []).1
def VQ:KF:=(.mk ?k:KsA 331 []).1
def CE:KF:=(.mk ?k:KsA 334 []).1
def VS:KF:=(.mk ?k:KsA 328 []).1
def VT:KF:=(.mk ?k:KsA 329 []).1
def NU:KF:=(.mk ?k:KsA 346 []).1
def kP:KC:=(.mk ?k:LsA 310 [] 0).1
attribute [local irreducible] kP
def NW:KF:=(.mk ?k:KsA 310 [kP]).1
def GK:KF:=(.mk ?k:KsA 335 []).1
def Ez:KF:=(.mk ?k:KsA 309 []).1
def oG:KC:=(.mk ?k:LsA 336 [] 0).1
attribute [local irreducible] oG
def DC:KF:=(.mk ?k:KsA 336 [oG]).1
def bY:KC:=(.mk ?k:LsA 347 [] 0).1
attribute [local irreducible] bY
def GM:KF:=(.mk ?k:KsA 347 [bY]).1
def jC:KC:=(.mk ?k:LsA 350 [] 0).1
attribute [local irreducible] jC
def jB:KF:=(.mk ?k:KsA 350 [jC]).1
def cO:KC:=(.mk ?k:LsA 78 [] 0).1
attribute [local irreducible] cO
def wV:KF:=(.mk ?k:KsA 78 [cO]).1
def rf:KF:=(.mk ?k:KsA 150 []).1
def iP:KC:=(.mk ?k:LsA 313 [] 0).1
attribute [local irreducible] iP
def FC:KF:=(.mk ?k:KsA 313 [iP]).1
def uU:KF:=(.mk ?k:KsA 268 []).1
def dP:KC:=(.mk ?k:LsA 205 [] 0).1
attribute [local irreducible] dP
def xk:KF:=(.mk ?k:KsA 205 [dP]).1
def oC:KF:=(.mk ?k:KsA 337 []).1
def bZ:KC:=(.mk ?k:LsA 271 [] 0).1
attribute [local irreducible] bZ
def nJ:KF:=(.mk ?k:KsA 271 [bZ]).1
def dB:KF:=(.mk ?k:KsA 312 []).1
def kC:KF:=(.mk ?k:KsA 311 []).1
def bM:KC:=(.mk ?k:LsA 272 [] 0).1
attribute [local irreducible] bM
def kX:KF:=(.mk ?k:KsA 272 [bM]).1
def aV:KF:=(.mk ?k:KsA 206 []).1
def mg:KF:=(.mk ?k:KsA 270 []).1
def bu:KC:=(.mk ?k:LsA 324 [] 0).1
attribute [local irreducible] bu
def iO:KF:=(.mk ?k:KsA 324 [bu]).1
def ru:KC:=(.mk ?k:LsA 100 [] 0).1
attribute [local irreducible] ru
def Kt:KF:=(.mk ?k:KsA 100 [ru]).1
def BU:KF:=(.mk ?k:KsA 224 []).1
def dS:KC:=(.mk ?k:LsA 225 [] 0).1
attribute [local irreducible] dS
def zF:KF:=(.mk ?k:KsA 225 [dS]).1
def zG:KF:=(.mk ?k:KsA 222 []).1
def BV:KF:=(.mk ?k:KsA 223 []).1
def Pi:KF:=(.mk ?k:KsA 163 []).1
def lS:KC:=(.mk ?k:LsA 325 [] 0).1
attribute [local irreducible] lS
def FD:KF:=(.mk ?k:KsA 325 [lS]).1
def qF:KC:=(.mk ?k:LsA 122 [] 0).1
attribute [local irreducible] qF
def Pj:KF:=(.mk ?k:KsA 122 [qF]).1
def xO:KF:=(.mk ?k:KsA 265 []).1
def TV:KF:=(.mk ?k:KsA 127 []).1
def dh:KC:=(.mk ?k:LsA 298 [] 0).1
attribute [local irreducible] dh
def oD:KF:=(.mk ?k:KsA 298 [dh]).1
def jL:KC:=(.mk ?k:LsA 176 [] 0).1
attribute [local irreducible] jL
def yH:KF:=(.mk ?k:KsA 176 [jL]).1
def jD:KC:=(.mk ?k:LsA 175 [] 0).1
attribute [local irreducible] jD
def sQ:KF:=(.mk ?k:KsA 175 [jD]).1
def CJ:KF:=(.mk ?k:KsA 306 []).1
def uq:KF:=(.mk ?k:KsA 326 []).1
def jr:KC:=(.mk ?k:LsA 186 [] 0).1
attribute [local irreducible] jr
def mW:KF:=(.mk ?k:KsA 186 [jr]).1
def fH:KC:=(.mk ?k:LsA 259 [] 0).1
attribute [local irreducible] fH
def aN:KF:=(.mk ?k:KsA 259 [fH]).1
def BB:KF:=(.mk ?k:KsA 297 []).1
def rq:KF:=(.mk ?k:KsA 112 []).1
def fM:KF:=(.mk ?k:KsA 156 []).1
def kZ:KF:=(.mk ?k:KsA 139 []).1
def ui:KF:=(.mk ?k:KsA 142 []).1
def iM:KF:=(.mk ?k:KsA 72 []).1
def kY:KF:=(.mk ?k:KsA 118 []).1
def eG:KF:=⟨1,25,[(.tmp 2)],(ckQ [cqI 2 0]
 (.seq (ckQ [m 3 0,o 4 (.bin .geq 0 true (.t 3) (.c (.int .u64 4294967296)))]
 (.cond (.t 4)
 (ckQ [m 5 0,o 6 (.bin .shr 0 true (.t 5) (.c (.int .u64 32))),m 0 6]
 (.ops [cqI 2 32]))
 .skip))
 (.seq (ckQ [m 7 0,o 8 (.bin .geq 0 true (.t 7) (.c (.int .u64 65536)))]
 (.cond (.t 8)
 (ckQ [m 9 0,o 10 (.bin .shr 0 true (.t 9) (.c (.int .u64 16))),m 0 10]
 (.ops [m 11 2,cqC 12 .add 0 true 11 16,m 2 12]))
 .skip))
 (.seq (ckQ [m 13 0,o 14 (.bin .geq 0 true (.t 13) (.c (.int .u64 256)))]
 (.cond (.t 14)
 (ckQ [m 15 0,o 16 (.bin .shr 0 true (.t 15) (.c (.int .u64 8))),m 0 16]
 (.ops [m 17 2,cqC 18 .add 0 true 17 8,m 2 18]))
 .skip))
 (ckQ [m 19 2,m 20 0,o 21 (.i2i .u8 (.t 20)),o 22 (.idxStr (ccS Td) (.t 21)),o 23 (.i2i .i64 (.t 22)),cqB 24 .add 0 false 19 23,m 2 24]
 (.ret [2]))))))⟩
def lQ:KF:=(.mk ?k:KsA 319 []).1
def lN:KF:=(.mk ?k:KsA 320 []).1
def sO:KF:=(.mk ?k:KsA 300 []).1
def aU:KC:=
 (.seq (ckQ [m 19 4,cqC 20 .geq 0 true 19 8]
 (.cond (.t 20)
 .skip
 (.exit [0,1,4] 0)))
 (.block 1
 (ckQ [m 21 1,o 22 (.bin .rem 0 true (.t 21) (.c (.int .u64 100000000))),o 23 (.i2i .u32 (.t 22)),m 5 23]
 (ckQ [m 24 1,o 25 (.bin .quo 0 true (.t 24) (.c (.int .u64 100000000))),m 1 25]
 (ckQ [m 26 5,o 27 (.bin .quo 0 true (.t 26) (.c (.int .u32 10000))),m 28 5,o 29 (.bin .rem 0 true (.t 28) (.c (.int .u32 10000))),m 6 27,m 7 29]
 (ckQ [m 30 7,o 31 (.bin .quo 0 true (.t 30) (.c (.int .u32 100))),o 32 (.bin .mul 0 true (.t 31) (.c (.int .u32 2))),m 33 7,o 34 (.bin .rem 0 true (.t 33) (.c (.int .u32 100))),o 35 (.bin .mul 0 true (.t 34) (.c (.int .u32 2))),m 8 32,m 9 35]
 (ckQ [m 36 6,o 37 (.bin .quo 0 true (.t 36) (.c (.int .u32 100))),o 38 (.bin .mul 0 true (.t 37) (.c (.int .u32 2))),m 39 6,o 40 (.bin .rem 0 true (.t 39) (.c (.int .u32 100))),o 41 (.bin .mul 0 true (.t 40) (.c (.int .u32 2))),m 10 38,m 11 41]
 (.seq (.plain [m 42 0,m 43 4,cqC 44 .sub 0 true 43 1,m 45 0,m 46 4,cqC 47 .sub 0 true 46 2,m 48 9,o 49 (.bin .add 0 true (.t 48) (.c (.int .u32 1))),o 50 (.idxStr (ccS eX) (.t 49)),m 51 9,o 52 (.idxStr (ccS eX) (.t 51)),o 53 (.idxAddrSl 1 (.t 42) (.t 44)),cqS 1 53 50,o 54 (.idxAddrSl 1 (.t 45) (.t 47)),cqS 1 54 52])
 (.seq (.plain [m 55 0,m 56 4,cqC 57 .sub 0 true 56 3,m 58 0,m 59 4,cqC 60 .sub 0 true 59 4,m 61 8,o 62 (.bin .add 0 true (.t 61) (.c (.int .u32 1))),o 63 (.idxStr (ccS eX) (.t 62)),m 64 8,o 65 (.idxStr (ccS eX) (.t 64)),o 66 (.idxAddrSl 1 (.t 55) (.t 57)),cqS 1 66 63,o 67 (.idxAddrSl 1 (.t 58) (.t 60)),cqS 1 67 65])
 (.seq (.plain [m 68 0,m 69 4,cqC 70 .sub 0 true 69 5,m 71 0,m 72 4,cqC 73 .sub 0 true 72 6,m 74 11,o 75 (.bin .add 0 true (.t 74) (.c (.int .u32 1))),o 76 (.idxStr (ccS eX) (.t 75)),m 77 11,o 78 (.idxStr (ccS eX) (.t 77)),o 79 (.idxAddrSl 1 (.t 68) (.t 70)),cqS 1 79 76,o 80 (.idxAddrSl 1 (.t 71) (.t 73)),cqS 1 80 78])
 (.seq (.plain [m 81 0,m 82 4,cqC 83 .sub 0 true 82 7,m 84 0,m 85 4,cqC 86 .sub 0 true 85 8,m 87 10,o 88 (.bin .add 0 true (.t 87) (.c (.int .u32 1))),o 89 (.idxStr (ccS eX) (.t 88)),m 90 10,o 91 (.idxStr (ccS eX) (.t 90)),o 92 (.idxAddrSl 1 (.t 81) (.t 83)),cqS 1 92 89,o 93 (.idxAddrSl 1 (.t 84) (.t 86)),cqS 1 93 91])
 (.ops [m 94 4,cqC 95 .sub 0 true 94 8,m 4 95]))))))))))))
def dU:KF:=⟨2,167,[],(ckQ [m 17 0,cqN 18 1 17,m 4 18]
 (.seq (.block 0
 (.loop [0,1,4] aU))
 (ckQ [m 96 1,o 97 (.i2i .u32 (.t 96)),m 12 97]
 (.seq (ckQ [m 98 4,cqC 99 .geq 0 true 98 4]
 (.cond (.t 99)
 (ckQ [m 100 12,o 101 (.bin .rem 0 true (.t 100) (.c (.int .u32 10000))),m 13 101]
 (ckQ [m 102 12,o 103 (.bin .quo 0 true (.t 102) (.c (.int .u32 10000))),m 12 103]
 (ckQ [m 104 13,o 105 (.bin .quo 0 true (.t 104) (.c (.int .u32 100))),o 106 (.bin .mul 0 true (.t 105) (.c (.int .u32 2))),m 107 13,o 108 (.bin .rem 0 true (.t 107) (.c (.int .u32 100))),o 109 (.bin .mul 0 true (.t 108) (.c (.int .u32 2))),m 14 106,m 15 109]
 (.seq (.plain [m 110 0,m 111 4,cqC 112 .sub 0 true 111 1,m 113 0,m 114 4,cqC 115 .sub 0 true 114 2,m 116 15,o 117 (.bin .add 0 true (.t 116) (.c (.int .u32 1))),o 118 (.idxStr (ccS eX) (.t 117)),m 119 15,o 120 (.idxStr (ccS eX) (.t 119)),o 121 (.idxAddrSl 1 (.t 110) (.t 112)),cqS 1 121 118,o 122 (.idxAddrSl 1 (.t 113) (.t 115)),cqS 1 122 120])
 (.seq (.plain [m 123 0,m 124 4,cqC 125 .sub 0 true 124 3,m 126 0,m 127 4,cqC 128 .sub 0 true 127 4,m 129 14,o 130 (.bin .add 0 true (.t 129) (.c (.int .u32 1))),o 131 (.idxStr (ccS eX) (.t 130)),m 132 14,o 133 (.idxStr (ccS eX) (.t 132)),o 134 (.idxAddrSl 1 (.t 123) (.t 125)),cqS 1 134 131,o 135 (.idxAddrSl 1 (.t 126) (.t 128)),cqS 1 135 133])
 (.ops [m 136 4,cqC 137 .sub 0 true 136 4,m 4 137]))))))
 .skip))
 (.seq (ckQ [m 138 4,cqC 139 .geq 0 true 138 2]
 (.cond (.t 139)
 (ckQ [m 140 12,o 141 (.bin .rem 0 true (.t 140) (.c (.int .u32 100))),o 142 (.bin .mul 0 true (.t 141) (.c (.int .u32 2))),m 16 142]
 (ckQ [m 143 12,o 144 (.bin .quo 0 true (.t 143) (.c (.int .u32 100))),m 12 144]
 (.seq (.plain [m 145 0,m 146 4,cqC 147 .sub 0 true 146 1,m 148 0,m 149 4,cqC 150 .sub 0 true 149 2,m 151 16,o 152 (.bin .add 0 true (.t 151) (.c (.int .u32 1))),o 153 (.idxStr (ccS eX) (.t 152)),m 154 16,o 155 (.idxStr (ccS eX) (.t 154)),o 156 (.idxAddrSl 1 (.t 145) (.t 147)),cqS 1 156 153,o 157 (.idxAddrSl 1 (.t 148) (.t 150)),cqS 1 157 155])
 (.ops [m 158 4,cqC 159 .sub 0 true 158 2,m 4 159]))))
 .skip))
 (ckQ [m 160 4,cqC 161 .gtr 0 true 160 0]
 (.cond (.t 161)
 (.ops [m 162 0,m 163 12,o 164 (.bin .add 0 true (.c (.int .u32 48)) (.t 163)),o 165 (.i2i .u8 (.t 164)),o 166 (.idxAddrSl 1 (.t 162) (ccI 0)),cqS 1 166 165])
 .skip)))))))⟩
def pI:KF:=⟨1,15,[(.tmp 2)],(ckQ [o 2 (.mv (ccS []))]
 (.seq (ckQ [m 3 0,cqC 4 .lss 0 true 3 10]
 (.cond (.t 4)
 (ckQ [m 5 0,m 6 0,cqC 7 .add 0 true 6 1,o 8 (.sliceStr (ccS [48,49,50,51,52,53,54,55,56,57,97,98,99,100,101,102,103,104,105,106,107,108,109,110,111,112,113,114,115,116,117,118,119,120,121,122]) (some (.t 5)) (some (.t 7))),m 2 8]
 (.ret [2]))
 .skip))
 (ckQ [m 9 0,cqC 10 .mul 0 true 9 2,m 11 0,cqC 12 .mul 0 true 11 2,cqC 13 .add 0 true 12 2,o 14 (.sliceStr (ccS eX) (some (.t 10)) (some (.t 13))),m 2 14]
 (.ret [2]))))⟩
def dN:KF:=(.mk ?k:KsA 262 []).1
def BX:KF:=(.mk ?k:KsA 197 []).1
def VU:KF:=(.mk ?k:KsA 141 []).1
end
noncomputable section
def Ak:KF:=(.mk ?k:KsA 91 []).1
def yD:KF:=(.mk ?k:KsA 60 []).1
def Pg:KF:=(.mk ?k:KsA 61 []).1
def MN:KF:=(.mk ?k:KsA 62 []).1
def eP:KC:=(.mk ?k:LsA 24 [] 0).1
attribute [local irreducible] eP
def ja:KC:=(.mk ?k:LsA 24 [eP] 1).1
attribute [local irreducible] ja
def xh:KF:=(.mk ?k:KsA 24 [eP,ja]).1
def dC:KC:=(.mk ?k:LsA 25 [] 0).1
attribute [local irreducible] dC
def mM:KF:=(.mk ?k:KsA 25 [dC]).1
def bI:KC:=(.mk ?k:LsA 23 [] 0).1
attribute [local irreducible] bI
def jy:KF:=(.mk ?k:KsA 23 [bI]).1
def jb:KC:=(.mk ?k:LsA 9 [] 0).1
attribute [local irreducible] jb
def nI:KF:=(.mk ?k:KsA 9 [jb]).1
def rM:KF:=(.mk ?k:KsA 33 []).1
def uw:KC:=(.mk ?k:LsA 67 [] 0).1
attribute [local irreducible] uw
def Ar:KC:=(.mk ?k:LsA 67 [uw] 1).1
attribute [local irreducible] Ar
def NK:KF:=(.mk ?k:KsA 67 [uw,Ar]).1
def IX:KC:=
 (.seq (ckQ [m 11 5,m 12 0,cqN 13 1 12,cqB 14 .lss 0 false 11 13]
 (.cond (.t 14)
 .skip
 (.exit [] 0)))
 (.seq (.block 1
 (.seq (.plain [m 17 0,m 18 5,o 19 (.idxAddrSl 2 (.t 17) (.t 18)),cqL 20 2 19,m 21 1,m 22 5,o 23 (.idxAddrSl 2 (.t 21) (.t 22)),cqL 24 2 23,cqB 25 .neq 10 false 20 24])
 (.cond (.t 25)
 (ckQ [cqT 4 false]
 (.ret [4]))
 .skip)))
 (.ops [m 15 5,cqC 16 .add 0 true 15 1,m 5 16])))
def Dy:KF:=⟨2,26,[(.tmp 4)],(ckQ [cqT 4 false]
 (.seq (ckQ [m 6 0,cqN 7 1 6,m 8 1,cqN 9 1 8,cqB 10 .neq 0 false 7 9]
 (.cond (.t 10)
 (ckQ [cqT 4 false]
 (.ret [4]))
 .skip))
 (.seq (ckQ [cqI 5 0]
 (.block 0
 (.loop [0,1,5] IX)))
 (ckQ [cqT 4 true]
 (.ret [4])))))⟩
def Au:KC:=(.mk ?k:LsA 47 [] 0).1
attribute [local irreducible] Au
def Dz:KF:=(.mk ?k:KsA 47 [Au]).1
def Aw:KC:=(.mk ?k:LsA 37 [] 0).1
attribute [local irreducible] Aw
def NL:KF:=(.mk ?k:KsA 37 [Aw]).1
def zu:KC:=(.mk ?k:LsA 66 [] 0).1
attribute [local irreducible] zu
def MB:KF:=(.mk ?k:KsA 66 [zu]).1
def NM:KF:=(.mk ?k:KsA 38 []).1
def uy:KC:=(.mk ?k:LsA 65 [] 0).1
attribute [local irreducible] uy
def vX:KF:=(.mk ?k:KsA 65 [uy]).1
def Az:KC:=(.mk ?k:LsA 12 [] 0).1
attribute [local irreducible] Az
def NQ:KF:=(.mk ?k:KsA 12 [Az]).1
def IQ:KF:=(.mk ?k:KsA 36 []).1
def AA:KC:=(.mk ?k:LsA 13 [] 0).1
attribute [local irreducible] AA
def NR:KF:=(.mk ?k:KsA 13 [AA]).1
def um:KF:=(.mk ?k:KsA 44 []).1
def pM:KC:=(.mk ?k:LsA 43 [] 0).1
attribute [local irreducible] pM
def uo:KF:=(.mk ?k:KsA 43 [pM]).1
def kW:KF:=(.mk ?k:KsA 71 []).1
def zD:KF:=(.mk ?k:KsA 32 []).1
def vY:KF:=(.mk ?k:KsA 59 []).1
def fU:KF:=(.mk ?k:KsA 93 []).1
def oH:KC:=(.mk ?k:LsA 17 [] 0).1
attribute [local irreducible] oH
def GN:KF:=(.mk ?k:KsA 17 [oH]).1
def pO:KC:=(.mk ?k:LsA 58 [] 0).1
attribute [local irreducible] pO
def Aq:KF:=(.mk ?k:KsA 58 [pO]).1
def gy:KC:=(.mk ?k:LsA 35 [] 0).1
attribute [local irreducible] gy
def zt:KF:=(.mk ?k:KsA 35 [gy]).1
def yG:KF:=(.mk ?k:KsA 98 []).1
def DF:KF:=(.mk ?k:KsA 64 []).1
def dX:KC:=(.mk ?k:LsA 162 [] 0).1
attribute [local irreducible] dX
def qh:KF:=(.mk ?k:KsA 162 [dX]).1
def DI:KF:=(.mk ?k:KsA 63 []).1
def dK:KC:=(.mk ?k:LsA 22 [] 0).1
attribute [local irreducible] dK
def qy:KF:=(.mk ?k:KsA 22 [dK]).1
def eQ:KC:=(.mk ?k:LsA 7 [] 0).1
attribute [local irreducible] eQ
def eU:KC:=(.mk ?k:LsA 7 [eQ] 1).1
attribute [local irreducible] eU
def Dx:KF:=(.mk ?k:KsA 7 [eQ,eU]).1
def gZ:KF:=(.mk ?k:KsA 10 []).1
def pK:KC:=(.mk ?k:LsA 3 [] 0).1
attribute [local irreducible] pK
def vZ:KC:=(.mk ?k:LsA 3 [pK] 1).1
attribute [local irreducible] vZ
def FH:KC:=(.mk ?k:LsA 3 [pK,vZ] 2).1
attribute [local irreducible] FH
def asg:KF:=(.mk ?k:KsA 3 [pK,vZ,FH]).1
def IY:KC:=
 (.seq (ckQ [m 11 5,m 12 0,cqN 13 1 12,cqB 14 .lss 0 false 11 13]
 (.cond (.t 14)
 .skip
 (.exit [] 0)))
 (.seq (.block 1
 (.seq (.plain [m 17 0,m 18 5,o 19 (.idxAddrSl 4 (.t 17) (.t 18)),cqL 20 4 19,m 21 1,m 22 5,o 23 (.idxAddrSl 4 (.t 21) (.t 22)),cqL 24 4 23,cqB 25 .neq 73740 false 20 24])
 (.cond (.t 25)
 (ckQ [cqT 4 false]
 (.ret [4]))
 .skip)))
 (.ops [m 15 5,cqC 16 .add 0 true 15 1,m 5 16])))
def NS:KF:=⟨2,26,[(.tmp 4)],(ckQ [cqT 4 false]
 (.seq (ckQ [m 6 0,cqN 7 1 6,m 8 1,cqN 9 1 8,cqB 10 .neq 0 false 7 9]
 (.cond (.t 10)
 (ckQ [cqT 4 false]
 (.ret [4]))
 .skip))
 (.seq (ckQ [cqI 5 0]
 (.block 0
 (.loop [0,1,5] IY)))
 (ckQ [cqT 4 true]
 (.ret [4])))))⟩
def BQ:KF:=(.mk ?k:KsA 11 []).1
def ni:KF:=(.mk ?k:KsA 34 []).1
def BR:KF:=(.mk ?k:KsA 30 []).1
def dD:KC:=(.mk ?k:LsA 4 [] 0).1
attribute [local irreducible] dD
def bF:KC:=(.mk ?k:LsA 4 [dD] 1).1
attribute [local irreducible] bF
def bW:KC:=(.mk ?k:LsA 4 [dD,bF] 2).1
attribute [local irreducible] bW
def NP:KF:=(.mk ?k:KsA 20 []).1
def MC:KF:=(.mk ?k:KsA 19 []).1
def Sj:KF:=(.mk ?k:KsA 21 []).1
def UY:KF:=(.mk ?k:KsA 49 []).1
def MO:KF:=(.mk ?k:KsA 16 []).1
def xP:KF:=(.mk ?k:KsA 164 []).1
end
set_option maxRecDepth 100000
variable{C:Ctx}
def sC(s:LU):LA:=[.str s]
def alk(s:LU):(sC s).length=1:=rfl
def atM(ns:List LU):ns.map AV.str=ns.flatMap sC:=by
 induction ns with
 |nil=>rfl
 |cons a l ih=>rw[av3,ih];rfl
def asW (ns:List LU) (hl:ns.length<=1099511627776) (O:St):∀(n i:Nat),i+n=ns.length->
  aH C (ai C) 26 [0,1,5] zu [(0,.sl ns.length (ns.flatMap sC)),(1,.sl ns.length (ns.flatMap sC)),(5,.int .i64 i)] O=some (.exit 0,[],O)
 |0,i,hi=>by
  rw[aG (he:=rfl)];have h:¬((i:Int)<(ns.length:Int)):=by omega
  simp only[zu,h,bU,EVX,seval]
 |n+1,i,hi=>by
  rw[aG (he:=rfl)];have h:((i:Int)<(ns.length:Int)):=by omega
  have h2:i<ns.length:=by omega
  have hb:ns[i]?=some ns[i]:=a02 h2;have hw:=wrS i (by omega)
  have h3:(0:Int)<=i:=by omega
  have fl:=dV alk ns;have fd:=lM alk hb;obtain⟨p,hpe⟩:∃p,p=ns[i]:=⟨_,rfl⟩;rw[<-hpe,aw9]at fd;rw[aw9]at fl;have pc:sC p=[.str p]:=rfl;have ih:=asW ns hl O n (i+1) (by omega)
  generalize hk:aH C (ai C) 26 [0,1,5] zu=k at*;simp only[zu,h,h2,h3,hw,fl,fd,pc,bU,ih,a99,aw9,EVX,seval]
def JS(ns:List LU):NV (.sl ns.length (ns.flatMap sC)):=.sl _ (by
 induction ns with
 |nil=>rfl
 |cons a l ih=>rw[ay1];show ae 0 (.str a::l.flatMap sC)=true;rw[ae,ih];rfl)
def asG(hC:Has C MI MB)(ns:List LU)(hl:ns.length<=1099511627776)(O:St):ai C MI [.sl ns.length (ns.flatMap sC),.sl ns.length (ns.flatMap sC)] O=some (.bool true,O):=by
 rw[hC.go (NVs.hand (.cons (JS ns) (.cons (JS ns) .nil)) _)];have lp:=asW (C:=C) ns hl O ns.length 0 (by omega)
 simp only[at6]at lp;simp only[MB,lp,bU,EVX,seval]
abbrev PS:=LU×LU
def pC(p:PS):LA:=[.str p.1,.str p.2]
def FW(p:PS):(pC p).length=2:=rfl
def yY(l:List PS):NV (.sl l.length (l.flatMap pC)):=.sl _ (fP (fun _=>rfl) l)
def asD (l:List PS) (hl:l.length<=1099511627776) (O:St):∀(n i:Nat),i+n=l.length->
  aH C (ai C) 41 [0,1,5] uy [(0,.sl l.length (l.flatMap pC)),(1,.sl l.length (l.flatMap pC)),(5,.int .i64 i)] O=some (.exit 0,[],O)
 |0,i,hi=>by
  rw[aG (he:=rfl)];have h:¬((i:Int)<(l.length:Int)):=by omega
  simp only[uy,h,bU,EVX,seval]
 |n+1,i,hi=>by
  rw[aG (he:=rfl)];have h:((i:Int)<(l.length:Int)):=by omega
  have h2:i<l.length:=by omega
  have hb:l[i]?=some l[i]:=a02 h2;have hw:=wrS i (by omega)
  have h3:(0:Int)<=i:=by omega
  have fl:=dV FW l;have fd:=lM FW hb;obtain⟨p,hpe⟩:∃p,p=l[i]:=⟨_,rfl⟩;rw[<-hpe]at fd;have pc:pC p=[.str p.1,.str p.2]:=rfl;have ih:=asD l hl O n (i+1) (by omega)
  generalize hk:aH C (ai C) 41 [0,1,5] uy=k at*;simp only[uy,h,h2,h3,hw,fl,fd,pc,bU,ih,a99,EVX,seval]
def asw(hC:Has C wC vX)(l:List PS)(hl:l.length<=1099511627776)(O:St):ai C wC [.sl l.length (l.flatMap pC),.sl l.length (l.flatMap pC)] O=some (.bool true,O):=by
 rw[hC.go (NVs.hand (.cons (yY l) (.cons (yY l) .nil)) _)];have lp:=asD (C:=C) l hl O l.length 0 (by omega)
 simp only[at6]at lp;simp only[vX,lp,bU,EVX,seval]
def atf (l:List PS) (hl:l.length<=1099511627776) (O:St):∀(n i:Nat),i+n=l.length->
  aH C (ai C) 26 [0,1,5] IX [(0,.sl l.length (l.flatMap pC)),(1,.sl l.length (l.flatMap pC)),(5,.int .i64 i)] O=some (.exit 0,[],O)
 |0,i,hi=>by
  rw[aG (he:=rfl)];have h:¬((i:Int)<(l.length:Int)):=by omega
  simp only[IX,h,bU,EVX,seval]
 |n+1,i,hi=>by
  rw[aG (he:=rfl)];have h:((i:Int)<(l.length:Int)):=by omega
  have h2:i<l.length:=by omega
  have hb:l[i]?=some l[i]:=a02 h2;have hw:=wrS i (by omega)
  have h3:(0:Int)<=i:=by omega
  have fl:=dV FW l;have fd:=lM FW hb;obtain⟨p,hpe⟩:∃p,p=l[i]:=⟨_,rfl⟩;rw[<-hpe]at fd;have pc:pC p=[.str p.1,.str p.2]:=rfl;have eq:jW (2/1024) [.str p.1,.str p.2] [.str p.1,.str p.2]=some true:=by simp[jW,Go.Ev.nK]
  have ih:=atf l hl O n (i+1) (by omega)
  generalize hk:aH C (ai C) 26 [0,1,5] IX=k at*;simp only[IX,h,h2,h3,hw,fl,fd,pc,bU,ih,a99,eq,aD7,aD9,au8,aw4,EVX,seval]
def asP(hC:Has C DT Dy)(l:List PS)(hl:l.length<=1099511627776)(O:St):ai C DT [.sl l.length (l.flatMap pC),.sl l.length (l.flatMap pC)] O=some (.bool true,O):=by
 rw[hC.go (NVs.hand (.cons (yY l) (.cons (yY l) .nil)) _)];have lp:=atf (C:=C) l hl O l.length 0 (by omega)
 simp only[at6]at lp;simp only[Dy,lp,bU,EVX,seval]
def aC(t:Int)(ns:List LU):LA:=[.int .i64 t,.sl ns.length (ns.flatMap sC)]
def atJ(t:Int)(ns:List LU):NV (.agg (aC t ns)):=.agg (.cons (.int _ _) (.cons (JS ns) .nil))
def ate (t:Int) (ns:List LU) (hl:ns.length<=1099511627776) (O:St):∀(n i:Nat),i+n=ns.length->
  aH C (ai C) 38 [2,3,5] Au [(2,.ref O.length 0),(3,.ref (O.length+1) 0),(5,.int .i64 i)] (O++[.cells (aC t ns) FZ,.cells (aC t ns) FZ])=some (.exit 0,[],O++[.cells (aC t ns) FZ,.cells (aC t ns) FZ])
 |0,i,hi=>by
  rw[aG (he:=rfl)];have h:¬((i:Int)<(ns.length:Int)):=by omega
  have fl:=dV alk ns;rw[aw9]at fl;simp only[Au,aC,h,bU,aQ,EVX,seval]
 |n+1,i,hi=>by
  rw[aG (he:=rfl)];have h:((i:Int)<(ns.length:Int)):=by omega
  have h2:i<ns.length:=by omega
  have hb:ns[i]?=some ns[i]:=a02 h2;have hw:=wrS i (by omega)
  have h3:(0:Int)<=i:=by omega
  have fl:=dV alk ns;have fd:=lM alk hb;obtain⟨p,hpe⟩:∃p,p=ns[i]:=⟨_,rfl⟩;rw[<-hpe,aw9]at fd;rw[aw9]at fl;have pc:sC p=[.str p]:=rfl;have ih:=ate t ns hl O n (i+1) (by omega)
  generalize hk:aH C (ai C) 38 [2,3,5] Au=k at*;unfold aC at ih⊢;simp only[Au,h,h2,h3,hw,fl,fd,pc,bU,ih,aQ,dM,a99,aw9,EVX,seval]
def asv(hC:Has C DU Dz)(t:Int)(ns:List LU)(hl:ns.length<=1099511627776)(O:St)(hσ:Ok O):ai C DU [.agg (aC t ns),.agg (aC t ns)] O=some (.bool true,O):=by
 rw[hC.go (NVs.hand (.cons (atJ t ns) (.cons (atJ t ns) .nil)) _)];have lp:=ate (C:=C) t ns hl O ns.length 0 (by omega)
 simp only[at6]at lp;have fl:=dV alk ns;rw[aw9]at fl;have ty:=dE hσ (vs:=[.bool true]) rfl;unfold aC at lp⊢;simp only[Dz,lp,bU,ty,aQ,dM,AV.cells,a99,EVX,seval]
def Ok.plus{Y:St}(h:Ok Y){L:St}(hl:L.all (AO.below 0)=true):Ok (Y++L):=h.app (by
 rw[a90]at*;exact fun x hx=>AO.below_mono (a98 _) x (hl x hx))
def Ok.mk0{O:St}(h:Ok O):Ok (O++[.cells [.int .u8 0,.int .i64 0,.int .i64 0,.int .i64 0,.str []] FZ]):=h.plus rfl
def nP(k a z n:Int)(t:LU):LA:=[.int .u8 k,.int .i64 a,.int .i64 z,.int .i64 n,.str t]
abbrev BS:Type:={s:LU//s.length<=LB}
def lb0:([]:LU).length<=LB:=a98 _
def ou{O:St}(hσ:Ok O)(k a z n:Int)(t:LU)(e:Int)(L:St):tidy O.length [.agg (nP k a z n t),.int .i64 e] (O++L)=O:=dE hσ (vs:=[.agg (nP k a z n t),.int .i64 e]) rfl L
def Gl(hC:Has C Oo NU)(k a:Int)(O:St)(hσ:Ok O):ai C Oo [.int .u8 k,.int .i64 a] O=some (.tup [.agg (nP k a (IntKind.i64.wrap (a+1)) 0 []),.int .i64 0],O):=by
 have ty:=ou hσ;unfold nP at*;rw[hC.go (NVs.hand (.cons (.int _ _) (.cons (.int _ _) .nil)) _)];simp only[NU,ty,aY,aX,AV.cells,AV.flat,EVX,seval]
structure EE(C:Ctx):Prop where
 sign:Has C Oo NU
 open_:Has C DW VS
 shut_:Has C DX VT
 first_:Has C A7 TS
 last_:Has C DV VQ
 comma_:Has C AZ TQ
 colon_:Has C AY TP
def akf(H:EE C)(s:LU)(a:Int)(O:St)(hσ:Ok O):ai C DW [.str s,.int .i64 a] O=some (.tup [.agg (nP 1 a (IntKind.i64.wrap (a+1)) 0 []),.int .i64 0],O):=by
 have ty:=ou hσ;have q:=fun L hL=>Gl H.sign 1 a (O++L) hL;have ok1:=hσ.mk0;have q:=q _ ok1;unfold nP at*;rw[H.open_.go (NVs.hand (.cons (.str _) (.cons (.int _ _) .nil)) _)];simp only[VS,ty,q,aY,aX,AV.cells,AV.flat,EVX,seval]
def akh(H:EE C)(s:LU)(a:Int)(O:St)(hσ:Ok O):ai C DX [.str s,.int .i64 a] O=some (.tup [.agg (nP 2 a (IntKind.i64.wrap (a+1)) 0 []),.int .i64 0],O):=by
 have ty:=ou hσ;have q:=fun L hL=>Gl H.sign 2 a (O++L) hL;have ok1:=hσ.mk0;have q:=q _ ok1;unfold nP at*;rw[H.shut_.go (NVs.hand (.cons (.str _) (.cons (.int _ _) .nil)) _)];simp only[VT,ty,q,aY,aX,AV.cells,AV.flat,EVX,seval]
def ai0(H:EE C)(s:LU)(a:Int)(O:St)(hσ:Ok O):ai C A7 [.str s,.int .i64 a] O=some (.tup [.agg (nP 3 a (IntKind.i64.wrap (a+1)) 0 []),.int .i64 0],O):=by
 have ty:=ou hσ;have q:=fun L hL=>Gl H.sign 3 a (O++L) hL;have ok1:=hσ.mk0;have q:=q _ ok1;unfold nP at*;rw[H.first_.go (NVs.hand (.cons (.str _) (.cons (.int _ _) .nil)) _)];simp only[TS,ty,q,aY,aX,AV.cells,AV.flat,EVX,seval]
def ake(H:EE C)(s:LU)(a:Int)(O:St)(hσ:Ok O):ai C DV [.str s,.int .i64 a] O=some (.tup [.agg (nP 4 a (IntKind.i64.wrap (a+1)) 0 []),.int .i64 0],O):=by
 have ty:=ou hσ;have q:=fun L hL=>Gl H.sign 4 a (O++L) hL;have ok1:=hσ.mk0;have q:=q _ ok1;unfold nP at*;rw[H.last_.go (NVs.hand (.cons (.str _) (.cons (.int _ _) .nil)) _)];simp only[VQ,ty,q,aY,aX,AV.cells,AV.flat,EVX,seval]
def ahZ(H:EE C)(s:LU)(a:Int)(O:St)(hσ:Ok O):ai C AZ [.str s,.int .i64 a] O=some (.tup [.agg (nP 5 a (IntKind.i64.wrap (a+1)) 0 []),.int .i64 0],O):=by
 have ty:=ou hσ;have q:=fun L hL=>Gl H.sign 5 a (O++L) hL;have ok1:=hσ.mk0;have q:=q _ ok1;unfold nP at*;rw[H.comma_.go (NVs.hand (.cons (.str _) (.cons (.int _ _) .nil)) _)];simp only[TQ,ty,q,aY,aX,AV.cells,AV.flat,EVX,seval]
def ahY(H:EE C)(s:LU)(a:Int)(O:St)(hσ:Ok O):ai C AY [.str s,.int .i64 a] O=some (.tup [.agg (nP 6 a (IntKind.i64.wrap (a+1)) 0 []),.int .i64 0],O):=by
 have ty:=ou hσ;have q:=fun L hL=>Gl H.sign 6 a (O++L) hL;have ok1:=hσ.mk0;have q:=q _ ok1;unfold nP at*;rw[H.colon_.go (NVs.hand (.cons (.str _) (.cons (.int _ _) .nil)) _)];simp only[TP,ty,q,aY,aX,AV.cells,AV.flat,EVX,seval]
def zo(b:UInt8):Bool:=b.toNat==32||b.toNat==9||b.toNat==10||b.toNat==13
def runN(p:UInt8->Bool)(s:LU)(i:Nat):Nat:=i+((s.drop i).takeWhile p).length
def abC(p:UInt8->Bool)(s:LU)(i:Nat)(h:i<=s.length):runN p s i<=s.length:=by
 unfold runN;have h1:=(List.takeWhile_sublist p (l:=s.drop i)).length_le;rw[aD5]at h1;omega
def ah2(p:UInt8->Bool)(s:LU)(i:Nat):i<=runN p s i:=by unfold runN;omega
def Ru(p:UInt8->Bool)(s:LU)(i:Nat)(h:i<s.length)(hb:p s[i]=false):runN p s i=i:=by
 unfold runN;rw[as9 h,List.takeWhile_cons,hb];rfl
def iL(p:UInt8->Bool)(s:LU)(i:Nat)(h:i<s.length)(hb:p s[i]=true):runN p s i=runN p s (i+1):=by
 unfold runN;rw[as9 h,List.takeWhile_cons,hb];simp;omega
def Rt(p:UInt8->Bool)(s:LU)(i:Nat)(h:s.length<=i):runN p s i=i:=by
 unfold runN;rw[au1 h];rfl
def Nl (s:LU) (hs:s.length<1099511627777) (O:St):∀(n i:Nat),i+n=s.length->
  aH C (ai C) 36 [0,1] kP [(0,.str s),(1,.int .i64 i)] O=some (.exit 0,[(1,.int .i64 (runN zo s i))],O)
 |0,i,hi=>by
  rw[aG (he:=rfl)];have h:¬((i:Int)<(s.length:Int)):=by omega
  have h':=Rt zo s i (by omega)
  simp only[kP,h,h',EVX,seval]
 |n+1,i,hi=>by
  rw[aG (he:=rfl)];generalize hk:aH C (ai C) 36 [0,1] kP=k;have h:((i:Int)<(s.length:Int)):=by omega
  have h2:i<s.length:=by omega
  have hb:s[i]?=some s[i]:=a02 h2;have hw:=wrS i (by omega)
  have h3:(0:Int)<=i:=by omega
  have ih:=Nl s hs O n (i+1) (by omega)
  rw[hk]at ih;cases c1:((s[i].toNat:Int)==32)
  ·cases c2:((s[i].toNat:Int)==9)
   ·cases c3:((s[i].toNat:Int)==10)
    ·cases c4:((s[i].toNat:Int)==13)
     ·have hx:zo s[i]=false:=by
       simp only[beq_eq_false_iff_ne,ne_eq]at c1 c2 c3 c4;simp[zo];omega
      simp only[kP,h,h3,hb,c1,c2,c3,c4,Ru zo s i h2 hx,EVX,seval]
     ·have hx:zo s[i]=true:=by
       simp only[beq_iff_eq]at c4;simp[zo];omega
      simp only[kP,h,h3,hb,hw,c1,c2,c3,c4,iL zo s i h2 hx,ih,EVX,seval]
    ·have hx:zo s[i]=true:=by
      simp only[beq_iff_eq]at c3;simp[zo];omega
     simp only[kP,h,h3,hb,hw,c1,c2,c3,iL zo s i h2 hx,ih,EVX,seval]
   ·have hx:zo s[i]=true:=by
     simp only[beq_iff_eq]at c2;simp[zo];omega
    simp only[kP,h,h3,hb,hw,c1,c2,iL zo s i h2 hx,ih,EVX,seval]
  ·have hx:zo s[i]=true:=by
    simp only[beq_iff_eq]at c1;simp[zo];omega
   simp only[kP,h,h3,hb,hw,c1,iL zo s i h2 hx,ih,EVX,seval]
def aki(hC:Has C Hg NW)(s:LU)(hs:s.length<1099511627777)(i:Nat)(hi:i<=s.length)(O:St):ai C Hg [.str s,.int .i64 i] O=some (.int .i64 (runN zo s i),O):=by
 have lp:=Nl (C:=C) s hs O (s.length-i) i (by omega)
 rw[hC.go (NVs.hand (.cons (.str _) (.cons (.int _ _) .nil)) _)];simp only[NW,lp,EVX,seval]
def MK(b:UInt8):Bool:=decide (97<=b.toNat)&&decide (b.toNat<=122)
def Np (s:LU) (hs:s.length<1099511627777) (a4:AV) (a:Int) (O:St):∀(n i:Nat),i+n=s.length->
  aH C (ai C) 41 [0,1,4,6] oG [(0,.str s),(1,.int .i64 a),(4,a4),(6,.int .i64 i)] O=some (.exit 0,[(0,.str s),(1,.int .i64 a),(4,a4),(6,.int .i64 (runN MK s i))],O)
 |0,i,hi=>by
  rw[aG (he:=rfl)];have h:¬((i:Int)<(s.length:Int)):=by omega
  have h':=Rt MK s i (by omega)
  simp only[oG,h,h',EVX,seval]
 |n+1,i,hi=>by
  rw[aG (he:=rfl)];generalize hk:aH C (ai C) 41 [0,1,4,6] oG=k;have h:((i:Int)<(s.length:Int)):=by omega
  have h2:i<s.length:=by omega
  have hb:s[i]?=some s[i]:=a02 h2;have hw:=wrS i (by omega)
  have h3:(0:Int)<=i:=by omega
  have ih:=Np s hs a4 a O n (i+1) (by omega)
  rw[hk]at ih;by_cases c1:(97:Int)<=(s[i].toNat:Int)
  ·by_cases c2:(s[i].toNat:Int)<=122
   ·have hx:MK s[i]=true:=by simp[MK];omega
    simp only[oG,h,h3,hb,hw,c1,c2,iL MK s i h2 hx,ih,EVX,seval]
   ·have hx:MK s[i]=false:=by simp[MK];omega
    simp only[oG,h,h3,hb,c1,c2,Ru MK s i h2 hx,EVX,seval]
  ·have hx:MK s[i]=false:=by simp[MK];omega
   simp only[oG,h,h3,hb,c1,Ru MK s i h2 hx,EVX,seval]
def ahf(v:AV):Prop:=∃k a z n t e,v=.tup [.agg (nP k a z n t),.int .i64 e]/\0<=z/\t.length<=LB
def akk(hC:Has C zK DC)(s:LU)(hs:s.length<1099511627777)(i:Nat)(hi:i<=s.length)(O:St)(hσ:Ok O):∃v,ai C zK [.str s,.int .i64 i] O=some (v,O)/\ahf v:=by
 have lp:=fun a4 a Y=>Np (C:=C) s hs a4 a Y (s.length-i) i (by omega)
 have ty:=ou hσ;have he:runN MK s i<=s.length:=abC MK s i hi;have hg:=ah2 MK s i;have h1:(0:Int)<=i:=by omega
 have h2:(0:Int)<=(runN MK s i:Nat):=by omega
 rw[hC.go (NVs.hand (.cons (.str _) (.cons (.int _ _) .nil)) _)];generalize runN MK s i=z at*;generalize hx:(s.take z).drop i=w;cases c1:decide (w=[116,114,117,101])
 ·cases c2:decide (w=[102,97,108,115,101])
  ·refine⟨_,?_,0,0,0,0,[],3,rfl,by omega,lb0⟩
   unfold nP at*;simp only[DC,lp,h1,h2,he,hg,hx,c1,c2,ty,aY,aX,AV.cells,AV.flat,EVX,seval]
  ·refine⟨_,?_,8,i,z,0,[],0,rfl,h2,lb0⟩;unfold nP at*;simp only[DC,lp,h1,h2,he,hg,hx,c1,c2,ty,aY,aX,AV.cells,AV.flat,EVX,seval]
 ·refine⟨_,?_,7,i,z,0,[],0,rfl,h2,lb0⟩;unfold nP at*;simp only[DC,lp,h1,h2,he,hg,hx,c1,ty,aY,aX,AV.cells,AV.flat,EVX,seval]
def aeg(C:Ctx):Prop:=∀(s:LU) (i:Nat) (Y:St),s.length<1099511627777->i<=s.length->Ok Y->∃n z e:Int,ai C Oq [.str s,.int .i64 i] Y=some (.tup [.int .i64 n,.int .i64 z,.int .i64 e],Y)/\0<=z
def aaw(C:Ctx):Prop:=∀(s:LU) (i:Nat) (Y:St),s.length<1099511627777->i<=s.length->Ok Y->∃(t:LU) (z e:Int),ai C iT [.str s,.int .i64 i] Y=some (.tup [.str t,.int .i64 z,.int .i64 e],Y)/\0<=z/\t.length<=LB
def aeY(hC:Has C vg CE)(hn:aeg C)(s:LU)(hs:s.length<1099511627777)(i:Nat)(hi:i<=s.length)(O:St)(hσ:Ok O):∃v,ai C vg [.str s,.int .i64 i] O=some (v,O)/\ahf v:=by
 have ok1:=hσ.mk0;obtain⟨n,z,e,q,hz⟩:=hn s i _ hs hi ok1;have ty:=ou hσ;rw[hC.go (NVs.hand (.cons (.str _) (.cons (.int _ _) .nil)) _)];by_cases c:e=0
 ·subst c;refine⟨_,?_,9,i,z,n,[],0,rfl,hz,lb0⟩;unfold nP at*;simp only[CE,q,ty,aY,aX,AV.cells,AV.flat,EVX,seval]
 ·have c':(e !=0)=true:=by simpa using c
  refine⟨_,?_,0,0,0,0,[],e,rfl,by omega,lb0⟩
  unfold nP at*;simp only[CE,q,c',ty,aY,aX,AV.cells,AV.flat,EVX,seval]
def akj(hC:Has C zJ GK)(hn:aaw C)(s:LU)(hs:s.length<1099511627777)(i:Nat)(hi:i<=s.length)(O:St)(hσ:Ok O):∃v,ai C zJ [.str s,.int .i64 i] O=some (v,O)/\ahf v:=by
 have ok1:=hσ.mk0;obtain⟨n,z,e,q,hz⟩:=hn s i _ hs hi ok1;have ty:=ou hσ;rw[hC.go (NVs.hand (.cons (.str _) (.cons (.int _ _) .nil)) _)];by_cases c:e=0
 ·subst c;refine⟨_,?_,10,i,z,0,n,0,rfl,hz.1,hz.2⟩;unfold nP at*;simp only[GK,q,ty,aY,aX,AV.cells,AV.flat,EVX,seval]
 ·have c':(e !=0)=true:=by simpa using c
  refine⟨_,?_,0,0,0,0,[],e,rfl,by omega,lb0⟩
  unfold nP at*;simp only[GK,q,c',ty,aY,aX,AV.cells,AV.flat,EVX,seval]
def fnA(f:FuncId):AV:=.func (.func f) [] []
def Bq(n:Nat):AV:=
 if n=123 then fnA DW else if n=125 then fnA DX else if n=91 then fnA A7 else if n=93 then fnA DV else if n=44 then fnA AZ else if n=58 then fnA AY else
 if n=34 then fnA zJ else if n=45\/n=43\/n=46\/(48<=n/\n<=57)then fnA vg else if 97<=n/\n<=122 then fnA zK else .nilFunc
def y9:LA:=(List.range 256).map Bq
def XV:y9.length=256:=by simp[y9]
def aik{n:Nat}(h:n<256):y9[n]?=some (Bq n):=by simp[y9,h]
def OW(n:Nat):Bq n=fnA DW\/Bq n=fnA DX\/Bq n=fnA A7\/Bq n=fnA DV\/Bq n=fnA AZ\/Bq n=fnA AY\/Bq n=fnA zJ\/Bq n=fnA vg\/Bq n=fnA zK\/Bq n=.nilFunc:=by
 unfold Bq;repeat' split
 all_goals simp
def adJ:y9.all AV.flat=true:=by
 rw[a90];intro x hx;obtain⟨n,_,rfl⟩:=ax1.mp hx;rcases OW n with h|h|h|h|h|h|h|h|h|h<;>rw[h]<;>rfl
def abB:ae 0 y9=true:=by
 have:∀l:List Nat,ae 0 (l.map Bq)=true:=by
  intro l
  induction l with
  |nil=>rfl
  |cons n l ih=>
   rw[av3,ae,ih,aw7];rcases OW n with h|h|h|h|h|h|h|h|h|h<;>rw[h]<;>rfl
 exact this _
def ai6:splice OE 0 y9=y9:=by
 have:OE.length=256:=by simp[OE]
 simp[splice,XV,OE]
def acb(C:Ctx):Prop:=∀Y,Ok Y->ai C xR [] Y=some (.agg y9,Y)
structure VV(C:Ctx):Prop where
 sign:EE C
 skip:Has C Hg NW
 word:Has C zK DC
 number:Has C vg CE
 text:Has C zJ GK
 num:aeg C
 quo:aaw C
 rules:acb C
 token:Has C Jo Ez
 next:Has C WN NT
def akg(H:VV C)(s:LU)(hs:s.length<1099511627777)(i:Nat)(hi:i<=s.length)(n:Nat)(hn:Bq n≠ .nilFunc)(O:St)(hσ:Ok O):∃f v,Bq n=fnA f/\ai C f [.str s,.int .i64 i] O=some (v,O)/\ahf v:=by
 have hw:(0:Int)<=IntKind.i64.wrap ((i:Int)+1):=by rw[w64]<;>omega
 rcases OW n with h|h|h|h|h|h|h|h|h|h
 ·exact⟨_,_,h,akf H.sign s i O hσ,_,_,_,_,_,_,rfl,hw,lb0⟩
 ·exact⟨_,_,h,akh H.sign s i O hσ,_,_,_,_,_,_,rfl,hw,lb0⟩
 ·exact⟨_,_,h,ai0 H.sign s i O hσ,_,_,_,_,_,_,rfl,hw,lb0⟩
 ·exact⟨_,_,h,ake H.sign s i O hσ,_,_,_,_,_,_,rfl,hw,lb0⟩
 ·exact⟨_,_,h,ahZ H.sign s i O hσ,_,_,_,_,_,_,rfl,hw,lb0⟩
 ·exact⟨_,_,h,ahY H.sign s i O hσ,_,_,_,_,_,_,rfl,hw,lb0⟩
 ·obtain⟨v,h1,h2⟩:=akj H.text H.quo s hs i hi O hσ;exact⟨_,v,h,h1,h2⟩
 ·obtain⟨v,h1,h2⟩:=aeY H.number H.num s hs i hi O hσ;exact⟨_,v,h,h1,h2⟩
 ·obtain⟨v,h1,h2⟩:=akk H.word s hs i hi O hσ;exact⟨_,v,h,h1,h2⟩
 ·exact absurd h hn
def ai1(H:VV C)(s:LU)(hs:s.length<1099511627777)(i:Nat)(hi:i<=s.length)(O:St)(hσ:Ok O)(o:Nat)(fz:Fz)(ho:O[o]?=some (.cells y9 fz)):∃v,ai C Jo [.ref o 0,.str s,.int .i64 i] O=some (v,O)/\ahf v:=by
 have hn:hand false [.ref o 0,.str s,.int .i64 i] O=some ([.ref o 0,.str s,.int .i64 i],O):=rfl;have ty:=ou hσ;have ok1:=hσ.mk0;rw[H.token.go hn];by_cases h:i=s.length
 ·have h':((i:Int)==(s.length:Int))=true:=by simp[h]
  refine⟨_,?_,11,i,i,0,[],0,rfl,by omega,lb0⟩
  unfold nP at*;simp only[Ez,h',ty,aY,aX,AV.cells,AV.flat,EVX,seval]
 ·have h':((i:Int)==(s.length:Int))=false:=by simp;omega
  have h2:i<s.length:=by omega
  have h3:(0:Int)<=i:=by omega
  have hb:s[i]?=some s[i]:=a02 h2;have hr:=aik (UInt8.toNat_lt s[i]);obtain⟨r,hr⟩:=drop_at hr;have h256:s[i].toNat<256:=UInt8.toNat_lt _;have hp:(0:Int)<=(s[i].toNat:Int):=by omega
  have ho2:∀L:St,(O++L)[o]?=some (.cells y9 fz):=fun L=>by rw[av1 (a00.mp ho).1];exact ho
  by_cases hnil:Bq s[i].toNat=.nilFunc
  ·refine⟨_,?_,0,0,0,0,[],3,rfl,by omega,lb0⟩
   unfold nP at*;rw[hnil]at hr;simp only[Ez,h',h3,hb,ho2,hr,hp,h256,ty,aY,aX,AV.cells,AV.flat,EVX,seval]
  ·obtain⟨f,v,hf,hv,k,a,z,m,t,e,rfl,hz⟩:=akg H s hs i hi _ hnil _ ok1;refine⟨_,?_,k,a,z,m,t,e,rfl,hz⟩;rw[hf]at hr;unfold nP fnA at*;simp only[Ez,h',h3,hb,ho2,hr,hp,h256,hv,jV,ty,aY,aX,AV.cells,AV.flat,EVX,seval]
def akd(H:VV C)(s:LU)(hs:s.length<1099511627777)(i:Nat)(O:St)(hσ:Ok O):∃v,ai C WN [.str s,.int .i64 i] O=some (v,O)/\ahf v:=by
 have ty:=ou hσ;have h3:¬((i:Int)<0):=by omega
 rw[H.next.go (NVs.hand (.cons (.str _) (.cons (.int _ _) .nil)) _)];by_cases h:i<=s.length
 ·have h':¬((s.length:Int)<(i:Int)):=by omega
  have ok1:=hσ.mk0;have q1:=H.rules _ ok1;have ok2:Ok (O++[.cells [.int .u8 0,.int .i64 0,.int .i64 0,.int .i64 0,.str []] FZ,.cells y9 FZ]):=hσ.plus (by simp only[a88,aw1,AO.below,abB];rfl)
  have q2:=aki H.skip s hs i h;obtain⟨v,q3,k,a,z,m,t,e,rfl,hz⟩:=ai1 H s hs (runN zo s i) (abC zo s i h) _ ok2 (O.length+1) FZ (by simp[ax2])
  have l256:OE.length=256:=by simp[OE]
  refine⟨_,?_,k,a,z,m,t,e,rfl,hz⟩;unfold nP at*;simp only[NT,h3,h',q1,q2,q3,XV,adJ,ai6,l256,ty,aY,aX,AV.cells,AV.flat,EVX,seval]
 ·have h':(s.length:Int)<(i:Int):=by omega
  refine⟨_,?_,0,0,0,0,[],1,rfl,by omega,lb0⟩
  unfold nP at*;simp only[NT,h3,h',ty,aY,aX,AV.cells,AV.flat,EVX,seval]
def Nj(b:UInt8):Bool:=decide (48<=b.toNat)&&decide (b.toNat<=57)
def IE (s:LU) (hs:s.length<9223372036854775807) (O:St):∀(n i:Nat),i+n=s.length->
  aH C (ai C) 38 [0,23,24] jC [(0,.str s),(23,.int .i64 s.length),(24,.int .i64 i)] O=if(s.drop i).all Nj then some (.exit 0,[],O)else some (.ret,[(2,.bool false)],O)
 |0,i,hi=>by
  rw[aG (he:=rfl)];have h:¬((i:Int)<(s.length:Int)):=by omega
  have h':s.drop i=[]:=au1 (by omega)
  simp only[jC,h,h',EVX,seval]
 |n+1,i,hi=>by
  rw[aG (he:=rfl)];generalize hk:aH C (ai C) 38 [0,23,24] jC=k;have h:((i:Int)<(s.length:Int)):=by omega
  have h2:i<s.length:=by omega
  have hb:s[i]?=some s[i]:=a02 h2;have h':s.drop i=s[i]::s.drop (i+1):=as9 h2;have hw:=wrS i (by omega)
  have h3:(0:Int)<=i:=by omega
  have ih:=IE s hs O n (i+1) (by omega)
  rw[hk]at ih;by_cases c1:(s[i].toNat:Int)<48
  ·have hx:Nj s[i]=false:=by simp[Nj];omega
   simp only[jC,h,h',h3,hb,c1,hx,ay5,EVX,seval]
  ·by_cases c2:(57:Int)<(s[i].toNat:Int)
   ·have hx:Nj s[i]=false:=by simp[Nj];omega
    simp only[jC,h,h',h3,hb,c1,c2,hx,ay5,EVX,seval]
   ·have hx:Nj s[i]=true:=by simp[Nj];omega
    simp only[jC,h,h',h3,hb,hw,c1,c2,hx,ih,aw6,EVX,seval]
def af7(hC:Has C Ho jB)(s:LU)(hs:s.length<9223372036854775807)(O:St):∃b,ai C Ho [.str s] O=some (.bool b,O):=by
 have fin:∀w:LU,w.length<9223372036854775807->aH C (ai C) 38 [0,23,24] jC [(0,.str w),(23,.int .i64 w.length),(24,.int .i64 0)] O=if w.all Nj then some (.exit 0,[],O)else some (.ret,[(2,.bool false)],O):=fun w hw=>by
  have:=IE (C:=C) w hw O w.length 0 (by omega)
  simpa using this
 rw[hC.go (NVs.hand (.cons (.str _) .nil) _)];cases c0:decide (s=[48])
 case true=>exact⟨true,by simp only[jB,c0,EVX,seval]⟩
 cases s with
 |nil=>exact⟨false,by simp only[jB,EVX,seval]⟩
 |cons b l=>
  have h0:decide (b::l=[])=false:=by simp
  have hb:(b::l)[0]?=some b:=rfl;have hl:l.length<9223372036854775807:=by simp at hs;omega
  cases c1:((b.toNat:Int)==45)
  ·cases c2:((b.toNat:Int)==48)
   ·have f:=fin (b::l) hs;generalize b::l=w at*;cases ha:w.all Nj
    ·rw[ha]at f;exact⟨false,by simp only[jB,c0,c1,c2,h0,hb,f,aA6,EVX,seval]⟩
    ·rw[ha]at f;exact⟨true,by simp only[jB,c0,c1,c2,h0,hb,f,aA6,EVX,seval]⟩
   ·generalize b::l=w at*;exact⟨false,by simp only[jB,c0,c1,c2,h0,hb,aA6,EVX,seval]⟩
  ·have hd:((b::l).take (b::l).length).drop 1=l:=by simp
   have h1:(1:Int)<=((b::l).length:Int):=by simp;omega
   have h1n:1<=(b::l).length:=by simp
   cases l with
   |nil=>exact⟨false,by simp only[jB,c0,c1,hb,aA6,Int.toNat_one,EVX,seval]⟩
   |cons b2 l2=>
    have h02:decide (b2::l2=[])=false:=by simp
    have hb2:(b2::l2)[0]?=some b2:=rfl;cases c2:((b2.toNat:Int)==48)
    ·have f:=fin (b2::l2) hl;generalize b::b2::l2=w at*;generalize b2::l2=w2 at*;cases ha:w2.all Nj
     ·rw[ha]at f;exact⟨false,by simp only[jB,c0,c1,c2,h0,hb,h02,hb2,hd,h1n,f,aA6,Int.toNat_one,EVX,seval]⟩
     ·rw[ha]at f;exact⟨true,by simp only[jB,c0,c1,c2,h0,hb,h02,hb2,hd,h1n,f,aA6,Int.toNat_one,EVX,seval]⟩
    ·generalize b::b2::l2=w at*;generalize b2::l2=w2 at*;exact⟨false,by simp only[jB,c0,c1,c2,h0,hb,h02,hb2,hd,h1n,aA6,Int.toNat_one,EVX,seval]⟩
def dZ(b:UInt8):Bool:=(decide (48<=b.toNat)&&decide (b.toNat<=57))||b.toNat==45||b.toNat==43||b.toNat==46||b.toNat==101||b.toNat==69
def Nu (s:LU) (hs:s.length<9223372036854775807) (a:Int) (O:St):∀(n i:Nat),i+n=s.length->
  aH C (ai C) 61 [0,1,7] bY [(0,.str s),(1,.int .i64 a),(7,.int .i64 i)] O=some (.exit 0,[(0,.str s),(1,.int .i64 a),(7,.int .i64 (runN dZ s i))],O)
 |0,i,hi=>by
  rw[aG (he:=rfl)];have h:¬((i:Int)<(s.length:Int)):=by omega
  have h':=Rt dZ s i (by omega)
  simp only[bY,h,h',EVX,seval]
 |n+1,i,hi=>by
  rw[aG (he:=rfl)];generalize hk:aH C (ai C) 61 [0,1,7] bY=k;have h:((i:Int)<(s.length:Int)):=by omega
  have h2:i<s.length:=by omega
  have hb:s[i]?=some s[i]:=a02 h2;have hw:=wrS i (by omega)
  have h3:(0:Int)<=i:=by omega
  have ih:=Nu s hs a O n (i+1) (by omega)
  rw[hk]at ih;cases c0:((s[i].toNat:Int)==48)
  case true=>
   have hx:dZ s[i]=true:=by
    simp only[beq_iff_eq]at c0;simp[dZ];omega
   simp only[bY,h,h3,hb,hw,c0,iL dZ s i h2 hx,ih,EVX,seval]
  cases c1:((s[i].toNat:Int)==49)
  case true=>
   have hx:dZ s[i]=true:=by
    simp only[beq_iff_eq]at c1;simp[dZ];omega
   simp only[bY,h,h3,hb,hw,c0,c1,iL dZ s i h2 hx,ih,EVX,seval]
  cases c2:((s[i].toNat:Int)==50)
  case true=>
   have hx:dZ s[i]=true:=by
    simp only[beq_iff_eq]at c2;simp[dZ];omega
   simp only[bY,h,h3,hb,hw,c0,c1,c2,iL dZ s i h2 hx,ih,EVX,seval]
  cases c3:((s[i].toNat:Int)==51)
  case true=>
   have hx:dZ s[i]=true:=by
    simp only[beq_iff_eq]at c3;simp[dZ];omega
   simp only[bY,h,h3,hb,hw,c0,c1,c2,c3,iL dZ s i h2 hx,ih,EVX,seval]
  cases c4:((s[i].toNat:Int)==52)
  case true=>
   have hx:dZ s[i]=true:=by
    simp only[beq_iff_eq]at c4;simp[dZ];omega
   simp only[bY,h,h3,hb,hw,c0,c1,c2,c3,c4,iL dZ s i h2 hx,ih,EVX,seval]
  cases c5:((s[i].toNat:Int)==53)
  case true=>
   have hx:dZ s[i]=true:=by
    simp only[beq_iff_eq]at c5;simp[dZ];omega
   simp only[bY,h,h3,hb,hw,c0,c1,c2,c3,c4,c5,iL dZ s i h2 hx,ih,EVX,seval]
  cases c6:((s[i].toNat:Int)==54)
  case true=>
   have hx:dZ s[i]=true:=by
    simp only[beq_iff_eq]at c6;simp[dZ];omega
   simp only[bY,h,h3,hb,hw,c0,c1,c2,c3,c4,c5,c6,iL dZ s i h2 hx,ih,EVX,seval]
  cases c7:((s[i].toNat:Int)==55)
  case true=>
   have hx:dZ s[i]=true:=by
    simp only[beq_iff_eq]at c7;simp[dZ];omega
   simp only[bY,h,h3,hb,hw,c0,c1,c2,c3,c4,c5,c6,c7,iL dZ s i h2 hx,ih,EVX,seval]
  cases c8:((s[i].toNat:Int)==56)
  case true=>
   have hx:dZ s[i]=true:=by
    simp only[beq_iff_eq]at c8;simp[dZ];omega
   simp only[bY,h,h3,hb,hw,c0,c1,c2,c3,c4,c5,c6,c7,c8,iL dZ s i h2 hx,ih,EVX,seval]
  cases c9:((s[i].toNat:Int)==57)
  case true=>
   have hx:dZ s[i]=true:=by
    simp only[beq_iff_eq]at c9;simp[dZ];omega
   simp only[bY,h,h3,hb,hw,c0,c1,c2,c3,c4,c5,c6,c7,c8,c9,iL dZ s i h2 hx,ih,EVX,seval]
  cases c10:((s[i].toNat:Int)==45)
  case true=>
   have hx:dZ s[i]=true:=by
    simp only[beq_iff_eq]at c10;simp[dZ];omega
   simp only[bY,h,h3,hb,hw,c0,c1,c2,c3,c4,c5,c6,c7,c8,c9,c10,iL dZ s i h2 hx,ih,EVX,seval]
  cases c11:((s[i].toNat:Int)==43)
  case true=>
   have hx:dZ s[i]=true:=by
    simp only[beq_iff_eq]at c11;simp[dZ];omega
   simp only[bY,h,h3,hb,hw,c0,c1,c2,c3,c4,c5,c6,c7,c8,c9,c10,c11,iL dZ s i h2 hx,ih,EVX,seval]
  cases c12:((s[i].toNat:Int)==46)
  case true=>
   have hx:dZ s[i]=true:=by
    simp only[beq_iff_eq]at c12;simp[dZ];omega
   simp only[bY,h,h3,hb,hw,c0,c1,c2,c3,c4,c5,c6,c7,c8,c9,c10,c11,c12,iL dZ s i h2 hx,ih,EVX,seval]
  cases c13:((s[i].toNat:Int)==101)
  case true=>
   have hx:dZ s[i]=true:=by
    simp only[beq_iff_eq]at c13;simp[dZ];omega
   simp only[bY,h,h3,hb,hw,c0,c1,c2,c3,c4,c5,c6,c7,c8,c9,c10,c11,c12,c13,iL dZ s i h2 hx,ih,EVX,seval]
  cases c14:((s[i].toNat:Int)==69)
  case true=>
   have hx:dZ s[i]=true:=by
    simp only[beq_iff_eq]at c14;simp[dZ];omega
   simp only[bY,h,h3,hb,hw,c0,c1,c2,c3,c4,c5,c6,c7,c8,c9,c10,c11,c12,c13,c14,iL dZ s i h2 hx,ih,EVX,seval]
  have hx:dZ s[i]=false:=by
   simp only[beq_eq_false_iff_ne,ne_eq]at c0 c1 c2 c3 c4 c5 c6 c7 c8 c9 c10 c11 c12 c13 c14;simp[dZ];omega
  simp only[bY,h,h3,hb,c0,c1,c2,c3,c4,c5,c6,c7,c8,c9,c10,c11,c12,c13,c14,Ru dZ s i h2 hx,EVX,seval]
def afH(C:Ctx):Prop:=∀(s:LU) (Y:St),s.length<1099511627777->Ok Y->∃(n:Int) (v:AV),ai C D9 [.str s,.int .i64 10,.int .i64 64] Y=some (.tup [.int .i64 n,v],Y)/\(v=.nilIface\/∃t x,v=.iface t x)
def akG(hC:Has C Oq GM)(hf:Has C Ho jB)(hp:afH C)(s:LU)(hs:s.length<1099511627777)(i:Nat)(hi:i<=s.length)(O:St)(hσ:Ok O):∃n z e:Int,ai C Oq [.str s,.int .i64 i] O=some (.tup [.int .i64 n,.int .i64 z,.int .i64 e],O)/\0<=z:=by
 have lp:=Nu (C:=C) s (by omega) i O (s.length-i) i (by omega)
 have ty:=fun a b c=>aS O [.int .i64 a,.int .i64 b,.int .i64 c];have he:runN dZ s i<=s.length:=abC dZ s i hi;have hg:=ah2 dZ s i;have h0:¬((i:Int)<0):=by omega
 have h':¬((s.length:Int)<(i:Int)):=by omega
 have h1:(0:Int)<=i:=by omega
 have h2:(0:Int)<=(runN dZ s i:Nat):=by omega
 rw[hC.go (NVs.hand (.cons (.str _) (.cons (.int _ _) .nil)) _)];generalize runN dZ s i=z at*;have wl:((s.take z).drop i).length<1099511627777:=by simp;omega
 generalize hx:(s.take z).drop i=w at*;obtain⟨b,q1⟩:=af7 hf w (by omega) O
 obtain⟨n,v,q2,hv⟩:=hp w O wl hσ;cases b
 ·exact⟨0,0,3,by simp only[GM,lp,h0,h',h1,h2,he,hg,hx,q1,ty,EVX,seval],by omega⟩
 ·rcases hv with rfl|⟨t,x,rfl⟩
  ·exact⟨n,z,0,by simp only[GM,lp,h0,h',h1,h2,he,hg,hx,q1,q2,ty,EVX,seval],h2⟩
  ·exact⟨0,0,9,by simp only[GM,lp,h0,h',h1,h2,he,hg,hx,q1,q2,ty,EVX,seval],by omega⟩
def afg(hC:Has C Hr uU)(b:UInt8)(O:St):ai C Hr [.int .u8 b.toNat] O=some (.bool (zo b),O):=by
 rw[hC.go (NVs.hand (.cons (.int _ _) .nil) _)];have hx:zo b=(((b.toNat:Int)==32)||((b.toNat:Int)==9)||((b.toNat:Int)==10)||((b.toNat:Int)==13)):=by
  rw[aB7];simp[zo];omega
 rw[hx];cases c1:((b.toNat:Int)==32)
 ·cases c2:((b.toNat:Int)==9)
  ·cases c3:((b.toNat:Int)==10)
   ·cases c4:((b.toNat:Int)==13)<;>simp only[uU,c1,c2,c3,c4,EVX,seval]
   ·simp only[uU,c1,c2,c3,aB1,ax9,EVX,seval]
  ·simp only[uU,c1,c2,aB1,ax9,EVX,seval]
 ·simp only[uU,c1,ax9,EVX,seval]
structure RV where
 place:Int
 k:Int
 a:Int
 z:Int
 n:Int
 t:BS
 after:Int
 count:Int
 depth:Int
def RV.cs(s:LU)(r:RV):LA:=[.str s,.int .i64 r.place,.int .u8 r.k,.int .i64 r.a,.int .i64 r.z,.int .i64 r.n,.str r.t.1,.int .i64 r.after,.int .i64 r.count,.int .i64 r.depth]
def RV.o(s:LU)(r:RV):AO:=.cells (r.cs s) FZ
def RV.below(s:LU)(r:RV):(r.o s).below 0=true:=rfl
def Ok.set{O:St}(h:Ok O)(o:Nat){x:AO}(hx:x.below 0=true):Ok (O.set o x):=by
 unfold Ok at*;rw[a95];rw[a90]at*;intro y hy;rcases List.mem_or_eq_of_mem_set hy with hy|rfl
 ·exact h y hy
 ·exact AO.below_mono (a98 _) _ hx
def Yc(O:St)(o:Nat)(x:AO)(L:St)(k:Nat):(O.set o x++L)[O.length+k]?=L[k]?:=by
 rw[ay8 (by simp)]
 simp
def kU(O:St)(o:Nat)(x:AO)(L:St):(O.set o x++L)[O.length]?=L[0]?:=Yc O o x L 0
def Yd(O:St)(o:Nat)(x y:AO)(L:St)(k:Nat):(O.set o x++L).set (O.length+k) y=O.set o x++L.set k y:=by
 rw[List.set_append_right _ _ (by simp)]
 simp
def wW(O:St)(o:Nat)(x y:AO)(L:St):(O.set o x++L).set O.length y=O.set o x++L.set 0 y:=Yd O o x y L 0
structure NextHas(C:Ctx):Prop where
 lex:VV C
 space:Has C Hr uU
 next:Has C DY xk
def UV (H:NextHas C) (s:LU) (hs:s.length<1099511627777) (r:RV) (O:St) (o:Nat) (ho:o<O.length):∀(n i:Nat),i+n=s.length->
  aH C (ai C) 65 [0] dP [(0,.ref o 0)] (O.set o ({r with place:=(i:Int)}.o s))=some (.exit 0,[(0,.ref o 0)],O.set o ({r with place:=(runN zo s i:Nat)}.o s))
 |0,i,hi=>by
  rw[aG (he:=rfl)];have h:¬((i:Int)<(s.length:Int)):=by omega
  have h':=Rt zo s i (by omega)
  have gs:∀x:AO,(O.set o x)[o]?=some x:=fun x=>by simp[ho]
  unfold RV.o RV.cs;simp only[dP,h,h',gs,EVX,seval]
 |n+1,i,hi=>by
  rw[aG (he:=rfl)];generalize hk:aH C (ai C) 65 [0] dP=k;have h:((i:Int)<(s.length:Int)):=by omega
  have h2:i<s.length:=by omega
  have hb:s[i]?=some s[i]:=a02 h2;have hw:=wrS i (by omega)
  have h3:(0:Int)<=i:=by omega
  have gs:∀x:AO,(O.set o x)[o]?=some x:=fun x=>by simp[ho]
  have ih:=UV H s hs r O o ho n (i+1) (by omega)
  rw[hk]at ih;have q:=fun Y=>afg H.space s[i] Y;dsimp only[RV.o,RV.cs]at*;cases hx:zo s[i]
  ·simp only[dP,h,h3,hb,gs,q,hx,Ru zo s i h2 hx,EVX,seval]
  ·simp only[dP,h,h3,hb,hw,gs,q,hx,iL zo s i h2 hx,splice,ax4,ih,EVX,seval]
def rJ (H:NextHas C) (s:LU) (hs:s.length<1099511627777) (r:RV) (hr:0<=r.after) (O:St) (hσ:Ok O) (o:Nat) (ho:O[o]?=some (r.o s)):
  ∃(r':RV) (e:Int),ai C DY [.ref o 0] O=some (.int .i64 e,O.set o (r'.o s))/\0<=r'.after/\r'.count=r.count/\r'.depth=r.depth:=by
 have hl:o<O.length:=(a00.mp ho).1;have hn:=iI o O;have gs:∀(x:AO),(O.set o x)[o]?=some x:=fun x=>by simp[hl]
 have ga:∀(x:AO) (L:St),(O.set o x++L)[o]?=some x:=fun x L=>by rw[av1 (by simpa using hl)];exact gs x
 have sa:∀(x y:AO) (L:St),(O.set o x++L).set o y=O.set o y++L:=fun x y L=>by rw[az5 _ _ (by simpa using hl),ax4]
 have ty:∀(p' k' a' z' n':Int) (t':LU) (f' c' d' e:Int) (L:St),tidy O.length [.int .i64 e] (O.set o (.cells [.str s,.int .i64 p',.int .u8 k',.int .i64 a',.int .i64 z',.int .i64 n',.str t',.int .i64 f',.int .i64 c',.int .i64 d'] FZ)++L)=O.set o (.cells [.str s,.int .i64 p',.int .u8 k',.int .i64 a',.int .i64 z',.int .i64 n',.str t',.int .i64 f',.int .i64 c',.int .i64 d'] FZ):=fun p' k' a' z' n' t' f' c' d' e L=>by
  have:=dE (hσ.set o (x:=.cells [.str s,.int .i64 p',.int .u8 k',.int .i64 a',.int .i64 z',.int .i64 n',.str t',.int .i64 f',.int .i64 c',.int .i64 d'] FZ) rfl) (vs:=[.int .i64 e]) rfl L;rwa[a95]at this
 rw[H.next.go hn];obtain⟨pl,k0,a0,z0,n0,t0,af,ct,dp⟩:=r;dsimp only at hr;obtain⟨i,rfl⟩:∃i:Nat,af=i:=⟨af.toNat,by omega⟩
 generalize hR:RV.mk pl k0 a0 z0 n0 t0 i ct dp=r at*;have hi:r.after=i:=by rw[<-hR]
 obtain⟨p,hp,lp⟩:∃p:Nat,0<=p/\aH C (ai C) 65 [0] dP [(0,.ref o 0)] (O.set o ({r with place:=(i:Int)}.o s))=some (.exit 0,[(0,.ref o 0)],O.set o ({r with place:=(p:Int)}.o s)):=by
  by_cases hle:i<=s.length
  ·exact⟨_,a98 _,UV H s hs r O o hl (s.length-i) i (by omega)⟩
  ·refine⟨i,a98 _,?_⟩;rw[aG (he:=rfl)];have h:¬((i:Int)<(s.length:Int)):=by omega
   unfold RV.o RV.cs;simp only[dP,h,gs,EVX,seval]
 obtain⟨v,q,k,a,z,m,t,e,rfl,hz,ht⟩:=akd H.lex s hs p _ (hσ.set o (RV.below s {r with place:=(p:Int)}));by_cases c:e=0
 ·subst c;subst hR;refine⟨{place:=p,count:=ct,depth:=dp,k:=k,a:=a,z:=z,n:=m,t:=⟨t,ht⟩,after:=z},0,?_,hz,rfl,rfl⟩;unfold nP at*;dsimp only[RV.o,RV.cs]at*;simp only[xk,ho,gs,ga,sa,lp,q,splice,ty,a95,kU,AV.cells,AV.flat,EVX,seval]
 ·have c':(e !=0)=true:=by simpa using c
  subst hR;refine⟨⟨p,k0,a0,z0,n0,t0,i,ct,dp⟩,e,?_,hr,rfl,rfl⟩;unfold nP at*;dsimp only[RV.o,RV.cs]at*;simp only[xk,ho,c',gs,lp,q,splice,ty,a95,AV.cells,AV.flat,EVX,seval]
def Di(hC:Has C qm mg)(s:LU)(r:RV)(O:St)(o:Nat)(ho:O[o]?=some (r.o s)):∃e:Int,ai C qm [.ref o 0] O=some (.int .i64 e,O)/\e≠0:=by
 have hn:=iI o O;rw[hC.go hn];dsimp only[RV.o,RV.cs]at ho;cases c:(r.k==11)
 ·exact⟨3,by simp only[mg,ho,c,EVX,seval],by omega⟩
 ·exact⟨4,by simp only[mg,ho,c,EVX,seval],by omega⟩
structure ReadHas(C:Ctx)extends NextHas C where
 wrong:Has C qm mg
 expect:Has C Ba oC
 more:Has C DZ kC
def RV.keeps(r r':RV):Prop:=0<=r'.after/\r'.count=r.count/\r'.depth=r.depth
def YN (H:ReadHas C) (s:LU) (hs:s.length<1099511627777) (kind:Int) (r:RV) (hr:0<=r.after) (O:St) (hσ:Ok O) (o:Nat) (ho:O[o]?=some (r.o s)):
  ∃(r':RV) (e:Int),ai C Ba [.ref o 0,.int .u8 kind] O=some (.int .i64 e,O.set o (r'.o s))/\r.keeps r':=by
 have hl:o<O.length:=(a00.mp ho).1;have hn:hand false [.ref o 0,.int .u8 kind] O=some ([.ref o 0,.int .u8 kind],O):=rfl;have ty0:∀(x:AO) (e:Int),tidy O.length [.int .i64 e] (O.set o x)=O.set o x:=fun x e=>by
  have:=aS (O.set o x) [.int .i64 e];rwa[a95]at this
 obtain⟨r',e,q,k1,k2,k3⟩:=rJ H.toNextHas s hs r hr O hσ o ho;have g:(O.set o (r'.o s))[o]?=some (r'.o s):=by simp[hl]
 obtain⟨e2,w,we⟩:=Di H.wrong s r' _ o g;rw[H.expect.go hn];dsimp only[RV.o,RV.cs]at g w q;cases c:(e !=0)
 ·have c0:e=0:=by simpa using c
  subst c0;cases c2:(r'.k !=kind)
  ·exact⟨r',0,by dsimp only[RV.o,RV.cs];simp only[oC,q,g,c2,ty0,EVX,seval],k1,k2,k3⟩
  ·exact⟨r',e2,by dsimp only[RV.o,RV.cs];simp only[oC,q,g,w,c2,ty0,EVX,seval],k1,k2,k3⟩
 ·exact⟨r',e,by dsimp only[RV.o,RV.cs];simp only[oC,q,c,ty0,EVX,seval],k1,k2,k3⟩
def UX (H:ReadHas C) (s:LU) (hs:s.length<1099511627777) (last:Int) (r:RV) (hr:0<=r.after) (O:St) (hσ:Ok O) (o:Nat) (ho:O[o]?=some (r.o s)):
  ∃(r':RV) (b:Bool) (e:Int),ai C DZ [.ref o 0,.int .u8 last] O=some (.tup [.bool b,.int .i64 e],O.set o (r'.o s))/\r.keeps r':=by
 have hl:o<O.length:=(a00.mp ho).1;have hn:hand false [.ref o 0,.int .u8 last] O=some ([.ref o 0,.int .u8 last],O):=rfl;have ty0:∀(x:AO) (b:Bool) (e:Int),tidy O.length [.bool b,.int .i64 e] (O.set o x)=O.set o x:=fun x b e=>by
  have:=aS (O.set o x) [.bool b,.int .i64 e];rwa[a95]at this
 obtain⟨r',e,q,k1,k2,k3⟩:=rJ H.toNextHas s hs r hr O hσ o ho;have g:(O.set o (r'.o s))[o]?=some (r'.o s):=by simp[hl]
 obtain⟨e2,w,we⟩:=Di H.wrong s r' _ o g;obtain⟨r2,e3,q2,m1,m2,m3⟩:=rJ H.toNextHas s hs r' k1 _ (hσ.set o (RV.below s r')) o g;rw[ax4]at q2;rw[H.more.go hn];dsimp only[RV.o,RV.cs]at g w q q2;cases c:(e !=0)
 ·have c0:e=0:=by simpa using c
  subst c0;cases c2:(r'.k==last)
  ·cases c3:(r'.k==5)
   ·exact⟨r',false,e2,by dsimp only[RV.o,RV.cs];simp only[kC,q,g,w,c2,c3,ty0,EVX,seval],k1,k2,k3⟩
   ·cases c4:(e3 !=0)
    ·have c0:e3=0:=by simpa using c4
     subst c0;exact⟨r2,true,0,by dsimp only[RV.o,RV.cs];simp only[kC,q,q2,g,c2,c3,ty0,EVX,seval],m1,m2.trans k2,m3.trans k3⟩
    ·exact⟨r2,false,e3,by dsimp only[RV.o,RV.cs];simp only[kC,q,q2,g,c2,c3,c4,ty0,EVX,seval],m1,m2.trans k2,m3.trans k3⟩
  ·exact⟨r',false,0,by dsimp only[RV.o,RV.cs];simp only[kC,q,g,c2,ty0,EVX,seval],k1,k2,k3⟩
 ·exact⟨r',false,e,by dsimp only[RV.o,RV.cs];simp only[kC,q,c,ty0,EVX,seval],k1,k2,k3⟩
def H8:∀l:List JV,NVs (aJ l)
 |[]=>by rw[aJ];exact .nil
 |j::l=>by
  rw[aJ];intro v hv;rcases az8.mp hv with h|h
  ·exact j.nvs v h
  ·exact H8 l v h
def alJ(l:List LU):NVs (l.map AV.str):=by
 intro v hv;obtain⟨s,_,rfl⟩:=ax1.mp hv;exact .str _
def JV.zero:JV:=JV.leaf 0 0 [] lb0
def JV.zero_cs:JV.zero.cs=[.int .u8 0,.int .i64 0,.str [],.sl 0 [],.sl 0 []]:=JV.leaf_cs 0 0 [] lb0
structure Pe(C:Ctx)(f:FuncId)(K:KF):Prop where
 fs:C.fs f=some K.forget
 prim:C.prim f=none
 raw:C.raw f=true
 ok:K.ok=true
def amz(n:Nat)(rs:List XR)(r:RX):Option (AV×St):=match r with
 |some (.exit _,_,_)=>none
 |none=>none
 |some (_,e,O2)=>match aY e O2 rs with
  |none=>none
  |some vs=>some (bD vs,tidy n vs O2)
def Pe.go{f:FuncId}{K:KF}(h:Pe C f K){args:LA}{O:St}(hl:Nat.ble args.length K.ntmps=true:=by rfl):ai C f args O=amz O.length K.results (dL C (ai C) K.ntmps K.body (jF 0 args) O):=by
 have hl:=Nat.not_lt.mpr (av8 hl);rw[aln h.fs h.prim h.raw h.ok];unfold BG amz;rw[show hand true args O=some (args,O)from rfl];dsimp only;rw[if_neg hl];rfl
def qG(n rs e O):amz n rs (some (.ret,e,O))=match aY e O rs with
 |none=>none
 |some vs=>some (bD vs,tidy n vs O):=rfl
def Uf(n rs e O):amz n rs (some (.normal,e,O))=match aY e O rs with
 |none=>none
 |some vs=>some (bD vs,tidy n vs O):=rfl
abbrev EL:Type:=BS×JV
def elC(x:EL):LA:=.str x.1.1::x.2.cs
def kQ(xs:List EL):LA:=xs.flatMap elC
def nT(x:EL):(elC x).length=6:=by simp[elC,JV.len]
def acB(xs:List EL):(kQ xs).length=xs.length*6:=dV nT xs
def Vt(x:EL):ae 0 (elC x)=true:=by
 unfold elC;rw[ae,JV.bel];rfl
def WC(xs:List EL):ae 0 (kQ xs)=true:=fP Vt xs
def yN(x:EL):(elC x).all AV.flat=true:=by
 unfold elC;rw[a88,JV.flat];rfl
def Jj(x:EL)(R:LA):(elC x++R).take 6=elC x:=by
 rw[<-nT x];simp
def aoY(x:EL)(R:LA):6<=(elC x++R).length:=by simp[nT]
def KU(xs:List EL)(i:Nat)(h:i<xs.length):(kQ xs).drop (i*6)=elC xs[i]++kQ (xs.drop (i+1)):=lM nT (a02 h)
def row(O:St)(o:Nat)(t:Option (TypeId×Bool))(xs:List EL):St:=O.set o (.cells (kQ xs) ⟨false,t⟩)
def ah0{O:St}{o:Nat}(h:o<O.length)(t:Option (TypeId×Bool))(xs:List EL):(row O o t xs)[o]?=some (.cells (kQ xs) ⟨false,t⟩):=by simp[row,h]
def anq(O:St)(o:Nat)(t:Option (TypeId×Bool))(xs ys:List EL):(row O o t xs).set o (.cells (kQ ys) ⟨false,t⟩)=row O o t ys:=by simp[row]
def LM(O:St)(o:Nat)(t:Option (TypeId×Bool))(xs:List EL):(row O o t xs).length=O.length:=by simp[row]
structure as5(C:Ctx)(fc:FuncId)(c:EL->EL->Int):Prop where
 is:∀(x y:EL) (Y:St),Ok Y->ai C fc [.agg (elC x),.agg (elC y)] Y=some (.int .i64 (c x y),Y)
def amr(fc:FuncId):AV:=.func (.func fc) [] []
def amy(x:EL):NVs (elC x):=by
 unfold elC;exact .cons (.str _) x.2.nvs
def set_self{Y:St}{p:Nat}{x:AO}(h:Y[p]?=some x):Y.set p x=Y:=by
 apply aw5;intro i;rw[List.getElem?_set];split
 ·rename_i hp;subst hp;split
  ·exact h.symm
  ·rw[aw2 (by omega)]at h;cases h
 ·rfl
def xK{S:St}{n:Nat}(h:S.length=n)(L:St)(k:Nat):(S++L)[n+k]?=L[k]?:=by
 subst h;rw[ay8 (by omega)]
 simp
def fG{S:St}{n:Nat}(h:S.length=n)(L:St):(S++L)[n]?=L[0]?:=xK h L 0
def afy{S:St}{n:Nat}(h:S.length=n)(L:St)(k:Nat)(y:AO):(S++L).set (n+k) y=S++L.set k y:=by
 subst h;rw[List.set_append_right _ _ (by omega)]
 simp
def sN{S:St}{n:Nat}(h:S.length=n)(L:St)(y:AO):(S++L).set n y=S++L.set 0 y:=afy h L 0 y
def aA{S:St}{q:Nat}{x:AO}(h:S[q]?=some x)(L:St):(S++L)[q]?=some x:=by
 rw[av1 (a00.mp h).1];exact h
def dJ{S:St}{q:Nat}{x:AO}(h:S[q]?=some x)(L:St)(y:AO):(S++L).set q y=S.set q y++L:=by
 rw[az5 _ _ (a00.mp h).1]
def bg{S:St}{q:Nat}{x:AO}(h:S[q]?=some x)(y:AO):(S.set q y)[q]?=some y:=by
 simp[(a00.mp h).1]
def aF{S:St}{p q:Nat}{x:AO}(h:S[p]?=some x)(hne:p≠q)(y:AO):(S.set q y)[p]?=some x:=by
 rw[aA5 (fun e=>hne e.symm)];exact h
def dH(S:St)(k q:Nat)(h:k<=q)(y:AO):(S.set q y).take k=S.take k:=by
 apply aw5;intro i;rw[au7,au7];split
 ·rw[aA5 (by omega)]
 ·rfl
def qW(S L:St)(k:Nat)(h:k<=S.length):(S++L).take k=S.take k:=av7 h
def nR(xs:List EL):LA:=xs.map fun x=>.str x.1.1
def zk(xs:List EL):LA:=aJ (xs.map (·.2))
def OD(xs:List EL):(nR xs).length=xs.length:=by simp[nR]
def TM(xs:List EL):(zk xs).length=xs.length*5:=by simp[zk,jK]
def UB(xs:List EL)(x:EL):nR (xs++[x])=nR xs++[.str x.1.1]:=by simp[nR]
def Yl(xs:List EL)(x:EL):zk (xs++[x])=zk xs++x.2.cs:=by simp[zk,FV,aJ]
def SA{O:St}{sz bytes n m q:Nat}{l:LA}(cs:LA)(hq:O[q]?=some (.cells l FZ))(hm:¬m=0)(hl:l.length=n*sz)(h1:(n+m)*bytes<=70368744177664)(h2:n+m<=70368744177664):rO O sz bytes none (.msl q 0 n sz) m cs=some (.msl O.length 0 (n+m) sz,O.set q .dead++[.cells (l++cs) FZ]):=by
 unfold rO;rw[if_neg hm];simp only[hq];rw[if_pos ⟨trivial,hl,h1,h2⟩];rfl
def apA(q1 q2 n:Nat):AO:=.cells [.int .u8 5,.int .i64 0,.str [],.msl q1 0 n 1,.msl q2 0 n 5] FZ
structure aoC(o n0 N:Nat)(t:Option (TypeId×Bool))(xs:List EL)(i q1 q2:Nat)(Y:St):Prop where
 row:Y[o]?=some (.cells (kQ xs) ⟨false,t⟩)
 v:Y[n0+1]?=some (apA q1 q2 i)
 names:Y[q1]?=some (.cells (nR (xs.take i)) FZ)
 vals:Y[q2]?=some (.cells (zk (xs.take i)) FZ)
 lo:o<n0
 l1:n0+2<=q1
 l2:n0+2<=q2
 ne:q1≠q2
def UQ (o n0 N:Nat) (hN:N<274877906944) (t:Option (TypeId×Bool)) (xs:List EL) (hx:xs.length=N):∀(n i q1 q2:Nat) (Y:St),i+n=N->1<=i->aoC o n0 N t xs i q1 q2 Y->
  ∃(q1' q2':Nat) (Y':St),aH C (ai C) 31 [2,3,9,10,11] iP [(2,.ref n0 0),(3,.ref (n0+1) 0),(9,.msl o 0 N 6),(10,.int .i64 N),(11,.int .i64 i)] Y=some (.exit 0,[(2,.ref n0 0),(3,.ref (n0+1) 0)],Y')/\aoC o n0 N t xs N q1' q2' Y'/\Y'.take (n0+1)=Y.take (n0+1)
 |0,i,q1,q2,Y,hi,h1,I=>by
  refine ⟨q1,q2,Y,?_,(by have:i=N:=by omega
                         subst this;exact I),rfl⟩
  rw[aG (he:=rfl)];have h:¬((i:Int)<(N:Int)):=by omega
  simp only[iP,h,EVX,seval]
 |n+1,i,q1,q2,Y,hi,h1,I=>by
  obtain⟨hrow,hv,hna,hva,hlo,hl1,hl2,hne⟩:=I;have iN:i<N:=by omega
  have li:i<xs.length:=by omega
  have h:((i:Int)<(N:Int)):=by omega
  have pi:(0:Int)<=(i:Int):=by omega
  have hw:=wrS i (by omega)
  have di:=KU xs i li;have ht:xs.take (i+1)=xs.take i++[xs[i]]:=by rw[ay7 li]
  have lna:=OD (xs.take i);have lva:=TM (xs.take i);have lt:(xs.take i).length=i:=by simp;omega
  rw[lt]at lna lva;have ca:∀l,AV.cells (.agg l)=l:=fun _=>rfl;generalize hm:xs[i]=x at*;have S1:(Y.set q1 .dead).length=Y.length:=by simp
  have v1:=aF hv (show n0+1≠q1 by omega) .dead
  have a1:=aF hva (fun e=>hne e.symm) .dead;unfold apA at*;rw[aG (he:=rfl)];generalize hk:aH C (ai C) 31 [2,3,9,10,11] iP=k at*;have b0:=fun L=>aA hv L;have c0:=fun L=>aA hna L;have p0:=fun L y=>dJ hna L y;have g1:=fun L=>fG (rfl:Y.length=_) L;have s1:=fun L y=>sN (rfl:Y.length=_) L y;have b1:=fun L=>aA v1 L;have pv:=fun L y=>dJ v1 L y;have eh:(elC x).head? =some (.str x.1.1):=rfl;have et:(elC x).drop 1=x.2.cs:=rfl;have ek:x.2.cs.take 5=x.2.cs:=a08 (by rw[JV.len];exact a06 _)
  have el:5<=x.2.cs.length:=by rw[JV.len];exact a06 _
  have jl:=JV.len x.2;have jf:=JV.flat x.2;have na:=UB (xs.take i) x;have va:=Yl (xs.take i) x;have ap1:=SA (O:=Y++[.cells (elC x) FZ]) (sz:=1) (bytes:=16) (n:=i) (m:=1) [.str x.1.1] (c0 _) (by omega) (by rw[lna];omega) (by omega) (by omega)
  rw[p0,a04,au2]at ap1;simp only[a07,a09,a99,au3,av2,<-na]at ap1;have v2:=bg v1 (.cells [.int .u8 5,.int .i64 0,.str [],.msl (Y.length+1) 0 (i+1) 1,.msl q2 0 i 5] FZ);have a2:=aF a1 (show q2≠n0+1 by omega) (.cells [.int .u8 5,.int .i64 0,.str [],.msl (Y.length+1) 0 (i+1) 1,.msl q2 0 i 5] FZ)
  generalize hS2:(Y.set q1 .dead).set (n0+1) (.cells [.int .u8 5,.int .i64 0,.str [],.msl (Y.length+1) 0 (i+1) 1,.msl q2 0 i 5] FZ)=S2 at*;have S2l:S2.length=Y.length:=by rw[<-hS2];simp
  have b2:=fun L=>aA v2 L;have c2:=fun L=>aA a2 L;have p2:=fun L y=>dJ a2 L y;have w1:=fun L=>fG S2l L;have ap2:=SA (O:=S2++[.cells (elC x) FZ,.cells (nR (xs.take i++[x])) FZ]) (sz:=5) (bytes:=80) (n:=i) (m:=1) x.2.cs (c2 _) (by omega) lva (by omega) (by omega)
  rw[p2,a04,au2,S2l]at ap2;simp only[a07,a09,a99,au3,av2,<-va]at ap2;have v3:=aF v2 (show n0+1≠q2 by omega) .dead
  have p3:=fun L y=>dJ v3 L y;have b3:=fun L=>aA v3 L;simp only[iP,h,eh,et,ek,jl,jf,ap1,ap2,hS2,b2,w1,p3,b3,iN,pi,hw,di,hrow,b0,g1,s1,b1,pv,ca,Jj,aoY,nT,yN,splice,EVX,seval];have v4:=bg v3 (.cells [.int .u8 5,.int .i64 0,.str [],.msl (Y.length+1) 0 (i+1) 1,.msl (Y.length+2) 0 (i+1) 5] FZ);have o1:=aF hrow (show o≠q1 by omega) .dead
  have o2:=aF o1 (show o≠n0+1 by omega) (.cells [.int .u8 5,.int .i64 0,.str [],.msl (Y.length+1) 0 (i+1) 1,.msl q2 0 i 5] FZ)
  rw[hS2]at o2;have o3:=aF o2 (show o≠q2 by omega) .dead
  have o4:=aF o3 (show o≠n0+1 by omega) (.cells [.int .u8 5,.int .i64 0,.str [],.msl (Y.length+1) 0 (i+1) 1,.msl (Y.length+2) 0 (i+1) 5] FZ)
  have nl:n0+1<Y.length:=(a00.mp hv).1;have t4:((S2.set q2 .dead).set (n0+1) (.cells [.int .u8 5,.int .i64 0,.str [],.msl (Y.length+1) 0 (i+1) 1,.msl (Y.length+2) 0 (i+1) 5] FZ)).take (n0+1)=Y.take (n0+1):=by
   rw[dH _ _ _ (a06 _),dH _ _ _ (by omega),<-hS2,dH _ _ _ (a06 _),dH _ _ _ (by omega)]
  generalize hS4:(S2.set q2 .dead).set (n0+1) (.cells [.int .u8 5,.int .i64 0,.str [],.msl (Y.length+1) 0 (i+1) 1,.msl (Y.length+2) 0 (i+1) 5] FZ)=S4 at*;have S4l:S4.length=Y.length:=by rw[<-hS4];simp[S2l]
  obtain⟨q1',q2',Y',e1,e2,e3⟩:=UQ o n0 N hN t xs hx n (i+1) (Y.length+1) (Y.length+2) (S4++[.cells (elC x) FZ,.cells (nR (xs.take i++[x])) FZ,.cells (zk (xs.take i++[x])) FZ]) (by omega) (by omega)
   ⟨aA o4 _,aA v4 _,by rw[xK S4l,ht];rfl,by rw[xK S4l,ht];rfl,hlo,by omega,by omega,by omega⟩
  rw[hk]at e1;exact⟨q1',q2',Y',e1,e2,by rw[e3,qW _ _ _ (by rw[S4l];omega),t4]⟩
def abV (o:Nat) (O:St) (ho:o<O.length) (N:Nat) (hN:N<274877906944) (t:Option (TypeId×Bool)) (xs:List EL) (hx:xs.length=N) (h1:1<=N) (res:AO):
  ∃(q1 q2:Nat) (Y':St),aH C (ai C) 31 [2,3,9,10,11] iP [(2,.ref O.length 0),(3,.ref (O.length+1) 0),(9,.msl o 0 N 6),(10,.int .i64 N),(11,.int .i64 0)] (row O o t xs++[res,.cells [.int .u8 5,.int .i64 0,.str [],.nils,.nils] FZ])=some (.exit 0,[(2,.ref O.length 0),(3,.ref (O.length+1) 0)],Y')/\
   aoC o O.length N t xs N q1 q2 Y'/\Y'.take (O.length+1)=row O o t xs++[res]:=by
 have rl:(row O o t xs).length=O.length:=LM O o t xs;have hr:=ah0 ho t xs;have l0:0<xs.length:=by omega
 have h:((0:Int)<(N:Int)):=by omega
 have n0:0<N:=by omega
 have di:=KU xs 0 l0;have ht:xs.take 1=[xs[0]]:=by
  cases xs with
  |nil=>simp at l0
  |cons x l=>rfl
 generalize hm:xs[0]=x at*;have ca:∀l,AV.cells (.agg l)=l:=fun _=>rfl;have r0:=fun L=>aA hr L;have g2:=fun L k=>xK rl L k;have s2:=fun L k y=>afy rl L k y;have eh:(elC x).head? =some (.str x.1.1):=rfl;have et:(elC x).drop 1=x.2.cs:=rfl;have ek:x.2.cs.take 5=x.2.cs:=a08 (by rw[JV.len];exact a06 _)
 have el:5<=x.2.cs.length:=by rw[JV.len];exact a06 _
 have jl:=JV.len x.2;have jf:=JV.flat x.2;have ap1:∀S:St,rO S 1 16 none .nils 1 [.str x.1.1]=some (.msl S.length 0 1 1,S++[.cells [.str x.1.1] FZ]):=fun S=>GV S none [.str x.1.1] (by omega) (by omega) (by omega)
 have ap2:∀S:St,rO S 5 80 none .nils 1 x.2.cs=some (.msl S.length 0 1 5,S++[.cells x.2.cs FZ]):=fun S=>GV S none x.2.cs (by omega) (by omega) (by omega)
 rw[aG (he:=rfl)];have rc:=UQ (C:=C) o O.length N hN t xs hx (N-1) 1 (O.length+3) (O.length+4) (row O o t xs++[res,.cells [.int .u8 5,.int .i64 0,.str [],.msl (O.length+3) 0 1 1,.msl (O.length+4) 0 1 5] FZ,.cells (elC x) FZ,.cells [.str x.1.1] FZ,.cells x.2.cs FZ]) (by omega) (a06 _)
  ⟨aA hr _,by rw[xK rl];rfl,by rw[xK rl,ht];rfl,by rw[xK rl,ht];simp[zk,aJ],by omega,by omega,by omega,by omega⟩
 obtain⟨q1,q2,Y',e1,e2,e3⟩:=rc;generalize hk:aH C (ai C) 31 [2,3,9,10,11] iP=k at*;refine⟨q1,q2,Y',?_,e2,?_⟩
 ·simp only[at6]at e1;simp only[Nat.zero_mul]at di;simp only[iP,h,n0,di,r0,g2,s2,rl,ap1,ap2,eh,et,ek,jl,jf,ca,Jj,nT,yN,splice,a04,Nat.le_add_right,EVX,seval];exact e1
 ·rw[e3,List.take_append,rl];rw[a08 (by rw[rl];omega)]
  simp
def Vm(C:Ctx)(fs fc:FuncId):Prop:=∀(O:St),Ok O->∀(o:Nat),o<O.length->∀(t:Option (TypeId×Bool)) (N:Nat),N<1099511627776->∀xs:List EL,xs.length=N->∃xs':List EL,xs'.length=N/\ai C fs [.msl o 0 N 6,amr fc] (row O o t xs)=some (.tup [],row O o t xs')
def adA (hS:Vm C fD BD) (hC:Pe C Ah FC)
  (o:Nat) (O:St) (hσ:Ok O) (ho:o<O.length) (N:Nat) (hN:N<274877906944) (t:Option (TypeId×Bool)) (xs:List EL) (hx:xs.length=N) (hN1:1<=N):
  ∃(xs':List EL) (q1 q2:Nat) (Y':St),xs'.length=N/\ai C Ah [.msl o 0 N 6] (row O o t xs)=some (.agg [.int .u8 5,.int .i64 0,.str [],.msl q1 0 N 1,.msl q2 0 N 5],Y')/\Y'.take O.length=row O o t xs'/\
   Y'[q1]?=some (.cells (nR xs') FZ)/\Y'[q2]?=some (.cells (zk xs') FZ)/\O.length+2<=q1/\O.length+2<=q2/\q1≠q2:=by
 have rl:=LM O o t xs;have sr:∀ys:List EL,(O++[.cells [.int .u8 0,.int .i64 0,.str [],.nils,.nils] FZ]:St).set o (.cells (kQ ys) ⟨false,t⟩)=row O o t ys++[.cells [.int .u8 0,.int .i64 0,.str [],.nils,.nils] FZ]:=fun ys=>by
  rw[az5 _ _ ho];rfl
 obtain⟨x1,k1,k2⟩:=hS (O++[.cells [.int .u8 0,.int .i64 0,.str [],.nils,.nils] FZ]) (hσ.plus rfl) o (by simp;omega) t N (by omega) xs hx
 unfold row at k2;rw[sr,sr]at k2;obtain⟨q1,q2,Y',e1,I,e3⟩:=abV (C:=C) o O ho N hN t x1 k1 hN1 (.cells [.int .u8 0,.int .i64 0,.str [],.nils,.nils] FZ);obtain⟨i1,i2,i3,i4,i5,i6,i7,i8⟩:=I;have tk:x1.take N=x1:=a08 (by omega)
 rw[tk]at i3 i4;unfold apA at i2;have g0:Y'[O.length]?=some (.cells [.int .u8 0,.int .i64 0,.str [],.nils,.nils] FZ):=by
  have:(Y'.take (O.length+1))[O.length]?=some (.cells [.int .u8 0,.int .i64 0,.str [],.nils,.nils] FZ):=by
   rw[e3,fG (LM O o t x1)];rfl
  rw[au7]at this;rwa[if_pos (by omega)]at this
 refine⟨x1,q1,q2,Y'.set O.length (.cells [.int .u8 5,.int .i64 0,.str [],.msl q1 0 N 1,.msl q2 0 N 5] FZ),k1,?_,?_,aF i3 (by omega) _,aF i4 (by omega) _,i6,i7,i8⟩
 ·have rl1:=LM O o t x1;have s2:=fun L k y=>afy rl1 L k y;have g2:=fun L k=>xK rl1 L k;have gs:=bg g0 (.cells [.int .u8 5,.int .i64 0,.str [],.msl q1 0 N 1,.msl q2 0 N 5] FZ);have ty:∀S:St,tidy O.length [.agg [.int .u8 5,.int .i64 0,.str [],.msl q1 0 N 1,.msl q2 0 N 5]] S=S:=fun S=>qX (by
   have:¬q1<O.length:=by omega
   simp[ae,below,this]) S
  rw[hC.go,rl];unfold amr at k2;simp only[FC,k2,e1,rl,rl1,s2,g2,g0,gs,i2,ty,aY,splice,AV.cells,AV.flat,qG,EVX,seval]
 ·rw[dH _ _ _ (a06 _)];have:(Y'.take (O.length+1)).take O.length=row O o t x1:=by
   rw[e3,av7 (by rw[LM];exact a06 _),a08 (by rw[LM];exact a06 _)]
  rw[aD1]at this;rwa[az7 (by omega)]at this
end Go.Ev
