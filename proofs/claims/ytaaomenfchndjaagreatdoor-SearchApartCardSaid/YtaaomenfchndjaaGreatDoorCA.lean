/- Code. No conditions. -/
import Derived.Test.YtaaomenfchndjaaGreatDoorEC
set_option linter.unusedVariables false
set_option linter.unusedSimpArgs false
set_option linter.defProp false
open _root_ renaming List→P,Nat→T,rfl→w8,Option→D,Bool→Q,decide_eq_true_eq→w9,Int→O,beq_iff_eq→k9,if_pos→j0,decide_eq_false_iff_not→N,or_false→j7
open Decidable renaming decide→L
open SizeOf renaming sizeOf→I
open Go.Ev renaming a02→R,below→g,freeze→j8,aF6→i,aB3→f,hand→n
open List renaming range→j,getElem?_set→w
open Int renaming add_zero→j6
namespace Go.Ev
open Go.IntKind renaming i64→r
open List renaming length→z
open Bool renaming true→eT, false→eF
open Option renaming some→J, none→U
set_option maxRecDepth 100000
def LB:T:=4294967296
def LS:T:=8192
structure StB(t:LU)(ns:List LU):Prop where
 t:t.length<=LB
 ns:∀x∈ns,x.length<=LB
inductive JW where
 |mk (k n:Int) (t:LU) (ns:List LU) (is:List JW)
mutual
def JW.B:JW->LA|.mk k n t ns is=>[.cQ .u8 k,.cQ r n,.cU t,.sl (z ns) (ns.map .cU),.sl (z is) (Ei is)]
def Ei:P JW->LA|[]=>[]|j::l=>JW.B j++Ei l
end
mutual
def JW.Sm:JW->Prop|.mk k n t ns is=>z ns<=z is/\(k=5->z is<=z ns)/\z is<=8192/\StB t ns/\Xj is
def Xj:P JW->Prop|[]=>True|j::l=>j.Sm/\Xj l
end
structure JV where
 of::
 w:JW
 ok:w.Sm
def JV.B(j:JV):LA:=j.w.B
def aO:P JV->LA|[]=>[]|j::l=>j.B++aO l
def JV.av(j:JV):AV:=.cX j.B
def ZA:∀is:P JV,Xj (is.map (·.w))|[]=>trivial|j::l=>⟨j.ok,ZA l⟩
def JV.mk(k n:O)(t:LU)(ns:P LU)(is:P JV)(a:z ns<=z is)(h3:k=5->z is<=z ns)(h2:z is<=8192)(h4:StB t ns):JV:=⟨.mk k n t ns (is.map (·.w)),by rw[aD8];exact a,by rw[aD8];exact h3,by rw[aD8];exact h2,h4,ZA is⟩
def ac3:∀is:P JV,Ei (is.map (·.w))=aO is|[]=>w8|j::l=>by rw[aC9,Ei,ac3 l];rfl
theorem JV.bO(k n:O)(t:LU)(ns:P LU)(is:P JV)(a:z ns<=z is)(h3:k=5->z is<=z ns)(h2:z is<=8192)(h4:StB t ns):(JV.mk k n t ns is a h3 h2 h4).B=[.cQ .u8 k,.cQ r n,.cU t,.sl (z ns) (ns.map .cU),.sl (z is) (aO is)]:=by show JW.B (.mk k n t ns (is.map (·.w)))=_;rw[JW.B,aD8,ac3]
def JV.mj:(l:P JW)->Xj l->P JV|[],_=>[]|j::l,h=>⟨j,h.1⟩::JV.mj l h.2
def JV.ix:∀(l:P JW) (h:Xj l),(JV.mj l h).map (·.w)=l|[],_=>w8|j::l,h=>by rw[JV.mj,aC9,JV.ix l h.2]
theorem JV.ex(j:JV):∃(k n:O) (t:LU) (ns:P LU) (is:P JV) (a:z ns<=z is) (h3:k=5->z is<=z ns) (h2:z is<=8192) (h4:StB t ns),j=JV.mk k n t ns is a h3 h2 h4:=by
 obtain⟨⟨k,n,t,ns,is⟩,a,h3,h2,h5,h4⟩:=j;have c:=JV.ix is h4;have b:z (JV.mj is h4)=z is:=by grind
 refine⟨k,n,t,ns,JV.mj is h4,by omega,by rw[b];exact h3,by omega,h5,?_⟩;unfold JV.mk;congr 1;rw[c]
def StB.db{t:LU}(h:z t<=LB):StB t []:=⟨h,by simp⟩
def JV.fz(k n:O)(t:LU)(h:z t<=LB):JV:=JV.mk k n t [] [] (by simp) (by simp) (by simp) (StB.db h)
def JV.c6(k n:O)(t:LU)(h:z t<=LB):(JV.fz k n t h).B=[.cQ .u8 k,.cQ r n,.cU t,.sl 0 [],.sl 0 []]:=by unfold JV.fz;rw[JV.bO];rfl
theorem JV.dt(j:JV):z j.B=5:=by grind [j.ex,JV.bO]
def jH:∀l:P JV,z (aO l)=z l*5
 |[]=>by simp[aO]
 |j::l=>by rw[aO,a03,JV.dt,jH l,a94];omega
def LV:∀l m:P JV,aO (l++m)=aO l++aO m
 |[],m=>by simp[aO]
 |j::l,m=>by rw[a05,aO,LV l m,aO,aB2]
def xH:∀l:P LU,ae 0 (l.map AV.cU)=eT|[]=>w8|s::l=>by rw[aC9,ae,xH l];rfl
def EZ:∀l m:LA,ae 0 l=eT->ae 0 m=eT->ae 0 (l++m)=eT|[],m,_,h=>h|a::l,m,b,h2=>by rw[ae,R]at b;rw[a05,ae,b.1,EZ l m b.2 h2];rfl
mutual
theorem JW.aL:∀j:JW,ae 0 j.B=eT|.mk k n t ns is=>by rw[JW.B];simp only[ae,g,xH,ac2 is,aE1]
theorem ac2:∀l:P JW,ae 0 (Ei l)=eT
 |[]=>by rw[Ei];rfl
 |j::l=>by rw[Ei];exact EZ _ _ (JW.aL j) (ac2 l)
end
theorem JV.aL(j:JV):ae 0 j.B=eT:=JW.aL j.w
def iZ:∀l:P JV,ae 0 (aO l)=eT
 |[]=>by rw[aO];rfl
 |j::l=>by rw[aO];exact EZ _ _ (JV.aL j) (iZ l)
theorem JV.Q(j:JV):j.B.all AV.Q=eT:=by grind [j.ex,JV.bO,AV.Q]
theorem JV.af(j:JV):NVs j.B:=by obtain⟨k,n,t,ns,is,a,h3,h2,h4,rfl⟩:=j.ex;rw[JV.bO];exact .cV (.cQ _ _) (.cV (.cQ _ _) (.cV (.cU _) (.cV (.sl _ (xH ns)) (.cV (.sl _ (iZ is)) .db))))
def JV.nv(j:JV):NV j.av:=.cX j.af
inductive Sh where
 |dT|cW|bc (b:Bool)|gN (x:Nat) (c:Int) (y:Nat)|gC (p:Bool) (x:Nat) (c:Int) (y:Nat)|cQ (k:IntKind)|ic (k:IntKind) (n:Int)|eS (j:Nat) (c:Int)|cU|df|sc (s:LU)|fp (i:Nat)|ep|cY|gO|gt|gh|sl (i:Nat) (e:List Sh)|ew (e:List Sh)|gM (i:Nat)|fh|eB (n:Nat) (e:List Sh)|fY (n:Nat) (e:List Sh)|fW (k a:Nat) (e:List Sh)|fN (k a:Nat) (e:List Sh)|cX (l:List Sh)|de (l:List Sh)|jv|jg (a b:Nat)|da (k off:Nat)|ec (off:Nat) (l:List Sh)|dz (k:Nat)|pk (k:Nat)|dv (f:Fn) (x y:List Sh)|dx (t:TypeId) (v:Sh)
 deriving Inhabited
structure Val where
 ν:List Nat
 ρ:List (Option Nat)
def Sh.wd:Sh->T|.jv=>5|.jg _ _=>5|_=>1
def wds:P Sh->T|[]=>0|s::l=>s.wd+wds l
def Sh.ef:Sh->Q|.jv=>eF|.jg _ _=>eF|.cX _=>eF|.de _=>eF|.dT=>eF|_=>eT
def JL(V:Val)(a b:T)(j:JV):Prop:=∃k n t ns is c h3 h2 h4,j=JV.mk k n t ns is c h3 h2 h4/\V.ν[a]?=J (z ns)/\V.ν[b]?=J (z is)
mutual
inductive M(V:Val):Sh->AV->Prop|dT:M V .dT (.de [])|cW (b:Bool):M V .cW (.cW b)|bc (b:Bool):M V (.bc b) (.cW b)|gN (x:Nat) (c:Int) (y:Nat) (a b:Nat):V.ν[x]?=some a->V.ν[y]?=some b->M V (.gN x c y) (.cW (decide ((a:Int)+c<=b)))|gC (p:Bool) (x:Nat) (c:Int) (y:Nat) (a b:Nat):V.ν[x]?=some a->V.ν[y]?=some b->M V (.gC p x c y) (.cW (decide ((a:Int)+c=b)==p))|cQ (k:IntKind) (n:Int):M V (.cQ k) (.cQ k n)|ic (k:IntKind) (n:Int):M V (.ic k n) (.cQ k n)|eS (j:Nat) (c:Int) (a:Nat):V.ν[j]?=some a->M V (.eS j c) (.cQ .i64 (a+c))|cU (s:LU):M V .cU (.cU s)|df (s:LU):s.length<=LB->M V .df (.cU s)|sc (s:LU):M V (.sc s) (.cU s)|fp (i:Nat) (s:LU):V.ν[i]?=some s.length->M V (.fp i) (.cU s)|ep:M V .ep .ep|cY:M V .cY .cY|gO:M V .gO .eo|gt:M V .gt .eb|gh:M V .gh .eE|sl (i:Nat) (e:List Sh) (rs:List LA):V.ν[i]?=some rs.length->MRs V e rs->M V (.sl i e) (.sl rs.length rs.flatten)|ew (e:List Sh) (rs:List LA):rs.length<=LS->MRs V e rs->M V (.ew e) (.sl rs.length rs.flatten)|gM (i:Nat) (is:List JV):V.ν[i]?=some is.length->M V (.gM i) (.sl is.length (aO is))|fh (is:List JV):is.length<=8192->M V .fh (.sl is.length (aO is))|eB (n:Nat) (e:List Sh) (l:LA):Ms V e l->M V (.eB n e) (.eB n l)|fY (n:Nat) (e:List Sh) (l:LA):Ms V e l->M V (.fY n e) (.sl n l)|iS (k a:Nat) (e:List Sh):V.ν[a]?=some 0->M V (.fW k a e) .cY|fW (k a:Nat) (e:List Sh) (o n:Nat):V.ν[a]?=some n->0<n->V.ρ[k]?=some (some o)->M V (.fW k a e) (.dj o 0 n (wds e))|fN (k a:Nat) (e:List Sh) (o n:Nat):V.ν[a]?=some n->V.ρ[k]?=some (some o)->M V (.fN k a e) (.dj o 0 n (wds e))|cX (l:List Sh) (v:LA):Ms V l v->M V (.cX l) (.cX v)|de (l:List Sh) (v:LA):Mt V l v->M V (.de l) (.de v)|jv (j:JV):M V .jv j.av|jg (a b:Nat) (j:JV):JL V a b j->M V (.jg a b) j.av|da (k off o:Nat):V.ρ[k]?=some (some o)->M V (.da k off) (.da o off)|ec (off:Nat) (l:List Sh) (v r:LA):Ms V l v->off<=v.length->ae 0 r=true->M V (.ec off l) (.ec ((v++r).drop off))|dz (k o:Nat):V.ρ[k]?=some (some o)->M V (.dz k) (.dz o)|pk (k o:Nat):V.ρ[k]?=some (some o)->M V (.pk k) (.da o 0)|dv (f:Fn) (x y:List Sh) (u v:LA):Mt V x u->Mt V y v->M V (.dv f x y) (.dv f u v)|dx (t:TypeId) (s:Sh) (v:AV):M V s v->M V (.dx t s) (.dx t v)
inductive Ms(V:Val):List Sh->LA->Prop|db:Ms V [] []|ef (s:Sh) (t:List Sh) (v:AV) (b:LA):s.ef=true->M V s v->Ms V t b->Ms V (s::t) (v::b)|jv (t:List Sh) (j:JV) (b:LA):Ms V t b->Ms V (.jv::t) (j.B++b)|jg (a b:Nat) (t:List Sh) (j:JV) (r:LA):JL V a b j->Ms V t r->Ms V (.jg a b::t) (j.B++r)
inductive MRs(V:Val):List Sh->List LA->Prop|db (e:List Sh):MRs V e []|cV (e:List Sh) (r:LA) (rs:List LA):Ms V e r->MRs V e rs->MRs V e (r::rs)
inductive Mt(V:Val):List Sh->LA->Prop|db:Mt V [] []|cV (s:Sh) (t:List Sh) (v:AV) (b:LA):M V s v->Mt V t b->Mt V (s::t) (v::b)
end
structure Val.le(V V':Val):Prop where
 ν:∀(i a:Nat),V.ν[i]?=some a->V'.ν[i]?=some a
 ρ:∀(i:Nat) (a:Option Nat),V.ρ[i]?=some a->V'.ρ[i]?=some a
def Val.le.cx{V:Val}:V.le V:=⟨λ_ _ h=>h,λ_ _ h=>h⟩
def Val.le.N{V V' b:Val}(h:V.le V')(k:V'.le b):V.le b:=⟨λi a e=>k.ν i a (h.ν i a e),λi a e=>k.ρ i a (h.ρ i a e)⟩
theorem JL.D{V V':Val}(h:V.le V'){a b:T}{j:JV}(hj:JL V a b j):JL V' a b j:=by obtain⟨k,n,t,ns,is,f,h3,h2,h4,e,c,d⟩:=hj;exact⟨k,n,t,ns,is,f,h3,h2,h4,e,h.ν _ _ c,h.ν _ _ d⟩
mutual
theorem M.D{V V':Val}(h:V.le V'):∀{s:Sh} {v:AV},M V s v->M V' s v|_,_,.dT=>.dT|_,_,.cW b=>.cW b|_,_,.bc b=>.bc b|_,_,.gN x c y a b e f=>.gN x c y a b (h.ν _ _ e) (h.ν _ _ f)|_,_,.gC p x c y a b e f=>.gC p x c y a b (h.ν _ _ e) (h.ν _ _ f)|_,_,.cQ k n=>.cQ k n|_,_,.ic k n=>.ic k n|_,_,.eS j c a e=>.eS j c a (h.ν _ _ e)|_,_,.cU s=>.cU s|_,_,.df s e=>.df s e|_,_,.sc s=>.sc s|_,_,.fp i s e=>.fp i s (h.ν _ _ e)|_,_,.ep=>.ep|_,_,.cY=>.cY|_,_,.gO=>.gO|_,_,.gt=>.gt|_,_,.gh=>.gh|_,_,.sl i e rs a b=>.sl i e rs (h.ν _ _ a) (MRs.D h b)|_,_,.ew e rs a b=>.ew e rs a (MRs.D h b)|_,_,.gM i is a=>.gM i is (h.ν _ _ a)|_,_,.fh is a=>.fh is a|_,_,.eB n e l a=>.eB n e l (Ms.D h a)|_,_,.fY n e l a=>.fY n e l (Ms.D h a)|_,_,.iS k a e x=>.iS k a e (h.ν _ _ x)|_,_,.fW k a e o n x y z=>.fW k a e o n (h.ν _ _ x) y (h.ρ _ _ z)|_,_,.fN k a e o n x z=>.fN k a e o n (h.ν _ _ x) (h.ρ _ _ z)|_,_,.cX l v a=>.cX l v (Ms.D h a)|_,_,.de l v a=>.de l v (Mt.D h a)|_,_,.jv j=>.jv j|_,_,.jg a b j x=>.jg a b j (x.D h)|_,_,.da k off o a=>.da k off o (h.ρ _ _ a)|_,_,.ec off l v d a c b=>.ec off l v d (Ms.D h a) c b|_,_,.dz k o a=>.dz k o (h.ρ _ _ a)|_,_,.pk k o a=>.pk k o (h.ρ _ _ a)|_,_,.dv f x y u v a b=>.dv f x y u v (Mt.D h a) (Mt.D h b)|_,_,.dx t s v a=>.dx t s v (M.D h a)
theorem Ms.D{V V':Val}(h:V.le V'):∀{l:P Sh} {v:LA},Ms V l v->Ms V' l v|_,_,.db=>.db|_,_,.ef s t v b a x y=>.ef s t v b a (M.D h x) (Ms.D h y)|_,_,.jv t j b x=>.jv t j b (Ms.D h x)|_,_,.jg a b t j d x y=>.jg a b t j d (x.D h) (Ms.D h y)
theorem MRs.D{V V':Val}(h:V.le V'):∀{l:P Sh} {v:P LA},MRs V l v->MRs V' l v|_,_,.db e=>.db e|_,_,.cV e d rs x y=>.cV e d rs (Ms.D h x) (MRs.D h y)
theorem Mt.D{V V':Val}(h:V.le V'):∀{l:P Sh} {v:LA},Mt V l v->Mt V' l v|_,_,.db=>.db|_,_,.cV s t v b x y=>.cV s t v b (M.D h x) (Mt.D h y)
end
theorem Ms.dt{V:Val}:∀{l:P Sh} {v:LA},Ms V l v->z v=wds l
 |_,_,.db=>w8
 |_,_,.ef s t v b a x y=>by
  have:s.wd=1:=by cases s<;>first|rfl|cases a
  rw[wds,this,a94,y.dt];omega
 |_,_,.jv t j b x=>by rw[wds,a03,j.dt,x.dt];rfl
 |_,_,.jg a b t j d x y=>by rw[wds,a03,j.dt,y.dt];rfl
def Ms.eD{V:Val}:∀{l m:P Sh} {v w:LA},Ms V l v->Ms V m w->Ms V (l++m) (v++w)
 |_,_,_,_,.db,h=>h|_,_,_,_,.ef s t v b a x y,h=>.ef s _ v _ a x (y.eD h)|_,_,_,_,.jv t j b x,h=>by rw[aB2];exact .jv _ j _ (x.eD h)
 |_,_,_,_,.jg a b t j d x y,h=>by rw[aB2];exact .jg a b _ j _ x (y.eD h)
theorem MRs.dt{V:Val}{e:P Sh}:∀{rs:P LA},MRs V e rs->z rs.flatten=z rs*wds e
 |_,.db _=>by simp
 |_,.cV _ d rs x y=>by rw[i,a03,x.dt,y.dt,a94,Nat.succ_mul];omega
def MRs.eD{V:Val}{e:P Sh}:∀{rs a:P LA},MRs V e rs->MRs V e a->MRs V e (rs++a)|_,_,.db _,h=>h|_,_,.cV _ d rs x y,h=>.cV _ d _ x (y.eD h)
def MRs.cd{V:Val}{e:P Sh}:∀{rs:P LA},MRs V e rs->∀(i:T),i<z rs->∃d,rs[i]?=J d/\Ms V e d/\∃pre,rs.flatten=pre++(d++(rs.drop (i+1)).flatten)/\z pre=i*wds e
 |_,.db _,i,h=>by simp at h
 |_,.cV _ d rs x y,0,h=>⟨d,w8,x,[],by simp,by simp⟩|_,.cV _ d rs x y,i+1,h=>by obtain⟨b,a,h2,pre,h3,h4⟩:=y.cd i (by simpa using h);grind [x.dt]
def Tt:T->P Sh->D (P Sh×P Sh)|0,l=>J ([],l)|_+1,[]=>U|n+1,s::l=>if s.wd<=n+1 then(match Tt (n+1-s.wd) l with|J (a,b)=>J (s::a,b)|U=>U)else U
def Ms.bh{V:Val}:∀{l:P Sh} {v:LA},Ms V l v->∀{n:T} {a b:P Sh},Tt n l=J (a,b)->∃x y,v=x++y/\z x=n/\Ms V a x/\Ms V b y
 |l,v,h,0,a,b,c=>by simp only[Tt,a07,aC2]at c;obtain⟨rfl,rfl⟩:=c;exact⟨[],v,w8,w8,.db,h⟩
 |_,_,.db,n+1,a,b,c=>by simp[Tt]at c
 |_,_,.ef s t v N e h2 h3,n+1,a,b,c=>by
  have g:s.wd=1:=by cases s<;>first|rfl|cases e
  simp only[Tt,g]at c;rw[j0 (by omega)]at c;split at c;·rename_i i k d;simp only[a07,aC2]at c;obtain⟨rfl,rfl⟩:=c;obtain⟨x,y,e1,e2,e3,e4⟩:=h3.bh d;grind [Ms]
  ·cases c
 |_,_,.jv t j N e,n+1,a,b,c=>by
  simp only[Tt]at c;split at c
  ·rename_i f;split at c;·rename_i i k d;simp only[a07,aC2]at c;obtain⟨rfl,rfl⟩:=c;obtain⟨x,y,e1,e2,e3,e4⟩:=e.bh d;have g:Sh.jv.wd=5:=w8;exact⟨j.B++x,y,by rw[e1,aB2],by rw[a03,j.dt,e2];omega,.jv _ _ _ e3,e4⟩
   ·cases c
  ·cases c
 |_,_,.jg p q t j N m e,n+1,a,b,c=>by
  simp only[Tt]at c;split at c
  ·rename_i f;split at c;·rename_i i k d;simp only[a07,aC2]at c;obtain⟨rfl,rfl⟩:=c;obtain⟨x,y,e1,e2,e3,e4⟩:=e.bh d;have g:(Sh.jg p q).wd=5:=w8;exact⟨j.B++x,y,by rw[e1,aB2],by rw[a03,j.dt,e2];omega,.jg _ _ _ _ _ m e3,e4⟩
   ·cases c
  ·cases c
def PQ{N:T}:∀(k:T) {l:LA},ae N l=eT->ae N (l.drop k)=eT|0,_,h=>h|_+1,[],_=>w8|k+1,a::l,h=>by rw[ae,R]at h;exact PQ k h.2
mutual
def cl:Sh->Q|.cY=>eF|.fW ..=>eF|.fN ..=>eF|.da ..=>eF|.dz _=>eF|.pk _=>eF|.eB ..=>eF|.sl _ e=>cls e|.ew e=>cls e|.fY _ e=>cls e|.cX l=>cls l|.de l=>cls l|.ec _ l=>cls l|.dv _ x y=>cls x&&cls y|.dx _ v=>cl v|_=>eT
def cls:P Sh->Q|[]=>eT|s::l=>cl s&&cls l
end
def NV.ec{l:LA}(h:ae 0 l=eT):NV (.ec l):=⟨λ_ _=>w8,by rw[g];exact h⟩
def NV.dx{t:TypeId}{v:AV}(h:NV v):NV (.dx t v):=⟨λO d=>by unfold cu;rw[h.nf],by rw[g];exact h.cl⟩
def NV.dv{f:Fn}{x y:LA}(h:NVs x)(k:NVs y):NV (.dv f x y):=⟨λO d=>by unfold cu;rw[h.nf,k.nf];rfl,by rw[g,h.cl,k.cl];rfl⟩
mutual
theorem M.nv{V:Val}:∀{s:Sh} {v:AV},M V s v->cl s=eT->NV v
 |_,_,.dT,_=>.de .db|_,_,.cW b,_=>.cW _|_,_,.bc b,_=>.cW _|_,_,.gN x c y a b e f,_=>.cW _|_,_,.gC p x c y a b e f,_=>.cW _|_,_,.cQ k n,_=>.cQ _ _|_,_,.ic k n,_=>.cQ _ _|_,_,.eS j c a e,_=>.cQ _ _|_,_,.cU s,_=>.cU _|_,_,.df s e,_=>.cU _|_,_,.sc s,_=>.cU _|_,_,.fp i s e,_=>.cU _|_,_,.ep,_=>⟨λ_ _=>w8,w8⟩|_,_,.cY,h=>by simp[cl]at h
 |_,_,.gO,_=>⟨λ_ _=>w8,w8⟩|_,_,.gt,_=>⟨λ_ _=>w8,w8⟩|_,_,.gh,_=>⟨λ_ _=>w8,w8⟩|_,_,.sl i e rs a b,h=>.sl _ (MRs.aL b (by simpa[cl]using h))|_,_,.ew e rs a b,h=>.sl _ (MRs.aL b (by simpa[cl]using h))|_,_,.gM i is a,_=>.sl _ (iZ is)|_,_,.fh is a,_=>.sl _ (iZ is)|_,_,.eB n e l a,h=>by simp[cl]at h
 |_,_,.fY n e l a,h=>.sl _ (Ms.af a (by simpa[cl]using h)).cl|_,_,.iS k a e x,h=>by simp[cl]at h
 |_,_,.fW k a e o n x y z,h=>by simp[cl]at h
 |_,_,.fN k a e o n x z,h=>by simp[cl]at h
 |_,_,.cX l v a,h=>.cX (Ms.af a (by simpa[cl]using h))|_,_,.de l v a,h=>.de (Mt.af a (by simpa[cl]using h))|_,_,.jv j,_=>j.nv|_,_,.jg a b j x,_=>j.nv|_,_,.da k off o a,h=>by simp[cl]at h
 |_,_,.ec off l v d a c b,h=>.ec (PQ off (EZ _ _ (Ms.af a (by simpa[cl]using h)).cl b))|_,_,.dz k o a,h=>by simp[cl]at h
 |_,_,.pk k o a,h=>by simp[cl]at h
 |_,_,.dv f x y u v a b,h=>by rw[cl,R]at h;exact .dv (Mt.af a h.1) (Mt.af b h.2)
 |_,_,.dx t s v a,h=>.dx (M.nv a (by simpa[cl]using h))
theorem Ms.af{V:Val}:∀{l:P Sh} {v:LA},Ms V l v->cls l=eT->NVs v
 |_,_,.db,_=>.db|_,_,.ef s t v b a x y,h=>by rw[cls,R]at h;exact .cV (M.nv x h.1) (Ms.af y h.2)
 |_,_,.jv t j b x,h=>by rw[cls,R]at h;exact j.af.eD (Ms.af x h.2)
 |_,_,.jg a b t j d x y,h=>by rw[cls,R]at h;exact j.af.eD (Ms.af y h.2)
theorem MRs.aL{V:Val}:∀{l:P Sh} {v:P LA},MRs V l v->cls l=eT->ae 0 v.flatten=eT|_,_,.db e,_=>w8|_,_,.cV e d rs x y,h=>by rw[i];exact EZ _ _ (Ms.af x h).cl (MRs.aL y h)
theorem Mt.af{V:Val}:∀{l:P Sh} {v:LA},Mt V l v->cls l=eT->NVs v|_,_,.db,_=>.db|_,_,.cV s t v b x y,h=>by rw[cls,R]at h;exact .cV (M.nv x h.1) (Mt.af y h.2)
end
theorem M.Q{V:Val}{s:Sh}{v:AV}(h:M V s v)(a:s.ef=eT):v.Q=eT:=by cases h<;>first|rfl|cases a
theorem Ms.Q{V:Val}:∀{l:P Sh} {v:LA},Ms V l v->v.all AV.Q=eT
 |_,_,.db=>w8|_,_,.ef s t v b a x y=>by rw[a08,x.Q a,y.Q];rfl
 |_,_,.jv t j b x=>by rw[aK2,j.Q,x.Q];rfl
 |_,_,.jg a b t j d x y=>by rw[aK2,j.Q,y.Q];rfl
theorem MRs.Q{V:Val}:∀{l:P Sh} {v:P LA},MRs V l v->v.flatten.all AV.Q=eT|_,_,.db e=>w8|_,_,.cV e d rs x y=>by rw[i,aK2,x.Q,y.Q];rfl
def Gj{N:T}:∀{l m:LA},ae N l=eT->ae N m=eT->ae N (l++m)=eT|[],m,_,h=>h|a::l,m,b,h2=>by rw[ae,R]at b;rw[a05,ae,b.1,Gj b.2 h2];rfl
def zk{n k:T}(h:n<=k){l:LA}(a:ae n l=eT):ae k l=eT:=aP h l a
mutual
theorem M.aL{V:Val}{N:T}(d:∀(k o:T),V.ρ[k]?=J (J o)->o<N):∀{s:Sh} {v:AV},M V s v->g N v=eT
 |_,_,.dT=>w8|_,_,.cW b=>w8|_,_,.bc b=>w8|_,_,.gN x c y a b e f=>w8|_,_,.gC p x c y a b e f=>w8|_,_,.cQ k n=>w8|_,_,.ic k n=>w8|_,_,.eS j c a e=>w8|_,_,.cU s=>w8|_,_,.df s e=>w8|_,_,.sc s=>w8|_,_,.fp i s e=>w8|_,_,.ep=>w8|_,_,.cY=>w8|_,_,.gO=>w8|_,_,.gt=>w8|_,_,.gh=>w8|_,_,.sl i e rs a b=>by rw[g];exact MRs.cj d b
 |_,_,.ew e rs a b=>by rw[g];exact MRs.cj d b
 |_,_,.gM i is a=>by rw[g];exact zk (a97 N) (iZ is)
 |_,_,.fh is a=>by rw[g];exact zk (a97 N) (iZ is)
 |_,_,.eB n e l a=>by rw[g];exact Ms.cj d a
 |_,_,.fY n e l a=>by rw[g];exact Ms.cj d a
 |_,_,.iS k a e x=>w8|_,_,.fW k a e o n x y z=>by rw[g];simpa using d _ _ z
 |_,_,.fN k a e o n x z=>by rw[g];simpa using d _ _ z
 |_,_,.cX l v a=>by rw[g];exact Ms.cj d a
 |_,_,.de l v a=>by rw[g];exact Mt.cj d a
 |_,_,.jv j=>by unfold JV.av;rw[g];exact zk (a97 N) j.aL
 |_,_,.jg a b j x=>by unfold JV.av;rw[g];exact zk (a97 N) j.aL
 |_,_,.da k off o a=>by rw[g];simpa using d _ _ a
 |_,_,.ec off l v h a c b=>by rw[g];exact PQ off (Gj (Ms.cj d a) (zk (a97 N) b))
 |_,_,.dz k o a=>by rw[g];simpa using d _ _ a
 |_,_,.pk k o a=>by rw[g];simpa using d _ _ a
 |_,_,.dv f x y u v a b=>by rw[g,Mt.cj d a,Mt.cj d b];rfl
 |_,_,.dx t s v a=>by rw[g];exact M.aL d a
theorem Ms.cj{V:Val}{N:T}(c:∀(k o:T),V.ρ[k]?=J (J o)->o<N):∀{l:P Sh} {v:LA},Ms V l v->ae N v=eT
 |_,_,.db=>w8|_,_,.ef s t v b a x y=>by rw[ae,M.aL c x,Ms.cj c y];rfl
 |_,_,.jv t j b x=>Gj (zk (a97 N) j.aL) (Ms.cj c x)|_,_,.jg a b t j d x y=>Gj (zk (a97 N) j.aL) (Ms.cj c y)
theorem MRs.cj{V:Val}{N:T}(a:∀(k o:T),V.ρ[k]?=J (J o)->o<N):∀{l:P Sh} {v:P LA},MRs V l v->ae N v.flatten=eT|_,_,.db e=>w8|_,_,.cV e d rs x y=>by rw[i];exact Gj (Ms.cj a x) (MRs.cj a y)
theorem Mt.cj{V:Val}{N:T}(a:∀(k o:T),V.ρ[k]?=J (J o)->o<N):∀{l:P Sh} {v:LA},Mt V l v->ae N v=eT|_,_,.db=>w8|_,_,.cV s t v b x y=>by rw[ae,M.aL a x,Mt.cj a y];rfl
end
inductive HO where
 |cP (l:List Sh)|ro (l:List Sh)|hY (a:Nat) (e:List Sh)|fX (a:Nat) (e:List Sh)|dz (v:Sh)|pk|em
 deriving Inhabited
structure Ab where
 aR:List (Nat×Sh)
 X:List HO
 nx:Nat
 aa:List (Nat×Int×Nat)
 wr:List Nat:=[]
 ls:List Nat:=[]
 deriving Inhabited
def la(t:T):P (T×Sh)->D Sh|[]=>U|(k,s)::l=>if k=t then J s else la t l
structure Vo extends Val where
 ah:List (List Nat)
def uH(V:Val)(f:T×O×T):Prop:=∃a b:T,V.ν[f.1]?=J a/\V.ν[f.2.2]?=J b/\(a:O)+f.2.1<=b
theorem uH.D{V V':Val}(h:V.le V'){f:T×O×T}(hf:uH V f):uH V' f:=by obtain⟨a,b,c,h2,h3⟩:=hf;exact⟨a,b,h.ν _ _ c,h.ν _ _ h2,h3⟩
structure PkI where
 ok:St->Nat->List Nat->Prop
 fr:∀{Y Y':St} {o:Nat} {ms:List Nat},ok Y o ms->(∀i∈o::ms,Y'[i]?=Y[i]?)->ok Y' o ms
structure Frm where
 s:St
 w:List Nat
def Frm.I(F:Frm):T:=z F.s
def HM(PK:PkI)(V:Vo)(F:Frm)(Y:St)(k:T):HO->Prop|.cP l=>∃o cs,V.ρ[k]?=J (J o)/\V.ah[k]?=J [o]/\Y[o]?=J (.cP cs FZ)/\Ms V.toVal l cs|.ro l=>∃o cs b,V.ρ[k]?=J (J o)/\V.ah[k]?=J []/\(o<F.I/\o∉F.w)/\Y[o]?=J (.cP cs b)/\Ms V.toVal l cs|.hY a e=>∃n,V.ν[a]?=J n/\(n=0/\V.ah[k]?=J []\/0<n/\∃o rs b,V.ρ[k]?=J (J o)/\V.ah[k]?=J [o]/\Y[o]?=J (.cP rs.flatten b)/\z rs=n/\MRs V.toVal e rs)|.fX a e=>∃n,V.ν[a]?=J n/\∃o rs b,V.ρ[k]?=J (J o)/\V.ah[k]?=J [o]/\Y[o]?=J (.cP rs.flatten b)/\z rs=n/\MRs V.toVal e rs|.dz v=>∃o c,V.ρ[k]?=J (J o)/\V.ah[k]?=J [o]/\Y[o]?=J (.dz c)/\∀p∈c,(∃s,p.1=.cU s)/\M V.toVal v p.2|.pk=>∃o ms,V.ρ[k]?=J (J o)/\V.ah[k]?=J (o::ms)/\PK.ok Y o ms|.em=>V.ah[k]?=J []
structure G(PK:PkI)(O0:Frm)(V:Vo)(A:Ab)(E:As)(Y:St):Prop where
 aR:∀t s,la t A.aR=some s->M V.toVal s (look E t)
 lν:V.ν.length=A.nx
 lρ:V.ρ.length=A.X.length
 lo:V.ah.length=A.X.length
 ab:V.ν[0]?=some 0
 aa:∀f∈A.aa,uH V.toVal f
 X:∀k h,A.X[k]?=some h->HM PK V O0 Y k h
 ez:∀(k k':Nat) a b,k≠k'->V.ah[k]?=some a->V.ah[k']?=some b->∀i∈a,i∉b
 dg:∀(k:Nat) a,V.ah[k]?=some a->∀i∈a,(O0.I<=i\/i∈O0.w)/\i<Y.length
 ρl:∀(k o:Nat),V.ρ[k]?=some (some o)->o<Y.length
 b3:O0.I<=Y.length/\∀i,i<O0.I->i∉O0.w->Y[i]?=O0.s[i]?
 ok:Ok Y
section
variable{PK:PkI}{O0:Frm}{V:Vo}{A:Ab}{E:As}{Y:St}
theorem G.dt(h:G PK O0 V A E Y):O0.I<=z Y:=h.b3.1
def G.bp(h:G PK O0 V A E Y){i:T}(hi:i<O0.I)(a:i∉O0.w):Y[i]?=O0.s[i]?:=h.b3.2 i hi a
def G.cn(h:G PK O0 V A E Y){s:Sh}{v:AV}(hv:M V.toVal s v)(d:T):G PK O0 V {A with aR:=(d,s)::A.aR} ((d,v)::E) Y:=by refine⟨λt b a=>?_,h.lν,h.lρ,h.lo,h.ab,h.aa,h.X,h.ez,h.dg,h.ρl,h.b3,h.ok⟩;simp only[la]at a;simp only[look];grind [G]
def G.ha(h:G PK O0 V A E Y){l:P (T×Sh)}(a:∀t s,la t l=J s->M V.toVal s (look E t)):G PK O0 V {A with aR:=l} E Y:=
 ⟨a,h.lν,h.lρ,h.lo,h.ab,h.aa,h.X,h.ez,h.dg,h.ρl,h.b3,h.ok⟩
def G.ho(h:G PK O0 V A E Y){f:T×O×T}(hf:uH V.toVal f):G PK O0 V {A with aa:=f::A.aa} E Y:=by grind [G]
theorem HM.D{N:Frm}{V V':Vo}(b:V.toVal.le V'.toVal){k:T}(d:V'.ah[k]?=V.ah[k]?){Y j:St}(g:∀a,V.ah[k]?=J a->∀i∈a,j[i]?=Y[i]?)(hr:∀(i:T),i<N.I->i∉N.w->j[i]?=Y[i]?):∀{x:HO},HM PK V N Y k x->HM PK V' N j k x
 |.cP l,⟨o,cs,c,h2,h3,h4⟩=>⟨o,cs,b.ρ _ _ c,d.trans h2,(g _ h2 o (by simp)).trans h3,h4.D b⟩|.ro l,⟨o,cs,f,c,h2,h3,h4,h5⟩=>⟨o,cs,f,b.ρ _ _ c,d.trans h2,h3,(hr o h3.1 h3.2).trans h4,h5.D b⟩
 |.hY a e,⟨n,c,h⟩=>by
  refine⟨n,b.ν _ _ c,?_⟩;rcases h with⟨h2,h3⟩|⟨h2,o,rs,f,h3,h4,h5,h6,h7⟩;·exact .inl ⟨h2,d.trans h3⟩
  ·exact .inr ⟨h2,o,rs,f,b.ρ _ _ h3,d.trans h4,(g _ h4 o (by simp)).trans h5,h6,h7.D b⟩
 |.fX a e,⟨n,c,o,rs,f,h3,h4,h5,h6,h7⟩=>⟨n,b.ν _ _ c,o,rs,f,b.ρ _ _ h3,d.trans h4,(g _ h4 o (by simp)).trans h5,h6,h7.D b⟩|.dz v,⟨o,q,c,h2,h3,h4⟩=>⟨o,q,b.ρ _ _ c,d.trans h2,(g _ h2 o (by simp)).trans h3,λp m=>⟨(h4 p m).1,(h4 p m).2.D b⟩⟩|.pk,⟨o,ms,c,h2,h3⟩=>⟨o,ms,b.ρ _ _ c,d.trans h2,PK.fr h3 (λi hi=>g _ h2 i hi)⟩|.em,h=>d.trans h
def G.eS(h:G PK O0 V A E Y)(a:T):∃V':Vo,V.toVal.le V'.toVal/\V'.ν[A.nx]?=J a/\V'.ah=V.ah/\G PK O0 V' {A with nx:=A.nx+1} E Y:=by
 have b:V.toVal.le (⟨⟨V.ν++[a],V.ρ⟩,V.ah⟩:Vo).toVal:=⟨λi x c=>by
  grind,λi x c=>c⟩
 refine⟨⟨⟨V.ν++[a],V.ρ⟩,V.ah⟩,b,?_,w8,?_⟩;·grind [G]
 ·refine⟨λt s e=>(h.aR t s e).D b,?_,h.lρ,h.lo,b.ν _ _ h.ab,λf hf=>(h.aa f hf).D b,λk x d=>(h.X k x d).D b w8 (λ_ _ _ _=>w8) (λ_ _ _=>w8),h.ez,h.dg,h.ρl,h.b3,h.ok⟩;grind [G]
def Ok.cv{Y:St}(h:Ok Y){x:AO}(a:x.below (z Y+1)=eT):Ok (Y++[x]):=h.eD (l:=[x]) (by simpa using a)
def G.eM (h:G PK O0 V A E Y) {x:AO} {y:HO} (w:x.below (Y.length+1)=eT) (B:∀V':Vo,V.toVal.le V'.toVal->V'.ρ[A.X.length]?=J (J Y.length)->V'.ah[A.X.length]?=J [Y.length]->HM PK V' O0 (Y++[x]) A.X.length y):
  ∃V':Vo,V.toVal.le V'.toVal/\V'.ρ[A.X.length]?=J (J Y.length)/\V'.ν=V.ν/\V'.ah=V.ah++[[Y.length]]/\G PK O0 V' {A with X:=A.X++[y]} E (Y++[x]):=by
 have d:V.toVal.le (⟨⟨V.ν,V.ρ++[J Y.length]⟩,V.ah++[[Y.length]]⟩:Vo).toVal:=⟨λi a c=>c,λi a c=>by
  grind⟩
 have n:(V.ρ++[J Y.length])[A.X.length]?=J Y.length:=by rw[<-h.lρ];simp
 have p:(V.ah++[[Y.length]])[A.X.length]?=J [Y.length]:=by rw[<-h.lo];simp
 have j:∀(k:T) a,(V.ah++[[Y.length]])[k]?=J a->V.ah[k]?=J a\/k=A.X.length/\a=[Y.length]:=λk a c=>by grind [G]
 have e:∀(i:T),i<Y.length->(Y++[x])[i]?=Y[i]?:=λi hi=>aC1 hi;refine⟨⟨⟨V.ν,V.ρ++[J Y.length]⟩,V.ah++[[Y.length]]⟩,d,n,w8,w8,λt s v=>(h.aR t s v).D d,h.lν,by simp[h.lρ],by simp[h.lo],h.ab,λf hf=>(h.aa f hf).D d,λk z l=>?_,λk q a b g c hb i hi m=>?_,λk a c i hi=>?_,λk o l=>?_,?_,h.ok.cv w⟩
 ·rw[aF4]at l;split at l;·rename_i u;refine(h.X k z l).D d ?_ (λa c i hi=>e i (h.dg k a c i hi).2) (λi hi _=>e i (aG2 hi h.dt));grind
  grind
 ·rcases j k a c with c|⟨rfl,rfl⟩<;>rcases j q b hb with hb|⟨rfl,rfl⟩;·exact h.ez k q a b g c hb i hi m
  ·grind [G]
  ·grind [G]
  ·exact g w8
 ·grind [G]
 ·grind [G]
 grind [G]
def G.cg(h:G PK O0 V A E Y){k o:T}{x:AO}{y:HO}(p:k<A.X.length)(l:V.ah[k]?=J [o])(s:x.below Y.length=eT)(t:HM PK V O0 (Y.set o x) k y):G PK O0 V {A with X:=A.X.set k y} E (Y.set o x):=by
 have q:=h.dg k [o] l o (by simp);have c:∀(i:T),i≠o->(Y.set o x)[i]?=Y[i]?:=λi hi=>by rw[aE2 (Ne.symm hi)]
 refine⟨h.aR,h.lν,by simp[h.lρ],by simp[h.lo],h.ab,h.aa,λd z b=>?_,h.ez,λd a g i hi=>by simpa using h.dg d a g i hi,λd n b=>by simpa using h.ρl d n b,?_,?_⟩
 ·rw[w]at b;split at b;·grind
  ·rename_i j;refine(h.X d z b).D .cx w8 (λa g i hi=>c i λe=>?_) (λi hi m=>c i λe=>?_);·grind [G]
   grind
 ·grind [G]
 grind [Ok,h.ok]
end
abbrev Fs:=P (T×O×T)
def prove(F:Fs):T->T->O->T->Q|0,x,c,y=>(x==y||x==0)&&L (c<=0)|d+1,x,c,y=>((x==y||x==0)&&L (c<=0))||F.any λf=>(f.1==x||x==0)&&prove F d f.2.2 (c-f.2.1) y
def Qv{V:Val}{F:Fs}(m:V.ν[0]?=J 0)(i:∀f∈F,uH V f):∀(d x:T) (c:O) (y a b:T),prove F d x c y=eT->V.ν[x]?=J a->V.ν[y]?=J b->(a:O)+c<=b:=by
 have base:∀(x:T) (c:O) (y a b:T),((x==y||x==0)&&L (c<=0))=eT->V.ν[x]?=J a->V.ν[y]?=J b->(a:O)+c<=b:=by grind
 intro d
 induction d with
 |zero=>exactλx c y a b h g hb=>base x c y a b h g hb
 |succ d l=>
  intro x c y a b h g hb;rw[prove,aE7]at h;rcases h with h|h;·exact base x c y a b h g hb
  ·obtain⟨f,hf,e⟩:=aJ7.mp h;simp only[R,aE7,k9]at e;obtain⟨o,e⟩:=e;obtain⟨p,q,n,k,j⟩:=i f hf;have:=l _ _ _ _ _ e k hb;grind
def PD:T:=4
def le?(F:Fs)(x:T)(c:O)(y:T):Q:=prove F PD x c y
def leN(F:Fs)(x:T)(n:T):Q:=prove F PD x (-(n:O)) 0
section
variable(F:Fs)(θ:List (Nat×Int))(θo:List Nat)
def aqJ:Sh->Q|.cQ r=>eT|.ic r _=>eT|.eS _ _=>eT|_=>eF
def avG:Sh->Q|.df=>eT|.sc s=>L (z s<=LB)|.fp i=>leN F i LB|_=>eF
def Vh(p:P Sh->Q)(w:T):T->P Sh->Q|0,l=>l.isEmpty|n+1,l=>match Tt w l with|J (a,b)=>p a&&Vh p w n b|U=>eF
def arG:P Sh->Q|[s]=>s.ef&&avG F s|_=>eF
def nmS:Sh->D (T×O)|.sl i [.df]=>J (i,0)|.fY n l=>if Vh (arG F) 1 n l then J (0,(n:O))else U|_=>U
def awd:Sh->D Q|.ic .u8 k=>J (k !=5)|.cQ .u8=>J eF|_=>U
def jvP(a b c:Sh)(p q:D (T×O)):Q:=match awd a,p,q with|J no,J p,J q=>aqJ b&&avG F c&&le? F p.1 (p.2-q.2) q.1&&le? F q.1 (q.2-8192) 0&&(no||le? F q.1 (q.2-p.2) p.1)|_,_,_=>eF
def jvN:T->P Sh->Q|_,[.jv]=>eT|_,[.jg _ _]=>eT|n+1,[a,b,c,d,e]=>a.ef&&b.ef&&c.ef&&d.ef&&e.ef&&jvP F a b c (nmS F d) (match e with|.gM j=>J (j,0)|.fY k m=>if Vh (jvN n) 5 k m then J (0,(k:O))else U|_=>U)|_,_=>eF
def ar0(a b c d e:Sh):Q:=jvN F 4 [a,b,c,d,e]
def Ep(p:D (T×O))(i:T)(c:O):Q:=match p with|J (a,b)=>a==i&&b==c|U=>eF
def eqO(p:D T)(k:T):Q:=match p with|J a=>a==k|U=>eF
mutual
def sub:Sh->Sh->Q|.dT,.dT=>eT|.cW,.cW=>eT|.cW,.bc _=>eT|.cW,.gN ..=>eT|.cW,.gC ..=>eT|.bc a,.bc b=>a==b|.cQ k,.cQ g=>k==g|.cQ k,.ic g _=>k==g|.cQ k,.eS _ _=>k== r|.ic k n,.ic g q=>k==g&&n==q|.eS j c,.eS i d=>Ep θ[j]? i (d-c)|.eS j c,.ic k n=>k== r&&Ep θ[j]? 0 (n-c)|.cU,.cU=>eT|.cU,.df=>eT|.df,.df=>eT|.df,.fp i=>leN F i LB|.df,.sc s=>L (z s<=LB)|.cU,.sc _=>eT|.cU,.fp _=>eT|.sc a,.sc b=>a==b|.fp i,.fp j=>Ep θ[i]? j 0|.fp i,.sc s=>Ep θ[i]? 0 (z s)|.ep,.ep=>eT|.cY,.cY=>eT|.gO,.gO=>eT|.gt,.gt=>eT|.gh,.gh=>eT|.sl i e,.sl j h=>Ep θ[i]? j 0&&subs e h|.ew e,.sl j h=>leN F j LS&&subs e h|.ew e,.ew h=>subs e h|.ew e,.fY n l=>L (n<=LS)&&Vh (λm=>subs e m) (wds e) n l|.gM i,.gM j=>Ep θ[i]? j 0|.fh,.gM j=>leN F j 8192|.fh,.fY 0 []=>eT|.fh,.fh=>eT|.eB n e,.eB q h=>n==q&&subs e h|.fY n e,.fY q h=>n==q&&subs e h|.fW k a e,.cY=>Ep θ[a]? 0 0|.fW k a e,.fW g p h=>Ep θ[a]? p 0&&eqO θo[k]? g&&wds e==wds h|.fW k a e,.fN g p h=>Ep θ[a]? p 0&&eqO θo[k]? g&&wds e==wds h&&le? F 0 1 p|.fN k a e,.fN g p h=>Ep θ[a]? p 0&&eqO θo[k]? g&&wds e==wds h|.cX l,.cX m=>subs l m|.de l,.de m=>Vs l m|.jv,.jv=>eT|.jv,.jg _ _=>eT|.jv,.cX [a,b,c,d,e]=>a.ef&&b.ef&&c.ef&&d.ef&&e.ef&&ar0 F a b c d e|.jg a b,.jg c d=>Ep θ[a]? c 0&&Ep θ[b]? d 0|.da k o,.da g u=>eqO θo[k]? g&&o==u|.ec o l,.ec u m=>o==u&&subs l m|.dz k,.dz g=>eqO θo[k]? g|.pk k,.pk g=>eqO θo[k]? g|.dv f x y,.dv w C D=>f==w&&Vs x C&&Vs y D|.dx t v,.dx A B=>t==A&&sub v B|_,_=>eF
def subs:P Sh->P Sh->Q|[],[]=>eT|.jv::l,.jv::m=>subs l m|.jv::l,.jg _ _::m=>subs l m|.jv::l,a::b::c::d::e::m=>a.ef&&b.ef&&c.ef&&d.ef&&e.ef&&ar0 F a b c d e&&subs l m|.jg a b::l,.jg c d::m=>Ep θ[a]? c 0&&Ep θ[b]? d 0&&subs l m|s::l,f::m=>s.ef&&f.ef&&sub s f&&subs l m|_,_=>eF
def Vs:P Sh->P Sh->Q|[],[]=>eT|s::l,a::m=>sub s a&&Vs l m|_,_=>eF
end
end
structure Sb(F:Fs)(θ:List (Nat×Int))(θo:List Nat)(V W:Val):Prop where
 ab:V.ν[0]?=some 0
 aa:∀f∈F,uH V f
 eS:∀(j i:Nat) (c:Int),Ep θ[j]? i c=true->∀a:Nat,V.ν[i]?=some a->∃b:Nat,W.ν[j]?=some b/\(b:Int)=a+c
 bA:∀(k k' o:Nat),eqO θo[k]? k'=true->V.ρ[k']?=some (some o)->W.ρ[k]?=some (some o)
section
variable{F:Fs}{θ:List (Nat×Int)}{θo:List Nat}{V W:Val}
theorem agn(hs:Sb F θ θo V W){x n a:T}(h:leN F x n=eT)(b:V.ν[x]?=J a):a<=n:=by have:=Qv hs.ab hs.aa _ _ _ _ _ _ h b hs.ab;omega
theorem Yv(hs:Sb F θ θo V W){x y a b:T}{c:O}(h:le? F x c y=eT)(d:V.ν[x]?=J a)(hb:V.ν[y]?=J b):(a:O)+c<=b:=Qv hs.ab hs.aa _ _ _ _ _ _ h d hb
theorem Sb.he(hs:Sb F θ θo V W){j i:T}(h:Ep θ[j]? i 0=eT){a:T}(b:V.ν[i]?=J a):W.ν[j]?=J a:=by grind [Sb]
theorem YR:∀{rs:P LA},MRs V [.df] rs->∃ns:P LU,rs.flatten=ns.map AV.cU/\z ns=z rs/\∀x∈ns,z x<=LB
 |_,.db _=>⟨[],w8,w8,by simp⟩
 |_,.cV _ d rs x y=>by
  obtain⟨ns,a,h2,h3⟩:=YR y;cases x with
  |ef _ _ v b h4 h5 h6=>
   cases h6;cases h5 with
   |df s hs=>exact⟨s::ns,by rw[i,a];rfl,by simp[h2],λx c=>by
    grind⟩
theorem JL.fi(hs:Sb F θ θo V W){a b c d:T}{j:JV}(i:Ep θ[a]? c 0=eT)(h2:Ep θ[b]? d 0=eT)(h:JL V c d j):JL W a b j:=by obtain⟨k,n,t,ns,is,x1,x3,x2,x4,e,f,g⟩:=h;exact⟨k,n,t,ns,is,x1,x3,x2,x4,e,hs.he i f,hs.he h2 g⟩
theorem ahI:∀{l:P Sh} {n:T} {a b:P Sh},Tt n l=J (a,b)->I a<=I l/\I b<=I l
 |l,0,a,b,h=>by simp only[Tt,a07,aC2]at h;obtain⟨rfl,rfl⟩:=h;refine⟨?_,a09 _⟩;cases l<;>simp;omega
 |[],n+1,a,b,h=>by simp[Tt]at h
 |s::l,n+1,a,b,h=>by
  simp only[Tt]at h;split at h
  ·split at h;·rename_i x y c;simp only[a07,aC2]at h;obtain⟨rfl,rfl⟩:=h;have:=ahI c;simp;omega
   ·cases h
  ·cases h
theorem rows_ok{V W:Val}{e:P Sh}{p:P Sh->Q}{N:T}(d:∀{a:P Sh} {v:LA},I a<=N->p a=eT->Ms V a v->Ms W e v):∀{n:T} {l:P Sh} {v:LA},I l<=N->Vh p (wds e) n l=eT->Ms V l v->∃rs:P LA,z rs=n/\v=rs.flatten/\MRs W e rs
 |0,l,v,f,h,hv=>by simp only[Vh,List.isEmpty_iff]at h;subst h;cases hv;exact⟨[],w8,w8,.db _⟩
 |n+1,l,v,f,h,hv=>by
  simp only[Vh]at h;split at h;·rename_i a b c;rw[R]at h;obtain⟨x,y,rfl,h2,h3,h4⟩:=hv.bh c;have g:=ahI c;obtain⟨rs,e1,e2,e3⟩:=rows_ok d (by omega) h.2 h4;exact⟨x::rs,by simp[e1],by rw[i,e2],.cV _ _ _ (d (by omega) h.1 h3) e3⟩
  ·cases h
theorem MRs.dz{V W:Val}{l a:P Sh}(h:∀d,Ms V a d->Ms W l d):∀{rs:P LA},MRs V a rs->MRs W l rs|_,.db _=>.db _|_,.cV _ d rs x y=>.cV _ _ _ (h d x) (MRs.dz h y)
theorem Ms.c1{V:Val}{q:Sh}{t:P Sh}{f:LA}(h:Ms V (q::t) f)(c:q.ef=eT):∃v d,f=v::d/\M V q v/\Ms V t d:=by
 cases h with
 |ef _ _ v b _ hv e=>exact⟨v,b,w8,hv,e⟩|jv=>cases c|jg a b=>cases c
theorem aqK{s:Sh}{v:AV}(h:aqJ s=eT)(hv:M V s v):∃n,v=.cQ r n:=by
 cases hv<;>first|(cases h;done)|skip
 ·rename_i k n;cases k<;>first|(cases h;done)|exact⟨_,w8⟩
 ·rename_i k n;cases k<;>first|(cases h;done)|exact⟨_,w8⟩
 ·exact⟨_,w8⟩
theorem ani(hs:Sb F θ θo V W){s:Sh}{v:AV}(h:avG F s=eT)(hv:M V s v):∃n,v=.cU n/\z n<=LB:=by
 unfold avG at h;split at h;·grind [M]
 ·grind [M]
 ·cases hv with|fp i s e=>exact⟨s,w8,agn hs h e⟩
 ·cases h
theorem axH(hs:Sb F θ θo V W){d:Sh}{p:T×O}{v:AV}(h:nmS F d=J p)(hv:M V d v):∃(ns:P LU) (m:T),v=.sl ns.length (ns.map .cU)/\V.ν[p.1]?=J m/\(ns.length:O)=m+p.2/\∀x∈ns,x.length<=LB:=by
 unfold nmS at h;split at h;·cases h;cases hv with|sl _ _ rs hi hr=>obtain⟨ns,e1,e2,e3⟩:=YR hr;grind
 ·rename_i n l;split at h
  ·rename_i hr;cases h;cases hv with
   |fY _ _ w f=>
    obtain⟨rs,e1,rfl,e3⟩:=rows_ok (W:=V) (e:=[.df]) (λ{x y} _ a g=>by
     unfold arG at a;split at a;·rename_i s;rw[R]at a;obtain⟨z,j,rfl,i,b⟩:=Ms.c1 g a.1;cases b;obtain⟨t,rfl,c⟩:=ani hs a.2 i;exact .ef _ _ _ _ w8 (.df t c) .db
     ·cases a) (a09 _) hr f
    grind [YR,hs.ab]
  ·cases h
 ·cases h
theorem aeJ{V:Val}:∀{rs:P LA},MRs V [.jv] rs->∃is:P JV,z is=z rs/\rs.flatten=aO is
 |_,.db _=>⟨[],w8,w8⟩
 |_,.cV _ d rs x y=>by
  obtain⟨is,a,h2⟩:=aeJ y;cases x with
  |ef _ _ _ _ h=>cases h|jv _ j b hb=>cases hb;exact⟨j::is,by simp[a],by rw[i,h2,aO,f]⟩
theorem akC(hs:Sb F θ θo V W):∀(n:Nat) {l:List Sh} {v:LA},jvN F n l=eT->Ms V l v->∃j:JV,v=j.B
 |n,l,v,h,hv=>by
  unfold jvN at h;split at h;·cases hv with|ef _ _ _ _ x=>cases x|jv _ j b y=>cases y;exact⟨j,by simp⟩
  ·cases hv with|ef _ _ _ _ x=>cases x|jg _ _ _ j co x y=>cases y;exact⟨j,by simp⟩
  ·rename_i n a b c d e;simp only[a02]at h;obtain⟨⟨⟨⟨⟨O,P⟩,Q⟩,R⟩,S⟩,i⟩:=h;obtain⟨T,r1,rfl,B,hv⟩:=hv.c1 O;obtain⟨vb,r2,rfl,L,hv⟩:=hv.c1 P;obtain⟨vc,r3,rfl,M,hv⟩:=hv.c1 Q;obtain⟨vd,r4,rfl,N,hv⟩:=hv.c1 R;obtain⟨ve,r5,rfl,C,hv⟩:=hv.c1 S;cases hv;unfold jvP at i;split at i
   ·rename_i no p q f G hi;simp only[a02,aE7]at i;obtain⟨⟨⟨⟨D,h2⟩,h3⟩,h4⟩,h5⟩:=i;obtain⟨X,rfl⟩:=aqK D L;obtain⟨Y,rfl,t⟩:=ani hs h2 M;obtain⟨ns,m,rfl,A,E,s⟩:=axH hs G N;have hit:∃(is:List JV) (u:Nat),ve=.sl (z is) (aO is)/\V.ν[q.1]?=J u/\(z is:Int)=u+q.2:=by
     split at hi;·cases hi;cases C with|gM _ is hj=>grind
     ·rename_i k Z;split at hi
      ·rename_i hr;cases hi;cases C with
       |fY _ _ w H=>
        obtain⟨rs,e1,rfl,e3⟩:=rows_ok (W:=V) (e:=[.jv]) (λ{x y} _ I K=>by
         obtain⟨j,rfl⟩:=akC hs n I K;have:=Ms.jv (V:=V) [] j [] .db;rwa[aB3]at this) (a09 _) hr H
        grind [aeJ,hs.ab]
      ·cases hi
     ·cases hi
    obtain⟨is,u,rfl,g,his⟩:=hit;have l1:=Yv hs h3 A g;have l2:=Yv hs h4 g hs.ab;obtain⟨k,rfl,o⟩:∃k,T=.cQ .u8 k/\(no=eT->k≠5):=by
     unfold awd at f;split at f;·cases f;cases B;grind
     ·cases f;cases B;exact⟨_,w8,λh=>by cases h⟩
     ·cases f
    refine⟨JV.mk k X Y ns is (by omega) (λf=>?_) (by omega) ⟨t,s⟩,by rw[JV.bO]⟩;rcases h5 with h5|h5;·exact absurd f (o h5)
    ·have:=Yv hs h5 g A;omega
   ·cases i
  ·cases h
theorem amE(hs:Sb F θ θo V W){a b c d e:Sh}{g i k vd ve:AV}(h:ar0 F a b c d e=eT)(l:M V a g)(hb:M V b i)(m:M V c k)(n:M V d vd)(he:M V e ve):∃j:JV,[g,i,k,vd,ve]=j.B:=by have f:=h;unfold ar0 jvN at f;simp only[R]at f;obtain⟨⟨⟨⟨⟨o,p⟩,q⟩,s⟩,t⟩,_⟩:=f;exact akC hs 4 h (.ef _ _ _ _ o l (.ef _ _ _ _ p hb (.ef _ _ _ _ q m (.ef _ _ _ _ s n (.ef _ _ _ _ t he .db)))))
def alJ(F:Fs)(θ:P (T×O))(θo:P T)(V W:Val)(N:T):Prop:=
 (∀(b:Sh) (v:AV),I b<=N->M V b v->∀(s:Sh),sub F θ θo s b=eT->M W s v)/\
 (∀(a:P Sh) (v:LA),I a<=N->Ms V a v->∀(l:P Sh),subs F θ θo l a=eT->Ms W l v)/\
 (∀(a:P Sh) (v:LA),I a<=N->Mt V a v->∀(l:P Sh),Vs F θ θo l a=eT->Mt W l v)
theorem atf(hs:Sb F θ θo V W){N:Nat}(m:alJ F θ θo V W N):∀(A:Sh) (v:AV),SizeOf.sizeOf A<=N+1->M V A v->∀(s:Sh),sub F θ θo s A=eT->M W s v:=by
 intro A v g hv s h;cases hv with
 |dT=>grind [sub,M]|cW b=>grind [sub,M]|bc b=>cases s<;>first|(simp[sub]at h;done)|exact .cW _|(simp[sub]at h;subst h;exact .bc _)
 |gN x c y a b e f=>cases s<;>first|(simp[sub]at h;done)|exact .cW _
 |gC p x c y a b e f=>cases s<;>first|(simp[sub]at h;done)|exact .cW _
 |cQ k n=>cases s<;>first|(simp[sub]at h;done)|grind [sub,M]
 |ic k n=>
  cases s<;>first|(simp[sub]at h;done)|skip
  ·simp[sub]at h;subst h;exact .cQ _ _
  ·grind [sub,M]
  ·rename_i j c;simp[sub]at h;obtain⟨rfl,h⟩:=h;obtain⟨b,q,h2⟩:=hs.eS _ _ _ h 0 hs.ab;have:=M.eS (V:=W) j c b q;grind
 |eS i d a e=>
  cases s<;>first|(simp[sub]at h;done)|skip
  ·simp[sub]at h;subst h;exact .cQ _ _
  ·rename_i j c;simp[sub]at h;obtain⟨b,q,h2⟩:=hs.eS _ _ _ h a e;have:=M.eS (V:=W) j c b q;grind
 |cU t=>grind [sub,M]|df t e=>cases s<;>first|(simp[sub]at h;done)|exact .cU _|exact .df _ e
 |sc t=>
  cases s<;>first|(simp[sub]at h;done)|exact .cU _|(refine .df _ ?_;simpa[sub]using h)|skip
  ·simp[sub]at h;subst h;exact .sc _
  grind [sub,M,Sb]
 |fp i t e=>
  cases s<;>first|(simp[sub]at h;done)|exact .cU _|(refine .df _ ?_;simp[sub]at h;exact agn hs h e)|skip
  simp[sub]at h;exact .fp _ t (hs.he h e)
 |ep=>cases s<;>first|(simp[sub]at h;done)|exact .ep
 |cY=>
  cases s<;>first|(simp[sub]at h;done)|exact .cY|skip
  rename_i k a e;simp[sub]at h;exact .iS k a e (hs.he h hs.ab)
 |gO=>cases s<;>first|(simp[sub]at h;done)|exact .gO
 |gt=>cases s<;>first|(simp[sub]at h;done)|exact .gt
 |gh=>grind [sub,M]
 |sl i e rs a b=>
  cases s<;>first|(simp[sub]at h;done)|skip
  ·simp[sub]at h;exact .sl _ _ rs (hs.he h.1 a) (MRs.dz (λcB hr=>m.2.1 e _ (by simp at g;omega) hr _ h.2) b)
  ·simp[sub]at h;exact .ew _ rs (agn hs h.1 a) (MRs.dz (λcB hr=>m.2.1 e _ (by simp at g;omega) hr _ h.2) b)
 |ew e rs a b=>
  cases s<;>first|(simp[sub]at h;done)|skip
  simp[sub]at h;exact .ew _ rs a (MRs.dz (λcB hr=>m.2.1 e _ (by simp at g;omega) hr _ h) b)
 |gM i is a=>
  cases s<;>first|(simp[sub]at h;done)|skip
  ·grind [sub,M,Sb]
  ·simp[sub]at h;exact .fh is (agn hs h a)
 |fh is a=>grind [sub,M]
 |eB n e l a=>
  cases s<;>first|(simp[sub]at h;done)|skip
  simp[sub]at h;obtain⟨rfl,h⟩:=h;exact .eB _ _ _ (m.2.1 _ _ (by simp at g;omega) a _ h)
 |fY n e l a=>
  cases s<;>first|(simp[sub]at h;done)|skip
  ·simp[sub]at h;obtain⟨rs,e1,e2,e3⟩:=rows_ok (W:=W) (N:=N) (λ{x y} C D E=>m.2.1 x _ C E _ D) (by simp at g;omega) h.2 a;grind [M]
  ·cases n with
   |zero=>
    cases e with
    |nil=>cases a;exact .fh [] (by simp)|cons _ _=>simp[sub]at h
   |succ n=>simp[sub]at h
  ·simp[sub]at h;obtain⟨rfl,h⟩:=h;exact .fY _ _ _ (m.2.1 _ _ (by simp at g;omega) a _ h)
 |iS k a e x=>
  cases s<;>first|(simp[sub]at h;done)|skip
  grind [sub,M,Sb]
 |fW k a e o n x y z=>
  cases s<;>first|(simp[sub]at h;done)|skip
  grind [sub,M,Sb]
 |fN k a e o n x z=>
  cases s<;>first|(simp[sub]at h;done)|skip
  ·simp[sub]at h;obtain⟨⟨⟨q,h2⟩,h3⟩,h4⟩:=h;rw[<-h3];have:=Yv hs h4 hs.ab x;exact .fW _ _ _ o n (hs.he q x) (by omega) (hs.bA _ _ _ h2 z)
  grind [sub,M,Sb]
 |cX l v a=>
  cases s<;>first|(simp[sub]at h;done)|skip
  ·simp[sub]at h;exact .cX _ _ (m.2.1 _ _ (by simp at g;omega) a _ h)
  ·have:∃x y z u w,l=[x,y,z,u,w]/\(x.ef&&y.ef&&z.ef&&u.ef&&w.ef&&ar0 F x y z u w)=eT:=by rcases l with _|⟨x,_|⟨y,_|⟨z,_|⟨u,_|⟨w,_|⟨T,l⟩⟩⟩⟩⟩⟩<;>first|(simp[sub]at h;done)|exact⟨_,_,_,_,_,w8,h⟩
   obtain⟨x,y,z,u,w,rfl,B⟩:=this;simp only[a02]at B;obtain⟨⟨⟨⟨⟨O,P⟩,Q⟩,R⟩,S⟩,B⟩:=B;obtain⟨v1,r1,rfl,G,a⟩:=a.c1 O;obtain⟨v2,r2,rfl,H,a⟩:=a.c1 P;obtain⟨v3,r3,rfl,I,a⟩:=a.c1 Q;obtain⟨v4,r4,rfl,K,a⟩:=a.c1 R;obtain⟨v5,r5,rfl,L,a⟩:=a.c1 S;cases a;obtain⟨j,hj⟩:=amE hs B G H I K L;rw[hj];exact .jv j
 |de l v a=>
  cases s<;>first|(simp[sub]at h;done)|skip
  simp[sub]at h;exact .de _ _ (m.2.2 _ _ (by simp at g;omega) a _ h)
 |jv j=>grind [sub,M]
 |jg a b j x=>
  cases s<;>first|(simp[sub]at h;done)|exact .jv j|skip
  grind [sub,JL.fi,M]
 |da k off o a=>
  cases s<;>first|(simp[sub]at h;done)|skip
  grind [sub,M,Sb]
 |ec off l v cB a c b=>
  cases s<;>first|(simp[sub]at h;done)|skip
  simp[sub]at h;obtain⟨rfl,h⟩:=h;exact .ec _ _ _ _ (m.2.1 _ _ (by simp at g;omega) a _ h) c b
 |dz k o a=>
  cases s<;>first|(simp[sub]at h;done)|skip
  grind [sub,M,Sb]
 |pk k o a=>
  cases s<;>first|(simp[sub]at h;done)|skip
  grind [sub,M,Sb]
 |dv f x y u v a b=>
  cases s<;>first|(simp[sub]at h;done)|skip
  simp[sub]at h;obtain⟨⟨rfl,q⟩,h2⟩:=h;exact .dv _ _ _ _ _ (m.2.2 _ _ (by simp at g;omega) a _ q) (m.2.2 _ _ (by simp at g;omega) b _ h2)
 |dx t A v a=>
  cases s<;>first|(simp[sub]at h;done)|skip
  simp[sub]at h;obtain⟨rfl,h⟩:=h;exact .dx _ _ _ (m.1 _ _ (by simp at g;omega) a _ h)
theorem aoY(hs:Sb F θ θo V W){N:T}(f:alJ F θ θo V W N):∀(i:P Sh) (v:LA),I i<=N+1->Ms V i v->∀(l:P Sh),subs F θ θo l i=eT->Ms W l v:=by
 intro i v g hv l h;unfold subs at h;split at h;·cases hv;exact .db
 ·rename_i l m;simp at g;cases hv with|ef _ _ _ _ x=>cases x|jv _ j b y=>exact .jv _ j _ (f.2.1 m _ (by omega) y _ h)
 ·rename_i l a b m;simp at g;cases hv with|ef _ _ _ _ x=>cases x|jg _ _ _ j R x y=>exact .jv _ j _ (f.2.1 m _ (by omega) y _ h)
 ·rename_i l a b c d e m _ _;simp at g;simp only[a02]at h;obtain⟨⟨⟨⟨⟨⟨k,n⟩,o⟩,p⟩,q⟩,t⟩,h2⟩:=h;cases hv with
  |ef _ _ D _ _ u hv=>
   cases hv with
   |ef _ _ E _ _ hb hv=>
    cases hv with
    |ef _ _ G _ _ w hv=>
     cases hv with
     |ef _ _ vd _ _ A hv=>
      cases hv with
      |ef _ _ ve R _ B hv=>obtain⟨j,hj⟩:=amE hs t u hb w A B;have:=Ms.jv (V:=W) _ j _ (f.2.1 m _ (by omega) hv _ h2);grind
      |jv=>cases q|jg=>cases q
     |jv=>cases p|jg=>cases p
    |jv=>cases o|jg=>cases o
   |jv=>cases n|jg=>cases n
  |jv=>cases k|jg=>cases k
 ·rename_i a b l c d m;simp at g;simp only[a02]at h;cases hv with|ef _ _ _ _ x=>cases x|jg _ _ _ j R x y=>exact .jg _ _ _ j _ (JL.fi hs h.1.1 h.1.2 x) (f.2.1 m _ (by omega) y _ h.2)
 ·rename_i s l C m _ _ _ _;simp at g;simp only[a02]at h;cases hv with|ef _ _ v b _ x y=>exact .ef _ _ _ _ h.1.1.1 (f.1 C _ (by omega) x _ h.1.2) (f.2.1 m _ (by omega) y _ h.2)|jv=>cases h.1.1.2|jg=>cases h.1.1.2
 ·cases h
theorem aoZ(hs:Sb F θ θo V W){N:T}(c:alJ F θ θo V W N):∀(a:P Sh) (v:LA),I a<=N+1->Mt V a v->∀(l:P Sh),Vs F θ θo l a=eT->Mt W l v:=by
 intro a v d hv l h;unfold Vs at h;split at h;·cases hv;exact .db
 ·rename_i s l e m;simp at d;rw[R]at h;cases hv with|cV _ _ v b x y=>exact .cV _ _ _ _ (c.1 e _ (by omega) x _ h.1) (c.2.2 m _ (by omega) y _ h.2)
 ·cases h
theorem Ti(hs:Sb F θ θo V W):∀N,alJ F θ θo V W N|0=>⟨λc v a=>by cases c<;>simp at a,λb v a=>by cases b<;>simp at a,λb v a=>by cases b<;>simp at a⟩|N+1=>⟨atf hs (Ti hs N),aoY hs (Ti hs N),aoZ hs (Ti hs N)⟩
theorem YT(hs:Sb F θ θo V W){s a:Sh}{v:AV}(hv:M V a v)(h:sub F θ θo s a=eT):M W s v:=(Ti hs _).1 a v (a09 _) hv s h
theorem Ip(hs:Sb F θ θo V W){l a:P Sh}{v:LA}(hv:Ms V a v)(h:subs F θ θo l a=eT):Ms W l v:=(Ti hs _).2.1 a v (a09 _) hv l h
theorem XX(hs:Sb F θ θo V W){l a:P Sh}{v:LA}(hv:Mt V a v)(h:Vs F θ θo l a=eT):Mt W l v:=(Ti hs _).2.2 a v (a09 _) hv l h
end
inductive Sm where
 |dp (args:List Sh) (res:Sh)|ro (l args:List Sh) (res:Sh)|iB (args:List Sh)|pk (args:List Sh) (res:Sh)|eK (H:List HO) (args:List Sh) (res:Sh)
structure Cfg where
 gl:Nat->Option Sh
 sm:FuncId->List Sm
 mt:TypeId->String->Option FuncId
mutual
def shC:AV->D Sh
 |.cW b=>J (.bc b)|.cQ k n=>J (.ic k n)|.cU s=>J (.sc s)|.ep=>J .ep|.cY=>J .cY|.eo=>J .gO|.eb=>J .gt|.eE=>J .gh|.dv f x y=>match agU x,agU y with|J x,J y=>J (.dv f x y)|_,_=>U
 |.de []=>J .dT|_=>U
def agU:LA->D (P Sh)|[]=>J []|v::l=>match shC v,agU l with|J s,J t=>J (s::t)|_,_=>U
end
def avS(X:Cfg)(A:Ab):XA->D Sh|.t n=>la n A.aR|.c v=>shC v|.g n=>X.gl n
def ahu(X:Cfg)(A:Ab):P XA->D (P Sh)|[]=>J []|x::l=>match avS X A x,ahu X A l with|J s,J t=>J (s::t)|_,_=>U
def xX:P Sh->T->P Sh×T×Fs
 |[],n=>([],n,[])|.jv::l,n=>let(t,m,f):=xX l (n+2);(.jg n (n+1)::t,m,(n,0,n+1)::(n+1,-8192,0)::f)
 |.ew e::l,n=>let(t,m,f):=xX l (n+1);(.sl n e::t,m,(n,-(LS:O),0)::f)
 |.fh::l,n=>let(t,m,f):=xX l (n+1);(.gM n::t,m,(n,-8192,0)::f)
 |.cU::l,n=>let(t,m,f):=xX l (n+1);(.fp n::t,m,f)
 |.df::l,n=>let(t,m,f):=xX l (n+1);(.fp n::t,m,(n,-(LB:O),0)::f)
 |s::l,n=>let(t,m,f):=xX l n;(s::t,m,f)
def opened(A:Ab)(l:P Sh):P Sh×Ab:=
 let(t,m,f):=xX l A.nx
 (t,{A with nx:=m,aa:=f++A.aa})
def cellsS:Sh->D (P Sh)|.cX l=>J l|.jv=>J [.jv]|.jg a b=>J [.jg a b]|s=>if s.ef then J [s]else U
def Xv:P Sh->Sh|[.jv]=>.jv|[.jg a b]=>.jg a b|l=>.cX l
def aiD(A:Ab):Sh->Sh×Ab
 |.cX l=>let(t,A):=opened A l;(.cX t,A)
 |.jv=>let(t,A):=opened A [.jv];(Xv t,A)
 |s=>if s.ef then(match opened A [s]with|([t],A)=>(t,A)|_=>(s,A))else(s,A)
def MQ(A:Ab):P Sh->P Sh×Ab|[]=>([],A)|s::l=>let(s,A):=aiD A s;let(t,A):=MQ A l;(s::t,A)
def MP(A:Ab):Sh->Sh×Ab
 |.de l=>let(t,A):=MQ A l;(.de t,A)
 |s=>aiD A s
def cellAt:P Sh->T->D Sh
 |[],_=>U|.jg a b::l,n=>match n with|0=>J (.cQ .u8)|1=>J (.cQ r)|2=>J .df|3=>J (.sl a [.df])|4=>J (.gM b)|n+5=>cellAt l n
 |.jv::l,n=>match n with|n+5=>cellAt l n|_=>U
 |s::l,n=>match n with|0=>J s|n+1=>cellAt l n
def ac7(ag:Q)(sz:T)(l:P Sh)(off:T):D Sh:=
 if ag then(match Tt off l with
  |J (_,b)=>match Tt sz b with|J (c,_)=>J (Xv c)|U=>U
  |U=>U)else cellAt l off
def aaG(l:P Sh)(off:T)(u:P Sh)(sz:T):D (P Sh):=
 if wds u==sz then(match Tt off l with
  |J (a,b)=>match Tt sz b with|J (_,d)=>J (a++u++d)|U=>U
  |U=>U)else U
def ai4(X:Cfg)(A:Ab):P Sh->P (T×T×XA)->D (P Sh)
 |l,[]=>J l
 |l,(off,b,x)::a=>match avS X A x with
  |J s=>match cellsS s with
   |J u=>match aaG l off u b with|J l=>ai4 X A l a|U=>U
   |U=>U
  |U=>U
def ay3(z:P Sh):T->P Sh|0=>[]|n+1=>z++ay3 z n
def lin:Sh->D (T×O)|.eS j c=>J (j,c)|.ic r n=>J (0,n)|_=>U
def isInt:Sh->D IntKind|.cQ k=>J k|.ic k _=>J k|.eS _ _=>J r|_=>U
def Oe:Sh->Q|.cU=>eT|.df=>eT|.sc _=>eT|.fp _=>eT|_=>eF
def small(c:O):Q:=L (-1099511627776<=c)&&L (c<=1099511627776)
def KO:BinOp->Q|.eql=>eT|_=>eF
def ahV:T->P Sh->P Sh->Q|_,[],[]=>eT|c,s::l,t::m=>s.ef&&t.ef&&(if c%3=0 then Oe s&&Oe t else if c%3=1 then fy s&&fy t else(match isInt s,isInt t with|J k,J k'=>k==k'|_,_=>eF))&&ahV (c/3) l m|_,_,_=>eF
 where
  fy:Sh->Q
   |.cW=>eT|.bc _=>eT|.gN ..=>eT|.gC ..=>eT|_=>eF
def auk(e a:Q)(b:T)(x y:Sh):D Sh:=
 match b,x,y with
 |n+8,.cX l,.cX m=>if wds l==n%1024&&ahV (n/1024) l m then J .cW else U|3,.ep,.ep=>J (.bc e)|3,.da ..,.ep=>J (.bc !e)|3,.pk _,.ep=>J (.bc !e)|3,.ec ..,.ep=>J (.bc !e)|5,.gt,.gt=>if a then J (.bc e)else U|5,.dx ..,.gt=>J (.bc !e)|7,.cY,.cY=>J (.bc e)|_,_,_=>U
def anE(F:Fs)(op:BinOp)(f:T)(e:Q)(x y:Sh):D Sh:=
 match isInt x,isInt y with
 |J k,J g=>
  match op with
  |.shl|.shr=>match y with|.ic _ n=>if 0<=n then J (.cQ k)else U|_=>U
  |_=>if k !=g then U else
   match op with
   |.eql|.neq=>match lin x,lin y with|J (a,c),J (b,d)=>J (if a=b then .bc (L (c=d)==KO op)else .gC (KO op) a (c-d) b)|_,_=>J .cW
   |.lss=>match lin x,lin y with|J (a,c),J (b,d)=>J (if a=b then .bc (L (c<d))else .gN a (c-d+1) b)|_,_=>J .cW
   |.leq=>match lin x,lin y with|J (a,c),J (b,d)=>J (if a=b then .bc (L (c<=d))else .gN a (c-d) b)|_,_=>J .cW
   |.gtr=>match lin x,lin y with|J (a,c),J (b,d)=>J (if a=b then .bc (L (c>d))else .gN b (d-c+1) a)|_,_=>J .cW
   |.geq=>match lin x,lin y with|J (a,c),J (b,d)=>J (if a=b then .bc (L (c>=d))else .gN b (d-c) a)|_,_=>J .cW
   |.add=>match x,y with|.eS j c,.ic r n=>if leN F j LB&&small c&&small n then J (.eS j (c+n))else J (.cQ k)|.ic r n,.eS j c=>if leN F j LB&&small c&&small n then J (.eS j (c+n))else J (.cQ k)|.ic r m,.ic r n=>if small m&&small n then J (.ic r (m+n))else J (.cQ k)|_,_=>J (.cQ k)
   |.sub=>match x,y with|.eS j c,.ic r n=>if leN F j LB&&small c&&small n then J (.eS j (c-n))else J (.cQ k)|.ic r m,.ic r n=>if small m&&small n then J (.ic r (m-n))else J (.cQ k)|_,_=>J (.cQ k)
   |.quo|.rem=>match y with|.ic _ n=>if n !=0 then J (.cQ k)else U|_=>U
   |_=>J (.cQ k)
 |_,_=>
  if Oe x&&Oe y then(match op with
   |.eql|.neq=>match x,y with|.fp i,.sc []=>J (.gC (KO op) i 0 0)|.sc [],.fp i=>J (.gC (KO op) i 0 0)|_,_=>J .cW
   |.lss|.leq|.gtr|.geq=>J .cW|_=>U)else
  match op with
  |.eql|.neq=>auk (KO op) e f x y|_=>U
def ayw(op:UnOp)(x:Sh):D Sh:=
 match op,x with
 |.not,.bc b=>J (.bc !b)|.not,.cW=>J .cW|.not,.gN a c b=>J (.gN b (1-c) a)|.not,.gC p a c b=>J (.gC (!p) a c b)|_,_=>U
mutual
def gen:Sh->Sh|.bc _=>.cW|.gN ..=>.cW|.gC ..=>.cW|.ic k _=>.cQ k|.eS _ _=>.cQ r|.sc _=>.df|.fp _=>.df|.sl _ e=>.ew e|.gM _=>.fh|.jg _ _=>.jv|.eB n l=>.eB n (az0 l)|s=>s
def az0:P Sh->P Sh|[]=>[]|s::l=>gen s::az0 l
end
def Ab.cv(A:Ab)(h:HO):Ab:={A with X:=A.X++[h]}
def Ab.b7(A:Ab)(k:T)(h:HO):Ab:={A with X:=A.X.set k h,wr:=k::A.wr}
def Ab.g0(A:Ab)(ks:P T):Ab:={A with ls:=ks++A.ls}
def azv(F:Fs)(nx:T)(p:T×O):Q:=L (p.1<nx)&&(L (0<=p.2)||le? F 0 (-p.2) p.1)
def ajr(F:Fs)(θ:P (T×O))(θo:P T)(c:D HO):HO->Q
 |.em=>eT|.cP l=>match c with|J (.cP f)=>subs F θ θo l f|_=>eF
 |.ro l=>match c with|J (.ro f)=>subs F θ θo l f|_=>eF
 |.hY a e=>match c with|J (.hY b d)=>Ep θ[a]? b 0&&subs [] [] [] e d|J (.fX b d)=>Ep θ[a]? b 0&&subs [] [] [] e d&&le? F 0 1 b|U=>Ep θ[a]? 0 0|_=>eF
 |.fX a e=>match c with|J (.fX b d)=>Ep θ[a]? b 0&&subs [] [] [] e d|_=>eF
 |.dz v=>match c with|J (.dz g)=>sub [] [] [] v g|_=>eF
 |.pk=>match c with|J .pk=>eT|_=>eF
def oh:HO->Q|.em=>eT|_=>eF
def Pe(S:Ab)(θ:P (T×O))(θo:P T):P T->P HO->P T->Q|[],[],_=>eT|k::ks,h::hs,a=>ajr S.aa θ θo S.X[k]? h&&(oh h||L (z S.X<=k)|| !a.contains k)&&Pe S θ θo ks hs (if oh h then a else k::a)|_,_,_=>eF
def acY(a S:Ab)(θ:P (T×O))(θo:P T):Q:=
 L (z θ=a.nx)&&Ep θ[0]? 0 0&&θ.all (azv S.aa S.nx)&&
 a.aR.all (λp=>match la p.1 S.aR with|J s=>sub S.aa θ θo p.2 s|U=>eF)&&
 a.aa.all (λf=>match θ[f.1]?,θ[f.2.2]? with|J (i,p),J (j,q)=>le? S.aa i (f.2.1+p-q) j|_,_=>eF)&&
 Pe S θ θo θo a.X []
def Hab(H:P HO):Ab:={aR:=[],X:=H,nx:=1,aa:=[]}
def okH:HO->Q|.cP _=>eT|.dz _=>eT|.em=>eT|_=>eF
def FB:P HO->P HO->P HO|h::H,x::l=>(if oh h then x else h)::FB H l|_,l=>l
def ixs:T->P HO->P T|_,[]=>[]|k,h::H=>if oh h then ixs (k+1) H else k::ixs (k+1) H
def lF(A:Ab):P Q->P HO->P HO×Ab|eT::m,.cP l::H=>((.cP (opened A l).1)::(lF (opened A l).2 m H).1,(lF (opened A l).2 m H).2)|_::m,h::H=>(h::(lF A m H).1,(lF A m H).2)|_,H=>(H,A)
def VH(m:Q)(H:P HO)(k a w:T):D (P Sh):=match H[k]? with|J (.hY b e)=>if !m&&a==b&&wds e==w then J e else U|J (.fX b e)=>if a==b&&wds e==w then J e else U|_=>U
def ay4(a:T)(e:P Sh):Sh:=if jvN [] 3 e then .gM a else .sl a e
def akp:Sh->D Sh|.cY=>J (.fY 0 [])|.eB n l=>if cls l then J (.fY n l)else U|s=>if cl s then J s else U
def Zv:P Sh->D (P Sh)|[]=>J []|s::l=>match akp s,Zv l with|J a,J b=>J (a::b)|_,_=>U
def Ab.cJ(A:Ab)(e:P Sh)(fs:Fs):Sh×Ab:=(.fN (z A.X) A.nx e,{A.cv (.fX A.nx e)with nx:=A.nx+1,aa:=fs++A.aa})
def atZ(A:Ab)(sz:T)(u:P Sh):Sh->D (Sh×Ab)
 |.cY=>if subs A.aa [] [] (u.map gen) u&&wds (u.map gen)==sz then J (A.cJ (u.map gen) [(A.nx,-1,0),(0,1,A.nx)])else U|.fW k a e=>match VH eF A.X k a (wds e)with|J e=>if leN A.aa a LB&&subs A.aa [] [] e u&&wds e==sz then J ((A.b7 k .em).cJ e [(A.nx,-1,a),(a,1,A.nx)])else U|U=>U
 |.fN k a e=>match VH eT A.X k a (wds e)with|J e=>if leN A.aa a LB&&subs A.aa [] [] e u&&wds e==sz then J ((A.b7 k .em).cJ e [(A.nx,-1,a),(a,1,A.nx)])else U|U=>U
 |_=>U
def ayj(A:Ab)(sz:T):Sh->D (P Sh×Ab)
 |.eB m u=>if wds u==sz&&m==1 then J (u,A)else U|.fN k a e=>match VH eT A.X k a (wds e)with|J e=>if le? A.aa 0 1 a&&leN A.aa a 1&&wds e==sz then J (e,A.b7 k .em)else U|U=>U
 |_=>U
def aer(H:P HO)(m:Q)(k a w:T):D Sh:=match VH m H k a w with|J e=>(Zv e).map (ay4 a)|U=>U
section
variable(H:List HO)
mutual
def KN:Sh->D Sh
 |.cY=>J (.fY 0 [])|.eB n l=>match Ud l with|J l=>J (.fY n l)|U=>U
 |.fW k a e=>aer H eF k a (wds e)|.fN k a e=>aer H eT k a (wds e)|.cX l=>match Ud l with|J l=>J (.cX l)|U=>U
 |.de l=>match OW l with|J l=>J (.de l)|U=>U
 |.dx t v=>match KN v with|J v=>J (.dx t v)|U=>U
 |.dv f x y=>match OW x,OW y with|J x,J y=>J (.dv f x y)|_,_=>U
 |.da k o=>J (.da k o)|.dz k=>J (.dz k)|.pk k=>J (.pk k)|s=>if cl s then J s else U
def Ud:P Sh->D (P Sh)
 |[]=>J []|.jv::l=>match Ud l with|J t=>J (.jv::t)|U=>U
 |.jg a b::l=>match Ud l with|J t=>J (.jg a b::t)|U=>U
 |s::l=>if s.ef then(match KN s,Ud l with|J c,J t=>if c.ef then J (c::t)else U|_,_=>U)else U
def OW:P Sh->D (P Sh)|[]=>J []|s::l=>match KN s,OW l with|J s,J t=>J (s::t)|_,_=>U
end
end
def aAi:D HO->Q|J .pk=>eT|_=>eF
def adb(A:Ab)(ss:P Sh):Sm->D (Sh×Ab)
 |.dp args res=>if Vs A.aa [] [] args ss then J (MP A res)else U
 |.ro l args res=>match ss with
  |.da k 0::ss=>match A.X[k]? with|J (.ro a)=>if subs A.aa [] [] l a&&Vs A.aa [] [] args ss then J (MP A res)else U|J (.cP a)=>if subs A.aa [] [] l a&&Vs A.aa [] [] args ss then J (MP A res)else U|_=>U
  |_=>U
 |.iB args=>if Vs A.aa [] [] args ss then J (.pk (z A.X),A.cv .pk)else U|.pk args res=>match ss with|.pk k::ss=>if aAi A.X[k]? &&Vs A.aa [] [] args ss then J (MP {A with wr:=k::A.wr} res)else U|_=>U
 |.eK H args res=>if L (z H<=z A.X)&&acY (Hab H) A [(0,0)] (j (z H))&&Vs A.aa [] (j (z H)) args ss then(let q:=lF {A with X:=FB H A.X,wr:=ixs 0 H++A.wr} (H.map λh=>!oh h) (FB H A.X);J (MP {q.2 with X:=q.1} res))else U
def ahf(A:Ab)(ss:P Sh):P Sm->D (Sh×Ab)|[]=>U|m::l=>match adb A ss m with|J d=>J d|U=>ahf A ss l
def ab1(X:Cfg)(A:Ab)(f:FuncId)(ss:P Sh):D (Sh×Ab):=match OW A.X ss with|J ss=>ahf A ss (X.sm f)|U=>U
def rowAt(A:Ab)(n c:T×O)(e:P Sh):D (Sh×Ab):=
 if cls e&&le? A.aa 0 (-n.2) n.1&&le? A.aa n.1 (n.2+1-c.2) c.1 then(let(t,A):=opened A e;J (.ec 0 t,A))else U
def aq1(A:Ab):BinOp->Sh->Sh->D (Sh×Ab)|.sub,.eS i c,.eS j d=>if leN A.aa i LB&&small c&&small d&&le? A.aa j (d-c) i then J (.eS A.nx 0,{A with nx:=A.nx+1,aa:=(A.nx,d-c,i)::A.aa})else U|_,_,_=>U
def abI(X:Cfg)(n0:T)(A:Ab)(i:XI):D (Sh×Ab):=
 match i with
 |.mv x=>(avS X A x).map (·,A)|.fe c x y=>match avS X A c with|J (.bc b)=>(if b then avS X A x else avS X A y).map (·,A)|_=>U
 |.eM z U=>match agU z with|J l=>if l.all Sh.ef then J (.da A.X.length 0,A.cv (.cP l))else U|U=>U
 |.jp x=>match avS X A x with
  |J s=>match cellsS s with
   |J l=>let(l,A):=opened A l;J (.da A.X.length 0,A.cv (.cP l))
   |U=>U
  |U=>U
 |.hZ z w=>match agU z with|J l=>if l.all Sh.ef then(ai4 X A l w).map λl=>(Xv l,A)else U|U=>U
 |.gL z n g w=>match agU z with
  |J l=>if l.all Sh.ef then(match ai4 X A (ay3 l n) w with
   | J u=>if wds u==n*g then(if DU z then
     (if n==1&&subs A.aa [] [] (u.map gen) u&&wds (u.map gen)==g then J (A.cJ (u.map gen) [(A.nx,-1,0),(0,1,A.nx)])else U)
    else J (.eB n u,A))else U
   |U=>U)else U
  |U=>U
 |.iv ag g x=>match avS X A x with
  |J (.da k off)=>match A.X[k]? with|J (.cP l)=>(ac7 ag g l off).map (·,A)|J (.ro l)=>(ac7 ag g l off).map (·,A)|_=>U
  |J (.ec off l)=>(ac7 ag g l off).map (·,A)|_=>U
 |.fR g p x=>match avS X A p,avS X A x with
  |J (.da k off),J s=>match A.X[k]?,cellsS s with
   |J (.cP l),J u=>let(u,A):=opened A u;match aaG l off u g with|J l=>J (.dT,A.b7 k (.cP l))|U=>U
   |_,_=>U
  |_,_=>U
 |.iP x=>match avS X A x with|J (.da k o)=>J (.da k o,A)|J (.pk k)=>J (.pk k,A)|J (.ec o l)=>J (.ec o l,A)|J (.dx t v)=>J (.dx t v,A)|J (.dv (.func f) x y)=>J (.dv (.func f) x y,A)|_=>U
 |.e9 op B q x y=>match avS X A x,avS X A y with
  |J s,J t=>match aq1 A op s t with|J N=>J N|U=>(anE A.aa op B q s t).map (·,A)
  |_,_=>U
 |.un op x=>match avS X A x with|J s=>(ayw op s).map (·,A)|U=>U
 |.jc k x=>match avS X A x with
  |J (.ic _ n)=>J (.ic k (k.wrap n),A)|J s=>match isInt s with|J _=>J (.cQ k,A)|U=>U
  |U=>U
 |.gT t x=>(avS X A x).map λs=>(.dx t s,A)|.it fn x y=>match ahu X A x,ahu X A y with|J x,J y=>J (.dv fn x y,A)|_,_=>U
 |.iA=>J (.dz A.X.length,A.cv (.dz (.cQ r)))
 |.gj z g bytes l c=>match avS X A l,avS X A c,agU z with
  |J (.ic _ 0),J c,J u=>match lin c with|J (j,d)=>if le? A.aa 0 (-d) j&&leN A.aa j LB&&L (d<=LB)&&L (bytes<=8192)&&wds (u.map gen)==g then J (A.cJ (u.map gen) [(A.nx,0,0)])else U|U=>U
  |_,_,_=>U
 |.ga off x=>match avS X A x with|J (.da k f)=>J (.da k (f+off),A)|J (.ec f l)=>if f+off<=wds l then J (.ec (f+off) l,A)else U|_=>U
 |.gb len g x i=>match avS X A x,avS X A i with|J (.da k f),J (.ic _ n)=>if 0<=n&&n<len then J (.da k (f+n.toNat*g),A)else U|_,_=>U
 |.ey g x i=>match avS X A x,avS X A i with
  |J (.sl s e),J i=>match lin i with|J n=>if wds e==g then rowAt A n (s,0) e else U|U=>U
  |J (.gM s),J i=>match lin i with|J n=>if g==5 then rowAt A n (s,0) [.jv]else U|U=>U
  |J (.fY n e),J (.ic _ i)=>if 0<=i&&L (i<n)&&wds e==n*g then J (.ec (i.toNat*g) e,A)else U|_,_=>U
 |.io len ag g x i=>match avS X A x,avS X A i with
  |J (.cX (s::l)),J i=>match lin i with|J n=>if !ag&&g==1&&(s::l).all Sh.ef&&wds (s::l)==len&&l.all (λt=>sub [] [] [] (gen s) t)&&sub [] [] [] (gen s) s&&le? A.aa 0 (-n.2) n.1&&le? A.aa n.1 (n.2+1-len) 0 then J (gen s,A)else U|U=>U
  |_,_=>U
 |.ft x i=>match avS X A x,avS X A i with
  |J (.fp s),J i=>match lin i with|J n=>if le? A.aa 0 (-n.2) n.1&&le? A.aa n.1 (n.2+1) s then J (.cQ .u8,A)else U|U=>U
  |_,_=>U
 |.hG z m k ok=>match avS X A m,avS X A k,shC z with
  |J (.dz N),J s,J t=>match A.X[N]? with|J (.dz v)=>if Oe s&&sub [] [] [] v t&&cl v then J (if ok then .de [v,.cW]else v,A)else U|_=>U
  |_,_,_=>U
 |.hQ m k v=>match avS X A m,avS X A k,avS X A v with
  |J (.dz N),J s,J t=>match A.X[N]? with|J (.dz v)=>if Oe s&&sub [] [] [] v t then J (.dT,A.b7 N (.dz v))else U|_=>U
  |_,_,_=>U
 |.ib x i=>match avS X A x with|J (.de l)=>l[i]?.map (·,A)|_=>U
 |.eD eF g bytes U s x=>match avS X A s,avS X A x with
  |J s,J x=>match ayj A g x with|J (u,A)=>if(Zv u).isSome&&L (bytes<=8192)then atZ A g u s else U|U=>U
  |_,_=>U
 |.dt k x=>match k,avS X A x with|0,J (.fp s)=>J (.eS s 0,A)|0,J (.sc s)=>J (.ic r s.length,A)|0,J .cU=>J (.cQ r,A)|1,J (.sl s _)=>J (.eS s 0,A)|1,J (.gM s)=>J (.eS s 0,A)|1,J (.fW _ a _)=>J (.eS a 0,A)|1,J (.fN _ a _)=>J (.eS a 0,A)|1,J .cY=>J (.ic r 0,A)|1,J (.eB n _)=>J (.ic r n,A)|1,J (.fY n _)=>J (.ic r n,A)|_,_=>U
 |.gR f l=>match ahu X A l with|J h=>ab1 X A f h|U=>U
 |.iz f l=>match avS X A f,ahu X A l with|J (.dv (.func f) x y),J h=>ab1 X A f (x++h++y)|_,_=>U
 |.hD x m l=>match avS X A x,ahu X A l with
  |J (.dx t v),J h=>match X.mt t m with|J f=>ab1 X A f (v::h)|U=>U
  |_,_=>U
 |_=>U
def GH(X:Cfg)(A:Ab):XI->D (P T)
 |.iv _ _ x=>match avS X A x with|J (.da k _)=>J [k]|J (.ec ..)=>J []|_=>U
 |.dt 0 _=>J []|.dt 1 _=>J []|_=>U
def ways (X:Cfg) (A:Ab) (c:XA):D (P (Q×Ab)):=match avS X A c with|J (.bc b)=>J [(b,A)]|J .cW=>J [(eT,kn A eT),(eF,kn A eF)]|J (.gN x c y)=>J [(eT,kn {A with aa:=(x,c,y)::A.aa} eT),(eF,kn {A with aa:=(y,1-c,x)::A.aa} eF)]|J (.gC p x c y)=>J [(p,kn {A with aa:=(x,c,y)::(y,-c,x)::A.aa} p),(!p,kn (if y==0&&le? A.aa 0 (-c) x then{A with aa:=(0,1-c,x)::A.aa}else A) (!p))]|_=>U
 where
  kn (A:Ab) (b:Q):Ab:=match c with|.t n=>{A with aR:=(n,.bc b)::A.aR}|_=>A
def ptS(A:Ab)(d:D T)(s:Sh):Ab:=match d with|J d=>{A with aR:=(d,s)::A.aR}|U=>A
def afG(X:Cfg)(n0:T)(b:Q)(o:XOp)(A:Ab):D Ab:=match abI X n0 A o.i with|J (s,a)=>if b&& !o.bo.isEmpty then(match GH X A o.i with|J ks=>J (ptS (a.g0 ks) o.ba s)|U=>U)else J (ptS a o.ba s)|U=>U
def stepM{d c:Type}(a:D d)(g:d->D (P c))(f:D (P c)):D (P c):=match a with
 |J A=>match g A,f with|J b,J bs=>J (b++bs)|_,_=>U
 |U=>U
def TL(X:Cfg)(n0:T)(a:Q):P XOp->Ab->D (P Ab)
 |[],A=>J [A]
 |o::l,A=>match o.bm with
  |U=>match afG X n0 a o A with|J A=>TL X n0 a l A|U=>U
  | J (t,b)=>match(match la t A.aR with|J .dT=>J [(!b,A)]|_=>ways X A (.t t))with|U=>U|J c=>c.foldr (λw d=>stepM (if w.1==b then afG X n0 a o w.2 else J (ptS w.2 o.ba .dT)) (λA=>TL X n0 a l A) d) (J [])
abbrev Rg:=Ab×P (T×T)×P (T×T×P T)
def aq4(X:Cfg)(n0 j:T)(o:XOp)(A:Ab)(b:P (T×T))(lt:P (T×T×P T)):D Rg:=match afG X n0 eF o {A with wr:=[]}with|J a=>(match(if o.bo.isEmpty then J []else GH X A o.i)with|J ks=>J (a,a.wr.map (λk=>(k,j))++b,ks.map (λk=>(k,j,o.bo))++lt)|U=>U)|U=>U
def afD(X:Cfg)(n0:T):P XOp->T->Rg->D (P Rg)
 |[],_,p=>J [p]
 |o::l,j,p=>match o.bm with
  |U=>match aq4 X n0 j o p.1 p.2.1 p.2.2 with|J q=>afD X n0 l (j+1) q|U=>U
  | J (t,b)=>match(match la t p.1.aR with|J .dT=>J [(!b,p.1)]|_=>ways X p.1 (.t t))with|U=>U|J a=>a.foldr (λw d=>stepM (if w.1==b then aq4 X n0 j o w.2 p.2.1 p.2.2 else J (ptS w.2 o.ba .dT,p.2.1,p.2.2)) (λq=>afD X n0 l (j+1) q) d) (J [])
def aiT(n:T)(p:Rg):Q:=p.2.2.all λq=>L (q.1<n)&&q.2.2.all λc=>p.2.1.all λw=>w.1 !=q.1|| !(L (min q.2.1 c<=w.2)&&L (w.2<max q.2.1 (c+1)))
def Ab.au(m:P T)(A:Ab):Ab:={A with aR:=m.filterMap λt=>(la t A.aR).map λs=>(t,s)}
def Ol:KC->P T|.eI=>[]|.fu l|.eZ l|.eO l=>l.flatMap XOp.aE|.eA a b=>Ol a++Ol b|.eJ c a b=>c.aE++(Ol a++Ol b)|.eG _ b=>Ol b|.fL m _=>m|.dq m _=>m|.ea m=>m|.fg b=>Ol b|.eC=>[]
mutual
def auO(n h:T):Sh->Q|.gN x _ y=>L (x<n)&&L (y<n)|.gC _ x _ y=>L (x<n)&&L (y<n)|.eS j _=>L (j<n)|.fp i=>L (i<n)|.sl i e=>L (i<n)&&aco n h e|.ew e=>aco n h e|.gM i=>L (i<n)|.eB _ e=>aco n h e|.fY _ e=>aco n h e|.fW k a _=>L (k<h)&&L (a<n)|.fN k a _=>L (k<h)&&L (a<n)|.cX l=>aco n h l|.de l=>aco n h l|.jg a b=>L (a<n)&&L (b<n)|.da k _=>L (k<h)|.ec _ l=>aco n h l|.dz k=>L (k<h)|.pk k=>L (k<h)|.dv _ x y=>aco n h x&&aco n h y|.dx _ v=>auO n h v|_=>eT
def aco(n h:T):P Sh->Q|[]=>eT|s::l=>auO n h s&&aco n h l
end
mutual
def eqS:Sh->Sh->Q|.dT,.dT=>eT|.cW,.cW=>eT|.bc a,.bc b=>a==b|.gN x c y,.gN u B w=>x==u&&c==B&&y==w|.gC p x c y,.gC q u B w=>p==q&&x==u&&c==B&&y==w|.df,.df=>eT|.cQ k,.cQ g=>k==g|.ic k n,.ic g s=>k==g&&n==s|.eS j c,.eS i d=>j==i&&c==d|.cU,.cU=>eT|.sc a,.sc b=>a==b|.fp i,.fp j=>i==j|.ep,.ep=>eT|.cY,.cY=>eT|.gO,.gO=>eT|.gt,.gt=>eT|.gh,.gh=>eT|.sl i e,.sl j h=>i==j&&eqU e h|.ew e,.ew h=>eqU e h|.gM i,.gM j=>i==j|.fh,.fh=>eT|.eB n e,.eB s h=>n==s&&eqU e h|.fY n e,.fY s h=>n==s&&eqU e h|.fW k a e,.fW g A h=>k==g&&a==A&&eqU e h|.fN k a e,.fN g A h=>k==g&&a==A&&eqU e h|.cX l,.cX m=>eqU l m|.de l,.de m=>eqU l m|.jv,.jv=>eT|.jg a b,.jg c d=>a==c&&b==d|.da k o,.da g C=>k==g&&o==C|.ec o l,.ec C m=>o==C&&eqU l m|.dz k,.dz g=>k==g|.pk k,.pk g=>k==g|.dv f x y,.dv D u w=>f==D&&eqU x u&&eqU y w|.dx t v,.dx E F=>t==E&&eqS v F|_,_=>eF
def eqU:P Sh->P Sh->Q|[],[]=>eT|s::l,t::m=>eqS s t&&eqU l m|_,_=>eF
end
mutual
def ag5:Sh->Sh|.sl _ e=>.ew e|.cX l=>.cX (aqn l)|.de l=>.de (aqn l)|.dx t v=>.dx t (ag5 v)|s=>gen s
def aqn:P Sh->P Sh|[]=>[]|s::l=>ag5 s::aqn l
end
def aw9(n h:T)(s t:Sh):D Sh:=
 if eqS s t&&auO n h s then J s else
 (if eqS (ag5 s) (ag5 t)&&auO n h (ag5 s)then J (ag5 s)else U)
def aij(n h:T)(lv:P T)(B:Ab):P (T×Sh)->P (T×Sh)
 |[]=>[]
 |(t,s)::l=>if !lv.contains t then aij n h lv B l else(match la t B.aR with
  |J a=>match aw9 n h s a with|J u=>(t,u)::aij n h (lv.filter (· !=t)) B l|U=>aij n h (lv.filter (· !=t)) B l
  |U=>aij n h (lv.filter (· !=t)) B l)
def awc(n h:T):P Sh->P Sh->D (P Sh)
 |[],[]=>J []|s::l,t::m=>match aw9 n h s t,awc n h l m with|J u,J v=>J (u::v)|_,_=>U
 |_,_=>U
def azd(n h:T):HO->HO->HO
 |.cP l,.cP m=>match awc n h l m with|J u=>.cP u|U=>.em
 |.ro l,.ro m=>if eqU l m&&aco n h l then .ro l else .em|.hY a e,.hY b f=>if a==b&&L (a<n)&&eqU e f then .hY a e else .em|.fX a e,.fX b f=>if a==b&&L (a<n)&&eqU e f then .fX a e else .em|.dz v,.dz w=>if eqS v w then .dz v else .em|.pk,.pk=>.pk|_,_=>.em
def Qg(n h:T):T->P HO->P HO->P HO|0,_,_=>[]|k+1,x::l,y::m=>azd n h x y::Qg n h k l m|k+1,_,_=>.em::Qg n h k [] []
def aew(base:Ab)(lv:P T)(A B:Ab):Ab:=
 {aR:=aij base.nx (z base.X) lv B A.aR,X:=Qg base.nx (z base.X) (z base.X) A.X B.X,nx:=base.nx,
  aa:=A.aa.filter λf=>L (f.1<base.nx)&&L (f.2.2<base.nx)&&B.aa.contains f}
def axp(n:T):P (T×O):=(j n).map λi=>(i,0)
structure Wd where
 nx:Nat
 X:List HO
 eM:List Nat
def aA3(w:Wd)(s t:Sh):D (Sh×Wd):=
 if eqS s t then J (s,w)else
 match lin s,lin t with
 |J _,J _=>J (.eS w.nx 0,{w with nx:=w.nx+1,eM:=w.nx::w.eM})|_,_=>match s,t with|.cY,.fN _ _ e=>J (.fW (z w.X) w.nx e,{nx:=w.nx+1,X:=w.X++[.hY w.nx e],eM:=w.nx::w.eM})|.cY,.fW _ _ e=>J (.fW (z w.X) w.nx e,{nx:=w.nx+1,X:=w.X++[.hY w.nx e],eM:=w.nx::w.eM})|.fW _ _ e,.fN _ _ _=>J (.fW (z w.X) w.nx e,{nx:=w.nx+1,X:=w.X++[.hY w.nx e],eM:=w.nx::w.eM})|.fW _ _ e,.fW _ _ _=>J (.fW (z w.X) w.nx e,{nx:=w.nx+1,X:=w.X++[.hY w.nx e],eM:=w.nx::w.eM})|.fN _ _ e,.fN _ _ _=>J (.fN (z w.X) w.nx e,{nx:=w.nx+1,X:=w.X++[.fX w.nx e],eM:=w.nx::w.eM})|_,_=>if eqS (ag5 s) (ag5 t)then J (ag5 s,w)else U
def ayy(B:Ab):Wd->P (T×Sh)->P (T×Sh)×Wd
 |w,[]=>([],w)
 | w,(t,s)::l=>match(match la t B.aR with|J a=>aA3 w s a|U=>U)with
  |J (u,w)=>let(d,w):=ayy B w l;((t,u)::d,w)
  |U=>ayy B w l
def aA4:Wd->P Sh->P Sh->D (P Sh×Wd)
 |w,[],[]=>J ([],w)
 |w,s::l,t::m=>match aA3 w s t with
  |J (u,w)=>match aA4 w l m with|J (d,w)=>J (u::d,w)|U=>U
  |U=>U
 |_,_,_=>U
def aA2:T->Wd->P HO->P HO->P HO×Wd
 |_,w,[],_=>([],w)|0,w,_,_=>([],w)
 |k+1,w,x::l,c=>
  let y:=c.headD .em
  let(z,w):HO×Wd:=match x,y with
   |.cP l,.cP m=>match aA4 w l m with|J (u,w)=>(.cP u,w)|U=>(.em,w)
   |.ro l,.ro _=>(.ro l,w)|.hY a e,.hY b _=>if a==b then(.hY a e,w)else(.em,w)|.fX a e,.fX b _=>if a==b then(.fX a e,w)else(.em,w)|.dz v,.dz _=>(.dz v,w)|.pk,.pk=>(.pk,w)|_,_=>(.em,w)
  let(d,w):=aA2 k w l c.tail
  (z::d,w)
structure Th where
 s:List (Nat×Nat×Int)
 o:List (Nat×Nat)
def ayW(nb hb:T)(t:Th):Sh->Sh->Th|.eS x c,.ic r n=>if x<nb then t else{t with s:=(x,0,n-c)::t.s}|.eS x c,.eS i d=>if x<nb then t else{t with s:=(x,i,d-c)::t.s}|.fW k a _,.cY=>if a<nb then t else{s:=(a,0,0)::t.s,o:=(k,1000000000)::t.o}|.fW k a _,.fW b e _=>if a<nb then t else{s:=(a,e,0)::t.s,o:=(k,b)::t.o}|.fW k a _,.fN b e _=>if a<nb then t else{s:=(a,e,0)::t.s,o:=(k,b)::t.o}|.fN k a _,.fN b e _=>if a<nb then t else{s:=(a,e,0)::t.s,o:=(k,b)::t.o}|.da k _,.da b _=>if k<hb then t else{t with o:=(k,b)::t.o}|.pk k,.pk b=>if k<hb then t else{t with o:=(k,b)::t.o}|.dz k,.dz b=>if k<hb then t else{t with o:=(k,b)::t.o}|_,_=>t
def ayX(nb hb:T):Th->P Sh->P Sh->Th|t,s::l,a::m=>ayX nb hb (ayW nb hb t s a) l m|t,_,_=>t
def ayV(nb hb:T)(S:Ab):Th->P (T×Sh)->Th|t,[]=>t|t,(k,s)::l=>ayV nb hb S (match la k S.aR with|J a=>ayW nb hb t s a|U=>t) l
def axh(nb hb:T):Th->P HO->P HO->Th|t,.cP l::x,.cP m::y=>axh nb hb (ayX nb hb t l m) x y|t,_::x,_::y=>axh nb hb t x y|t,_,_=>t
def asc{a:Type}:P (T×a)->T->D a|[],_=>U|(k,v)::l,n=>if k=n then J v else asc l n
def fit(nb hb:T)(a S:Ab):P (T×O)×P T:=
 let t:=axh nb hb (ayV nb hb S ⟨[],[]⟩ a.aR) (a.X.take hb) S.X
 ((j a.nx).map λi=>if i<nb then(i,0)else(asc t.s i).getD (0,0),(j (z a.X)).map λk=>if k<hb then k else(asc t.o k).getD 1000000000)
def atg:P (T×Sh)->P T|[]=>[]|(_,.eS j 0)::l=>j::atg l|_::l=>atg l
def avX(nb:T)(new:P T)(env:P (T×Sh)):Fs:=(new.flatMap λx=>[(0,1,x),(x,-8192,0),(x,-(LB:O),0)])++new.flatMap λx=>(new++(atg env).filter (· <nb)).filterMap λy=>if x==y then U else J (x,0,y)
def agb(S:Ab)(θ:P (T×O))(f:T×O×T):Q:=match θ[f.1]?,θ[f.2.2]? with|J (i,p),J (j,q)=>le? S.aa i (f.2.1+p-q) j|_,_=>eF
def widen(a H:Ab)(b:P Ab):Ab:=
 let go (H N:Ab):Ab:=
  let(env,w):=ayy N ⟨H.nx,H.X,[]⟩ H.aR
  let(c,w):=aA2 (z a.X) w (H.X.take (z a.X)) N.X
  {H with aR:=env,X:=c++w.X.drop (z a.X),nx:=w.nx}
 b.foldl go H
def akt(a:Ab)(run:Ab->D (P Ab)):T->Ab->D Ab
 |0,H=>J H
 |n+1,H=>match run H with
  |U=>U
  |J g=>
   if g.all λN=>let t:=fit a.nx (z a.X) H N;acY H N t.1 t.2 then J H else
   let b:=widen a a g
   let new:=(j b.nx).filter (a.nx<= ·)
   let h:=fit a.nx (z a.X) b a
   let fs:=(avX a.nx new b.aR).filter λf=>agb a h.1 f
   let c:={b with aa:=fs++a.aa}
   match run c with
   |U=>akt a run n c
   |J d=>
    let e:=fs.filter λf=>d.all λN=>let t:=fit a.nx (z a.X) c N;agb N t.1 f
    akt a run n {c with aa:=e++a.aa}
def awe(d:Ab)(l:P Ab):Q:=(j (z d.X)).any λk=>hU d.X[k]? &&l.all λS=>!hU S.X[k]?
 where
  hU:D HO->Q
   |J h=>oh h|U=>eT
def am9(p:T->Q):T->P HO->P HO|_,[]=>[]|k,h::l=>(if p k then h else .em)::am9 p (k+1) l
def aze(base:Ab)(lv:P T):P Ab->Ab
 |[]=>base
 |A::c=>
  let a:=widen base {A with aR:=A.aR.filter λp=>lv.contains p.1} c
  let b:=(A::c).map λS=>(S,fit base.nx (z base.X) a S)
  let fs:=(avX base.nx ((j a.nx).filter (base.nx<= ·)) a.aR++A.aa.filter λf=>L (f.1<base.nx)&&L (f.2.2<base.nx)).filter λf=>b.all λt=>agb t.1 t.2.1 f
  {a with aa:=fs,X:=am9 (λk=>L (k<z base.X)||b.all λt=>t.2.2[k]? !=J 1000000000) 0 a.X}
def aaw(base:Ab)(lv:P T):P Ab->P Ab
 |[]=>[]|[A]=>[A]
 |A::B::l=>
  let a:=(B::l).foldl (aew base lv) (aew base lv A A)
  if !awe a (A::B::l)&&(A::B::l).all λS=>acY a S (axp a.nx) (j (z a.X))then[a]else
  let a:=aze base lv (A::B::l)
  if L (base.nx<=a.nx/\z base.X<=z a.X)&&(!awe a (A::B::l)&&(A::B::l).all λS=>acY a S (fit base.nx (z base.X) a S).1 (fit base.nx (z base.X) a S).2)then[a]else A::B::l
def aza:KC->Q|.fu _=>eT|.eZ _=>eT|.eO _=>eT|_=>eF
def aqY(k:KC)(base:Ab)(lv:P T)(l:P Ab):P Ab:=if aza k then l else aaw base lv l
def awi(nb:T)(N:Ab)(θ:P (T×O))(x s:T):Q:=match θ[x]? with|J (i,d)=>i==x&&L (1<=d)&&L (s<nb)&&le? N.aa x 1 s|U=>eF
def lowers(N:Ab)(θ:P (T×O))(x:T):Q:=match θ[x]? with|J (i,d)=>i==x&&L (d<= -1)|U=>eF
abbrev zM:=P (XE×Ab)
def Ih:zM->P Ab|[]=>[]|(.du,A)::l=>A::Ih l|_::l=>Ih l
def others:zM->zM|[]=>[]|(.du,_)::l=>others l|d::l=>d::others l
def aex(a d:D zM):D zM:=match a,d with|J x,J y=>J (x++y)|_,_=>U
def alV(f:Ab->D zM):P Ab->D zM|[]=>J []|A::l=>aex (f A) (alV f l)
def outOf(id:T):XE->XE|.dq i=>if i=id then .du else .dq i|x=>x
def LR:T:=4
def ajR(m:P T)(run:Ab->D zM)(A:Ab):D zM:=
 let a:=A.au m
 match akt a (λH=>(run H).map λo=>(Ih o).map (·.au m)) LR a with
 |U=>U
 |J H=>match run H with
  |U=>U
  |J o=>
   let c:=fit a.nx (z a.X) H a
   let b:=(Ih o).map (·.au m)
   let th (N:Ab):=fit a.nx (z a.X) H N
   if L (a.nx<=H.nx/\z a.X<=z H.X)&&acY H a c.1 c.2&&b.all (λN=>acY H N (th N).1 (th N).2)&&
    (b.isEmpty||((j H.nx).any λx=>L (a.nx<=x)&&((j a.nx).any (λs=>b.all λN=>awi a.nx N (th N).1 x s)||b.all λN=>lowers N (th N).1 x)))
   then J (others o)else U
def alO(m:P T)(run:Ab->D zM):T->Ab->D zM|0,_=>U|n+1,A=>match run (A.au m)with|U=>U|J o=>aex (J (others o)) (alV (alO m run n) (Ih o))
def afF(m:P T)(run:Ab->D zM)(A:Ab):D zM:=match ajR m run A with|J o=>J o|U=>alO m run 6 A
def abK(X:Cfg)(n0:T):KC->P T->Ab->D zM
 |.eI,_,A=>J [(.du,A)]|.fu l,_,A=>(TL X n0 eF l A).map λl=>l.map λA=>(.du,A)|.eZ l,_,A=>(TL X n0 eF l A).map λl=>l.map λA=>(.du,A)|.eO l,_,A=>match afD X n0 l 0 (A,[],[])with|J e=>if e.all (aiT (z A.X))&&l.all (λo=>o.bo.all λc=>L (c<z l))then J (e.map λp=>(.du,p.1))else U|U=>U
 |.eA a b,d,A=>match abK X n0 a (Ol b++d) A with|U=>U|J o=>match alV (abK X n0 b d) (aqY a A (Ol b++d) (Ih o))with|J f=>J (others o++f)|U=>U
 |.eJ c a b,d,A=>match ways X A c with|U=>U|J g=>g.foldr (λw h=>aex (if w.1 then abK X n0 a d w.2 else abK X n0 b d w.2) h) (J [])
 |.eG id b,d,A=>match abK X n0 b d A with|J o=>J (o.map λp=>(outOf id p.1,p.2))|U=>U
 |.fL m b,d,A=>afF m (λH=>abK X n0 b m H) A|.dq m id,_,A=>J [(.dq id,A.au m)]|.ea m,_,A=>J [(.ea,A.au m)]|.fg b,d,A=>abK X n0 b d A|.eC,_,_=>U
def rsS(A:Ab):P XR->D (P Sh)
 |[]=>J []|.fT t::l=>match la t A.aR,rsS A l with|J s,J d=>J (s::d)|_,_=>U
 |.eN t ag a::l=>match la t A.aR,rsS A l with
  |J (.da k off),J d=>match A.X[k]? with
   |J (.cP c)=>match ac7 ag a c off with|J s=>J (s::d)|U=>U
   |_=>U
  |_,_=>U
def ayr:P Sh->Sh|[s]=>s|l=>.de l
def TM:T->P Sh->P (T×Sh)|_,[]=>[]|i,s::l=>(i,s)::TM (i+1) l
def startA(args:P Sh):Ab:=
 let(l,A):=MQ {aR:=[],X:=[],nx:=1,aa:=[]} args
 {A with aR:=TM 0 l}
def aym(l args:P Sh):Ab:=
 let(u,A):=opened {aR:=[],X:=[],nx:=1,aa:=[]} l
 let(v,A):=MQ {A with X:=[.ro u]} args
 {A with aR:=(0,.da 0 0)::TM 1 v}
def endOk(K:KF)(res:Sh)(o:zM):Q:=o.all λp=>match p.1 with
 |.dq _=>eF
 |_=>match rsS p.2 K.an with
  |J l=>match OW p.2.X l with|J l=>sub p.2.aa [] [] res (ayr l)|U=>eF
  |U=>eF
def ayl(H:P HO)(args:P Sh):Ab:=
 let q:=lF (Hab H) (H.map λ_=>eT) H
 let d:=MQ {q.2 with X:=q.1} args
 {d.2 with aR:=TM 0 d.1}
def aq9(K:KF)(H:P HO)(res:Sh)(o:zM):Q:=endOk K res o&&o.all λp=>acY (Hab H) p.2 [(0,0)] (j (z H))
def abF(X:Cfg)(K:KF):Sm->Q|.dp args res=>cls args&&cl res&&L (z args<=K.W)&&(match abK X K.W K.ap [] (startA args)with|J o=>endOk K res o|U=>eF)|.ro l args res=>cls l&&cls args&&cl res&&L (z args+1<=K.W)&&(match abK X K.W K.ap [] (aym l args)with|J o=>endOk K res o|U=>eF)|.eK H args res=>H.all okH&&cl res&&L (z args<=K.W)&&(match abK X K.W K.ap [] (ayl H args)with|J o=>aq9 K H res o|U=>eF)|_=>eF
def ar2:∀{l:P (T×Sh)} {t:T} {s:Sh},la t l=J s->(t,s)∈l
 |[],_,_,h=>by cases h
 |(k,u)::l,t,s,h=>by
  simp only[la]at h;split at h;·grind
  ·exact aI9 _ (ar2 h)
def Sb.db{V W:Val}(h:V.ν[0]?=J 0):Sb [] [] [] V W:=⟨h,λf hf=>(by cases hf),λj i c a=>by simp[Ep]at a,λk b o a=>by simp[eqO]at a⟩
def νθ(V:Val)(θ:P (T×O)):P T:=θ.map λp=>(((V.ν[p.1]?.getD 0:T):O)+p.2).toNat
def ρθ(V:Val)(θo:P T):P (D T):=θo.map λk=>(V.ρ[k]?).join
def adw(V:Vo):P T->P HO->P (P T)|k::ks,h::hs=>(if oh h then[]else(V.ah[k]?).getD [])::adw V ks hs|_,_=>[]
def afd{S:Ab}{θ θo}:∀{ks:P T} {hs:P HO} {a:P T},Pe S θ θo ks hs a=eT->z ks=z hs
 |[],[],_,_=>w8|[],_::_,_,h=>by simp[Pe]at h
 |_::_,[],_,h=>by simp[Pe]at h
 |k::ks,x::hs,a,h=>by simp only[Pe,R]at h;simp[afd h.2]
def XD{V:Vo}:∀{ks:P T} {hs:P HO},z ks=z hs->z (adw V ks hs)=z hs
 |[],[],_=>w8|[],_::_,h=>by simp at h
 |_::_,[],h=>by simp at h
 |k::ks,x::hs,h=>by simp[adw];exact XD (by simpa using h)
def XB{V:Vo}:∀{ks:P T} {hs:P HO} {i:T} {x:HO} {k:T},ks[i]?=J k->hs[i]?=J x->(adw V ks hs)[i]?=J (if oh x then[]else(V.ah[k]?).getD [])
 |[],_,_,_,_,h,_=>by simp at h
 |_::_,[],_,_,_,_,h=>by simp at h
 |k::ks,x::hs,0,_,_,h,a=>by simp at h a;subst h;subst a;rfl
 |k::ks,x::hs,i+1,_,_,h,a=>by simp only[aF1]at h a;simp only[adw,aF1];exact XB h a
def acZ{S:Ab}{θ θo}:∀{ks:P T} {hs:P HO} {c:P T},Pe S θ θo ks hs c=eT->∀{i:T} {x:HO} {k:T},ks[i]?=J k->hs[i]?=J x->ajr S.aa θ θo S.X[k]? x=eT/\(oh x=eT\/z S.X<=k\/k∉c)
 |[],_,_,_,_,_,_,h,_=>by simp at h
 |_::_,[],_,_,_,_,_,_,h=>by simp at h
 |k::ks,x::hs,c,a,0,_,_,h,b=>by simp at h b;subst h;subst b;simp only[Pe,R,aE7,w9,aJ2,List.contains_eq_mem,N]at a;exact⟨a.1.1,or_assoc.mp a.1.2⟩
 |k::ks,x::hs,c,a,i+1,_,_,h,b=>by simp only[aF1]at h b;simp only[Pe,R]at a;have:=acZ a.2 h b;grind
theorem YS{S:Ab}{θ θo}:∀{ks:P T} {hs:P HO} {f:P T},Pe S θ θo ks hs f=eT->∀{i j:T} {x y:HO} {k:T},i<j->ks[i]?=J k->ks[j]?=J k->hs[i]?=J x->hs[j]?=J y->oh x=eT\/oh y=eT\/z S.X<=k
 |[],_,_,_,_,_,_,_,_,_,h,_,_,_=>by simp at h
 |_::_,[],_,_,_,_,_,_,_,_,_,_,h,_=>by simp at h
 |k::ks,x::hs,f,a,0,j+1,_,_,_,_,h,b,c,d=>by
  simp at h c;subst h;subst c;simp only[aF1]at b d;simp only[Pe,R]at a;cases g:oh x with
  |true=>exact .inl w8|false=>rw[g]at a;have:=(acZ a.2 b d).2;grind
 |k::ks,x::hs,f,a,i+1,j+1,_,_,_,e,h,b,c,d=>by simp only[aF1]at h b c d;simp only[Pe,R]at a;exact YS a.2 (by omega) h b c d
 |_::_,_::_,_,_,_,0,_,_,_,e,_,_,_,_=>by omega
def Lj {PK:PkI} {O0:Frm} {V:Vo} {S d:Ab} {E:As} {Y:St} (h:G PK O0 V S E Y) {θ:List (Nat×Int)} {θo:List Nat} (hs:acY d S θ θo=eT):
  ∃W:Vo,G PK O0 W d E Y/\W.ν=νθ V.toVal θ/\W.ρ=ρθ V.toVal θo/\W.ah=adw V θo d.X/\(∀(i:Nat) (p:Nat×Int),θ[i]?=J p->∃a b:Nat,V.ν[p.1]?=J a/\W.ν[i]?=J b/\(b:Int)=a+p.2):=by
 simp only[acY,a02,w9]at hs;obtain⟨⟨⟨⟨⟨hl,h0⟩,al⟩,Z⟩,N⟩,L⟩:=hs
 let W:Vo:=⟨⟨νθ V.toVal θ,ρθ V.toVal θo⟩,adw V θo d.X⟩
 have F:∀(i:Nat) (p:Nat×Int),θ[i]?=J p->∃a b:Nat,V.ν[p.1]?=J a/\W.ν[i]?=J b/\(b:Int)=a+p.2:=λi p H=>by
  have D:=aB0.mp al p (a06 H);simp only[azv,a02,aE7,w9]at D;obtain⟨a,K⟩:∃a,V.ν[p.1]?=J a:=⟨_,a01 (by rw[h.lν];exact D.1)⟩;have an:0<=(a:Int)+p.2:=by
   rcases D.2 with A|A;·omega
   ·have:=Qv h.ab h.aa _ _ _ _ _ _ A h.ab K;omega
  refine⟨a,((a:Int)+p.2).toNat,K,?_,by omega⟩;show(νθ V.toVal θ)[i]?=_;rw[νθ,aF7,H];grind
 have ac:∀(j i:Nat) (c:Int),Ep θ[j]? i c=eT->∀a:Nat,V.ν[i]?=J a->∃b:Nat,W.ν[j]?=J b/\(b:Int)=a+c:=λj i c I a K=>by
  cases H:θ[j]? with
  |none=>rw[H]at I;cases I|some p=>rw[H]at I;simp only[Ep,a02,k9]at I;grind
 have ab:∀(k C o:Nat),eqO θo[k]? C=eT->V.ρ[C]?=J (J o)->W.ρ[k]?=J (J o):=λk C o I aw=>by
  cases H:θo[k]? with
  |none=>rw[H]at I;cases I|some a=>rw[H]at I;simp only[eqO,k9]at I;subst I;show(ρθ V.toVal θo)[k]?=_;rw[ρθ,aF7,H];grind
 have B:Sb S.aa θ θo V.toVal W.toVal:=⟨h.ab,h.aa,ac,ab⟩;have O:Sb [] [] [] V.toVal W.toVal:=Sb.db h.ab;have M:z θo=z d.X:=afd L;have u:∀(k C o:Nat),θo[k]?=J C->V.ρ[C]?=J (J o)->W.ρ[k]?=J (J o):=λk C o D I=>B.bA k C o (by simp[eqO,D]) I;have Q:∀(k:Nat) a,W.ah[k]?=J a->a=[]\/∃C x,θo[k]?=J C/\d.X[k]?=J x/\oh x=eF/\V.ah[C]?=J a:=λk a K=>by
  have K:(adw V θo d.X)[k]?=J a:=K;have D:k<z d.X:=by have:=(a00.mp K).1;rwa[XD M]at this
  have hx:=a01 D;have y:=a01 (show k<z θo by rw[M];exact D);rw[XB y hx]at K;grind
 refine⟨W,⟨λt s ht=>?_,by show(νθ V.toVal θ).length=_;simp[νθ,hl],by show(ρθ V.toVal θo).length=_;simp[ρθ,M],by show(adw V θo d.X).length=_;exact XD M,?_,λf hf=>?_,λk x D=>?_,λk C a b ak K hb i hi af=>?_,λk a K i hi=>?_,λk o D=>?_,h.b3,h.ok⟩,w8,w8,w8,F⟩;·have:=aB0.mp Z _ (ar2 ht);grind [YT,G]
 ·grind [h.ab]
 ·have:=aB0.mp N f hf;split at this;·rename_i i p j q H hq;obtain⟨a,b,A,h2,h3⟩:=F _ _ H;obtain⟨a',b',T,X,ad⟩:=F _ _ hq;have:=Yv B this A T;exact⟨b,b',h2,X,by omega⟩
  ·cases this
 ·have ah:=(a00.mp D).1;obtain⟨C,y⟩:∃C,θo[k]?=J C:=⟨_,a01 (by rw[M];exact ah)⟩;have g:=(acZ L y D).1;have P:W.ah[k]?=J (if oh x then[]else(V.ah[C]?).getD []):=XB y D;cases x with
  |em=>exact P
  |cP l=>
   simp only[ajr]at g;split at g;·rename_i l' w;obtain⟨o,cs,A,h2,h3,h4⟩:=h.X _ _ w;exact⟨o,cs,u _ _ _ y A,by rw[P,h2];rfl,h3,Ip B h4 g⟩
   ·cases g
  |ro l=>
   simp only[ajr]at g;split at g;·rename_i l' w;obtain⟨o,cs,R,A,h2,h3,h4,h5⟩:=h.X _ _ w;exact⟨o,cs,R,u _ _ _ y A,by rw[P,h2];rfl,h3,h4,Ip B h5 g⟩
   ·cases g
  |hY a e=>
   simp only[ajr]at g;split at g
   ·rename_i a' e' w;simp only[a02]at g;obtain⟨n,A,h2⟩:=h.X _ _ w;refine⟨n,B.he g.1 A,?_⟩;rcases h2 with⟨h2,h3⟩|⟨h2,o,rs,R,h3,h4,h5,h6,h7⟩;·grind
    ·exact .inr ⟨h2,o,rs,R,u _ _ _ y h3,by rw[P,h4];rfl,h5,h6,MRs.dz (λco hr=>Ip O hr g.2) h7⟩
   ·rename_i a' e' w;simp only[a02]at g;obtain⟨n,A,o,rs,R,h3,h4,h5,h6,h7⟩:=h.X _ _ w;have:=Yv B g.2 h.ab A;exact⟨n,B.he g.1.1 A,.inr ⟨by omega,o,rs,R,u _ _ _ y h3,by rw[P,h4];rfl,h5,h6,MRs.dz (λco hr=>Ip O hr g.1.2) h7⟩⟩
   ·rename_i hn;have:V.ah[C]?=U:=(by grind [G]);exact⟨0,B.he g h.ab,.inl ⟨w8,by rw[P,this];rfl⟩⟩
   ·cases g
  |fX a e=>
   simp only[ajr]at g;split at g;·rename_i a' e' w;simp only[a02]at g;obtain⟨n,A,o,rs,R,h3,h4,h5,h6,h7⟩:=h.X _ _ w;exact⟨n,B.he g.1 A,o,rs,R,u _ _ _ y h3,by rw[P,h4];rfl,h5,h6,MRs.dz (λco hr=>Ip O hr g.2) h7⟩
   ·cases g
  |dz v=>
   simp only[ajr]at g;split at g;·rename_i v' w;obtain⟨o,es,A,h2,h3,h4⟩:=h.X _ _ w;exact⟨o,es,u _ _ _ y A,by rw[P,h2];rfl,h3,λp H=>⟨(h4 p H).1,YT O (h4 p H).2 g⟩⟩
   ·cases g
  |pk=>
   simp only[ajr]at g;split at g;·rename_i w;obtain⟨o,ms,A,h2,h3⟩:=h.X _ _ w;exact⟨o,ms,u _ _ _ y A,by rw[P,h2];rfl,h3⟩
   ·cases g
 ·rcases Q k a K with rfl|⟨m,x,A,h2,h3,h4⟩;·cases hi
  ·rcases Q C b hb with rfl|⟨m',x',T,X,ad,aq⟩;·cases af
   ·by_cases hm:m=m'
    ·subst hm;have au:m<z S.X:=(by grind [G]);rcases Nat.lt_or_gt_of_ne ak with aa|aa;·grind [YS,G]
     grind [YS,G]
    grind [G]
 ·grind [G]
 ·have D:(ρθ V.toVal θo)[k]?=J (J o):=D;rw[ρθ,aF7]at D;grind [G]
section
variable{C:Ctx}{X:Cfg}{PK:PkI}{O0:Frm}{V:Vo}{A:Ab}{E:As}{Y:St}
mutual
def alb{V:Val}:∀(v:AV) {s:Sh},shC v=J s->M V s v
 |.cW b,s,h=>by cases h;exact .bc b
 |.cQ k n,s,h=>by cases h;exact .ic k n
 |.cU l,s,h=>by cases h;exact .sc l
 |.ep,s,h=>by cases h;exact .ep
 |.cY,s,h=>by cases h;exact .cY
 |.eo,s,h=>by cases h;exact .gO
 |.eb,s,h=>by cases h;exact .gt
 |.eE,s,h=>by cases h;exact .gh
 |.dv f x y,s,h=>by
  simp only[shC]at h;split at h;·rename_i a b c hb;cases h;exact .dv f _ _ _ _ (SX x c) (SX y hb)
  ·cases h
 |.de [],s,h=>by cases h;exact .dT
 |.de (_::_),s,h=>by simp[shC]at h
 |.da _ _,s,h=>by simp[shC]at h
 |.ec _,s,h=>by simp[shC]at h
 |.fS,s,h=>by simp[shC]at h
 |.sl _ _,s,h=>by simp[shC]at h
 |.eB _ _,s,h=>by simp[shC]at h
 |.dj _ _ _ _,s,h=>by simp[shC]at h
 |.dz _,s,h=>by simp[shC]at h
 |.dx _ _,s,h=>by simp[shC]at h
 |.cX _,s,h=>by simp[shC]at h
def SX{V:Val}:∀(l:LA) {t:P Sh},agU l=J t->Mt V t l
 |[],t,h=>by cases h;exact .db
 |v::l,t,h=>by
  simp only[agU]at h;split at h;·rename_i a b c hb;cases h;exact .cV _ _ _ _ (alb v c) (SX l hb)
  ·cases h
end
def LY(C:Ctx)(X:Cfg):Prop:=∀n s,X.gl n=J s->∀V:Val,M V s (.ec ((C.gl n).getD []))
def dE(b:LY C X)(h:G PK O0 V A E Y){x:XA}{s:Sh}(a:avS X A x=J s):M V.toVal s (avA C E x):=by
 cases x with
 |t n=>exact h.aR n s a|c v=>exact alb v a|g n=>exact b n s a _
def Rh(d:LY C X)(h:G PK O0 V A E Y):∀{l:P XA} {t:P Sh},ahu X A l=J t->Mt V.toVal t (l.map (avA C E))
 |[],t,c=>by cases c;exact .db
 |x::l,t,c=>by
  simp only[ahu]at c;split at c;·rename_i a b e hb;cases c;exact .cV _ _ _ _ (dE d h e) (Rh d h hb)
  ·cases c
def Yj{V:Val}{s:Sh}{v:AV}{l:P Sh}(h:M V s v)(a:cellsS s=J l):Ms V l v.cP:=by
 unfold cellsS at a;split at a;·cases a;cases h with|cX _ _ h=>exact h
 ·cases a;cases h with|jv j=>rw[show j.av.cP=j.B++[]from(f _).symm];exact .jv _ _ _ .db
 ·cases a;cases h with|jg _ _ j h=>rw[show j.av.cP=j.B++[]from(f _).symm];exact .jg _ _ _ _ _ h .db
 ·split at a
  ·rename_i b;cases a;have:v.cP=[v]:=by cases h<;>first|rfl|cases b
   rw[this];exact .ef _ _ _ _ b h .db
  ·cases a
def U9{V:Val}{l:P Sh}{v:LA}(h:Ms V l v):M V (Xv l) (.cX v):=by
 unfold Xv;split;·cases h with|ef _ _ _ _ a=>cases a|jv _ j b a=>cases a;rw[f];exact .jv j
 ·cases h with|ef _ _ _ _ a=>cases a|jg _ _ _ j b c a=>cases a;rw[f];exact .jg _ _ j c
 ·exact .cX _ _ h
theorem Val.ac(V:Val)(b:P T):V.le ⟨V.ν++b,V.ρ⟩:=⟨λi a c=>by
 grind,λi a c=>c⟩
def arI {V:Val}:∀{l:List Sh} {v:LA},Ms V l v->∀{n m:Nat} {t:List Sh} {f:Fs},V.ν.length=n->V.ν[0]?=J 0->xX l n=(t,m,f)->
  ∃d:List Nat,(V.ν++d).length=m/\Ms ⟨V.ν++d,V.ρ⟩ t v/\∀g∈f,uH ⟨V.ν++d,V.ρ⟩ g:=by
 intro l v h
 induction l generalizing v V with
 |nil=>intro n m t f L N u;cases h;simp only[xX,aC2]at u;obtain⟨rfl,rfl,rfl⟩:=u;exact⟨[],by simpa using L,.db,λg y=>by cases y⟩
 |cons s l T=>
  intro n m t f L N u;have step:∀(A:List Nat) {w:LA},Ms V l w->∀{m:Nat} {t:List Sh} {f:Fs},xX l (n+A.length)=(t,m,f)->∃d:List Nat,(V.ν++(A++d)).length=m/\Ms ⟨V.ν++(A++d),V.ρ⟩ t w/\(∀g∈f,uH ⟨V.ν++(A++d),V.ρ⟩ g):=λA w S m t f u=>by
   have I:V.le ⟨V.ν++A,V.ρ⟩:=⟨λi a O=>by
    grind,λi a O=>O⟩
   obtain⟨d,B,h2,h3⟩:=T (V:=⟨V.ν++A,V.ρ⟩) (S.D I) (n:=n+A.length) (by simp[L]) (I.ν _ _ N) u;grind
  have C:∀(a:Nat) (d:List Nat),(V.ν++([a]++d))[n]?=J a:=λa d=>by grind
  have K:∀(a b:Nat) (d:List Nat),(V.ν++([a,b]++d))[n]?=J a/\(V.ν++([a,b]++d))[n+1]?=J b:=λa b d=>by grind
  have z:∀d:List Nat,(V.ν++d)[0]?=J 0:=λd=>by grind
  cases h with
  |jg a b _ j cB hj hr=>obtain⟨⟨G,F,E⟩,o⟩:∃q,xX l (n+([]:List Nat).length)=q:=⟨_,w8⟩;obtain⟨d,B,h2,h3⟩:=step [] hr o;simp only[a96,aL1]at o;simp only[xX,o,aC2]at u;obtain⟨rfl,rfl,rfl⟩:=u;exact⟨d,B,.jg _ _ _ _ _ (hj.D (V.ac d)) h2,h3⟩
  |jv _ j cB hr=>
   obtain⟨k,c,tx,ns,is,e1,e3,e2,e4,rfl⟩:=j.ex;obtain⟨⟨G,F,E⟩,o⟩:∃q,xX l (n+[ns.length,is.length].length)=q:=⟨_,w8⟩;obtain⟨d,B,h2,h3⟩:=step [ns.length,is.length] hr o;simp only[a94,a96]at o;simp only[xX,o,aC2]at u;obtain⟨rfl,rfl,rfl⟩:=u;have⟨R,M⟩:=K ns.length is.length d;refine⟨[ns.length,is.length]++d,B,.jg _ _ _ _ _ ⟨k,c,tx,ns,is,e1,e3,e2,e4,w8,R,M⟩ h2,λg y=>?_⟩;rcases aC8.mp y with rfl|y;·exact⟨_,_,R,M,by dsimp only;omega⟩
   ·rcases aC8.mp y with rfl|y;·exact⟨_,_,M,z _,by dsimp only;omega⟩
    ·exact h3 g y
  |ef _ _ x b D Q hb=>
   have H:(∀e,s≠ .ew e)->s≠ .fh->s≠ .cU->s≠ .df->s≠ .jv->∃d:List Nat,(V.ν++d).length=m/\Ms ⟨V.ν++d,V.ρ⟩ t (x::b)/\∀g∈f,uH ⟨V.ν++d,V.ρ⟩ g:=λW X Y Z k5=>by
    obtain⟨⟨G,F,E⟩,o⟩:∃q,xX l (n+([]:List Nat).length)=q:=⟨_,w8⟩;obtain⟨d,B,h2,h3⟩:=step [] hb o;simp only[a96,aL1]at o;have:xX (s::l) n=(s::G,F,E):=by cases s<;>first|(exact absurd w8 (W _))|contradiction|(simp only[xX,o])
    rw[this]at u;simp only[aC2]at u;obtain⟨rfl,rfl,rfl⟩:=u;exact⟨d,B,.ef _ _ _ _ D (Q.D (V.ac d)) h2,h3⟩
   cases Q with
   |ew e rs P hr=>
    obtain⟨⟨G,F,E⟩,o⟩:∃q,xX l (n+[rs.length].length)=q:=⟨_,w8⟩;obtain⟨d,B,h2,h3⟩:=step [rs.length] hb o;simp only[a94,a96]at o;simp only[xX,o,aC2]at u;obtain⟨rfl,rfl,rfl⟩:=u;have p:=C rs.length d;refine⟨[rs.length]++d,B,.ef _ _ _ _ w8 (.sl n e rs p (hr.D (V.ac ([rs.length]++d)))) h2,λg y=>?_⟩;rcases aC8.mp y with rfl|y;·exact⟨_,_,p,z _,by dsimp only;omega⟩
    ·exact h3 g y
   |fh is P=>
    obtain⟨⟨G,F,E⟩,o⟩:∃q,xX l (n+[is.length].length)=q:=⟨_,w8⟩;obtain⟨d,B,h2,h3⟩:=step [is.length] hb o;simp only[a94,a96]at o;simp only[xX,o,aC2]at u;obtain⟨rfl,rfl,rfl⟩:=u;have p:=C is.length d;refine⟨[is.length]++d,B,.ef _ _ _ _ w8 (.gM n is p) h2,λg y=>?_⟩;rcases aC8.mp y with rfl|y;·exact⟨_,_,p,z _,by dsimp only;omega⟩
    ·exact h3 g y
   |cU w=>obtain⟨⟨G,F,E⟩,o⟩:∃q,xX l (n+[w.length].length)=q:=⟨_,w8⟩;obtain⟨d,B,h2,h3⟩:=step [w.length] hb o;simp only[a94,a96]at o;simp only[xX,o,aC2]at u;obtain⟨rfl,rfl,rfl⟩:=u;exact⟨[w.length]++d,B,.ef _ _ _ _ w8 (.fp n w (C w.length d)) h2,h3⟩
   |df w P=>
    obtain⟨⟨G,F,E⟩,o⟩:∃q,xX l (n+[w.length].length)=q:=⟨_,w8⟩;obtain⟨d,B,h2,h3⟩:=step [w.length] hb o;simp only[a94,a96]at o;simp only[xX,o,aC2]at u;obtain⟨rfl,rfl,rfl⟩:=u;have p:=C w.length d;refine⟨[w.length]++d,B,.ef _ _ _ _ w8 (.fp n w p) h2,λg y=>?_⟩;rcases aC8.mp y with rfl|y;·exact⟨_,_,p,z _,by dsimp only;omega⟩
    ·exact h3 g y
   |jv=>cases D|_=>exact H (λ_=>by simp) (by simp) (by simp) (by simp) (by simp)
theorem G.ac(h:G PK O0 V A E Y)(a:P T){m:T}{f:Fs}(e:z (V.ν++a)=m)(hf:∀g∈f,uH ⟨V.ν++a,V.ρ⟩ g):G PK O0 ⟨⟨V.ν++a,V.ρ⟩,V.ah⟩ {A with nx:=m,aa:=f++A.aa} E Y:=by
 have b:V.toVal.le (⟨⟨V.ν++a,V.ρ⟩,V.ah⟩:Vo).toVal:=V.toVal.ac a;refine⟨λt s i=>(h.aR t s i).D b,e,h.lρ,h.lo,b.ν _ _ h.ab,λg c=>?_,λk x d=>(h.X k x d).D b w8 (λ_ _ _ _=>w8) (λ_ _ _=>w8),h.ez,h.dg,h.ρl,h.b3,h.ok⟩;rcases aE4.mp c with c|c;·exact hf g c
 ·exact(h.aa g c).D b
def aeO(h:G PK O0 V A E Y){l:P Sh}{v:LA}(d:Ms V.toVal l v):∃V':Vo,V.toVal.le V'.toVal/\V'.ah=V.ah/\V'.ρ=V.ρ/\G PK O0 V' (opened A l).2 E Y/\Ms V'.toVal (opened A l).1 v:=by obtain⟨⟨t,m,f⟩,b⟩:∃q,xX l A.nx=q:=⟨_,w8⟩;obtain⟨a,c,h2,h3⟩:=arI d h.lν h.ab b;unfold opened;rw[b];exact⟨⟨⟨V.ν++a,V.ρ⟩,V.ah⟩,V.toVal.ac a,w8,w8,h.ac a c h3,h2⟩
def acK{V:Val}:∀ns:P LU,(∀x∈ns,z x<=LB)->∃rs:P LA,z rs=z ns/\rs.flatten=ns.map AV.cU/\MRs V [.df] rs|[],_=>⟨[],w8,w8,.db _⟩|s::ns,h=>by obtain⟨rs,a,h2,h3⟩:=acK ns (λx b=>h x (by simp[b]));exact⟨[.cU s]::rs,by simp[a],by rw[i,h2];rfl,.cV _ _ _ (.ef _ _ _ _ w8 (.df s (h s (by simp))) .db) h3⟩
def Ro{V:Val}:∀{l:P Sh} {v:LA},Ms V l v->∀{n:T} {s:Sh},cellAt l n=J s->∃x,v[n]?=J x/\M V s x
 |_,_,.db,n,s,a=>by simp[cellAt]at a
 |_,_,.ef s0 t v b d h2 h3,n,s,a=>by
  cases n with
  |zero=>
   have:cellAt (s0::t) 0=J s0:=by cases s0<;>first|rfl|cases d
   grind
  |succ n=>
   have:cellAt (s0::t) (n+1)=cellAt t n:=by cases s0<;>first|rfl|cases d
   rw[this]at a;obtain⟨x,h4,h5⟩:=Ro h3 a;exact⟨x,by simpa using h4,h5⟩
 |_,_,.jv t j b d,n,s,a=>by
  match n,a with
  |n+5,a=>have a:cellAt t n=J s:=a;obtain⟨x,h4,h5⟩:=Ro d a;grind [j.dt]
 |_,_,.jg p q t j b e d,n,s,a=>by
  obtain⟨k,c,tx,ns,is,e1,e3,e2,e4,rfl,g,f⟩:=e;rw[JV.bO]
  match n,a with
  |0,a=>cases a;exact⟨_,w8,.cQ _ _⟩|1,a=>cases a;exact⟨_,w8,.cQ _ _⟩|2,a=>cases a;exact⟨_,w8,.df _ e4.t⟩|3,a=>cases a;obtain⟨rs,r1,r2,r3⟩:=acK (V:=V) ns e4.ns;exact⟨_,w8,by grind [M]⟩
  |4,a=>cases a;exact⟨_,w8,.gM _ is f⟩|n+5,a=>have a:cellAt t n=J s:=a;obtain⟨x,h4,h5⟩:=Ro d a;exact⟨x,h4,h5⟩
theorem Xr{V:Val}{l:P Sh}{v:LA}(h:Ms V l v){ag:Q}{sz off:T}{s:Sh}(e:ac7 ag sz l off=J s):∃x,pt ag sz (v.drop off)=J x/\M V s x:=by
 cases ag with
 |true=>
  simp only[ac7,if_true]at e;split at e
  ·rename_i a b g;split at e;·rename_i c d i;cases e;obtain⟨x,y,rfl,e2,e3,e4⟩:=h.bh g;obtain⟨m,o,rfl,j,f,k⟩:=e4.bh i;refine⟨.cX m,?_,U9 f⟩;unfold pt;grind
   ·cases e
  ·cases e
 |false=>simp only[ac7,aF3,if_false]at e;obtain⟨x,n,h2⟩:=Ro h e;refine⟨x,?_,h2⟩;unfold pt;simp_all
def acS{V:Val}{l:P Sh}{v:LA}(h:Ms V l v){u q:P Sh}{w:LA}(j:Ms V u w){off sz:T}(hs:aaG l off u sz=J q):z w=sz/\off+sz<=z v/\Ms V q (splice v off w):=by
 unfold aaG at hs;split at hs
 ·rename_i k;rw[k9]at k;have n:=j.dt;split at hs
  ·rename_i a b g;split at hs
   ·rename_i c d i;cases hs;obtain⟨x,y,rfl,e2,e3,e4⟩:=h.bh g;obtain⟨o,p,rfl,e,m,f⟩:=e4.bh i;refine⟨by omega,by simp;omega,?_⟩;unfold splice;rw[aF8 (by omega),a98 (by omega),n,k,<-e2,<-e,<-a03,<-aB2 x o p,List.drop_left'];·exact(e3.eD j).eD f
    ·rfl
   ·cases hs
  ·cases hs
 ·cases hs
def abM(d:LY C X)(h:G PK O0 V A E Y):∀{c:P (T×T×XA)} {l:P Sh} {v:LA},Ms V.toVal l v->∀{q:P Sh},ai4 X A l c=J q->∃w,EN v (c.map λ(o,s,x)=>(o,s,avA C E x))=J w/\Ms V.toVal q w
 |[],l,v,a,q,hf=>by cases hf;exact⟨v,w8,a⟩
 |(off,j,x)::c,l,v,a,q,hf=>by
  simp only[ai4]at hf;split at hf
  ·rename_i s hs;split at hf
   ·rename_i u e;split at hf;·rename_i i b;have f:=Yj (dE d h hs) e;obtain⟨e1,e2,e3⟩:=acS a f b;obtain⟨w,g,h2⟩:=abM d h e3 hf;refine⟨w,?_,h2⟩;simp only[aC9,EN];grind
    ·cases hf
   ·cases hf
  ·cases hf
def an2{V:Val}{l:P Sh}{z:LA}(h:Ms V l z):∀n,Ms V (ay3 l n) (rep z n)|0=>.db|n+1=>h.eD (an2 h n)
end
section
variable{C:Ctx}{X:Cfg}{PK:PkI}{O0:Frm}{V:Vo}{A:Ab}{E:As}{Y:St}
structure Ch(V:Vo)(A:Ab)(Y:St)(V':Vo)(A':Ab)(Y':St):Prop where
 le:V.toVal.le V'.toVal
 wr:∀k∈A.wr,k∈A'.wr
 ls:A'.ls=A.ls
 aR:A'.aR=A.aR
 c:∀k x,A.X[k]?=some x->k∉A'.wr->A'.X[k]?=some x/\V'.ah[k]?=V.ah[k]? /\∀l o,x=.cP l->V.ah[k]?=some [o]->Y'[o]?=Y[o]?
def Ch.ax:Ch V A Y V A Y:=⟨.cx,λ_ h=>h,w8,w8,λ_ _ h _=>⟨h,w8,λ_ _ _ _=>w8⟩⟩
def Ch.N{V' b:Vo}{A' a:Ab}{d c:St}(h:Ch V A Y V' A' d)(k:Ch V' A' d b a c):Ch V A Y b a c:=by refine⟨h.le.N k.le,λq e=>k.wr q (h.wr q e),k.ls.trans h.ls,k.aR.trans h.aR,λq l e f=>?_⟩;grind [Ch]
def G.hp(h:G PK O0 V A E Y)(k:T):G PK O0 ⟨V.toVal,V.ah.set k []⟩ (A.b7 k .em) E Y:=by
 have l:∀(j:T) a,(V.ah.set k [])[j]?=J a->a=[]\/V.ah[j]?=J a:=λj a e=>by grind
 refine⟨h.aR,h.lν,by simp[Ab.b7,h.lρ],by simp[Ab.b7,h.lo],h.ab,h.aa,λj z hj=>?_,λj n a b g e hb i hi f=>?_,λj a e i hi=>?_,h.ρl,h.b3,h.ok⟩
 ·simp only[Ab.b7]at hj;rw[w]at hj;split at hj
  ·rename_i c;subst c;split at hj;·cases hj;show(V.ah.set k [])[k]?=_;grind [G]
   ·cases hj
  ·rename_i c;refine HM.D (V:=V) (V':=⟨V.toVal,V.ah.set k []⟩) (Y:=Y) .cx ?_ (λ_ _ _ _=>w8) (λ_ _ _=>w8) (h.X j z hj);grind
 ·grind [G]
 grind [G]
def G.hR(h:G PK O0 V A E Y){o:T}{x:AO}(f:∀(k:T) a,V.ah[k]?=J a->o∉a)(j:O0.I<=o\/o∈O0.w)(m:x.below Y.length=eT):G PK O0 V A E (Y.set o x):=by
 have b:∀(i:T),i≠o->(Y.set o x)[i]?=Y[i]?:=λi hi=>by rw[aE2 (Ne.symm hi)]
 refine⟨h.aR,h.lν,h.lρ,h.lo,h.ab,h.aa,λk z d=>?_,h.ez,λk a c i hi=>by simpa using h.dg k a c i hi,λk g d=>by simpa using h.ρl k g d,?_,?_⟩
 ·refine(h.X k z d).D .cx w8 (λa c i hi=>b i λe=>?_) (λi hi l=>b i λe=>?_);·subst e;exact f k a c hi
  grind
 ·grind [G]
 grind [Ok,h.ok]
def Ch.hp(k:T):Ch V A Y ⟨V.toVal,V.ah.set k []⟩ (A.b7 k .em) Y:=by
 refine⟨.cx,λq a=>by simp[Ab.b7,a],w8,w8,λj l hj b=>?_⟩;simp only[Ab.b7,aC8,not_or]at b;refine⟨?_,?_,λ_ _ _ _=>w8⟩;·simp only[Ab.b7];grind
 grind
def Ch.mc{a:St}(c:∀(k:T) l (o:T),A.X[k]?=J (.cP l)->V.ah[k]?=J [o]->a[o]?=Y[o]?):Ch V A Y V A a:=⟨.cx,λ_ h=>h,w8,w8,λk x b _=>⟨b,w8,λl o e d=>c k l o (e▸b) d⟩⟩
def Ch.hR{x:AO}{o:T}(b:∀(k:T) a,V.ah[k]?=J a->o∉a):Ch V A Y V A (Y.set o x):=.mc λk l d _ c=>by grind
def Ch.ng(h:G PK O0 V A E Y){V':Vo}{A':Ab}(b:V.toVal.le V'.toVal)(e:V'.ah=V.ah)(f:A'.wr=A.wr)(d:A'.ls=A.ls)(he:A'.aR=A.aR)(c:A'.X=A.X):Ch V A Y V' A' Y:=
 ⟨b,λk a=>by rw[f];exact a,d,he,λk l a _=>⟨by rw[c];exact a,by rw[e],λ_ _ _ _=>w8⟩⟩
def G.hC(h:G PK O0 V A E Y){V':Vo}{x:AO}{y:HO}(b:V.toVal.le V'.toVal)(e:V'.ah=V.ah++[[z Y]]):Ch V A Y V' (A.cv y) (Y++[x]):=by
 refine⟨b,λ_ a=>a,w8,w8,λk l a _=>?_⟩;have d:k<z A.X:=(a00.mp a).1;refine⟨?_,?_,λ_ o _ c=>?_⟩;·show(A.X++[y])[k]?=_;grind
 ·grind [G]
 ·rw[aC1 (h.dg k _ c o (by simp)).2]
def G.lk (h:G PK O0 V A E Y) {e:P Sh} {rs:P LA} {fz:Fz} (hr:MRs V.toVal e rs) {fs:Fs} (hf:∀f∈fs,∀V':Val,V.toVal.le V'->V'.ν[A.nx]?=J (z rs)->uH V' f):
  ∃V':Vo,Ch V A Y V' (A.cJ e fs).2 (Y++[.cP rs.flatten fz])/\G PK O0 V' (A.cJ e fs).2 E (Y++[.cP rs.flatten fz])/\M V'.toVal (A.cJ e fs).1 (.dj (z Y) 0 (z rs) (wds e)):=by
 obtain⟨v,c,g,p,u⟩:=h.eS (z rs);have hb:(AO.cP rs.flatten fz).below (z Y+1)=eT:=zk (aM0 _) (MRs.cj h.ρl hr);obtain⟨i,d,m,t,q,h2⟩:=u.eM (x:=.cP rs.flatten fz) (y:=.fX A.nx e) hb (λV' b l s=>⟨z rs,b.ν _ _ g,z Y,rs,fz,l,s,by simp,w8,(hr.D c).D b⟩);have j:=c.N d;have k:i.ν[A.nx]?=J (z rs):=d.ν _ _ g;have o:∀a:Fs,(∀f∈a,uH i.toVal f)->G PK O0 i {A.cv (.fX A.nx e)with nx:=A.nx+1,aa:=a++A.aa} E (Y++[.cP rs.flatten fz]):=by
  intro a
  induction a with
  |nil=>intro _;exact h2|cons f a w=>grind [G]
 refine⟨i,?_,o fs λf n=>hf f n _ j k,?_⟩;·have:=h.hC (V':=i) (x:=.cP rs.flatten fz) (y:=.fX A.nx e) j (by rw[q,p]);exact⟨this.le,this.wr,this.ls,this.aR,this.c⟩
 ·exact .fN _ _ _ (z Y) (z rs) k m
def G.kv (h:G PK O0 V A E Y) {l:P Sh} {cs:LA} (g:Ms V.toVal l cs):
  ∃V':Vo,Ch V A Y V' (A.cv (.cP l)) (Y++[.cP cs FZ])/\G PK O0 V' (A.cv (.cP l)) E (Y++[.cP cs FZ])/\M V'.toVal (.da (z A.X) 0) (.da (z Y) 0):=by
 obtain⟨j,b,d,i,e,h2⟩:=h.eM (x:=.cP cs FZ) (y:=.cP l) (zk (aM0 _) (Ms.cj h.ρl g)) (λV' a c f=>⟨z Y,cs,c,f,by simp,g.D a⟩);exact⟨j,h.hC b e,h2,.da _ _ _ d⟩
def ab3(h:G PK O0 V A E Y){m:Q}{k a w:T}{e:P Sh}(c:VH m A.X k a w=J e):wds e=w/\∃n,V.ν[a]?=J n/\(m=eF/\n=0/\V.ah[k]?=J []\/∃o rs fz,V.ρ[k]?=J (J o)/\V.ah[k]?=J [o]/\Y[o]?=J (.cP rs.flatten fz)/\z rs=n/\MRs V.toVal e rs):=by
 unfold VH at c;split at c
 ·rename_i b j f;split at c;·rename_i d;simp only[R,k9,aJ2]at d;cases c;obtain⟨⟨l,rfl⟩,i⟩:=d;obtain⟨n,g,h2⟩:=h.X _ _ f;grind
  ·cases c
 ·rename_i b j f;split at c;·rename_i d;simp only[R,k9]at d;cases c;obtain⟨rfl,i⟩:=d;obtain⟨n,g,h2⟩:=h.X _ _ f;exact⟨i,n,g,.inr h2⟩
  ·cases c
 ·cases c
end
def Qe{V:Val}{s:Sh}{k:IntKind}{v:AV}(h:isInt s=J k)(hv:M V s v):∃n,v=.cQ k n:=by cases s<;>simp[isInt]at h<;>subst h<;>cases hv<;>exact⟨_,w8⟩
def agp{V:Val}(b:V.ν[0]?=J 0){s:Sh}{a:T}{c:O}{v:AV}(h:lin s=J (a,c))(hv:M V s v):∃m:T,V.ν[a]?=J m/\v=.cQ r (m+c):=by
 cases s with
 |eS j d=>cases h;grind [M]|ic k n=>cases k<;>simp[lin]at h;grind [M]|_=>simp[lin]at h
def Jy{V:Val}{s:Sh}{v:AV}(h:Oe s=eT)(hv:M V s v):∃x,v=.cU x:=by cases s<;>simp[Oe]at h<;>cases hv<;>exact⟨_,w8⟩
def ayM(np:Q)(op:BinOp)(d:T)(c:Q)(k e:IntKind)(a b:O):CG np op d c (.cQ k a) (.cQ e b)=binOp op d c (.cQ k a) (.cQ e b):=ab7 ..
def bt(b:Q):(b==eT)=b:=by cases b<;>rfl
def bf(b:Q):(b==eF)= !b:=by cases b<;>rfl
def Zg(x:LU):oU x []=L ((z x:O)+0=((0:T):O)):=by rw[nU];cases x<;>simp;omega
def ZI(x:LU):oU [] x=L ((z x:O)+0=((0:T):O)):=by rw[nU];cases x<;>simp;omega
section
variable{V:Val}{F:Fs}
def Yw(b:V.ν[0]?=J 0)(c:∀f∈F,uH V f){x n a:T}(h:leN F x n=eT)(d:V.ν[x]?=J a):a<=n:=by have:=Qv b c _ _ _ _ _ _ h d b;omega
def JB(d:V.ν[0]?=J 0)(e:∀f∈F,uH V f){x y a b:T}{c:O}(h:le? F x c y=eT)(g:V.ν[x]?=J a)(hb:V.ν[y]?=J b):(a:O)+c<=b:=Qv d e _ _ _ _ _ _ h g hb
def OkB(V:Val)(u:Sh)(d:D AV):Prop:=∃v,d=J v/\M V u v
theorem apt(b:V.ν[0]?=J 0)(d:∀f∈F,uH V f){j:T}{c n:O}{m:T}(a:(leN F j LB&&small c&&small n)=eT)(e:V.ν[j]?=J m):IntKind.i64.wrap ((m:O)+(c+n))=m+(c+n):=by simp only[small,R,w9]at a;have:=Yw b d a.1.1 e;grind [LB,w64]
def au5(D:V.ν[0]?=J 0)(H:∀f∈F,uH V f)(np:Q){op:BinOp}{G:T}{A:Q}{x y u:Sh}{p q:AV}{k K:IntKind}(w:M V x p)(t:M V y q)(I:isInt x=J k)(B:isInt y=J K)(h:anE F op G A x y=J u):OkB V u (CG np op G A p q):=by
 obtain⟨a,rfl⟩:=Qe I w;obtain⟨b,rfl⟩:=Qe B t;rw[ayM];unfold anE at h;simp only[I,B]at h;have l:∀{i j:T} {c d:O},lin x=J (i,c)->lin y=J (j,d)->∃m o:T,V.ν[i]?=J m/\V.ν[j]?=J o/\a=m+c/\b=o+d:=λs h2=>by obtain⟨m,e1,e2⟩:=agp D s w;obtain⟨o,e3,e4⟩:=agp D h2 t;grind
 cases op
 case shl=>
  simp only at h;split at h
  ·split at h;·cases h;cases t;rw[V4,if_neg (by omega)];exact⟨_,w8,.cQ _ _⟩
   ·cases h
  ·cases h
 case shr=>
  simp only at h;split at h
  ·split at h;·cases h;cases t;rw[V5,if_neg (by omega)];exact⟨_,w8,.cQ _ _⟩
   ·cases h
  ·cases h
 all_goals
  simp only at h;split at h;·cases h
  rename_i C;simp at C;subst C
 case add=>
  rw[VO];split at h
  ·rename_i j c n;split at h;·rename_i v;cases h;cases w with|eS _ _ m e=>cases t;exact⟨_,w8,by rw[Int.add_assoc,apt D H v e];exact .eS _ _ _ e⟩
   ·cases h;exact⟨_,w8,.cQ _ _⟩
  ·rename_i n j c;split at h;·rename_i v;cases h;cases t with|eS _ _ m e=>cases w;exact⟨_,w8,by grind [apt,M]⟩
   ·cases h;exact⟨_,w8,.cQ _ _⟩
  ·split at h;·rename_i v;simp only[small,R,w9]at v;cases h;cases w;cases t;skip;exact⟨_,w8,by grind [w64,M]⟩
   ·cases h;exact⟨_,w8,.cQ _ _⟩
  ·cases h;exact⟨_,w8,.cQ _ _⟩
 case sub=>
  rw[Rn];split at h
  ·rename_i j c n;split at h
   ·rename_i v;cases h;cases w with|eS _ _ m e=>
     cases t;skip;simp only[small,R,w9]at v;have:=Yw D H v.1.1 e;simp only[LB]at this;exact⟨_,w8,by grind [w64,M]⟩
   ·cases h;exact⟨_,w8,.cQ _ _⟩
  ·split at h;·rename_i v;simp only[small,R,w9]at v;cases h;cases w;cases t;skip;exact⟨_,w8,by grind [w64,M]⟩
   ·cases h;exact⟨_,w8,.cQ _ _⟩
  ·cases h;exact⟨_,w8,.cQ _ _⟩
 case mul=>cases h;rw[VW];exact⟨_,w8,.cQ _ _⟩
 case and=>cases h;rw[VP];exact⟨_,w8,.cQ _ _⟩
 case or=>cases h;rw[aba];exact⟨_,w8,.cQ _ _⟩
 case xor=>cases h;rw[V7];exact⟨_,w8,.cQ _ _⟩
 case andNot=>cases h;rw[IY];exact⟨_,w8,.cQ _ _⟩
 case quo=>
  split at h
  ·split at h;·rename_i E;cases h;cases t;rw[VY,if_neg (by simpa using E)];exact⟨_,w8,.cQ _ _⟩
   ·cases h
  ·cases h
 case rem=>
  split at h
  ·split at h;·rename_i E;cases h;cases t;rw[VZ,if_neg (by simpa using E)];exact⟨_,w8,.cQ _ _⟩
   ·cases h
  ·cases h
 case eql=>
  rw[VQ];split at h
  ·rename_i i c j d s h2;obtain⟨m,o,e1,e2,rfl,rfl⟩:=l s h2;cases h;refine⟨_,w8,?_⟩;split;·rename_i g;subst g;rw[e1]at e2;cases e2;rw[show((m:O)+c==m+d)=(L (c=d)==KO .eql) by rw[aL3];simp only[k9,w9,KO];omega];exact .bc _
   ·have:((m:O)+c==o+d)=(L ((m:O)+(c-d)=o)==eT):=(by grind);rw[this];exact .gC _ _ _ _ _ _ e1 e2
  ·cases h;exact⟨_,w8,.cW _⟩
 case neq=>
  rw[VX];split at h
  ·rename_i i c j d s h2;obtain⟨m,o,e1,e2,rfl,rfl⟩:=l s h2;cases h;refine⟨_,w8,?_⟩;split;·rename_i g;subst g;rw[e1]at e2;cases e2;rw[show((m:O)+c !=m+d)=(L (c=d)==KO .neq) by rw[aL3];simp only[bne_iff_ne,ne_eq,k9,KO,N];omega];exact .bc _
   ·have:((m:O)+c !=o+d)=(L ((m:O)+(c-d)=o)==eF):=(by grind);rw[this];exact .gC _ _ _ _ _ _ e1 e2
  ·cases h;exact⟨_,w8,.cW _⟩
 case lss=>
  rw[VV];split at h
  ·rename_i i c j d s h2;obtain⟨m,o,e1,e2,rfl,rfl⟩:=l s h2;cases h;refine⟨_,w8,?_⟩;split;·rename_i g;subst g;rw[e1]at e2;cases e2;grind [M]
   ·rw[show L ((m:O)+c<o+d)=L ((m:O)+(c-d+1)<=o)from decide_eq_decide.mpr (by omega)];exact .gN _ _ _ _ _ e1 e2
  ·cases h;exact⟨_,w8,.cW _⟩
 case leq=>
  rw[VU];split at h
  ·rename_i i c j d s h2;obtain⟨m,o,e1,e2,rfl,rfl⟩:=l s h2;cases h;refine⟨_,w8,?_⟩;split;·rename_i g;subst g;rw[e1]at e2;cases e2;grind [M]
   grind [M]
  ·cases h;exact⟨_,w8,.cW _⟩
 case gtr=>
  rw[VT];split at h
  ·rename_i i c j d s h2;obtain⟨m,o,e1,e2,rfl,rfl⟩:=l s h2;cases h;refine⟨_,w8,?_⟩;split;·rename_i g;subst g;rw[e1]at e2;cases e2;grind [M]
   ·rw[show L ((m:O)+c>o+d)=L ((o:O)+(d-c+1)<=m)from decide_eq_decide.mpr (by omega)];exact .gN _ _ _ _ _ e2 e1
  ·cases h;exact⟨_,w8,.cW _⟩
 case geq=>
  rw[VS];split at h
  ·rename_i i c j d s h2;obtain⟨m,o,e1,e2,rfl,rfl⟩:=l s h2;cases h;refine⟨_,w8,?_⟩;split;·rename_i g;subst g;rw[e1]at e2;cases e2;grind [M]
   ·rw[show L ((m:O)+c>=o+d)=L ((o:O)+(d-c)<=m)from decide_eq_decide.mpr (by omega)];exact .gN _ _ _ _ _ e2 e1
  ·cases h;exact⟨_,w8,.cW _⟩
def amf{V:Val}:∀{l m:P Sh} {c:T},ahV c l m=eT->∀{v w:LA},Ms V l v->Ms V m w->∃b,ny c v w=J b
 |[],[],c,_,v,w,a,h2=>by cases a;cases h2;exact⟨eT,by unfold ny;rfl⟩
 |[],_::_,c,h,v,w,_,_=>by simp[ahV]at h
 |_::_,[],c,h,v,w,_,_=>by simp[ahV]at h
 |s::l,t::m,c,h,v,w,a,h2=>by
  simp only[ahV,R]at h;obtain⟨⟨⟨i,j⟩,h3⟩,h4⟩:=h;obtain⟨x,o,rfl,x1,a⟩:=a.c1 i;obtain⟨y,u,rfl,f,h2⟩:=h2.c1 j;obtain⟨b,hb⟩:=amf h4 a h2;split at h3;·rename_i d;rw[R]at h3;obtain⟨p,rfl⟩:=Jy h3.1 x1;obtain⟨q,rfl⟩:=Jy h3.2 f;exact⟨_,by unfold ny;rw[j0 d,hb];rfl⟩
  ·split at h3;·rename_i d;rw[R]at h3;obtain⟨p,rfl⟩:∃p,x=.cW p:=(by cases s<;>simp[ahV.fy]at h3<;>cases x1<;>exact⟨_,w8⟩);obtain⟨q,rfl⟩:∃p,y=.cW p:=(by cases t<;>simp[ahV.fy]at h3<;>cases f<;>exact⟨_,w8⟩);exact⟨_,by unfold ny;rw[j0 d,hb];rfl⟩
   ·split at h3;·rename_i k n g e;rw[k9]at h3;subst h3;obtain⟨p,rfl⟩:=Qe g x1;obtain⟨q,rfl⟩:=Qe e f;exact⟨_,by unfold ny;rw[j0 ⟨by omega,w8⟩,hb];rfl⟩
    ·cases h3
def amg{op:BinOp}(h:op=.eql\/op=.neq)(b:Q):zQ op (J b)=J (.cW (b==KO op)):=by rcases h with rfl|rfl<;>cases b<;>rfl
def au6(t:V.ν[0]?=J 0)(D:∀f∈F,uH V f)(np:Q){op:BinOp}{o:T}{c:Q}{x y u:Sh}{p q:AV}(d:M V x p)(g:M V y q)(h:anE F op o c x y=J u):OkB V u (CG np op o c p q):=by
 cases C:isInt x with
 |some k=>
  cases B:isInt y with
  |some H=>exact au5 t D np d g C B h|none=>exfalso;unfold anE at h;simp only[C,B]at h;cases x<;>simp[isInt,Oe]at C h<;>(cases op<;>first|(simp at h;done)|(unfold auk at h;split at h<;>first|(cases h;done)|simp_all))
 |none=>
  unfold anE at h;simp only[C]at h;split at h
  ·rename_i hs;rw[R]at hs;obtain⟨a,rfl⟩:=Jy hs.1 d;obtain⟨b,rfl⟩:=Jy hs.2 g;rw[ab8,V6];cases op<;>simp only at h
   case eql=>
    split at h;·cases h;cases d with|fp i s e=>cases g;exact⟨_,w8,by rw[Zg,<-bt (L _)];exact .gC _ _ _ _ _ _ e t⟩
    ·cases h;cases g with|fp i s e=>cases d;exact⟨_,w8,by rw[ZI,<-bt (L _)];exact .gC _ _ _ _ _ _ e t⟩
    ·cases h;exact⟨_,w8,.cW _⟩
   case neq=>
    split at h;·cases h;cases d with|fp i s e=>cases g;exact⟨_,w8,by rw[Zg,<-bf];exact .gC _ _ _ _ _ _ e t⟩
    ·cases h;cases g with|fp i s e=>cases d;exact⟨_,w8,by rw[ZI,<-bf];exact .gC _ _ _ _ _ _ e t⟩
    ·cases h;exact⟨_,w8,.cW _⟩
   case lss=>cases h;exact⟨_,w8,.cW _⟩
   case leq=>cases h;exact⟨_,w8,.cW _⟩
   case gtr=>cases h;exact⟨_,w8,.cW _⟩
   case geq=>cases h;exact⟨_,w8,.cW _⟩
   all_goals cases h
  ·have j:op=.eql\/op=.neq:=(by cases op<;>simp at h<;>simp);have h:auk (KO op) c o x y=J u:=(by rcases j with rfl|rfl<;>exact h);have fin:∀b:Q,u=.bc (if b then KO op else !KO op)->CG np op o c p q=zQ op (J b)->OkB V u (CG np op o c p q):=λb G hb=>by rw[hb,amg j];refine⟨_,w8,?_⟩;grind [KO,M]
   unfold auk at h;split at h
   ·rename_i n l m _ _;split at h
    ·rename_i A;rw[R,k9]at A;cases h;obtain⟨v,rfl,hv⟩:∃w,p=.cX w/\Ms V l w:=(by grind [M]);obtain⟨w,rfl,E⟩:∃w,q=.cX w/\Ms V m w:=(by grind [M]);obtain⟨b,hb⟩:=amf A.2 hv E;rw[ab6,IZ];have:eqA (n+8) c (.cX v) (.cX w)=J b:=by show(if z v=n%1024 then ny (n/1024) v w else U)=_;rw[j0 (by rw[hv.dt,A.1]),hb]
     rw[this,amg j];exact⟨_,w8,.cW _⟩
    ·cases h
   ·simp at h;subst h;cases d;cases g;refine fin eT (by simp) ?_;rw[VL,Gm];rfl
   ·simp at h;subst h;cases d;cases g;refine fin eF (by simp) ?_;rw[Yf,E5];rfl
   ·simp at h;subst h;cases d;cases g;refine fin eF (by simp) ?_;rw[Yf,E5];rfl
   ·simp at h;subst h;cases d;cases g;refine fin eF (by simp) ?_;rw[VK,Gl];rfl
   ·split at h;·rename_i A;simp at h;subst h;cases d;cases g;refine fin eT (by simp) ?_;rw[Gi,yL];show zQ op (if c=eT then J eT else U)=_;rw[j0 A]
    ·cases h
   ·simp at h;subst h;cases d;cases g;refine fin eF (by simp) ?_;rw[PP,DV];rfl
   ·simp at h;subst h;cases d;cases g;refine fin eT (by simp) ?_;rw[VM,Gn];rfl
   ·cases h
def ayx{op:UnOp}{x u:Sh}{p:AV}(g:M V x p)(h:ayw op x=J u):OkB V u (unOp op p):=by
 unfold ayw at h;split at h<;>cases h<;>cases g;·exact⟨_,w8,.bc _⟩
 ·exact⟨_,w8,.cW _⟩
 ·rename_i a b e f;refine⟨_,w8,?_⟩;rename_i x c y;rw[show(!decide ((a:O)+c<=b))=L ((b:O)+(1-c)<=a) by
   grind]
  exact .gN _ _ _ _ _ f e
 ·rename_i a b e f;refine⟨_,w8,?_⟩;rename_i d x c y;rw[show(!(L ((a:O)+c=b)==d))=(L ((a:O)+c=b)== !d) by grind];exact .gC _ _ _ _ _ _ e f
end
section
variable{V:Val}{v:AV}
def az3{b}(h:M V (.bc b) v):v=.cW b:=by cases h;rfl
def Xh{k off}(h:M V (.da k off) v):∃o,V.ρ[k]?=J (J o)/\v=.da o off:=by grind [M]
def az4{k}(h:M V (.pk k) v):∃o,V.ρ[k]?=J (J o)/\v=.da o 0:=by grind [M]
def aqC{k}(h:M V (.dz k) v):∃o,V.ρ[k]?=J (J o)/\v=.dz o:=by grind [M]
def agc{off l}(h:M V (.ec off l) v):∃w d,v=.ec ((w++d).drop off)/\Ms V l w/\off<=z w/\ae 0 d=eT:=by grind [M]
def amu{t s}(h:M V (.dx t s) v):∃w,v=.dx t w/\M V s w:=by grind [M]
def aqB{f x y}(h:M V (.dv f x y) v):∃a b,v=.dv f a b/\Mt V x a/\Mt V y b:=by grind [M]
def auB{k n}(h:M V (.ic k n) v):v=.cQ k n:=by cases h;rfl
def aw4{l}(h:M V (.cX l) v):∃w,v=.cX w/\Ms V l w:=by grind [M]
def aqG{l}(h:M V (.de l) v):∃w,v=.de w/\Mt V l w:=by grind [M]
def aAh(h:M V .jv v):∃w,v=.cX w/\Ms V [.jv] w:=by cases h with|jv j=>exact⟨j.B,w8,by have:=Ms.jv (V:=V) [] j [] .db;rwa[f]at this⟩
def az5{i e}(h:M V (.sl i e) v):∃rs,v=.sl (z rs) rs.flatten/\V.ν[i]?=J (z rs)/\MRs V e rs:=by grind [M]
def aw5{i}(h:M V (.gM i) v):∃is:P JV,v=.sl (z is) (aO is)/\V.ν[i]?=J (z is):=by grind [M]
def aqF{i}(h:M V (.fp i) v):∃s,v=.cU s/\V.ν[i]?=J (z s):=by grind [M]
def aqH{n e}(h:M V (.eB n e) v):∃l,v=.eB n l/\Ms V e l:=by grind [M]
def aqE{n e}(h:M V (.fY n e) v):∃l,v=.sl n l/\Ms V e l:=by grind [M]
def aqD(h:M V .cY v):v=.cY:=by cases h;rfl
def aw3{k a e}(h:M V (.fW k a e) v):∃n,V.ν[a]?=J n/\(v=.cY/\n=0\/∃o,v=.dj o 0 n (wds e)/\0<n/\V.ρ[k]?=J (J o)):=by grind [M]
def aku{k a e}(h:M V (.fN k a e) v):∃n o,V.ν[a]?=J n/\v=.dj o 0 n (wds e)/\V.ρ[k]?=J (J o):=by grind [M]
def Mt.g5:∀{l:P Sh} {w:LA},Mt V l w->l.all Sh.ef=eT->Ms V l w|_,_,.db,_=>.db|_,_,.cV s t v b a h2,h=>by rw[a08,R]at h;exact .ef _ _ _ _ h.1 a (Mt.g5 h2 h.2)
def Mt.cd:∀{l:P Sh} {w:LA},Mt V l w->∀{i:T} {s:Sh},l[i]?=J s->∃x,w[i]?=J x/\M V s x
 |_,_,.db,i,s,h=>by simp at h
 |_,_,.cV s t v b a h2,0,c,h=>by grind
 |_,_,.cV s t v b a h2,i+1,c,h=>by simpa using Mt.cd h2 (by simpa using h)
theorem Mt.dt:∀{l:P Sh} {w:LA},Mt V l w->z w=z l|_,_,.db=>w8|_,_,.cV s t v b a h2=>by simp[Mt.dt h2]
def Mt.eD:∀{l m:P Sh} {v w:LA},Mt V l v->Mt V m w->Mt V (l++m) (v++w)|_,_,_,_,.db,h=>h|_,_,_,_,.cV s t v b x y,h=>.cV s _ v _ x (y.eD h)
end
section
variable{C:Ctx}{X:Cfg}{PK:PkI}{O0:Frm}{V:Vo}{A:Ab}{E:As}{Y:St}
def Res(PK:PkI)(O0:Frm)(V:Vo)(A:Ab)(E:As)(Y:St)(d:D (AV×St))(s:Sh)(A':Ab):Prop:=∃(v:AV) (b:St) (a:Vo),d=J (v,b)/\Ch V A Y a A' b/\G PK O0 a A' E b/\M a.toVal s v
def Res.bk(h:G PK O0 V A E Y){d:D (AV×St)}{v:AV}{s:Sh}(hr:d=J (v,Y))(a:M V.toVal s v):Res PK O0 V A E Y d s A:=⟨v,Y,V,hr,.ax,h,a⟩
def Res.cP(h:G PK O0 V A E Y){d:D (AV×St)}{l:P Sh}{cs:LA}(hr:d=J (.da (z Y) 0,Y++[.cP cs FZ]))(c:Ms V.toVal l cs):Res PK O0 V A E Y d (.da (z A.X) 0) (A.cv (.cP l)):=by obtain⟨a,b,h2,h3⟩:=h.kv c;exact⟨_,_,a,hr,b,h2,h3⟩
theorem Res.hE(h:G PK O0 V A E Y){l:P Sh}{v:LA}(d:Ms V.toVal l v){f:D (AV×St)}{s:Sh}{A':Ab}(hr:∀V':Vo,V.toVal.le V'.toVal->G PK O0 V' (opened A l).2 E Y->Ms V'.toVal (opened A l).1 v->Res PK O0 V' (opened A l).2 E Y f s A'):Res PK O0 V A E Y f s A':=by obtain⟨V',a,h2,h3,h4,h5⟩:=aeO h d;obtain⟨w,c,b,e1,e2,e3,e4⟩:=hr V' a h4 h5;exact⟨w,c,b,e1,(Ch.ng (A':=(Ev.opened A l).2) h a h2 w8 w8 w8 w8).N e2,e3,e4⟩
def Res.cJ(h:G PK O0 V A E Y){d:D (AV×St)}{e:P Sh}{rs:P LA}{fz:Fz}{sz:T}(hr:d=J (.dj (z Y) 0 (z rs) sz,Y++[.cP rs.flatten fz]))(c:wds e=sz)(b:MRs V.toVal e rs){fs:Fs}(hf:∀f∈fs,∀V':Val,V.toVal.le V'->V'.ν[A.nx]?=J (z rs)->uH V' f):Res PK O0 V A E Y d (A.cJ e fs).1 (A.cJ e fs).2:=by obtain⟨V',a,h2,h3⟩:=h.lk (fz:=fz) b hf;subst c;exact⟨_,_,V',hr,a,h2,h3⟩
def Res.hp(h:G PK O0 V A E Y){k:T}{i:D (AV×St)}{s:Sh}{A':Ab}(hr:∀V':Vo,V'.toVal=V.toVal->(∀a,V.ah[k]?=J a->∀o∈a,∀(j:T) b,V'.ah[j]?=J b->o∉b)->G PK O0 V' (A.b7 k .em) E Y->Res PK O0 V' (A.b7 k .em) E Y i s A'):Res PK O0 V A E Y i s A':=by
 obtain⟨w,d,c,e1,e2,e3,e4⟩:=hr ⟨V.toVal,V.ah.set k []⟩ w8 (λa f o g j b hb e=>by
  grind [G]) (h.hp k)
 exact⟨w,d,c,e1,(Ch.hp k).N e2,e3,e4⟩
def Res.hR(h:G PK O0 V A E Y){o:T}{x:AO}(b:∀(k:T) a,V.ah[k]?=J a->o∉a)(e:O0.I<=o\/o∈O0.w)(f:x.below (z Y)=eT){i:D (AV×St)}{s:Sh}{A':Ab}(hr:G PK O0 V A E (Y.set o x)->Res PK O0 V A E (Y.set o x) i s A'):Res PK O0 V A E Y i s A':=by obtain⟨w,d,c,e1,e2,e3,e4⟩:=hr (h.hR b e f);exact⟨w,d,c,e1,(Ch.hR b).N e2,e3,e4⟩
def avF (h:G PK O0 V A E Y) {sz:T} {x:Sh} {v:AV} (q:M V.toVal x v) {u:P Sh} {A':Ab} (hs:ayj A sz x=J (u,A')):isStr v=eF/\∃cs,lJ Y sz v=J (1,cs)/\Ms V.toVal u cs/\z cs=sz/\
  (A'=A\/∃k,A'=A.b7 k .em):=by
 unfold ayj at hs;split at hs
 ·rename_i m K;split at hs;·rename_i b;simp only[R,k9]at b;cases hs;obtain⟨rfl,rfl⟩:=b;obtain⟨l,rfl,i⟩:=aqH q;have:=i.dt;refine⟨w8,l,?_,i,this,.inl w8⟩;simp only[lJ,jU];rw[j0 (by omega)]
  ·cases hs
 ·rename_i k a e;split at hs
  ·rename_i B w;split at hs
   ·rename_i b;simp only[R,k9]at b;obtain⟨⟨d,f⟩,s⟩:=b;cases hs;obtain⟨n,o,j,rfl,y⟩:=aku q;obtain⟨F,H,c,t⟩:=ab3 h w;rw[j]at c;cases c;have D:=JB h.ab h.aa d h.ab j;have h2:=Yw h.ab h.aa f j;have p:n=1:=(by omega);subst p;rcases t with⟨_,h3,_⟩|⟨I,rs,C,h3,h4,h5,h6,h7⟩;·omega
    ·rw[y]at h3;cases h3;obtain⟨N,rfl⟩:∃N,rs=[N]:=(by grind [MRs]);cases h7 with|cV _ _ _ hr _=>have i:=hr.dt;have g:[N].flatten=N:=(by simp);rw[g]at h5;refine⟨w8,N,?_,hr,by omega,.inr ⟨k,w8⟩⟩;simp only[lJ,jU,h5];grind
   ·cases hs
  ·cases hs
 ·cases hs
def MRs.ef{V:Val}{e:P Sh}{d:LA}(h:Ms V e d):MRs V e [d]:=.cV _ _ _ h (.db _)
def Sb.lr{V:Val}{F:Fs}(b:V.ν[0]?=J 0)(d:∀f∈F,uH V f):Sb F [] [] V V:=⟨b,d,λj i c a=>by simp[Ep]at a,λk e o a=>by simp[eqO]at a⟩
theorem Sb.gE{V W:Val}{F:Fs}(b:V.ν[0]?=J 0)(d:∀f∈F,uH V f):Sb F [] [] V W:=⟨b,d,λj i c a=>by simp[Ep]at a,λk e o a=>by simp[eqO]at a⟩
def wrA(A:Ab)(l:P T):G PK O0 V A E Y->G PK O0 V {A with wr:=l} E Y:=λh=>⟨h.aR,h.lν,h.lρ,h.lo,h.ab,h.aa,h.X,h.ez,h.dg,h.ρl,h.b3,h.ok⟩
def alQ(h:G PK O0 V A E Y){sz bytes:Nat}{u:List Sh}{cs:LA}(X:Ms V.toVal u cs)(hl:z cs=sz)(I:bytes<=8192){s:Sh}{v:AV}(hv:M V.toVal s v){C:Sh}{A':Ab}(hs:atZ A sz u s=J (C,A')):Res PK O0 V A E Y (uD Y sz bytes U v 1 cs) C A':=by
 have aa:1*bytes<=70368744177664:=by omega
 have d:∀(m:Bool) (k a:Nat) (e0:List Sh),(∃n,V.ν[a]?=J n/\(v=.cY/\n=0\/∃o,v=.dj o 0 n (wds e0)/\(m=eF->0<n)/\V.ρ[k]?=J (J o)))->(match VH m A.X k a (wds e0)with|J e=>if leN A.aa a LB&&subs A.aa [] [] e u&&wds e==sz then J ((A.b7 k .em).cJ e [(A.nx,-1,a),(a,1,A.nx)])else U|U=>U)=J (C,A')->Res PK O0 V A E Y (uD Y sz bytes U v 1 cs) C A':=by
  rintro mm k a e0 ⟨n,l,hv⟩ hs;split at hs
  ·rename_i e hk;split at hs
   ·rename_i j;simp only[a02,k9]at j;obtain⟨⟨K,L⟩,g⟩:=j;cases hs;have O:=Yw h.ab h.aa K l;simp only[LB]at O;have t:Ms V.toVal e cs:=Ip (Sb.lr h.ab h.aa) X L;obtain⟨hw,n',w,hh⟩:=ab3 h hk;rw[l]at w;cases w;have ab:(n+1)*bytes<=70368744177664:=by have:=Nat.mul_le_mul (show n+1<=4294967297 by omega) I;omega
    refine Res.hp h (k:=k) λD H N P=>?_;have B:D.ν[a]?=J n:=(by grind);have b:∀{rs:List LA},MRs V.toVal e rs->MRs D.toVal e rs:=λhr=>H▸hr;have facts:∀m:Nat,m=n+1->∀f∈[(A.nx,-1,a),(a,1,A.nx)],∀W:Val,D.toVal.le W->W.ν[A.nx]?=J m->uH W f:=λm S f hf W i q=>by
     have R:=i.ν _ _ B;simp only[aC8,aI5,j7]at hf;rcases hf with rfl|rfl;·exact⟨m,n,q,R,by simp;omega⟩
     ·exact⟨n,m,R,q,by simp;omega⟩
    rcases hv with⟨rfl,rfl⟩|⟨o,rfl,y,ho⟩;·refine Res.cJ (rs:=[cs]) (fz:=FZ) (sz:=sz) P ?_ g (b (MRs.ef t)) (facts _ w8);unfold uD;grind
    ·rcases hh with⟨S,rfl,T⟩|⟨o',rs,p,h3,h4,h5,h6,h7⟩;·exact absurd (y S) (by omega)
     ·rw[ho]at h3;cases h3;have ac:z rs.flatten=n*sz:=(by rw[h7.dt,h6,g]);have c:=h.dg k _ h4 o (by simp);refine Res.hR P (N _ h4 o (by simp)) c.1 (x:=.em) w8 λF=>?_;refine Res.cJ (rs:=rs++[cs]) (fz:=⟨p.b,if p.t=U then U else U⟩) (sz:=sz) F ?_ g (b (h7.eD (MRs.ef t))) (facts _ (by simp[h6]));unfold uD;grind
   ·cases hs
  ·cases hs
 cases s with
 |cY=>
  cases aqD hv;simp only[atZ]at hs;split at hs
  ·rename_i j;simp only[a02,k9]at j;cases hs;refine Res.cJ (rs:=[cs]) (fz:=FZ) (sz:=sz) h ?_ j.2 (MRs.ef (Ip (Sb.lr h.ab h.aa) X j.1)) ?_;·unfold uD;grind
   ·intro f hf W i q;simp only[aC8,aI5,j7]at hf;have Q:=i.ν _ _ h.ab;rcases hf with rfl|rfl;·exact⟨_,_,q,Q,by simp⟩
    ·exact⟨_,_,Q,q,by simp⟩
  ·cases hs
 |fW k a e=>
  obtain⟨n,l,hv⟩:=aw3 hv;exact d eF k a e ⟨n,l,by
   grind⟩ hs
 |fN k a e=>obtain⟨n,o,l,Z,h2⟩:=aku hv;exact d eT k a e ⟨n,l,.inr ⟨o,Z,(λhf=>by cases hf),h2⟩⟩ hs
 |_=>simp[atZ]at hs
end
def axU{ag:Q}{sz:T}{a b:LA}{x:AV}(h:pt ag sz a=J x):pt ag sz (a++b)=J x:=by unfold pt at h⊢;grind
def Xk:∀(is:P JV) (i:T),i<z is->∃j,is[i]?=J j/\(aO is).drop (i*5)=j.B++aO (is.drop (i+1))
 |[],i,h=>by simp at h
 |j::is,0,h=>⟨j,w8,by simp[aO]⟩|j::is,i+1,h=>by obtain⟨b,a,h2⟩:=Xk is i (by simpa using h);refine⟨b,by simpa using a,?_⟩;rw[aO,show(i+1)*5=z j.B+i*5 by rw[j.dt];omega,List.drop_append,aK9 (by omega)];simpa using h2
section
variable{C:Ctx}{X:Cfg}{PK:PkI}{O0:Frm}{V:Vo}{A:Ab}{E:As}{Y:St}
def VC(C:Ctx)(X:Cfg):Prop:=∀t m f,X.mt t m=J f->∀v,methodOf C.P t v m=J (f,v)
def JU(C:Ctx)(X:Cfg)(PK:PkI)(O0:Frm):Prop:=∀(V:Vo) (A:Ab) (E:As) (Y:St) (f:FuncId) (c:P Sh) (a:LA) (s:Sh) (b:Ab),G PK O0 V A E Y->Mt V.toVal c a->ab1 X A f c=J (s,b)->Res PK O0 V A E Y (ai C f a Y) s b
def Res.ev(h:G PK O0 V A E Y){d:D (AV×St)}{s:Sh}(hr:OkB V.toVal s (d.map (·.1)))(hs:∀p,d=J p->p.2=Y):Res PK O0 V A E Y d s A:=by
 obtain⟨v,a,h2⟩:=hr;cases d with
 |none=>cases a|some p=>cases a;exact Res.bk h (by rw[<-hs p w8]) h2
def Rf{V:Val}{s:Sh}{n:T×O}{v:AV}(a:V.ν[0]?=J 0)(c:lin s=J n)(hv:M V s v):∃m:T,V.ν[n.1]?=J m/\(0<=(m:O)+n.2->uq v=J ((m:O)+n.2).toNat):=by obtain⟨m,b,rfl⟩:=agp a c hv;refine⟨m,b,λh=>?_⟩;simp only[uq,j0 h]
def aj3 (h:G PK O0 V A E Y) {n c:T×O} {e:P Sh} {j:Sh} {A':Ab} (hr:rowAt A n c e=J (j,A')) {m k:T} (i:V.ν[n.1]?=J m) (p:V.ν[c.1]?=J k):
  cls e=eT/\0<=(m:O)+n.2/\(m:O)+n.2<k+c.2/\∀(w x:LA),Ms V.toVal e w->ae 0 x=eT->∀q,q=J (AV.ec (w++x),Y)->Res PK O0 V A E Y q j A':=by
 unfold rowAt at hr;split at hr
 ·rename_i g;simp only[R]at g;obtain⟨⟨a,b⟩,d⟩:=g;have v:=JB h.ab h.aa b h.ab i;have h2:=JB h.ab h.aa d i p;refine⟨a,by omega,by omega,λw x u hb q t=>?_⟩
  cases hr;refine Res.hE h u λl s o f=>?_;exact Res.bk o t (by
   have:=M.ec (V:=l.toVal) 0 (Ev.opened A e).1 w x f (by omega) hb;rwa[aB8]at this)
 ·cases hr
def find_ok{V:Val}{w:Sh}(x:LU):∀(a:P (AV×AV)) (i:T),(∀p∈a,(∃s,p.1=.cU s)/\M V w p.2)->oM (.cU x) a i=J U\/∃j v,oM (.cU x) a i=J (J (j,v))/\M V w v
 |[],i,_=>.inl w8
 |(c,v)::a,i,h=>by
  obtain⟨⟨s,hs⟩,hv⟩:=h (c,v) (by simp);dsimp only at hs hv;subst hs;unfold oM ac5;dsimp only;cases hb:oU x s with
  |true=>exact .inr ⟨i,v,w8,hv⟩|false=>exact find_ok x a (i+1) (λp b=>h p (by simp[b]))
def axd{V:Val}{w:Sh}{a:P (AV×AV)}(h:∀p∈a,(∃s,p.1=.cU s)/\M V w p.2){i:T}{x:LU}{v:AV}(hv:M V w v):∀p∈a.set i (.cU x,v),(∃s,p.1=.cU s)/\M V w p.2:=λp b=>by grind
def axc{V:Val}{w:Sh}{a:P (AV×AV)}(h:∀p∈a,(∃s,p.1=.cU s)/\M V w p.2){x:LU}{v:AV}(hv:M V w v):∀p∈a++[(.cU x,v)],(∃s,p.1=.cU s)/\M V w p.2:=λp b=>by grind
theorem abp{N:T}:∀(a:P (AV×AV)),(∀p∈a,(∃s,p.1=.cU s)/\g N p.2=eT)->AO.below N (.dz a)=eT|[],_=>w8|(k,v)::a,h=>by have b:=abp a (λp c=>h p (by simp[c]));obtain⟨⟨s,hs⟩,hv⟩:=h (k,v) (by simp);dsimp only at hs hv;subst hs;simp only[AO.below,R]at b⊢;simp only[aC9,ae,b.1,b.2,hv,aE1];exact⟨w8,trivial⟩
def Res.kk(h:G PK O0 V A E Y){k o:T}{w:Sh}(e:A.X[k]?=J (.dz w))(f:V.ρ[k]?=J (J o)){c:P (AV×AV)}(b:∀p∈c,(∃s,p.1=.cU s)/\M V.toVal w p.2){q:D (AV×St)}(t:q=J (AV.dT,Y.set o (.dz c))):Res PK O0 V A E Y q .dT (A.b7 k (.dz w)):=by
 obtain⟨v,i,d,h2,h3,h4⟩:=h.X _ _ e;rw[f]at d;cases d;have m:=(a00.mp e).1;have hb:AO.below (z Y) (.dz c)=eT:=abp c λp g=>⟨(b p g).1,M.aL h.ρl (b p g).2⟩;have a:=h.dg k _ h2 o (by simp);have h5:=h.cg (y:=.dz w) m h2 hb ⟨o,c,f,h2,by rw[aH0 a.2],b⟩;refine⟨.dT,_,V,t,⟨.cx,λj hj=>by simp[Ab.b7,hj],w8,w8,λj l hj u=>?_⟩,wrA _ _ h5,.dT⟩;simp only[Ab.b7,aC8,not_or]at u;refine⟨?_,w8,λ_ v _ n=>?_⟩;·simp only[Ab.b7];grind
 grind [G]
def Res.kT(h:G PK O0 V A E Y){k o:T}{l c:P Sh}(e:A.X[k]?=J (.cP l))(f:V.ρ[k]?=J (J o)){cs:LA}(b:Ms V.toVal c cs){q:D (AV×St)}(n:q=J (AV.dT,Y.set o (.cP cs FZ))):Res PK O0 V A E Y q .dT (A.b7 k (.cP c)):=by
 obtain⟨s,g,d,h2,h3,h4⟩:=h.X _ _ e;rw[f]at d;cases d;have i:=(a00.mp e).1;have a:=h.dg k _ h2 o (by simp);have h5:=h.cg (x:=.cP cs FZ) (y:=.cP c) i h2 (Ms.cj h.ρl b) ⟨o,cs,f,h2,by rw[aH0 a.2],b⟩;refine⟨.dT,_,V,n,⟨.cx,λj hj=>by simp[Ab.b7,hj],w8,w8,λj l hj p=>?_⟩,wrA _ _ h5,.dT⟩;simp only[Ab.b7,aC8,not_or]at p;refine⟨?_,w8,λ_ s _ m=>?_⟩;·simp only[Ab.b7];grind
 grind [G]
end
section
variable{C:Ctx}{X:Cfg}{PK:PkI}{O0:Frm}{V:Vo}{A:Ab}{E:As}{Y:St}
def MRs.cB{V:Val}{e:P Sh}:∀{rs:P LA},MRs V e rs->∀d,MRs V e (rs.drop d)|_,h,0=>h|_,.db _,_+1=>.db _|_,.cV _ f rs x y,d+1=>y.cB d
def map_ok{c:Type}{o:D c}{b:Sh}{A':Ab}{f:c->Sh×Ab}(h:o.map f=J (b,A')):∃a,o=J a/\f a=(b,A'):=by simp_all
def auf(h:G PK O0 V A E Y){op:BinOp}{x y:Sh}{p q:AV}(v:M V.toVal x p)(w:M V.toVal y q){np:Q}{n:T}{b:Q}{s:Sh}{A':Ab}(a:aq1 A op x y=J (s,A')){call:bY}{N:D (AV×St)}(hr:N=opR call ((CG np op n b p q).map (.ev · Y))):Res PK O0 V A E Y N s A':=by
 unfold aq1 at a;split at a
 ·rename_i i c j d;split at a
  ·rename_i k;simp only[small,R,w9]at k;obtain⟨⟨⟨q1,q2⟩,q3⟩,q4⟩:=k;cases a;cases v with
   |eS _ _ m e=>
    cases w with
    |eS _ _ B g=>have u:=Yw h.ab h.aa q1 e;have h2:=JB h.ab h.aa q4 g e;simp only[LB]at u;obtain⟨l,l1,e1,C,o⟩:=h.eS (((m:O)+c-(B+d)).toNat);have t:=o.ho (f:=(A.nx,d-c,i)) ⟨_,m,e1,l1.ν _ _ e,by simp only;omega⟩;refine⟨_,Y,l,?_,Ch.ng h l1 C w8 w8 w8 w8,t,.eS _ 0 _ e1⟩;rw[hr,ayM,Rn,w64 (by omega) (by omega)];show J (AV.cQ r _,Y)=_;congr 3;omega
  ·cases a
 ·cases a
def awS(B:LY C X)(be:VC C X)(Z:JU C X PK O0)(h:G PK O0 V A E Y){n:Nat}{i:XI}{s:Sh}{A':Ab}(hi:abI X n A i=J (s,A')):Res PK O0 V A E Y (opR (ai C) (aF C (avA C E) n Y i)) s A':=by
 cases i with
 |mv x=>obtain⟨s',H,e⟩:=map_ok hi;cases e;exact .bk h w8 (dE B h H)
 |fe c x y=>
  simp only[abI]at hi;split at hi;·rename_i b hb;have hc:=az3 (dE B h hb);obtain⟨s',H,e⟩:=map_ok hi;cases e;rw[aF.eq_2,hc];cases b with|true=>exact .bk h w8 (dE B h (by simpa using H))|false=>exact .bk h w8 (dE B h (by simpa using H))
  ·cases hi
 |eM z ty=>
  cases ty with
  |some _=>cases hi
  |none=>
   simp only[abI]at hi;split at hi
   ·rename_i l R;split at hi;·rename_i T;cases hi;exact .cP h w8 ((SX z R).g5 T)
    ·cases hi
   ·cases hi
 |jp x=>
  simp only[abI]at hi;split at hi
  ·rename_i s' H;split at hi;·rename_i l R;cases hi;exact .hE h (Yj (dE B h H) R) λV' P h' L=>.cP h' w8 L
   ·cases hi
  ·cases hi
 |gD k d S x=>cases hi|gP=>cases hi
 |hZ z ps=>
  simp only[abI]at hi;split at hi
  ·rename_i l R;split at hi;·rename_i T;obtain⟨cB,hr,e⟩:=map_ok hi;cases e;obtain⟨w,L,F⟩:=abM B h ((SX z R).g5 T) hr;rw[aF.eq_5,L];exact .bk h w8 (U9 F)
   ·cases hi
  ·cases hi
 |gL z m S ps=>
  simp only[abI]at hi;split at hi
  ·rename_i l R;split at hi
   ·rename_i T;split at hi
    ·rename_i u hu;obtain⟨w,L,F⟩:=abM B h (an2 ((SX z R).g5 T) m) hu;split at hi
     ·rename_i hz;rw[k9]at hz;rw[aF.eq_6,L];dsimp only;rw[j0 (by rw[F.dt,hz])];split at hi
      ·rename_i N;rw[N];split at hi
       ·rename_i hc;simp only[a02,k9]at hc;obtain⟨⟨rfl,aM⟩,aR⟩:=hc;cases hi;refine .cJ (rs:=[w]) (fz:=FZ) (sz:=S) h ?_ aR (MRs.ef (Ip (Sb.lr h.ab h.aa) F aM)) ?_;·simp[Es,opR]
        ·intro f hf W P hW;simp only[aC8,aI5,j7]at hf;have h0:=P.ν _ _ h.ab;rcases hf with rfl|rfl;·exact⟨_,_,hW,h0,by simp⟩
         ·exact⟨_,_,h0,hW,by simp⟩
       ·cases hi
      ·rename_i N;cases hi;rw[Bool.not_eq_true]at N;rw[N];exact .bk h w8 (.eB _ _ _ F)
     ·cases hi
    ·cases hi
   ·cases hi
  ·cases hi
 |iv ag S x=>
  simp only[abI]at hi;split at hi
  ·rename_i k off D;obtain⟨o,N,g⟩:=Xh (dE B h D);rw[aF.eq_7,g];dsimp only;split at hi;·rename_i l R;obtain⟨s',H,e⟩:=map_ok hi;cases e;obtain⟨o',cs,O,h2,h3,h4⟩:=h.X _ _ R;rw[N]at O;cases O;obtain⟨y,hy,F⟩:=Xr h4 H;rw[h3];dsimp only;rw[hy];exact .bk h w8 F
   ·rename_i l R;obtain⟨s',H,e⟩:=map_ok hi;cases e;obtain⟨o',cs,fz,O,h2,hN,h3,h4⟩:=h.X _ _ R;rw[N]at O;cases O;obtain⟨y,hy,F⟩:=Xr h4 H;rw[h3];dsimp only;rw[hy];exact .bk h w8 F
   ·cases hi
  ·rename_i off l D;obtain⟨w,cB,g,F,P,hb⟩:=agc (dE B h D);obtain⟨s',H,e⟩:=map_ok hi;cases e;obtain⟨y,hy,Q⟩:=Xr F H;rw[aF.eq_7,g];dsimp only;rw[List.drop_append_of_le_length P,axU hy];exact .bk h w8 Q
  ·cases hi
 |fR S p x=>
  simp only[abI]at hi;split at hi
  ·rename_i k off s' hp D;split at hi
   ·rename_i l u R hu;obtain⟨o,N,g⟩:=Xh (dE B h hp);have F:=Yj (dE B h D) hu;obtain⟨⟨u',A1⟩,au⟩:∃q,opened A u=q:=⟨_,w8⟩;rw[au]at hi;dsimp only at hi;split at hi;·rename_i l' bb;cases hi;refine .hE h F λV' P h' L=>?_;rw[au]at h' L⊢;have al:A1.X[k]?=J (.cP l):=(by grind [opened]);obtain⟨o',cs,O,h2,h3,h4⟩:=h'.X _ _ al;have aq:=P.ρ _ _ N;rw[aq]at O;cases O;obtain⟨e1,e2,e3⟩:=acS h4 L bb;refine .kT h' al aq e3 ?_;rw[aF.eq_8,g];dsimp only;rw[h3];dsimp only;rw[j0 ⟨e1,e2,L.Q⟩];rfl
    ·cases hi
   ·cases hi
  ·cases hi
 |iP x=>
  simp only[abI]at hi;split at hi;·rename_i k o D;cases hi;have F:=dE B h D;obtain⟨o',N,g⟩:=Xh F;rw[aF.eq_9,g];exact .bk h w8 (g▸F)
  ·rename_i k D;cases hi;have F:=dE B h D;obtain⟨o',N,g⟩:=az4 F;rw[aF.eq_9,g];exact .bk h w8 (g▸F)
  ·rename_i o l D;cases hi;have F:=dE B h D;obtain⟨w,cB,g,_⟩:=agc F;rw[aF.eq_9,g];exact .bk h w8 (g▸F)
  ·rename_i t v D;cases hi;have F:=dE B h D;obtain⟨w,g,_⟩:=amu F;rw[aF.eq_9,g];exact .bk h w8 (g▸F)
  ·rename_i f a b D;cases hi;have F:=dE B h D;obtain⟨w,cB,g,_⟩:=aqB F;rw[aF.eq_9,g];exact .bk h w8 (g▸F)
  ·cases hi
 |e9 op ek bo x y=>
  simp only[abI]at hi;split at hi
  ·rename_i a b ha hb;split at hi;·rename_i cB hr;cases hi;exact auf h (dE B h ha) (dE B h hb) hr (by rw[aF.eq_10])
   obtain⟨u,hu,e⟩:=map_ok hi;cases e;obtain⟨v,hv,F⟩:=au6 h.ab h.aa C.np (dE B h ha) (dE B h hb) hu;rw[aF.eq_10,hv];exact .bk h w8 F
  ·cases hi
 |un op x=>
  simp only[abI]at hi;split at hi;·rename_i a ha;obtain⟨u,hu,e⟩:=map_ok hi;cases e;obtain⟨v,hv,F⟩:=ayx (dE B h ha) hu;rw[aF.eq_11,hv];exact .bk h w8 F
  ·cases hi
 |jc k x=>
  simp only[abI]at hi;split at hi;·rename_i k' m D;cases hi;have g:=auB (dE B h D);rw[aF.eq_12,g];exact .bk h w8 (.ic _ _)
  ·rename_i a _ ha;split at hi;·rename_i k' ba;cases hi;obtain⟨m,g⟩:=Qe ba (dE B h ha);rw[aF.eq_12,g];exact .bk h w8 (.cQ _ _)
   ·cases hi
  ·cases hi
 |ma x=>cases hi|gT t x=>obtain⟨s',H,e⟩:=map_ok hi;cases e;exact .bk h w8 (.dx _ _ _ (dE B h H))
 |it fn x y=>
  simp only[abI]at hi;split at hi;·rename_i a b ha hb;cases hi;exact .bk h w8 (.dv _ _ _ _ _ (Rh B h ha) (Rh B h hb))
  ·cases hi
 |iA=>cases hi;obtain⟨V2,an,aL,bm,bh,h2⟩:=h.eM (x:=.dz []) (y:=.dz (.cQ r)) w8 (λV' bj aK aD=>⟨Y.length,[],aK,aD,by simp,λp hp=>by simp at hp⟩);exact⟨_,_,V2,w8,h.hC an bh,h2,.dz _ _ aL⟩
 |gj z S bytes l c=>
  simp only[abI]at hi;split at hi
  ·rename_i k c' u R hc hu;split at hi
   ·rename_i j d aX;split at hi
    ·rename_i K;simp only[a02,w9,k9]at K;obtain⟨⟨⟨⟨q1,q2⟩,q3⟩,q4⟩,q5⟩:=K;cases hi;have g:=auB (dE B h R);obtain⟨m,F,aa⟩:=agp h.ab aX (dE B h hc);have O:=JB h.ab h.aa q1 h.ab F;have h2:=Yw h.ab h.aa q2 F;simp only[LB]at h2 q3;rw[aF.eq_21,g,aa];dsimp only;rw[j0 ⟨by omega,by omega,by omega,by
      have:=Int.mul_le_mul (show(bytes:Int)<=8192 by omega) (show(m:Int)+d<=8589934592 by omega) (by omega) (by omega);omega⟩]
     refine .cJ (rs:=[]) (fz:=FZ) (sz:=S) h ?_ q5 (.db _) ?_;·rfl
     ·intro f hf W P hW;simp only[aC8,aI5,j7]at hf;subst hf;exact⟨_,_,hW,P.ν _ _ h.ab,by simp⟩
    ·cases hi
   ·cases hi
  ·cases hi
 |ga off x=>
  simp only[abI]at hi;split at hi;·rename_i k f D;cases hi;obtain⟨o,N,g⟩:=Xh (dE B h D);rw[aF.eq_26,g];exact .bk h w8 (.da _ _ _ N)
  ·rename_i f l D;split at hi;·rename_i hf;cases hi;obtain⟨w,cB,g,F,P,hb⟩:=agc (dE B h D);rw[aF.eq_26,g];dsimp only;have R:=F.dt;rw[j0 (by grind),aK1];exact .bk h w8 (.ec _ _ _ _ F (by omega) hb)
   ·cases hi
  ·cases hi
 |iX ag off S x=>cases hi
 |gb len S x i=>
  simp only[abI]at hi;split at hi
  ·rename_i k f k' m D F;split at hi;·rename_i hc;simp only[a02,w9]at hc;cases hi;obtain⟨o,N,g⟩:=Xh (dE B h D);have aa:=auB (dE B h F);rw[aF.eq_28,g,aa];simp only[uq,j0 hc.1];rw[j0 (by omega)];exact .bk h w8 (.da _ _ _ N)
   ·cases hi
  ·cases hi
 |ey S x i=>
  simp only[abI]at hi;split at hi
  ·rename_i q e j D hj;split at hi
   ·rename_i m F;split at hi;·rename_i hz;rw[k9]at hz;obtain⟨rs,g,I,ac⟩:=az5 (dE B h D);obtain⟨m',Q,hn⟩:=Rf h.ab F (dE B h hj);obtain⟨ak,O,h2,h3⟩:=aj3 h hi Q I;obtain⟨cB,g1,g2,pre,g3,g4⟩:=ac.cd (((m':Int)+m.2).toNat) (by omega);have ad:ae 0 (rs.drop (((m':Int)+m.2).toNat+1)).flatten=eT:=MRs.aL (ac.cB _) ak;refine h3 cB _ g2 ad _ ?_;rw[aF.eq_29,g,hn O];dsimp only;rw[j0 ⟨by omega,by rw[ac.dt,hz]⟩,g3,<-hz,<-g4,List.drop_left];rfl
    ·cases hi
   ·cases hi
  ·rename_i q j D hj;split at hi
   ·rename_i m F;split at hi;·rename_i hz;rw[k9]at hz;subst hz;obtain⟨is,g,I⟩:=aw5 (dE B h D);obtain⟨m',Q,hn⟩:=Rf h.ab F (dE B h hj);obtain⟨ak,O,h2,h3⟩:=aj3 h hi Q I;obtain⟨j',g1,g2⟩:=Xk is (((m':Int)+m.2).toNat) (by omega);refine h3 j'.B _ (by have:=Ms.jv (V:=V.toVal) [] j' [] .db;rwa[aB3]at this) (iZ (is.drop (((m':Int)+m.2).toNat+1))) _ ?_;rw[aF.eq_29,g,hn O];dsimp only;rw[j0 ⟨by omega,jH is⟩,g2];rfl
    ·cases hi
   ·cases hi
  ·rename_i m e k j D hj;split at hi
   ·rename_i K;simp only[a02,w9,k9]at K;cases hi;obtain⟨w,g,L⟩:=aqE (dE B h D);have aa:=auB (dE B h hj);have R:=L.dt;rw[aF.eq_29,g,aa];simp only[uq,j0 K.1.1];rw[j0 ⟨by omega,by rw[R,K.2]⟩];refine .bk h w8 ?_;have P:j.toNat*S<=w.length:=by rw[R,K.2];exact aG4 _ (by omega)
    have:=M.ec (V:=V.toVal) (j.toNat*S) e w [] L P w8;rwa[aB3]at this
   ·cases hi
  ·cases hi
 |io len ag S x i=>
  simp only[abI]at hi;split at hi
  ·rename_i s0 l j D hj;split at hi
   ·rename_i m F;split at hi
    ·rename_i K;simp only[a02,k9,aJ2]at K;obtain⟨⟨⟨⟨⟨⟨⟨q1,q2⟩,q3⟩,q4⟩,q5⟩,q6⟩,q7⟩,q8⟩:=K;cases hi;subst q1 q2;obtain⟨w,g,L⟩:=aw4 (dE B h D);obtain⟨m',Q,hn⟩:=Rf h.ab F (dE B h hj);have O:=JB h.ab h.aa q7 h.ab Q;have h2:=JB h.ab h.aa q8 Q h.ab;have bk:=L.dt;have ah:∀(l:List Sh) (w:LA),Ms V.toVal l w->l.all Sh.ef=eT->(∀t∈l,sub [] [] [] (gen s0) t=eT)->∀i,i<w.length->∃y,w[i]?=J y/\M V.toVal (gen s0) y:=by
      intro l
      induction l with
      |nil=>grind [Ms]
      |cons t l ih=>
       intro w L N ht i hi;rw[a08,a02]at N;obtain⟨y,w',rfl,hy,aD⟩:=L.c1 N.1;cases i with
       |zero=>exact⟨y,w8,YT (Sb.db h.ab) hy (ht t (by simp))⟩|succ i=>simp_all
     obtain⟨y,hy,bd⟩:=ah _ w L q3 (λt ht=>by
      grind) (((m':Int)+m.2).toNat) (by omega)
     rw[aF.eq_30,g,hn (by omega)];dsimp only;rw[j0 (by omega)];have:pt eF 1 (w.drop (((m':Int)+m.2).toNat*1))=J y:=by simp only[pt,aF3,if_false,aD2];rw[aI3];exact hy
     rw[this];exact .bk h w8 bd
    ·cases hi
   ·cases hi
  ·cases hi
 |ft x i=>
  simp only[abI]at hi;split at hi
  ·rename_i q j D hj;split at hi
   ·rename_i m F;split at hi;·rename_i K;simp only[a02]at K;cases hi;obtain⟨t,g,I⟩:=aqF (dE B h D);obtain⟨m',Q,hn⟩:=Rf h.ab F (dE B h hj);have O:=JB h.ab h.aa K.1 h.ab Q;have h2:=JB h.ab h.aa K.2 Q I;rw[aF.eq_31,g,hn (by omega)];dsimp only;rw[a01 (show((m':Int)+m.2).toNat<t.length by omega)];exact .bk h w8 (.cQ _ _)
    ·cases hi
   ·cases hi
  ·cases hi
 |gH x lo bp=>cases hi
 |hG z m k ok=>
  simp only[abI]at hi;split at hi
  ·rename_i cB s' t F hk hz;split at hi
   ·rename_i v hv;split at hi
    ·rename_i K;simp only[a02]at K;cases hi;obtain⟨o,N,g⟩:=aqC (dE B h F);obtain⟨x,D⟩:=Jy K.1.1 (dE B h hk);obtain⟨o',es,O,h2,h3,h4⟩:=h.X _ _ hv;rw[N]at O;cases O;have aE:M V.toVal v z:=YT (Sb.db h.ab) (alb (V:=V.toVal) z hz) K.1.2;rw[aF.eq_32,g,D];simp only[mapOf,h3];rcases find_ok x es 0 h4 with hf|⟨j,y,hf,hy⟩;·rw[hf];cases ok with|true=>exact .bk h w8 (.de _ _ (.cV _ _ _ _ aE (.cV _ _ _ _ (.cW _) .db)))|false=>exact .bk h w8 aE
     ·rw[hf];cases ok with|true=>exact .bk h w8 (.de _ _ (.cV _ _ _ _ hy (.cV _ _ _ _ (.cW _) .db)))|false=>exact .bk h w8 hy
    ·cases hi
   ·cases hi
  ·cases hi
 |hQ m k v=>
  simp only[abI]at hi;split at hi
  ·rename_i cB s' t F hk hv;split at hi
   ·rename_i w L;split at hi
    ·rename_i K;simp only[a02]at K;cases hi;obtain⟨o,N,g⟩:=aqC (dE B h F);obtain⟨x,D⟩:=Jy K.1 (dE B h hk);obtain⟨o',es,O,h2,h3,h4⟩:=h.X _ _ L;rw[N]at O;cases O;have az:M V.toVal w (avA C E v):=YT (Sb.db h.ab) (dE B h hv) K.2;rw[aF.eq_33,g,D];dsimp only;rw[h3];dsimp only;rcases find_ok x es 0 h4 with hf|⟨j,y,hf,hy⟩;·rw[hf];exact .kk h L N (axc h4 az) w8
     ·rw[hf];exact .kk h L N (axd h4 az) w8
    ·cases hi
   ·cases hi
  ·cases hi
 |ib x i=>
  simp only[abI]at hi;split at hi;·rename_i l D;obtain⟨w,g,L⟩:=aqG (dE B h D);obtain⟨s',H,e⟩:=map_ok hi;cases e;obtain⟨y,hy,F⟩:=L.cd H;rw[aF.eq_36,g];dsimp only;rw[hy];exact .bk h w8 F
  ·cases hi
 |eD str S bytes ty s1 x=>
  cases str with
  |true=>cases hi
  |false=>
   cases ty with
   |some _=>cases hi
   |none=>
    simp only[abI]at hi;split at hi
    ·rename_i s' x' hs D;split at hi
     ·rename_i u A1 ay;split at hi
      ·rename_i K;simp only[a02,w9]at K;have bi:=dE B h D;have ax:=dE B h hs;obtain⟨e1,cs,e2,e3,e4,e5⟩:=avF h bi ay;have aw:opR (ai C) (aF C (avA C E) n Y (.eD eF S bytes U s1 x))=uD Y S bytes U (avA C E s1) 1 cs:=by
        rw[aF.eq_37,e2];dsimp only;rw[e1,e3.Q];simp only[bne_self_eq_false,aE6,Bool.or_self,aF3,if_false];cases uD Y S bytes U (avA C E s1) 1 cs with
        |none=>rfl|some p=>rfl
       rw[aw];rcases e5 with rfl|⟨k,rfl⟩;·exact alQ h e3 e4 K.2 ax hi
       ·exact .hp h λV' af _ h'=>alQ h' (af▸e3) e4 K.2 (af▸ax) hi
      ·cases hi
     ·cases hi
    ·cases hi
 |dt k x=>
  simp only[abI]at hi;split at hi;·rename_i q D;cases hi;obtain⟨t,g,I⟩:=aqF (dE B h D);rw[Aa,g];refine .bk h w8 ?_;have:=M.eS (V:=V.toVal) q 0 _ I;rwa[j6]at this
  ·rename_i t D;cases hi;have g:avA C E x=.cU t:=by have:=dE B h D;grind [M]
   rw[Aa,g];exact .bk h w8 (.ic _ _)
  ·rename_i D;cases hi;obtain⟨t,g⟩:=Jy (s:=.cU) w8 (dE B h D);rw[Aa,g];exact .bk h w8 (.cQ _ _)
  ·rename_i q e D;cases hi;obtain⟨rs,g,I,ac⟩:=az5 (dE B h D);rw[Aa,g];refine .bk h w8 ?_;have:=M.eS (V:=V.toVal) q 0 _ I;rwa[j6]at this
  ·rename_i q D;cases hi;obtain⟨is,g,I⟩:=aw5 (dE B h D);rw[Aa,g];refine .bk h w8 ?_;have:=M.eS (V:=V.toVal) q 0 _ I;rwa[j6]at this
  ·rename_i k a e D;cases hi;obtain⟨m,I,hv⟩:=aw3 (dE B h D);have hs:=M.eS (V:=V.toVal) a 0 _ I;rw[j6]at hs;rcases hv with⟨g,rfl⟩|⟨o,g,_⟩;·rw[Aa,g];exact .bk h w8 hs
   ·rw[Aa,g];exact .bk h w8 hs
  ·rename_i k a e D;cases hi;obtain⟨m,o,I,g,_⟩:=aku (dE B h D);have hs:=M.eS (V:=V.toVal) a 0 _ I;rw[j6]at hs;rw[Aa,g];exact .bk h w8 hs
  ·rename_i D;cases hi;have g:=aqD (dE B h D);rw[Aa,g];exact .bk h w8 (.ic _ _)
  ·rename_i m e D;cases hi;obtain⟨l,g,_⟩:=aqH (dE B h D);rw[Aa,g];exact .bk h w8 (.ic _ _)
  ·rename_i m e D;cases hi;obtain⟨l,g,_⟩:=aqE (dE B h D);rw[Aa,g];exact .bk h w8 (.ic _ _)
  ·cases hi
 |jd m=>cases hi|ir mx x y=>cases hi
 |gR f l=>
  simp only[abI]at hi;split at hi;·rename_i ss ab;exact Z V A E Y f ss _ s A' h (Rh B h ab) hi
  ·cases hi
 |iz f l=>
  simp only[abI]at hi;split at hi;·rename_i f' x y ss hf ab;obtain⟨a,b,g,O,h2⟩:=aqB (dE B h hf);have:=Z V A E Y f' _ _ s A' h ((O.eD (Rh B h ab)).eD h2) hi;rw[aF.eq_43,g];exact this
  ·cases hi
 |hD x m l=>
  simp only[abI]at hi;split at hi
  ·rename_i t v ss D ab;split at hi;·rename_i f hf;obtain⟨w,g,L⟩:=amu (dE B h D);have:=Z V A E Y f _ _ s A' h (.cV _ _ _ _ L (Rh B h ab)) hi;rw[aF.eq_44,g];dsimp only;rw[be t m f hf w];exact this
   ·cases hi
  ·cases hi
 |_=>cases hi
end
def V0:Val:=⟨[0],[]⟩
def adM{V:Val}(h:V.ν[0]?=J 0):V0.le V:=⟨λi a hi=>by
 grind [V0],λi a hi=>by simp[V0]at hi⟩
def bZ(C:Ctx)(PK:PkI)(f:FuncId):Sm->Prop|.dp args res=>∀(O:St) (c b:LA) (d:St),Ok O->n eF c O=J (b,d)->Ok d->Mt V0 args b->∃v,ai C f c O=J (v,d)/\M V0 res v|.ro l args res=>∀(O:St) (o:T) (c b:LA) (d:St) (cs:LA) (g:Fz),Ok O->n eF (.da o 0::c) O=J (.da o 0::b,d)->Ok d->d[o]?=J (.cP cs g)->Ms V0 l cs->Mt V0 args b->∃v,ai C f (.da o 0::c) O=J (v,d)/\M V0 res v|.iB args=>∀(O:St) (c b:LA) (d:St),Ok O->n eF c O=J (b,d)->Ok d->Mt V0 args b->∃(L:St) (o:T) (ms:P T),ai C f c O=J (.da o 0,d++L)/\Ok (d++L)/\(∀i∈o::ms,z d<=i/\i<z (d++L))/\PK.ok (d++L) o ms|.pk args res=>∀(O:St) (o:T) (ms:P T) (c b:LA) (d:St),Ok O->n eF (.da o 0::c) O=J (.da o 0::b,d)->Ok d->PK.ok d o ms->Mt V0 args b->∃v e,ai C f (.da o 0::c) O=J (v,e)/\M V0 res v/\Ok e/\z e=z d/\(∀i,i∉o::ms->e[i]?=d[i]?)/\PK.ok e o ms|.eK H args res=>∀(O:St) (c b:LA) (d:St),Ok O->n eF c O=J (b,d)->Ok d->∀(F:Frm) (W:Vo) (E:As),G PK F W (Hab H) E d->Mt W.toVal args b->∃v e,ai C f c O=J (v,e)/\M V0 res v/\Ok e/\z e=z d/\(∀i,(∀(k:T) a,W.ah[k]?=J a->i∉a)->e[i]?=d[i]?)/\∀(k:T) h,H[k]?=J h->HM PK W F e k h
theorem MRs.af{V:Val}{e:P Sh}(a:cls e=eT):∀{rs:P LA},MRs V e rs->NVs rs.flatten|_,.db _=>.db|_,.cV _ d rs x y=>by rw[i];exact(Ms.af x a).eD (MRs.af a y)
def an9{V:Val}:∀{rs:P LA},MRs V [.jv] rs->∃is:P JV,z is=z rs/\rs.flatten=aO is
 |_,.db _=>⟨[],w8,w8⟩
 |_,.cV _ d rs x y=>by
  obtain⟨is,a,h2⟩:=an9 y;cases x with
  |ef _ _ _ _ h=>cases h|jv _ j b hb=>cases hb;exact⟨j::is,by simp[a],by rw[i,h2,aO,f]⟩
def JD {O:St} {f:LA->D (LA×P T)}:∀{a:LA} (b:LA),NVs a->bI O f (a++b)=match bI O f b with|J (l,fs)=>J (a++l,fs)|U=>U
 |[],b,_=>by grind
 |v::a,b,h=>by show(match cu O f v,bI O f (a++b)with|J (v,fs),J (l,c)=>J (v::l,fs++c)|_,_=>U)=_;rw[(h v (by simp)).nf,JD b (λx d=>h x (by simp[d]))];cases bI O f b<;>rfl
def aru{V:Val}(a:V.ν[0]?=J 0){e:P Sh}(hj:jvN [] 3 e=eT):∀{rs:P LA},MRs V e rs->MRs V [.jv] rs|_,.db _=>.db _|_,.cV _ d rs x y=>by obtain⟨j,rfl⟩:=akC (Sb.db (W:=V) a) 3 hj x;refine .cV _ _ _ ?_ (aru a hj y);have:=Ms.jv (V:=V) [] j [] .db;rwa[f]at this
theorem an7{V:Val}(c:V.ν[0]?=J 0){a:T}{e:P Sh}{rs:P LA}(h:V.ν[a]?=J (z rs))(b:MRs V e rs):M V (ay4 a e) (.sl (z rs) rs.flatten):=by
 unfold ay4;split;·rename_i hj;obtain⟨is,d,h2⟩:=an9 (aru c hj b);grind [M]
 ·exact .sl _ _ _ h b
def anZ{V:Val}{O:St}{R:LA->D (LA×P T)}{s b:Sh}{v:AV}(d:s.ef=eT)(h:M V s v)(hs:akp s=J b):b.ef=eT/\∃v',cu O R v=J (v',[])/\M V b v':=by
 unfold akp at hs;split at hs;·cases hs;cases h;exact⟨w8,.sl 0 [],w8,.fY _ _ _ .db⟩
 ·rename_i n l;split at hs;·rename_i a;cases hs;obtain⟨w,rfl,c⟩:=aqH h;refine⟨w8,.sl n w,?_,.fY _ _ _ c⟩;unfold cu;rw[(Ms.af c a).nf]
  ·cases hs
 ·split at hs;·rename_i a;cases hs;exact⟨d,v,(M.nv h a).nf _ _,h⟩
  ·cases hs
def Xd{V:Val}{O:St}{R:LA->D (LA×P T)}:∀{e:P Sh} {q:LA},Ms V e q->∀{d:P Sh},Zv e=J d->∃c,bI O R q=J (c,[])/\Ms V d c
 |_,_,.db,d,hs=>by cases hs;exact⟨[],w8,.db⟩
 |_,_,.ef s t v b a x y,d,hs=>by
  simp only[Zv]at hs;split at hs;·rename_i s2 t2 f h2;cases hs;obtain⟨i,k,e1,h⟩:=anZ (O:=O) (R:=R) a x f;obtain⟨c,e2,g⟩:=Xd (O:=O) (R:=R) y h2;grind [bI,Ms]
  ·cases hs
 |_,_,.jv t j b x,d,hs=>by
  simp only[Zv]at hs;split at hs;·rename_i s2 t2 f h2;cases hs;cases f;obtain⟨c,e2,g⟩:=Xd (O:=O) (R:=R) x h2;exact⟨j.B++c,by rw[JD _ j.af,e2],.jv _ _ _ g⟩
  ·cases hs
 |_,_,.jg a b t j q x y,d,hs=>by
  simp only[Zv]at hs;split at hs;·rename_i s2 t2 f h2;cases hs;cases f;obtain⟨c,e2,g⟩:=Xd (O:=O) (R:=R) y h2;exact⟨j.B++c,by rw[JD _ j.af,e2],.jg _ _ _ _ _ x g⟩
  ·cases hs
def acm{O:St}{R:LA->D (LA×P T)}:∀{a b d e:LA},bI O R a=J (d,[])->bI O R b=J (e,[])->bI O R (a++b)=J (d++e,[])
 |[],b,d,e,c,h2=>by cases c;exact h2
 |v::a,b,d,e,c,h2=>by
  unfold bI at c;split at c;·rename_i w fs l f e1 e2;simp only[a07,aC2,List.append_eq_nil_iff]at c;obtain⟨rfl,rfl,rfl⟩:=c;have:=acm e2 h2;grind [bI]
  ·cases c
def aes{V:Val}{O:St}{R:LA->D (LA×P T)}{e b:P Sh}(hs:Zv e=J b):∀{rs:P LA},MRs V e rs->∃a,bI O R rs.flatten=J (a.flatten,[])/\MRs V b a/\z a=z rs|_,.db _=>⟨[],w8,.db _,w8⟩|_,.cV _ h rs x y=>by obtain⟨f,e1,c⟩:=Xd (O:=O) (R:=R) x hs;obtain⟨a,e2,d,l2⟩:=aes (O:=O) (R:=R) hs y;exact⟨f::a,by rw[i,i];exact acm e1 e2,.cV _ _ _ c d,by simp[l2]⟩
section
variable{C:Ctx}{X:Cfg}{PK:PkI}{O0:Frm}{V:Vo}{A:Ab}{E:As}{Y:St}
def Fr(V:Vo)(A:Ab)(o:T):Prop:=∃k:T,V.ah[k]?=J [o]/\∃y:HO,A.X[k]?=J y/\((∃a e,y=HO.hY a e)\/(∃a e,y=HO.fX a e))
theorem aps{m:Q}{k a w:T}{e:P Sh}(b:VH m A.X k a w=J e){o:T}(c:V.ah[k]?=J [o]):Fr V A o:=by refine⟨k,c,?_⟩;unfold VH at b;grind
def ahr(h:G PK O0 V A E Y){m:Q}{k a w:T}{i:Sh}(hs:aer A.X m k a w=J i){n o:T}(t:V.ν[a]?=J n)(u:V.ρ[k]?=J (J o))(v:m=eF->0<n):∃v' fs,cu Y (eX Y 11) (.dj o 0 n w)=J (v',fs)/\M V.toVal i v'/\∀o∈fs,Fr V A o:=by
 unfold aer at hs;split at hs
 ·rename_i e p;simp only[aB5]at hs;obtain⟨x,d,rfl⟩:=hs;obtain⟨g,D,c,j⟩:=ab3 h p;rw[t]at c;cases c;rcases j with⟨s,rfl,_⟩|⟨F,rs,y,h3,h4,h5,h6,h7⟩;·exact absurd (v s) (by omega)
  ·rw[u]at h3;cases h3;have b:=h7.dt;obtain⟨f,e1,C,l1⟩:=aes (O:=Y) (R:=eX Y 10) d h7;refine⟨.sl n f.flatten,[o],?_,?_,λq B=>?_⟩;·unfold cu;rw[h5];dsimp only;rw[j0 (by rw[b,h6,g];omega),aB8,a98 (by rw[b,h6,g];omega)];show(match bI Y (eX Y 10) rs.flatten with|J (l,fs)=>J (AV.sl n l,o::fs)|U=>U)=_;rw[e1]
   ·grind [an7,h.ab]
   grind [aps]
 ·cases hs
def anx(h:G PK O0 V A E Y){m:Q}{k a w:T}{b:Sh}(hs:aer A.X m k a w=J b)(d:V.ν[a]?=J 0):∃v' fs,cu Y (eX Y 11) .cY=J (v',fs)/\M V.toVal b v'/\∀o∈fs,Fr V A o:=by
 unfold aer at hs;split at hs;·rename_i e g;simp only[aB5]at hs;obtain⟨f,c,rfl⟩:=hs;exact⟨.sl 0 [],[],w8,an7 (rs:=[]) h.ab d (.db _),by simp⟩
 ·cases hs
mutual
def abX(h:G PK O0 V A E Y):∀{s:Sh} {v:AV},M V.toVal s v->∀{d:Sh},KN A.X s=J d->∃v' fs,cu Y (eX Y 11) v=J (v',fs)/\M V.toVal d v'/\∀o∈fs,Fr V A o
 |_,_,.dT,d,hs=>by cases hs;exact⟨_,_,w8,.dT,by simp⟩
 |_,_,.cW b,d,hs=>by cases hs;exact⟨_,_,w8,.cW b,by simp⟩
 |_,_,.bc b,d,hs=>by cases hs;exact⟨_,_,w8,.bc b,by simp⟩
 |_,_,.gN x c y a b e f,d,hs=>by cases hs;exact⟨_,_,w8,.gN x c y a b e f,by simp⟩
 |_,_,.gC x c y a b e f g,d,hs=>by cases hs;exact⟨_,_,w8,.gC x c y a b e f g,by simp⟩
 |_,_,.cQ k n,d,hs=>by cases hs;exact⟨_,_,w8,.cQ k n,by simp⟩
 |_,_,.ic k n,d,hs=>by cases hs;exact⟨_,_,w8,.ic k n,by simp⟩
 |_,_,.eS j c a e,d,hs=>by cases hs;exact⟨_,_,w8,.eS j c a e,by simp⟩
 |_,_,.cU x,d,hs=>by cases hs;exact⟨_,_,w8,.cU x,by simp⟩
 |_,_,.df x e,d,hs=>by cases hs;exact⟨_,_,w8,.df x e,by simp⟩
 |_,_,.sc x,d,hs=>by cases hs;exact⟨_,_,w8,.sc x,by simp⟩
 |_,_,.fp i x e,d,hs=>by cases hs;exact⟨_,_,w8,.fp i x e,by simp⟩
 |_,_,.ep,d,hs=>by cases hs;exact⟨_,_,w8,.ep,by simp⟩
 |_,_,.cY,d,hs=>by cases hs;exact⟨_,_,w8,.fY 0 [] [] .db,by simp⟩
 |_,_,.gO,d,hs=>by cases hs;exact⟨_,_,w8,.gO,by simp⟩
 |_,_,.gt,d,hs=>by cases hs;exact⟨_,_,w8,.gt,by simp⟩
 |_,_,.gh,d,hs=>by cases hs;exact⟨_,_,w8,.gh,by simp⟩
 |_,_,.sl i e rs a b,d,hs=>by
  simp only[KN]at hs;split at hs;·cases hs;exact⟨_,_,w8,.sl i e rs a b,by simp⟩
  ·cases hs
 |_,_,.ew e rs a b,d,hs=>by
  simp only[KN]at hs;split at hs;·cases hs;exact⟨_,_,w8,.ew e rs a b,by simp⟩
  ·cases hs
 |_,_,.gM i is a,d,hs=>by cases hs;exact⟨_,_,w8,.gM i is a,by simp⟩
 |_,_,.fh is a,d,hs=>by cases hs;exact⟨_,_,w8,.fh is a,by simp⟩
 |_,_,.eB n e l a,d,hs=>by
  simp only[KN]at hs;split at hs;·rename_i H q;cases hs;obtain⟨w,fs,p,h2,h3⟩:=Qd h a q;refine⟨.sl n w,fs,?_,.fY _ _ _ h2,h3⟩;unfold cu;rw[p]
  ·cases hs
 |_,_,.fY n e l a,d,hs=>by
  simp only[KN]at hs;split at hs;·cases hs;exact⟨_,_,w8,.fY n e l a,by simp⟩
  ·cases hs
 |_,_,.iS k a e x,d,hs=>anx (m:=eF) h hs x|_,_,.fW k a e o n x y z,d,hs=>ahr (m:=eF) h hs x z (λ_=>y)|_,_,.fN k a e o n x z,d,hs=>ahr (m:=eT) h hs x z (λhf=>by cases hf)
 |_,_,.cX l v a,d,hs=>by
  simp only[KN]at hs;split at hs;·rename_i H q;cases hs;obtain⟨w,fs,p,h2,h3⟩:=Qd h a q;refine⟨.cX w,fs,?_,.cX _ _ h2,h3⟩;unfold cu;rw[p]
  ·cases hs
 |_,_,.de l v a,d,hs=>by
  simp only[KN]at hs;split at hs;·rename_i H q;cases hs;obtain⟨w,fs,p,h2,h3⟩:=Qc h a q;refine⟨.de w,fs,?_,.de _ _ h2,h3⟩;unfold cu;rw[p]
  ·cases hs
 |_,_,.jv j,d,hs=>by cases hs;exact⟨_,_,j.nv.nf _ _,.jv j,by simp⟩
 |_,_,.jg a b j x,d,hs=>by cases hs;exact⟨_,_,j.nv.nf _ _,.jg a b j x,by simp⟩
 |_,_,.da k off o a,d,hs=>by cases hs;exact⟨_,_,w8,.da k off o a,by simp⟩
 |_,_,.ec off l v R a c b,d,hs=>by
  simp only[KN]at hs;split at hs;·cases hs;exact⟨_,_,w8,.ec off l v R a c b,by simp⟩
  ·cases hs
 |_,_,.dz k o a,d,hs=>by cases hs;exact⟨_,_,w8,.dz k o a,by simp⟩
 |_,_,.pk k o a,d,hs=>by cases hs;exact⟨_,_,w8,.pk k o a,by simp⟩
 |_,_,.dv f x y u v a b,d,hs=>by
  simp only[KN]at hs;split at hs
  ·rename_i P Q K L;cases hs;obtain⟨w,fs,p,h2,h3⟩:=Qc h a K;obtain⟨N,B,C,D,I⟩:=Qc h b L;refine⟨.dv f w N,fs++B,?_,.dv _ _ _ _ _ h2 D,λo O=>?_⟩;·unfold cu;rw[p,C]
   grind
  ·cases hs
 |_,_,.dx t s v a,d,hs=>by
  simp only[KN]at hs;split at hs;·rename_i s2 F;cases hs;obtain⟨w,fs,p,h2,h3⟩:=abX h a F;grind [cu,M]
  ·cases hs
def Qd(h:G PK O0 V A E Y):∀{l:P Sh} {v:LA},Ms V.toVal l v->∀{d:P Sh},Ud A.X l=J d->∃v' fs,bI Y (eX Y 11) v=J (v',fs)/\Ms V.toVal d v'/\∀o∈fs,Fr V A o
 |_,_,.db,d,hs=>by cases hs;exact⟨[],[],w8,.db,by simp⟩
 |_,_,.ef s t v b a x y,d,hs=>by
  have q:Ud A.X (s::t)=if s.ef then(match KN A.X s,Ud A.X t with|J i,J t=>if i.ef then J (i::t)else U|_,_=>U)else U:=by cases s<;>first|rfl|cases a
  rw[q,j0 a]at hs;split at hs
  ·rename_i s2 t2 f c;split at hs;·rename_i g;cases hs;obtain⟨w,fs,e,h2,h3⟩:=abX h x f;obtain⟨u,k,m,n,p⟩:=Qd h y c;grind [bI,Ms]
   ·cases hs
  ·cases hs
 |_,_,.jv t j b x,d,hs=>by
  simp only[Ud]at hs;split at hs;·rename_i t2 c;cases hs;obtain⟨w,fs,e,h2,h3⟩:=Qd h x c;refine⟨j.B++w,fs,?_,.jv _ _ _ h2,h3⟩;rw[JD _ j.af,e]
  ·cases hs
 |_,_,.jg a b t j N x y,d,hs=>by
  simp only[Ud]at hs;split at hs;·rename_i t2 c;cases hs;obtain⟨w,fs,e,h2,h3⟩:=Qd h y c;refine⟨j.B++w,fs,?_,.jg _ _ _ _ _ x h2,h3⟩;rw[JD _ j.af,e]
  ·cases hs
def Qc(h:G PK O0 V A E Y):∀{l:P Sh} {v:LA},Mt V.toVal l v->∀{a:P Sh},OW A.X l=J a->∃v' fs,bI Y (eX Y 11) v=J (v',fs)/\Mt V.toVal a v'/\∀o∈fs,Fr V A o
 |_,_,.db,a,hs=>by cases hs;exact⟨[],[],w8,.db,by simp⟩
 |_,_,.cV s t v b x y,a,hs=>by
  simp only[OW]at hs;split at hs;·rename_i s2 t2 c d;cases hs;obtain⟨w,fs,j,h2,h3⟩:=abX h x c;obtain⟨k,e,f,g,i⟩:=Qc h y d;grind [bI,Mt]
  ·cases hs
end
def aog{a:Type}{l:P a}{k:T}{y:a}(h:l[k]?=J y):l.set k y=l:=by apply aD6;grind
def aek:∀(fs:P T) {Y:St},G PK O0 V A E Y->(∀o∈fs,Fr V A o)->G PK O0 V A E (j8 Y fs)/\Ch V A Y V A (j8 Y fs)
 |[],Y,h,_=>⟨h,.ax⟩
 |o::fs,Y,h,hf=>by
  have p:=λ{s:St} (w:G PK O0 V A E s)=>aek fs w (λq D=>hf q (by simp[D]));unfold j8;split
  ·rename_i l t m;obtain⟨k,f,y,i,j⟩:=hf o (by simp);have c:=h.dg k _ f o (by simp)
   have d:=h.X _ _ i;have b:=h.cg (k:=k) (o:=o) (x:=.cP l ⟨eT,t⟩) (y:=y) ((a00.mp i).1) f (by
     have:=aB0.mp h.ok _ (a06 m);exact this) (by
    rcases j with⟨a,e,rfl⟩|⟨a,e,rfl⟩;·obtain⟨n,g,h2⟩:=d;refine⟨n,g,?_⟩;grind
    ·obtain⟨n,g,F,rs,H,h3,h4,h5,h6,h7⟩:=d;rw[f]at h4;cases h4;rw[m]at h5;cases h5;exact⟨n,g,o,rs,⟨eT,t⟩,h3,f,by rw[aH0 c.2],h6,h7⟩)
   have b:G PK O0 V A E (Y.set o (.cP l ⟨eT,t⟩)):=by rw[aog i]at b;exact b
   obtain⟨u,v⟩:=p b;refine⟨u,Ch.N (.mc λI K F B C=>?_) v⟩;rw[aE2];grind [G]
  ·exact p h
def amq(h:G PK O0 V A E Y){ss b:P Sh}{azs:LA}(g:Mt V.toVal ss azs)(hs:OW A.X ss=J b):∃a c,n eF azs Y=J (a,c)/\Mt V.toVal b a/\G PK O0 V A E c/\Ch V A Y V A c:=by obtain⟨w,fs,f,h2,h3⟩:=Qc h g hs;obtain⟨d,e⟩:=aek fs h h3;refine⟨w,j8 Y fs,?_,h2,d,e⟩;show(match eX Y 12 azs with|J (l,fs)=>J (l,j8 Y fs)|U=>U)=_;rw[show eX Y 12 azs=bI Y (eX Y 11) azs from w8,f]
end
end Go.Ev
