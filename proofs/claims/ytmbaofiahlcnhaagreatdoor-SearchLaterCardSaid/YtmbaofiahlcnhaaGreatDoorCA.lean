/- Code. No conditions. -/
import Derived.Test.YtmbaofiahlcnhaaGreatDoorEC
set_option linter.unusedVariables false
set_option linter.unusedSimpArgs false
set_option linter.defProp false
namespace Go.Ev
open Go.IntKind renaming i64→r
open List renaming length→z
open Bool renaming true→eT, false→eF
open Option renaming some→J, none→U
set_option maxRecDepth 100000
def LB:Nat:=4294967296
def LS:Nat:=8192
structure StB(t:LU)(ns:List LU):Prop where
 t:t.length<=LB
 ns:∀x∈ns,x.length<=LB
inductive JW where
 |mk (k n:Int) (t:LU) (ns:List LU) (is:List JW)
mutual
def JW.B:JW->LA|.mk k n t ns is=>[.cU .u8 k,.cU r n,.cV t,.sl (z ns) (ns.map .cV),.sl (z is) (BO is)]
def BO:List JW->LA|[]=>[]|j::l=>JW.B j++BO l
end
mutual
def JW.Sm:JW->Prop|.mk k n t ns is=>z ns<=z is/\(k=5->z is<=z ns)/\z is<=8192/\StB t ns/\UJ is
def UJ:List JW->Prop|[]=>True|j::l=>j.Sm/\UJ l
end
structure JV where
 of::
 w:JW
 ok:w.Sm
def JV.B(j:JV):LA:=j.w.B
def aJ:List JV->LA|[]=>[]|j::l=>j.B++aJ l
def JV.av(j:JV):AV:=.da j.B
def Xm:∀is:List JV,UJ (is.map (·.w))|[]=>trivial|j::l=>⟨j.ok,Xm l⟩
def JV.mk(k n:Int)(t:LU)(ns:List LU)(is:List JV)(a:z ns<=z is)(h3:k=5->z is<=z ns)(h2:z is<=8192)(h4:StB t ns):JV:=⟨.mk k n t ns (is.map (·.w)),by rw[aB0];exact a,by rw[aB0];exact h3,by rw[aB0];exact h2,h4,Xm is⟩
def Z5:∀is:List JV,BO (is.map (·.w))=aJ is|[]=>rfl|j::l=>by rw[az3,BO,Z5 l];rfl
theorem JV.bB(k n:Int)(t:LU)(ns:List LU)(is:List JV)(a:z ns<=z is)(h3:k=5->z is<=z ns)(h2:z is<=8192)(h4:StB t ns):(JV.mk k n t ns is a h3 h2 h4).B=[.cU .u8 k,.cU r n,.cV t,.sl (z ns) (ns.map .cV),.sl (z is) (aJ is)]:=by show JW.B (.mk k n t ns (is.map (·.w)))=_;rw[JW.B,aB0,Z5]
def JV.kx:(l:List JW)->UJ l->List JV|[],_=>[]|j::l,h=>⟨j,h.1⟩::JV.kx l h.2
def JV.hz:∀(l:List JW) (h:UJ l),(JV.kx l h).map (·.w)=l|[],_=>rfl|j::l,h=>by rw[JV.kx,az3,JV.hz l h.2]
theorem JV.ex(j:JV):∃(k n:Int) (t:LU) (ns:List LU) (is:List JV) (a:z ns<=z is) (h3:k=5->z is<=z ns) (h2:z is<=8192) (h4:StB t ns),j=JV.mk k n t ns is a h3 h2 h4:=by
 obtain⟨⟨k,n,t,ns,is⟩,a,h3,h2,h5,h4⟩:=j;have c:=JV.hz is h4;have b:z (JV.kx is h4)=z is:=by grind
 refine⟨k,n,t,ns,JV.kx is h4,by omega,by rw[b];exact h3,by omega,h5,?_⟩;unfold JV.mk;congr 1;rw[c]
def StB.de{t:LU}(h:z t<=LB):StB t []:=⟨h,by simp⟩
def JV.er(k n:Int)(t:LU)(h:z t<=LB):JV:=JV.mk k n t [] [] (by simp) (by simp) (by simp) (StB.de h)
def JV.cz(k n:Int)(t:LU)(h:z t<=LB):(JV.er k n t h).B=[.cU .u8 k,.cU r n,.cV t,.sl 0 [],.sl 0 []]:=by unfold JV.er;rw[JV.bB];rfl
theorem JV.dt(j:JV):z j.B=5:=by grind [j.ex,JV.bB]
def jF:∀l:List JV,z (aJ l)=z l*5
 |[]=>by simp[aJ]
 |j::l=>by rw[aJ,a04,JV.dt,jF l,a90];omega
def Jj:∀l m:List JV,aJ (l++m)=aJ l++aJ m
 |[],m=>by simp[aJ]
 |j::l,m=>by rw[a09,aJ,Jj l m,aJ,ay2]
def uU:∀l:List LU,ae 0 (l.map AV.cV)=eT|[]=>rfl|s::l=>by rw[az3,ae,uU l];rfl
def Dj:∀l m:LA,ae 0 l=eT->ae 0 m=eT->ae 0 (l++m)=eT|[],m,_,h=>h|a::l,m,b,h2=>by rw[ae,a01]at b;rw[a09,ae,b.1,Dj l m b.2 h2];rfl
mutual
theorem JW.ay:∀j:JW,ae 0 j.B=eT|.mk k n t ns is=>by rw[JW.B];simp only[ae,Ev.below,uU,Z4 is,aA5]
theorem Z4:∀l:List JW,ae 0 (BO l)=eT
 |[]=>by rw[BO];rfl
 |j::l=>by rw[BO];exact Dj _ _ (JW.ay j) (Z4 l)
end
theorem JV.ay(j:JV):ae 0 j.B=eT:=JW.ay j.w
def gY:∀l:List JV,ae 0 (aJ l)=eT
 |[]=>by rw[aJ];rfl
 |j::l=>by rw[aJ];exact Dj _ _ (JV.ay j) (gY l)
theorem JV.C(j:JV):j.B.all AV.C=eT:=by grind [j.ex,JV.bB,AV.C]
theorem JV.af(j:JV):NVs j.B:=by obtain⟨k,n,t,ns,is,a,h3,h2,h4,rfl⟩:=j.ex;rw[JV.bB];exact .cW (.cU _ _) (.cW (.cU _ _) (.cW (.cV _) (.cW (.sl _ (uU ns)) (.cW (.sl _ (gY is)) .de))))
def JV.nv(j:JV):NV j.av:=.da j.af
inductive Sh where
 |dT|cX|bc (b:Bool)|gD (x:Nat) (c:Int) (y:Nat)|gh (p:Bool) (x:Nat) (c:Int) (y:Nat)|cU (k:IntKind)|ic (k:IntKind) (n:Int)|eM (j:Nat) (c:Int)|cV|ds|sc (s:LU)|eZ (i:Nat)|ev|cY|gF|f9|ga|sl (i:Nat) (e:List Sh)|eB (e:List Sh)|gC (i:Nat)|fR|eC (n:Nat) (e:List Sh)|fS (n:Nat) (e:List Sh)|fL (k a:Nat) (e:List Sh)|ft (k a:Nat) (e:List Sh)|da (l:List Sh)|df (l:List Sh)|jv|jg (a b:Nat)|c8 (k off:Nat)|em (off:Nat) (l:List Sh)|ec (k:Nat)|pk (k:Nat)|ea (f:Fn) (x y:List Sh)|eb (t:TypeId) (v:Sh)
 deriving Inhabited
structure Val where
 ν:List Nat
 ρ:List (Option Nat)
def Sh.wd:Sh->Nat|.jv=>5|.jg _ _=>5|_=>1
def wds:List Sh->Nat|[]=>0|s::l=>s.wd+wds l
def Sh.eo:Sh->Bool|.jv=>eF|.jg _ _=>eF|.da _=>eF|.df _=>eF|.dT=>eF|_=>eT
def JL(V:Val)(a b:Nat)(j:JV):Prop:=∃k n t ns is c h3 h2 h4,j=JV.mk k n t ns is c h3 h2 h4/\V.ν[a]?=J (z ns)/\V.ν[b]?=J (z is)
mutual
inductive M(V:Val):Sh->AV->Prop|dT:M V .dT (.df [])|cX (b:Bool):M V .cX (.cX b)|bc (b:Bool):M V (.bc b) (.cX b)|gD (x:Nat) (c:Int) (y:Nat) (a b:Nat):V.ν[x]?=some a->V.ν[y]?=some b->M V (.gD x c y) (.cX (decide ((a:Int)+c<=b)))|gh (p:Bool) (x:Nat) (c:Int) (y:Nat) (a b:Nat):V.ν[x]?=some a->V.ν[y]?=some b->M V (.gh p x c y) (.cX (decide ((a:Int)+c=b)==p))|cU (k:IntKind) (n:Int):M V (.cU k) (.cU k n)|ic (k:IntKind) (n:Int):M V (.ic k n) (.cU k n)|eM (j:Nat) (c:Int) (a:Nat):V.ν[j]?=some a->M V (.eM j c) (.cU .i64 (a+c))|cV (s:LU):M V .cV (.cV s)|ds (s:LU):s.length<=LB->M V .ds (.cV s)|sc (s:LU):M V (.sc s) (.cV s)|eZ (i:Nat) (s:LU):V.ν[i]?=some s.length->M V (.eZ i) (.cV s)|ev:M V .ev .ev|cY:M V .cY .cY|gF:M V .gF .ep|f9:M V .f9 .ej|ga:M V .ga .eA|sl (i:Nat) (e:List Sh) (rs:List LA):V.ν[i]?=some rs.length->MRs V e rs->M V (.sl i e) (.sl rs.length rs.flatten)|eB (e:List Sh) (rs:List LA):rs.length<=LS->MRs V e rs->M V (.eB e) (.sl rs.length rs.flatten)|gC (i:Nat) (is:List JV):V.ν[i]?=some is.length->M V (.gC i) (.sl is.length (aJ is))|fR (is:List JV):is.length<=8192->M V .fR (.sl is.length (aJ is))|eC (n:Nat) (e:List Sh) (l:LA):Ms V e l->M V (.eC n e) (.eC n l)|fS (n:Nat) (e:List Sh) (l:LA):Ms V e l->M V (.fS n e) (.sl n l)|it (k a:Nat) (e:List Sh):V.ν[a]?=some 0->M V (.fL k a e) .cY|fL (k a:Nat) (e:List Sh) (o n:Nat):V.ν[a]?=some n->0<n->V.ρ[k]?=some (some o)->M V (.fL k a e) (.dj o 0 n (wds e))|ft (k a:Nat) (e:List Sh) (o n:Nat):V.ν[a]?=some n->V.ρ[k]?=some (some o)->M V (.ft k a e) (.dj o 0 n (wds e))|da (l:List Sh) (v:LA):Ms V l v->M V (.da l) (.da v)|df (l:List Sh) (v:LA):Mt V l v->M V (.df l) (.df v)|jv (j:JV):M V .jv j.av|jg (a b:Nat) (j:JV):JL V a b j->M V (.jg a b) j.av|c8 (k off o:Nat):V.ρ[k]?=some (some o)->M V (.c8 k off) (.c8 o off)|em (off:Nat) (l:List Sh) (v r:LA):Ms V l v->off<=v.length->ae 0 r=true->M V (.em off l) (.em ((v++r).drop off))|ec (k o:Nat):V.ρ[k]?=some (some o)->M V (.ec k) (.ec o)|pk (k o:Nat):V.ρ[k]?=some (some o)->M V (.pk k) (.c8 o 0)|ea (f:Fn) (x y:List Sh) (u v:LA):Mt V x u->Mt V y v->M V (.ea f x y) (.ea f u v)|eb (t:TypeId) (s:Sh) (v:AV):M V s v->M V (.eb t s) (.eb t v)
inductive Ms(V:Val):List Sh->LA->Prop|de:Ms V [] []|eo (s:Sh) (t:List Sh) (v:AV) (b:LA):s.eo=true->M V s v->Ms V t b->Ms V (s::t) (v::b)|jv (t:List Sh) (j:JV) (b:LA):Ms V t b->Ms V (.jv::t) (j.B++b)|jg (a b:Nat) (t:List Sh) (j:JV) (r:LA):JL V a b j->Ms V t r->Ms V (.jg a b::t) (j.B++r)
inductive MRs(V:Val):List Sh->List LA->Prop|de (e:List Sh):MRs V e []|cW (e:List Sh) (r:LA) (rs:List LA):Ms V e r->MRs V e rs->MRs V e (r::rs)
inductive Mt(V:Val):List Sh->LA->Prop|de:Mt V [] []|cW (s:Sh) (t:List Sh) (v:AV) (b:LA):M V s v->Mt V t b->Mt V (s::t) (v::b)
end
structure Val.le(V V':Val):Prop where
 ν:∀(i a:Nat),V.ν[i]?=some a->V'.ν[i]?=some a
 ρ:∀(i:Nat) (a:Option Nat),V.ρ[i]?=some a->V'.ρ[i]?=some a
def Val.le.cf{V:Val}:V.le V:=⟨λ_ _ h=>h,λ_ _ h=>h⟩
def Val.le.N{V V' b:Val}(h:V.le V')(k:V'.le b):V.le b:=⟨λi a e=>k.ν i a (h.ν i a e),λi a e=>k.ρ i a (h.ρ i a e)⟩
theorem JL.D{V V':Val}(h:V.le V'){a b:Nat}{j:JV}(hj:JL V a b j):JL V' a b j:=by obtain⟨k,n,t,ns,is,f,h3,h2,h4,e,c,d⟩:=hj;exact⟨k,n,t,ns,is,f,h3,h2,h4,e,h.ν _ _ c,h.ν _ _ d⟩
mutual
theorem M.D{V V':Val}(h:V.le V'):∀{s:Sh} {v:AV},M V s v->M V' s v|_,_,.dT=>.dT|_,_,.cX b=>.cX b|_,_,.bc b=>.bc b|_,_,.gD x c y a b e f=>.gD x c y a b (h.ν _ _ e) (h.ν _ _ f)|_,_,.gh p x c y a b e f=>.gh p x c y a b (h.ν _ _ e) (h.ν _ _ f)|_,_,.cU k n=>.cU k n|_,_,.ic k n=>.ic k n|_,_,.eM j c a e=>.eM j c a (h.ν _ _ e)|_,_,.cV s=>.cV s|_,_,.ds s e=>.ds s e|_,_,.sc s=>.sc s|_,_,.eZ i s e=>.eZ i s (h.ν _ _ e)|_,_,.ev=>.ev|_,_,.cY=>.cY|_,_,.gF=>.gF|_,_,.f9=>.f9|_,_,.ga=>.ga|_,_,.sl i e rs a b=>.sl i e rs (h.ν _ _ a) (MRs.D h b)|_,_,.eB e rs a b=>.eB e rs a (MRs.D h b)|_,_,.gC i is a=>.gC i is (h.ν _ _ a)|_,_,.fR is a=>.fR is a|_,_,.eC n e l a=>.eC n e l (Ms.D h a)|_,_,.fS n e l a=>.fS n e l (Ms.D h a)|_,_,.it k a e x=>.it k a e (h.ν _ _ x)|_,_,.fL k a e o n x y q=>.fL k a e o n (h.ν _ _ x) y (h.ρ _ _ q)|_,_,.ft k a e o n x q=>.ft k a e o n (h.ν _ _ x) (h.ρ _ _ q)|_,_,.da l v a=>.da l v (Ms.D h a)|_,_,.df l v a=>.df l v (Mt.D h a)|_,_,.jv j=>.jv j|_,_,.jg a b j x=>.jg a b j (x.D h)|_,_,.c8 k off o a=>.c8 k off o (h.ρ _ _ a)|_,_,.em off l v d a c b=>.em off l v d (Ms.D h a) c b|_,_,.ec k o a=>.ec k o (h.ρ _ _ a)|_,_,.pk k o a=>.pk k o (h.ρ _ _ a)|_,_,.ea f x y u v a b=>.ea f x y u v (Mt.D h a) (Mt.D h b)|_,_,.eb t s v a=>.eb t s v (M.D h a)
theorem Ms.D{V V':Val}(h:V.le V'):∀{l:List Sh} {v:LA},Ms V l v->Ms V' l v|_,_,.de=>.de|_,_,.eo s t v b a x y=>.eo s t v b a (M.D h x) (Ms.D h y)|_,_,.jv t j b x=>.jv t j b (Ms.D h x)|_,_,.jg a b t j d x y=>.jg a b t j d (x.D h) (Ms.D h y)
theorem MRs.D{V V':Val}(h:V.le V'):∀{l:List Sh} {v:List LA},MRs V l v->MRs V' l v|_,_,.de e=>.de e|_,_,.cW e d rs x y=>.cW e d rs (Ms.D h x) (MRs.D h y)
theorem Mt.D{V V':Val}(h:V.le V'):∀{l:List Sh} {v:LA},Mt V l v->Mt V' l v|_,_,.de=>.de|_,_,.cW s t v b x y=>.cW s t v b (M.D h x) (Mt.D h y)
end
theorem Ms.dt{V:Val}:∀{l:List Sh} {v:LA},Ms V l v->z v=wds l
 |_,_,.de=>rfl
 |_,_,.eo s t v b a x y=>by
  have:s.wd=1:=by cases s<;>first|rfl|cases a
  rw[wds,this,a90,y.dt];omega
 |_,_,.jv t j b x=>by rw[wds,a04,j.dt,x.dt];rfl
 |_,_,.jg a b t j d x y=>by rw[wds,a04,j.dt,y.dt];rfl
def Ms.eG{V:Val}:∀{l m:List Sh} {v w:LA},Ms V l v->Ms V m w->Ms V (l++m) (v++w)
 |_,_,_,_,.de,h=>h|_,_,_,_,.eo s t v b a x y,h=>.eo s _ v _ a x (y.eG h)|_,_,_,_,.jv t j b x,h=>by rw[ay2];exact .jv _ j _ (x.eG h)
 |_,_,_,_,.jg a b t j d x y,h=>by rw[ay2];exact .jg a b _ j _ x (y.eG h)
theorem MRs.dt{V:Val}{e:List Sh}:∀{rs:List LA},MRs V e rs->z rs.flatten=z rs*wds e
 |_,.de _=>by simp
 |_,.cW _ d rs x y=>by rw[aC2,a04,x.dt,y.dt,a90,Nat.succ_mul];omega
def MRs.eG{V:Val}{e:List Sh}:∀{rs a:List LA},MRs V e rs->MRs V e a->MRs V e (rs++a)|_,_,.de _,h=>h|_,_,.cW _ d rs x y,h=>.cW _ d _ x (y.eG h)
def MRs.b2{V:Val}{e:List Sh}:∀{rs:List LA},MRs V e rs->∀(i:Nat),i<z rs->∃d,rs[i]?=J d/\Ms V e d/\∃pre,rs.flatten=pre++(d++(rs.drop (i+1)).flatten)/\z pre=i*wds e
 |_,.de _,i,h=>by simp at h
 |_,.cW _ d rs x y,0,h=>⟨d,rfl,x,[],by simp,by simp⟩|_,.cW _ d rs x y,i+1,h=>by obtain⟨b,a,h2,pre,h3,h4⟩:=y.b2 i (by simpa using h);grind [x.dt]
def PV:Nat->List Sh->Option (List Sh×List Sh)|0,l=>J ([],l)|_+1,[]=>U|n+1,s::l=>if s.wd<=n+1 then(match PV (n+1-s.wd) l with|J (a,b)=>J (s::a,b)|U=>U)else U
def Ms.aP{V:Val}:∀{l:List Sh} {v:LA},Ms V l v->∀{n:Nat} {a b:List Sh},PV n l=J (a,b)->∃x y,v=x++y/\z x=n/\Ms V a x/\Ms V b y
 |l,v,h,0,a,b,c=>by simp only[PV,a05,ay8]at c;obtain⟨rfl,rfl⟩:=c;exact⟨[],v,rfl,rfl,.de,h⟩
 |_,_,.de,n+1,a,b,c=>by simp[PV]at c
 |_,_,.eo s t v N e h2 h3,n+1,a,b,c=>by
  have g:s.wd=1:=by cases s<;>first|rfl|cases e
  simp only[PV,g]at c;rw[if_pos (by omega)]at c;split at c;·rename_i i k d;simp only[a05,ay8]at c;obtain⟨rfl,rfl⟩:=c;obtain⟨x,y,e1,e2,e3,e4⟩:=h3.aP d;grind [Ms]
  ·cases c
 |_,_,.jv t j N e,n+1,a,b,c=>by
  simp only[PV]at c;split at c
  ·rename_i f;split at c;·rename_i i k d;simp only[a05,ay8]at c;obtain⟨rfl,rfl⟩:=c;obtain⟨x,y,e1,e2,e3,e4⟩:=e.aP d;have g:Sh.jv.wd=5:=rfl;exact⟨j.B++x,y,by rw[e1,ay2],by rw[a04,j.dt,e2];omega,.jv _ _ _ e3,e4⟩
   ·cases c
  ·cases c
 |_,_,.jg p q t j N m e,n+1,a,b,c=>by
  simp only[PV]at c;split at c
  ·rename_i f;split at c;·rename_i i k d;simp only[a05,ay8]at c;obtain⟨rfl,rfl⟩:=c;obtain⟨x,y,e1,e2,e3,e4⟩:=e.aP d;have g:(Sh.jg p q).wd=5:=rfl;exact⟨j.B++x,y,by rw[e1,ay2],by rw[a04,j.dt,e2];omega,.jg _ _ _ _ _ m e3,e4⟩
   ·cases c
  ·cases c
def Na{N:Nat}:∀(k:Nat) {l:LA},ae N l=eT->ae N (l.drop k)=eT|0,_,h=>h|_+1,[],_=>rfl|k+1,a::l,h=>by rw[ae,a01]at h;exact Na k h.2
mutual
def cl:Sh->Bool|.cY=>eF|.fL ..=>eF|.ft ..=>eF|.c8 ..=>eF|.ec _=>eF|.pk _=>eF|.eC ..=>eF|.sl _ e=>cls e|.eB e=>cls e|.fS _ e=>cls e|.da l=>cls l|.df l=>cls l|.em _ l=>cls l|.ea _ x y=>cls x&&cls y|.eb _ v=>cl v|_=>eT
def cls:List Sh->Bool|[]=>eT|s::l=>cl s&&cls l
end
def NV.em{l:LA}(h:ae 0 l=eT):NV (.em l):=⟨λ_ _=>rfl,by rw[below];exact h⟩
def NV.eb{t:TypeId}{v:AV}(h:NV v):NV (.eb t v):=⟨λO d=>by unfold bI;rw[h.nf],by rw[below];exact h.cl⟩
def NV.ea{f:Fn}{x y:LA}(h:NVs x)(k:NVs y):NV (.ea f x y):=⟨λO d=>by unfold bI;rw[h.nf,k.nf];rfl,by rw[below,h.cl,k.cl];rfl⟩
mutual
theorem M.nv{V:Val}:∀{s:Sh} {v:AV},M V s v->cl s=eT->NV v
 |_,_,.dT,_=>.df .de|_,_,.cX b,_=>.cX _|_,_,.bc b,_=>.cX _|_,_,.gD x c y a b e f,_=>.cX _|_,_,.gh p x c y a b e f,_=>.cX _|_,_,.cU k n,_=>.cU _ _|_,_,.ic k n,_=>.cU _ _|_,_,.eM j c a e,_=>.cU _ _|_,_,.cV s,_=>.cV _|_,_,.ds s e,_=>.cV _|_,_,.sc s,_=>.cV _|_,_,.eZ i s e,_=>.cV _|_,_,.ev,_=>⟨λ_ _=>rfl,rfl⟩|_,_,.cY,h=>by simp[cl]at h
 |_,_,.gF,_=>⟨λ_ _=>rfl,rfl⟩|_,_,.f9,_=>⟨λ_ _=>rfl,rfl⟩|_,_,.ga,_=>⟨λ_ _=>rfl,rfl⟩|_,_,.sl i e rs a b,h=>.sl _ (MRs.ay b (by simpa[cl]using h))|_,_,.eB e rs a b,h=>.sl _ (MRs.ay b (by simpa[cl]using h))|_,_,.gC i is a,_=>.sl _ (gY is)|_,_,.fR is a,_=>.sl _ (gY is)|_,_,.eC n e l a,h=>by simp[cl]at h
 |_,_,.fS n e l a,h=>.sl _ (Ms.af a (by simpa[cl]using h)).cl|_,_,.it k a e x,h=>by simp[cl]at h
 |_,_,.fL k a e o n x y q,h=>by simp[cl]at h
 |_,_,.ft k a e o n x q,h=>by simp[cl]at h
 |_,_,.da l v a,h=>.da (Ms.af a (by simpa[cl]using h))|_,_,.df l v a,h=>.df (Mt.af a (by simpa[cl]using h))|_,_,.jv j,_=>j.nv|_,_,.jg a b j x,_=>j.nv|_,_,.c8 k off o a,h=>by simp[cl]at h
 |_,_,.em off l v d a c b,h=>.em (Na off (Dj _ _ (Ms.af a (by simpa[cl]using h)).cl b))|_,_,.ec k o a,h=>by simp[cl]at h
 |_,_,.pk k o a,h=>by simp[cl]at h
 |_,_,.ea f x y u v a b,h=>by rw[cl,a01]at h;exact .ea (Mt.af a h.1) (Mt.af b h.2)
 |_,_,.eb t s v a,h=>.eb (M.nv a (by simpa[cl]using h))
theorem Ms.af{V:Val}:∀{l:List Sh} {v:LA},Ms V l v->cls l=eT->NVs v
 |_,_,.de,_=>.de|_,_,.eo s t v b a x y,h=>by rw[cls,a01]at h;exact .cW (M.nv x h.1) (Ms.af y h.2)
 |_,_,.jv t j b x,h=>by rw[cls,a01]at h;exact j.af.eG (Ms.af x h.2)
 |_,_,.jg a b t j d x y,h=>by rw[cls,a01]at h;exact j.af.eG (Ms.af y h.2)
theorem MRs.ay{V:Val}:∀{l:List Sh} {v:List LA},MRs V l v->cls l=eT->ae 0 v.flatten=eT|_,_,.de e,_=>rfl|_,_,.cW e d rs x y,h=>by rw[aC2];exact Dj _ _ (Ms.af x h).cl (MRs.ay y h)
theorem Mt.af{V:Val}:∀{l:List Sh} {v:LA},Mt V l v->cls l=eT->NVs v|_,_,.de,_=>.de|_,_,.cW s t v b x y,h=>by rw[cls,a01]at h;exact .cW (M.nv x h.1) (Mt.af y h.2)
end
theorem M.C{V:Val}{s:Sh}{v:AV}(h:M V s v)(a:s.eo=eT):v.C=eT:=by cases h<;>first|rfl|cases a
theorem Ms.C{V:Val}:∀{l:List Sh} {v:LA},Ms V l v->v.all AV.C=eT
 |_,_,.de=>rfl|_,_,.eo s t v b a x y=>by rw[a07,x.C a,y.C];rfl
 |_,_,.jv t j b x=>by rw[aH9,j.C,x.C];rfl
 |_,_,.jg a b t j d x y=>by rw[aH9,j.C,y.C];rfl
theorem MRs.C{V:Val}:∀{l:List Sh} {v:List LA},MRs V l v->v.flatten.all AV.C=eT|_,_,.de e=>rfl|_,_,.cW e d rs x y=>by rw[aC2,aH9,x.C,y.C];rfl
def D8{N:Nat}:∀{l m:LA},ae N l=eT->ae N m=eT->ae N (l++m)=eT|[],m,_,h=>h|a::l,m,b,h2=>by rw[ae,a01]at b;rw[a09,ae,b.1,D8 b.2 h2];rfl
def wR{n k:Nat}(h:n<=k){l:LA}(a:ae n l=eT):ae k l=eT:=aK h l a
mutual
theorem M.ay{V:Val}{N:Nat}(d:∀(k o:Nat),V.ρ[k]?=J (J o)->o<N):∀{s:Sh} {v:AV},M V s v->below N v=eT
 |_,_,.dT=>rfl|_,_,.cX b=>rfl|_,_,.bc b=>rfl|_,_,.gD x c y a b e f=>rfl|_,_,.gh p x c y a b e f=>rfl|_,_,.cU k n=>rfl|_,_,.ic k n=>rfl|_,_,.eM j c a e=>rfl|_,_,.cV s=>rfl|_,_,.ds s e=>rfl|_,_,.sc s=>rfl|_,_,.eZ i s e=>rfl|_,_,.ev=>rfl|_,_,.cY=>rfl|_,_,.gF=>rfl|_,_,.f9=>rfl|_,_,.ga=>rfl|_,_,.sl i e rs a b=>by rw[below];exact MRs.b5 d b
 |_,_,.eB e rs a b=>by rw[below];exact MRs.b5 d b
 |_,_,.gC i is a=>by rw[below];exact wR (a99 N) (gY is)
 |_,_,.fR is a=>by rw[below];exact wR (a99 N) (gY is)
 |_,_,.eC n e l a=>by rw[below];exact Ms.b5 d a
 |_,_,.fS n e l a=>by rw[below];exact Ms.b5 d a
 |_,_,.it k a e x=>rfl|_,_,.fL k a e o n x y q=>by rw[below];simpa using d _ _ q
 |_,_,.ft k a e o n x q=>by rw[below];simpa using d _ _ q
 |_,_,.da l v a=>by rw[below];exact Ms.b5 d a
 |_,_,.df l v a=>by rw[below];exact Mt.b5 d a
 |_,_,.jv j=>by unfold JV.av;rw[below];exact wR (a99 N) j.ay
 |_,_,.jg a b j x=>by unfold JV.av;rw[below];exact wR (a99 N) j.ay
 |_,_,.c8 k off o a=>by rw[below];simpa using d _ _ a
 |_,_,.em off l v h a c b=>by rw[below];exact Na off (D8 (Ms.b5 d a) (wR (a99 N) b))
 |_,_,.ec k o a=>by rw[below];simpa using d _ _ a
 |_,_,.pk k o a=>by rw[below];simpa using d _ _ a
 |_,_,.ea f x y u v a b=>by rw[below,Mt.b5 d a,Mt.b5 d b];rfl
 |_,_,.eb t s v a=>by rw[below];exact M.ay d a
theorem Ms.b5{V:Val}{N:Nat}(c:∀(k o:Nat),V.ρ[k]?=J (J o)->o<N):∀{l:List Sh} {v:LA},Ms V l v->ae N v=eT
 |_,_,.de=>rfl|_,_,.eo s t v b a x y=>by rw[ae,M.ay c x,Ms.b5 c y];rfl
 |_,_,.jv t j b x=>D8 (wR (a99 N) j.ay) (Ms.b5 c x)|_,_,.jg a b t j d x y=>D8 (wR (a99 N) j.ay) (Ms.b5 c y)
theorem MRs.b5{V:Val}{N:Nat}(a:∀(k o:Nat),V.ρ[k]?=J (J o)->o<N):∀{l:List Sh} {v:List LA},MRs V l v->ae N v.flatten=eT|_,_,.de e=>rfl|_,_,.cW e d rs x y=>by rw[aC2];exact D8 (Ms.b5 a x) (MRs.b5 a y)
theorem Mt.b5{V:Val}{N:Nat}(a:∀(k o:Nat),V.ρ[k]?=J (J o)->o<N):∀{l:List Sh} {v:LA},Mt V l v->ae N v=eT|_,_,.de=>rfl|_,_,.cW s t v b x y=>by rw[ae,M.ay a x,Mt.b5 a y];rfl
end
inductive HO where
 |cH (l:List Sh)|ro (l:List Sh)|g9 (a:Nat) (e:List Sh)|fN (a:Nat) (e:List Sh)|ec (v:Sh)|pk|eq
 deriving Inhabited
structure Ab where
 az:List (Nat×Sh)
 Q:List HO
 nx:Nat
 X:List (Nat×Int×Nat)
 wr:List Nat:=[]
 ls:List Nat:=[]
 deriving Inhabited
def la(t:Nat):List (Nat×Sh)->Option Sh|[]=>U|(k,s)::l=>if k=t then J s else la t l
structure Vo extends Val where
 ac:List (List Nat)
def qZ(V:Val)(f:Nat×Int×Nat):Prop:=∃a b:Nat,V.ν[f.1]?=J a/\V.ν[f.2.2]?=J b/\(a:Int)+f.2.1<=b
theorem qZ.D{V V':Val}(h:V.le V'){f:Nat×Int×Nat}(hf:qZ V f):qZ V' f:=by obtain⟨a,b,c,h2,h3⟩:=hf;exact⟨a,b,h.ν _ _ c,h.ν _ _ h2,h3⟩
structure PkI where
 ok:St->Nat->List Nat->Prop
 fr:∀{Y Y':St} {o:Nat} {ms:List Nat},ok Y o ms->(∀i∈o::ms,Y'[i]?=Y[i]?)->ok Y' o ms
structure Frm where
 s:St
 w:List Nat
def Frm.I(F:Frm):Nat:=z F.s
def HM(PK:PkI)(V:Vo)(F:Frm)(Y:St)(k:Nat):HO->Prop|.cH l=>∃o cs,V.ρ[k]?=J (J o)/\V.ac[k]?=J [o]/\Y[o]?=J (.cH cs FZ)/\Ms V.toVal l cs|.ro l=>∃o cs b,V.ρ[k]?=J (J o)/\V.ac[k]?=J []/\(o<F.I/\o∉F.w)/\Y[o]?=J (.cH cs b)/\Ms V.toVal l cs|.g9 a e=>∃n,V.ν[a]?=J n/\(n=0/\V.ac[k]?=J []\/0<n/\∃o rs b,V.ρ[k]?=J (J o)/\V.ac[k]?=J [o]/\Y[o]?=J (.cH rs.flatten b)/\z rs=n/\MRs V.toVal e rs)|.fN a e=>∃n,V.ν[a]?=J n/\∃o rs b,V.ρ[k]?=J (J o)/\V.ac[k]?=J [o]/\Y[o]?=J (.cH rs.flatten b)/\z rs=n/\MRs V.toVal e rs|.ec v=>∃o c,V.ρ[k]?=J (J o)/\V.ac[k]?=J [o]/\Y[o]?=J (.ec c)/\∀p∈c,(∃s,p.1=.cV s)/\M V.toVal v p.2|.pk=>∃o ms,V.ρ[k]?=J (J o)/\V.ac[k]?=J (o::ms)/\PK.ok Y o ms|.eq=>V.ac[k]?=J []
structure G(PK:PkI)(O0:Frm)(V:Vo)(A:Ab)(E:As)(Y:St):Prop where
 az:∀t s,la t A.az=some s->M V.toVal s (look E t)
 lν:V.ν.length=A.nx
 lρ:V.ρ.length=A.Q.length
 lo:V.ac.length=A.Q.length
 aa:V.ν[0]?=some 0
 X:∀f∈A.X,qZ V.toVal f
 Q:∀k h,A.Q[k]?=some h->HM PK V O0 Y k h
 dw:∀(k k':Nat) a b,k≠k'->V.ac[k]?=some a->V.ac[k']?=some b->∀i∈a,i∉b
 cJ:∀(k:Nat) a,V.ac[k]?=some a->∀i∈a,(O0.I<=i\/i∈O0.w)/\i<Y.length
 ρl:∀(k o:Nat),V.ρ[k]?=some (some o)->o<Y.length
 bE:O0.I<=Y.length/\∀i,i<O0.I->i∉O0.w->Y[i]?=O0.s[i]?
 ok:Ok Y
section
variable{PK:PkI}{O0:Frm}{V:Vo}{A:Ab}{E:As}{Y:St}
theorem G.dt(h:G PK O0 V A E Y):O0.I<=z Y:=h.bE.1
def G.bv(h:G PK O0 V A E Y){i:Nat}(hi:i<O0.I)(a:i∉O0.w):Y[i]?=O0.s[i]?:=h.bE.2 i hi a
def G.b9(h:G PK O0 V A E Y){s:Sh}{v:AV}(hv:M V.toVal s v)(d:Nat):G PK O0 V {A with az:=(d,s)::A.az} ((d,v)::E) Y:=by refine⟨λt b a=>?_,h.lν,h.lρ,h.lo,h.aa,h.X,h.Q,h.dw,h.cJ,h.ρl,h.bE,h.ok⟩;simp only[la]at a;simp only[look];grind [G]
def G.f4(h:G PK O0 V A E Y){l:List (Nat×Sh)}(a:∀t s,la t l=J s->M V.toVal s (look E t)):G PK O0 V {A with az:=l} E Y:=
 ⟨a,h.lν,h.lρ,h.lo,h.aa,h.X,h.Q,h.dw,h.cJ,h.ρl,h.bE,h.ok⟩
def G.gS(h:G PK O0 V A E Y){f:Nat×Int×Nat}(hf:qZ V.toVal f):G PK O0 V {A with X:=f::A.X} E Y:=by grind [G]
theorem HM.D{N:Frm}{V V':Vo}(b:V.toVal.le V'.toVal){k:Nat}(d:V'.ac[k]?=V.ac[k]?){Y j:St}(g:∀a,V.ac[k]?=J a->∀i∈a,j[i]?=Y[i]?)(hr:∀(i:Nat),i<N.I->i∉N.w->j[i]?=Y[i]?):∀{x:HO},HM PK V N Y k x->HM PK V' N j k x
 |.cH l,⟨o,cs,c,h2,h3,h4⟩=>⟨o,cs,b.ρ _ _ c,d.trans h2,(g _ h2 o (by simp)).trans h3,h4.D b⟩|.ro l,⟨o,cs,f,c,h2,h3,h4,h5⟩=>⟨o,cs,f,b.ρ _ _ c,d.trans h2,h3,(hr o h3.1 h3.2).trans h4,h5.D b⟩
 |.g9 a e,⟨n,c,h⟩=>by
  refine⟨n,b.ν _ _ c,?_⟩;rcases h with⟨h2,h3⟩|⟨h2,o,rs,f,h3,h4,h5,h6,h7⟩;·exact .inl ⟨h2,d.trans h3⟩
  ·exact .inr ⟨h2,o,rs,f,b.ρ _ _ h3,d.trans h4,(g _ h4 o (by simp)).trans h5,h6,h7.D b⟩
 |.fN a e,⟨n,c,o,rs,f,h3,h4,h5,h6,h7⟩=>⟨n,b.ν _ _ c,o,rs,f,b.ρ _ _ h3,d.trans h4,(g _ h4 o (by simp)).trans h5,h6,h7.D b⟩|.ec v,⟨o,q,c,h2,h3,h4⟩=>⟨o,q,b.ρ _ _ c,d.trans h2,(g _ h2 o (by simp)).trans h3,λp m=>⟨(h4 p m).1,(h4 p m).2.D b⟩⟩|.pk,⟨o,ms,c,h2,h3⟩=>⟨o,ms,b.ρ _ _ c,d.trans h2,PK.fr h3 (λi hi=>g _ h2 i hi)⟩|.eq,h=>d.trans h
def G.eM(h:G PK O0 V A E Y)(a:Nat):∃V':Vo,V.toVal.le V'.toVal/\V'.ν[A.nx]?=J a/\V'.ac=V.ac/\G PK O0 V' {A with nx:=A.nx+1} E Y:=by
 have b:V.toVal.le (⟨⟨V.ν++[a],V.ρ⟩,V.ac⟩:Vo).toVal:=⟨λi x c=>by
  grind,λi x c=>c⟩
 refine⟨⟨⟨V.ν++[a],V.ρ⟩,V.ac⟩,b,?_,rfl,?_⟩;·grind [G]
 ·refine⟨λt s e=>(h.az t s e).D b,?_,h.lρ,h.lo,b.ν _ _ h.aa,λf hf=>(h.X f hf).D b,λk x d=>(h.Q k x d).D b rfl (λ_ _ _ _=>rfl) (λ_ _ _=>rfl),h.dw,h.cJ,h.ρl,h.bE,h.ok⟩;grind [G]
def Ok.ce{Y:St}(h:Ok Y){x:AO}(a:x.below (z Y+1)=eT):Ok (Y++[x]):=h.eG (l:=[x]) (by simpa using a)
def G.eN (h:G PK O0 V A E Y) {x:AO} {y:HO} (w:x.below (z Y+1)=eT) (B:∀V':Vo,V.toVal.le V'.toVal->V'.ρ[z A.Q]?=J (J (z Y))->V'.ac[z A.Q]?=J [z Y]->HM PK V' O0 (Y++[x]) (z A.Q) y):
  ∃V':Vo,V.toVal.le V'.toVal/\V'.ρ[z A.Q]?=J (J (z Y))/\V'.ν=V.ν/\V'.ac=V.ac++[[z Y]]/\G PK O0 V' {A with Q:=A.Q++[y]} E (Y++[x]):=by
 have d:V.toVal.le (⟨⟨V.ν,V.ρ++[J (z Y)]⟩,V.ac++[[z Y]]⟩:Vo).toVal:=⟨λi a c=>c,λi a c=>by
  grind⟩
 have n:(V.ρ++[J (z Y)])[z A.Q]?=J (z Y):=by rw[<-h.lρ];simp
 have p:(V.ac++[[z Y]])[z A.Q]?=J [z Y]:=by rw[<-h.lo];simp
 have j:∀(k:Nat) a,(V.ac++[[z Y]])[k]?=J a->V.ac[k]?=J a\/k=z A.Q/\a=[z Y]:=λk a c=>by grind [G]
 have e:∀(i:Nat),i<z Y->(Y++[x])[i]?=Y[i]?:=λi hi=>aA3 hi;refine⟨⟨⟨V.ν,V.ρ++[J (z Y)]⟩,V.ac++[[z Y]]⟩,d,n,rfl,rfl,λt s v=>(h.az t s v).D d,h.lν,by simp[h.lρ],by simp[h.lo],h.aa,λf hf=>(h.X f hf).D d,λk N l=>?_,λk q a b g c hb i hi m=>?_,λk a c i hi=>?_,λk o l=>?_,?_,h.ok.ce w⟩
 ·rw[aC0]at l;split at l;·rename_i u;refine(h.Q k N l).D d ?_ (λa c i hi=>e i (h.cJ k a c i hi).2) (λi hi _=>e i (aC9 hi h.dt));grind
  grind
 ·rcases j k a c with c|⟨rfl,rfl⟩<;>rcases j q b hb with hb|⟨rfl,rfl⟩;·exact h.dw k q a b g c hb i hi m
  ·grind [G]
  ·grind [G]
  ·exact g rfl
 ·grind [G]
 ·grind [G]
 grind [G]
def G.co(h:G PK O0 V A E Y){k o:Nat}{x:AO}{y:HO}(q:k<z A.Q)(m:V.ac[k]?=J [o])(t:x.below (z Y)=eT)(u:HM PK V O0 (Y.set o x) k y):G PK O0 V {A with Q:=A.Q.set k y} E (Y.set o x):=by
 have s:=h.cJ k [o] m o (by simp);have d:∀(i:Nat),i≠o->(Y.set o x)[i]?=Y[i]?:=λi hi=>by rw[List.getElem?_set_ne (Ne.symm hi)]
 refine⟨h.az,h.lν,by simp[h.lρ],by simp[h.lo],h.aa,h.X,λf N b=>?_,h.dw,λf a j i hi=>by simpa using h.cJ f a j i hi,λf p b=>by simpa using h.ρl f p b,?_,?_⟩
 ·rw[List.getElem?_set]at b;split at b;·grind
  ·rename_i l;refine(h.Q f N b).D .cf rfl (λa j i hi=>d i λe=>?_) (λi hi n=>d i λe=>?_);·grind [G]
   grind
 ·grind [G]
 grind [Ok,h.ok]
end
abbrev Fs:=List (Nat×Int×Nat)
def prove(F:Fs):Nat->Nat->Int->Nat->Bool|0,x,c,y=>(x==y||x==0)&&decide (c<=0)|d+1,x,c,y=>((x==y||x==0)&&decide (c<=0))||F.any λf=>(f.1==x||x==0)&&prove F d f.2.2 (c-f.2.1) y
def NW{V:Val}{F:Fs}(m:V.ν[0]?=J 0)(i:∀f∈F,qZ V f):∀(d x:Nat) (c:Int) (y a b:Nat),prove F d x c y=eT->V.ν[x]?=J a->V.ν[y]?=J b->(a:Int)+c<=b:=by
 have base:∀(x:Nat) (c:Int) (y a b:Nat),((x==y||x==0)&&decide (c<=0))=eT->V.ν[x]?=J a->V.ν[y]?=J b->(a:Int)+c<=b:=by grind
 intro d
 induction d with
 |zero=>exactλx c y a b h g hb=>base x c y a b h g hb
 |succ d l=>
  intro x c y a b h g hb;rw[prove,aB4]at h;rcases h with h|h;·exact base x c y a b h g hb
  ·obtain⟨f,hf,e⟩:=aG9.mp h;simp only[a01,aB4,beq_iff_eq]at e;obtain⟨o,e⟩:=e;obtain⟨p,q,n,k,j⟩:=i f hf;have:=l _ _ _ _ _ e k hb;grind
def PD:Nat:=4
def le?(F:Fs)(x:Nat)(c:Int)(y:Nat):Bool:=prove F PD x c y
def leN(F:Fs)(x:Nat)(n:Nat):Bool:=prove F PD x (-(n:Int)) 0
section
variable(F:Fs)(θ:List (Nat×Int))(θo:List Nat)
def anZ:Sh->Bool|.cU r=>eT|.ic r _=>eT|.eM _ _=>eT|_=>eF
def ash:Sh->Bool|.ds=>eT|.sc s=>decide (z s<=LB)|.eZ i=>leN F i LB|_=>eF
def RN(p:List Sh->Bool)(w:Nat):Nat->List Sh->Bool|0,l=>l.isEmpty|n+1,l=>match PV w l with|J (a,b)=>p a&&RN p w n b|U=>eF
def aoT:List Sh->Bool|[s]=>s.eo&&ash F s|_=>eF
def nmS:Sh->Option (Nat×Int)|.sl i [.ds]=>J (i,0)|.fS n l=>if RN (aoT F) 1 n l then J (0,(n:Int))else U|_=>U
def asL:Sh->Option Bool|.ic .u8 k=>J (k !=5)|.cU .u8=>J eF|_=>U
def jvP(a b c:Sh)(p q:Option (Nat×Int)):Bool:=match asL a,p,q with|J no,J p,J q=>anZ b&&ash F c&&le? F p.1 (p.2-q.2) q.1&&le? F q.1 (q.2-8192) 0&&(no||le? F q.1 (q.2-p.2) p.1)|_,_,_=>eF
def jvN:Nat->List Sh->Bool|_,[.jv]=>eT|_,[.jg _ _]=>eT|n+1,[a,b,c,d,e]=>a.eo&&b.eo&&c.eo&&d.eo&&e.eo&&jvP F a b c (nmS F d) (match e with|.gC j=>J (j,0)|.fS k m=>if RN (jvN n) 5 k m then J (0,(k:Int))else U|_=>U)|_,_=>eF
def aof(a b c d e:Sh):Bool:=jvN F 4 [a,b,c,d,e]
def BV(p:Option (Nat×Int))(i:Nat)(c:Int):Bool:=match p with|J (a,b)=>a==i&&b==c|U=>eF
def eqO(p:Option Nat)(k:Nat):Bool:=match p with|J a=>a==k|U=>eF
mutual
def sub:Sh->Sh->Bool|.dT,.dT=>eT|.cX,.cX=>eT|.cX,.bc _=>eT|.cX,.gD ..=>eT|.cX,.gh ..=>eT|.bc a,.bc b=>a==b|.cU k,.cU g=>k==g|.cU k,.ic g _=>k==g|.cU k,.eM _ _=>k== r|.ic k n,.ic g q=>k==g&&n==q|.eM j c,.eM i d=>BV θ[j]? i (d-c)|.eM j c,.ic k n=>k== r&&BV θ[j]? 0 (n-c)|.cV,.cV=>eT|.cV,.ds=>eT|.ds,.ds=>eT|.ds,.eZ i=>leN F i LB|.ds,.sc s=>decide (z s<=LB)|.cV,.sc _=>eT|.cV,.eZ _=>eT|.sc a,.sc b=>a==b|.eZ i,.eZ j=>BV θ[i]? j 0|.eZ i,.sc s=>BV θ[i]? 0 (z s)|.ev,.ev=>eT|.cY,.cY=>eT|.gF,.gF=>eT|.f9,.f9=>eT|.ga,.ga=>eT|.sl i e,.sl j h=>BV θ[i]? j 0&&subs e h|.eB e,.sl j h=>leN F j LS&&subs e h|.eB e,.eB h=>subs e h|.eB e,.fS n l=>decide (n<=LS)&&RN (λm=>subs e m) (wds e) n l|.gC i,.gC j=>BV θ[i]? j 0|.fR,.gC j=>leN F j 8192|.fR,.fS 0 []=>eT|.fR,.fR=>eT|.eC n e,.eC q h=>n==q&&subs e h|.fS n e,.fS q h=>n==q&&subs e h|.fL k a e,.cY=>BV θ[a]? 0 0|.fL k a e,.fL g p h=>BV θ[a]? p 0&&eqO θo[k]? g&&wds e==wds h|.fL k a e,.ft g p h=>BV θ[a]? p 0&&eqO θo[k]? g&&wds e==wds h&&le? F 0 1 p|.ft k a e,.ft g p h=>BV θ[a]? p 0&&eqO θo[k]? g&&wds e==wds h|.da l,.da m=>subs l m|.df l,.df m=>Sj l m|.jv,.jv=>eT|.jv,.jg _ _=>eT|.jv,.da [a,b,c,d,e]=>a.eo&&b.eo&&c.eo&&d.eo&&e.eo&&aof F a b c d e|.jg a b,.jg c d=>BV θ[a]? c 0&&BV θ[b]? d 0|.c8 k o,.c8 g u=>eqO θo[k]? g&&o==u|.em o l,.em u m=>o==u&&subs l m|.ec k,.ec g=>eqO θo[k]? g|.pk k,.pk g=>eqO θo[k]? g|.ea f x y,.ea w C D=>f==w&&Sj x C&&Sj y D|.eb t v,.eb A B=>t==A&&sub v B|_,_=>eF
def subs:List Sh->List Sh->Bool|[],[]=>eT|.jv::l,.jv::m=>subs l m|.jv::l,.jg _ _::m=>subs l m|.jv::l,a::b::c::d::e::m=>a.eo&&b.eo&&c.eo&&d.eo&&e.eo&&aof F a b c d e&&subs l m|.jg a b::l,.jg c d::m=>BV θ[a]? c 0&&BV θ[b]? d 0&&subs l m|s::l,f::m=>s.eo&&f.eo&&sub s f&&subs l m|_,_=>eF
def Sj:List Sh->List Sh->Bool|[],[]=>eT|s::l,a::m=>sub s a&&Sj l m|_,_=>eF
end
end
structure Sb(F:Fs)(θ:List (Nat×Int))(θo:List Nat)(V W:Val):Prop where
 aa:V.ν[0]?=some 0
 X:∀f∈F,qZ V f
 eM:∀(j i:Nat) (c:Int),BV θ[j]? i c=true->∀a:Nat,V.ν[i]?=some a->∃b:Nat,W.ν[j]?=some b/\(b:Int)=a+c
 bx:∀(k k' o:Nat),eqO θo[k]? k'=true->V.ρ[k']?=some (some o)->W.ρ[k]?=some (some o)
section
variable{F:Fs}{θ:List (Nat×Int)}{θo:List Nat}{V W:Val}
theorem ae9(hs:Sb F θ θo V W){x n a:Nat}(h:leN F x n=eT)(b:V.ν[x]?=J a):a<=n:=by have:=NW hs.aa hs.X _ _ _ _ _ _ h b hs.aa;omega
theorem VS(hs:Sb F θ θo V W){x y a b:Nat}{c:Int}(h:le? F x c y=eT)(d:V.ν[x]?=J a)(hb:V.ν[y]?=J b):(a:Int)+c<=b:=NW hs.aa hs.X _ _ _ _ _ _ h d hb
theorem Sb.gg(hs:Sb F θ θo V W){j i:Nat}(h:BV θ[j]? i 0=eT){a:Nat}(b:V.ν[i]?=J a):W.ν[j]?=J a:=by grind [Sb]
theorem Wu:∀{rs:List LA},MRs V [.ds] rs->∃ns:List LU,rs.flatten=ns.map AV.cV/\z ns=z rs/\∀x∈ns,z x<=LB
 |_,.de _=>⟨[],rfl,rfl,by simp⟩
 |_,.cW _ d rs x y=>by
  obtain⟨ns,a,h2,h3⟩:=Wu y;cases x with
  |eo _ _ v b h4 h5 h6=>
   cases h6;cases h5 with
   |ds s hs=>exact⟨s::ns,by rw[aC2,a];rfl,by simp[h2],λx c=>by
    grind⟩
theorem JL.ee(hs:Sb F θ θo V W){a b c d:Nat}{j:JV}(i:BV θ[a]? c 0=eT)(h2:BV θ[b]? d 0=eT)(h:JL V c d j):JL W a b j:=by obtain⟨k,n,t,ns,is,x1,x3,x2,x4,e,f,g⟩:=h;exact⟨k,n,t,ns,is,x1,x3,x2,x4,e,hs.gg i f,hs.gg h2 g⟩
theorem afl:∀{l:List Sh} {n:Nat} {a b:List Sh},PV n l=J (a,b)->SizeOf.sizeOf a<=SizeOf.sizeOf l/\SizeOf.sizeOf b<=SizeOf.sizeOf l
 |l,0,a,b,h=>by simp only[PV,a05,ay8]at h;obtain⟨rfl,rfl⟩:=h;refine⟨?_,a06 _⟩;cases l<;>simp;omega
 |[],n+1,a,b,h=>by simp[PV]at h
 |s::l,n+1,a,b,h=>by
  simp only[PV]at h;split at h
  ·split at h;·rename_i x y c;simp only[a05,ay8]at h;obtain⟨rfl,rfl⟩:=h;have:=afl c;simp;omega
   ·cases h
  ·cases h
theorem rows_ok{V W:Val}{e:List Sh}{p:List Sh->Bool}{N:Nat}(d:∀{a:List Sh} {v:LA},SizeOf.sizeOf a<=N->p a=eT->Ms V a v->Ms W e v):∀{n:Nat} {l:List Sh} {v:LA},SizeOf.sizeOf l<=N->RN p (wds e) n l=eT->Ms V l v->∃rs:List LA,z rs=n/\v=rs.flatten/\MRs W e rs
 |0,l,v,f,h,hv=>by simp only[RN,List.isEmpty_iff]at h;subst h;cases hv;exact⟨[],rfl,rfl,.de _⟩
 |n+1,l,v,f,h,hv=>by
  simp only[RN]at h;split at h;·rename_i a b c;rw[a01]at h;obtain⟨x,y,rfl,h2,h3,h4⟩:=hv.aP c;have g:=afl c;obtain⟨rs,e1,e2,e3⟩:=rows_ok d (by omega) h.2 h4;exact⟨x::rs,by simp[e1],by rw[aC2,e2],.cW _ _ _ (d (by omega) h.1 h3) e3⟩
  ·cases h
theorem MRs.ec{V W:Val}{l a:List Sh}(h:∀d,Ms V a d->Ms W l d):∀{rs:List LA},MRs V a rs->MRs W l rs|_,.de _=>.de _|_,.cW _ d rs x y=>.cW _ _ _ (h d x) (MRs.ec h y)
theorem Ms.cy{V:Val}{q:Sh}{t:List Sh}{f:LA}(h:Ms V (q::t) f)(c:q.eo=eT):∃v d,f=v::d/\M V q v/\Ms V t d:=by
 cases h with
 |eo _ _ v b _ hv e=>exact⟨v,b,rfl,hv,e⟩|jv=>cases c|jg a b=>cases c
theorem ao0{s:Sh}{v:AV}(h:anZ s=eT)(hv:M V s v):∃n,v=.cU r n:=by
 cases hv<;>first|(cases h;done)|skip
 ·rename_i k n;cases k<;>first|(cases h;done)|exact⟨_,rfl⟩
 ·rename_i k n;cases k<;>first|(cases h;done)|exact⟨_,rfl⟩
 ·exact⟨_,rfl⟩
theorem akA(hs:Sb F θ θo V W){s:Sh}{v:AV}(h:ash F s=eT)(hv:M V s v):∃n,v=.cV n/\z n<=LB:=by
 unfold ash at h;split at h;·grind [M]
 ·grind [M]
 ·cases hv with|eZ i s e=>exact⟨s,rfl,ae9 hs h e⟩
 ·cases h
theorem auq(hs:Sb F θ θo V W){d:Sh}{p:Nat×Int}{v:AV}(h:nmS F d=J p)(hv:M V d v):∃(ns:List LU) (m:Nat),v=.sl (z ns) (ns.map .cV)/\V.ν[p.1]?=J m/\(z ns:Int)=m+p.2/\∀x∈ns,z x<=LB:=by
 unfold nmS at h;split at h;·cases h;cases hv with|sl _ _ rs hi hr=>obtain⟨ns,e1,e2,e3⟩:=Wu hr;grind
 ·rename_i n l;split at h
  ·rename_i hr;cases h;cases hv with
   |fS _ _ w f=>
    obtain⟨rs,e1,rfl,e3⟩:=rows_ok (W:=V) (e:=[.ds]) (λ{x y} _ a g=>by
     unfold aoT at a;split at a;·rename_i s;rw[a01]at a;obtain⟨q,j,rfl,i,b⟩:=Ms.cy g a.1;cases b;obtain⟨t,rfl,c⟩:=akA hs a.2 i;exact .eo _ _ _ _ rfl (.ds t c) .de
     ·cases a) (a06 _) hr f
    grind [Wu,hs.aa]
  ·cases h
 ·cases h
theorem acD{V:Val}:∀{rs:List LA},MRs V [.jv] rs->∃is:List JV,z is=z rs/\rs.flatten=aJ is
 |_,.de _=>⟨[],rfl,rfl⟩
 |_,.cW _ d rs x y=>by
  obtain⟨is,a,h2⟩:=acD y;cases x with
  |eo _ _ _ _ h=>cases h|jv _ j b hb=>cases hb;exact⟨j::is,by simp[a],by rw[aC2,h2,aJ,ay5]⟩
theorem aia(hs:Sb F θ θo V W):∀(n:Nat) {l:List Sh} {v:LA},jvN F n l=eT->Ms V l v->∃j:JV,v=j.B
 |n,l,v,h,hv=>by
  unfold jvN at h;split at h;·cases hv with|eo _ _ _ _ x=>cases x|jv _ j b y=>cases y;exact⟨j,by simp⟩
  ·cases hv with|eo _ _ _ _ x=>cases x|jg _ _ _ j co x y=>cases y;exact⟨j,by simp⟩
  ·rename_i n a b c d e;simp only[a01]at h;obtain⟨⟨⟨⟨⟨O,P⟩,Q⟩,R⟩,S⟩,i⟩:=h;obtain⟨T,r1,rfl,B,hv⟩:=hv.cy O;obtain⟨vb,r2,rfl,L,hv⟩:=hv.cy P;obtain⟨vc,r3,rfl,M,hv⟩:=hv.cy Q;obtain⟨vd,r4,rfl,N,hv⟩:=hv.cy R;obtain⟨ve,r5,rfl,C,hv⟩:=hv.cy S;cases hv;unfold jvP at i;split at i
   ·rename_i no p q f G hi;simp only[a01,aB4]at i;obtain⟨⟨⟨⟨D,h2⟩,h3⟩,h4⟩,h5⟩:=i;obtain⟨X,rfl⟩:=ao0 D L;obtain⟨Y,rfl,t⟩:=akA hs h2 M;obtain⟨ns,m,rfl,A,E,s⟩:=auq hs G N;have hit:∃(is:List JV) (u:Nat),ve=.sl (z is) (aJ is)/\V.ν[q.1]?=J u/\(z is:Int)=u+q.2:=by
     split at hi;·cases hi;cases C with|gC _ is hj=>grind
     ·rename_i k Z;split at hi
      ·rename_i hr;cases hi;cases C with
       |fS _ _ w H=>
        obtain⟨rs,e1,rfl,e3⟩:=rows_ok (W:=V) (e:=[.jv]) (λ{x y} _ I K=>by
         obtain⟨j,rfl⟩:=aia hs n I K;have:=Ms.jv (V:=V) [] j [] .de;rwa[ay5]at this) (a06 _) hr H
        grind [acD,hs.aa]
      ·cases hi
     ·cases hi
    obtain⟨is,u,rfl,g,his⟩:=hit;have l1:=VS hs h3 A g;have l2:=VS hs h4 g hs.aa;obtain⟨k,rfl,o⟩:∃k,T=.cU .u8 k/\(no=eT->k≠5):=by
     unfold asL at f;split at f;·cases f;cases B;grind
     ·cases f;cases B;exact⟨_,rfl,λh=>by cases h⟩
     ·cases f
    refine⟨JV.mk k X Y ns is (by omega) (λf=>?_) (by omega) ⟨t,s⟩,by rw[JV.bB]⟩;rcases h5 with h5|h5;·exact absurd f (o h5)
    ·have:=VS hs h5 g A;omega
   ·cases i
  ·cases h
theorem ak0(hs:Sb F θ θo V W){a b c d e:Sh}{g i k vd ve:AV}(h:aof F a b c d e=eT)(l:M V a g)(hb:M V b i)(m:M V c k)(n:M V d vd)(he:M V e ve):∃j:JV,[g,i,k,vd,ve]=j.B:=by have f:=h;unfold aof jvN at f;simp only[a01]at f;obtain⟨⟨⟨⟨⟨o,p⟩,q⟩,s⟩,t⟩,_⟩:=f;exact aia hs 4 h (.eo _ _ _ _ o l (.eo _ _ _ _ p hb (.eo _ _ _ _ q m (.eo _ _ _ _ s n (.eo _ _ _ _ t he .de)))))
def aj8(F:Fs)(θ:List (Nat×Int))(θo:List Nat)(V W:Val)(N:Nat):Prop:=
 (∀(b:Sh) (v:AV),SizeOf.sizeOf b<=N->M V b v->∀(s:Sh),sub F θ θo s b=eT->M W s v)/\
 (∀(a:List Sh) (v:LA),SizeOf.sizeOf a<=N->Ms V a v->∀(l:List Sh),subs F θ θo l a=eT->Ms W l v)/\
 (∀(a:List Sh) (v:LA),SizeOf.sizeOf a<=N->Mt V a v->∀(l:List Sh),Sj F θ θo l a=eT->Mt W l v)
theorem aq6(hs:Sb F θ θo V W){N:Nat}(m:aj8 F θ θo V W N):∀(A:Sh) (v:AV),SizeOf.sizeOf A<=N+1->M V A v->∀(s:Sh),sub F θ θo s A=eT->M W s v:=by
 intro A v g hv s h;cases hv with
 |dT=>grind [sub,M]|cX b=>grind [sub,M]|bc b=>cases s<;>first|(simp[sub]at h;done)|exact .cX _|(simp[sub]at h;subst h;exact .bc _)
 |gD x c y a b e f=>cases s<;>first|(simp[sub]at h;done)|exact .cX _
 |gh p x c y a b e f=>cases s<;>first|(simp[sub]at h;done)|exact .cX _
 |cU k n=>cases s<;>first|(simp[sub]at h;done)|grind [sub,M]
 |ic k n=>
  cases s<;>first|(simp[sub]at h;done)|skip
  ·simp[sub]at h;subst h;exact .cU _ _
  ·grind [sub,M]
  ·rename_i j c;simp[sub]at h;obtain⟨rfl,h⟩:=h;obtain⟨b,q,h2⟩:=hs.eM _ _ _ h 0 hs.aa;have:=M.eM (V:=W) j c b q;grind
 |eM i d a e=>
  cases s<;>first|(simp[sub]at h;done)|skip
  ·simp[sub]at h;subst h;exact .cU _ _
  ·rename_i j c;simp[sub]at h;obtain⟨b,q,h2⟩:=hs.eM _ _ _ h a e;have:=M.eM (V:=W) j c b q;grind
 |cV t=>grind [sub,M]|ds t e=>cases s<;>first|(simp[sub]at h;done)|exact .cV _|exact .ds _ e
 |sc t=>
  cases s<;>first|(simp[sub]at h;done)|exact .cV _|(refine .ds _ ?_;simpa[sub]using h)|skip
  ·simp[sub]at h;subst h;exact .sc _
  grind [sub,M,Sb]
 |eZ i t e=>
  cases s<;>first|(simp[sub]at h;done)|exact .cV _|(refine .ds _ ?_;simp[sub]at h;exact ae9 hs h e)|skip
  simp[sub]at h;exact .eZ _ t (hs.gg h e)
 |ev=>cases s<;>first|(simp[sub]at h;done)|exact .ev
 |cY=>
  cases s<;>first|(simp[sub]at h;done)|exact .cY|skip
  rename_i k a e;simp[sub]at h;exact .it k a e (hs.gg h hs.aa)
 |gF=>cases s<;>first|(simp[sub]at h;done)|exact .gF
 |f9=>cases s<;>first|(simp[sub]at h;done)|exact .f9
 |ga=>grind [sub,M]
 |sl i e rs a b=>
  cases s<;>first|(simp[sub]at h;done)|skip
  ·simp[sub]at h;exact .sl _ _ rs (hs.gg h.1 a) (MRs.ec (λdu hr=>m.2.1 e _ (by simp at g;omega) hr _ h.2) b)
  ·simp[sub]at h;exact .eB _ rs (ae9 hs h.1 a) (MRs.ec (λdu hr=>m.2.1 e _ (by simp at g;omega) hr _ h.2) b)
 |eB e rs a b=>
  cases s<;>first|(simp[sub]at h;done)|skip
  simp[sub]at h;exact .eB _ rs a (MRs.ec (λdu hr=>m.2.1 e _ (by simp at g;omega) hr _ h) b)
 |gC i is a=>
  cases s<;>first|(simp[sub]at h;done)|skip
  ·grind [sub,M,Sb]
  ·simp[sub]at h;exact .fR is (ae9 hs h a)
 |fR is a=>grind [sub,M]
 |eC n e l a=>
  cases s<;>first|(simp[sub]at h;done)|skip
  simp[sub]at h;obtain⟨rfl,h⟩:=h;exact .eC _ _ _ (m.2.1 _ _ (by simp at g;omega) a _ h)
 |fS n e l a=>
  cases s<;>first|(simp[sub]at h;done)|skip
  ·simp[sub]at h;obtain⟨rs,e1,e2,e3⟩:=rows_ok (W:=W) (N:=N) (λ{x y} C D E=>m.2.1 x _ C E _ D) (by simp at g;omega) h.2 a;grind [M]
  ·cases n with
   |zero=>
    cases e with
    |nil=>cases a;exact .fR [] (by simp)|cons _ _=>simp[sub]at h
   |succ n=>simp[sub]at h
  ·simp[sub]at h;obtain⟨rfl,h⟩:=h;exact .fS _ _ _ (m.2.1 _ _ (by simp at g;omega) a _ h)
 |it k a e x=>
  cases s<;>first|(simp[sub]at h;done)|skip
  grind [sub,M,Sb]
 |fL k a e o n x y dv=>
  cases s<;>first|(simp[sub]at h;done)|skip
  grind [sub,M,Sb]
 |ft k a e o n x dv=>
  cases s<;>first|(simp[sub]at h;done)|skip
  ·simp[sub]at h;obtain⟨⟨⟨q,h2⟩,h3⟩,h4⟩:=h;rw[<-h3];have:=VS hs h4 hs.aa x;exact .fL _ _ _ o n (hs.gg q x) (by omega) (hs.bx _ _ _ h2 dv)
  grind [sub,M,Sb]
 |da l v a=>
  cases s<;>first|(simp[sub]at h;done)|skip
  ·simp[sub]at h;exact .da _ _ (m.2.1 _ _ (by simp at g;omega) a _ h)
  ·have:∃x y dv u w,l=[x,y,dv,u,w]/\(x.eo&&y.eo&&dv.eo&&u.eo&&w.eo&&aof F x y dv u w)=eT:=by rcases l with _|⟨x,_|⟨y,_|⟨dv,_|⟨u,_|⟨w,_|⟨T,l⟩⟩⟩⟩⟩⟩<;>first|(simp[sub]at h;done)|exact⟨_,_,_,_,_,rfl,h⟩
   obtain⟨x,y,dv,u,w,rfl,B⟩:=this;simp only[a01]at B;obtain⟨⟨⟨⟨⟨O,P⟩,Q⟩,R⟩,S⟩,B⟩:=B;obtain⟨v1,r1,rfl,G,a⟩:=a.cy O;obtain⟨v2,r2,rfl,H,a⟩:=a.cy P;obtain⟨v3,r3,rfl,I,a⟩:=a.cy Q;obtain⟨v4,r4,rfl,K,a⟩:=a.cy R;obtain⟨v5,r5,rfl,L,a⟩:=a.cy S;cases a;obtain⟨j,hj⟩:=ak0 hs B G H I K L;rw[hj];exact .jv j
 |df l v a=>
  cases s<;>first|(simp[sub]at h;done)|skip
  simp[sub]at h;exact .df _ _ (m.2.2 _ _ (by simp at g;omega) a _ h)
 |jv j=>grind [sub,M]
 |jg a b j x=>
  cases s<;>first|(simp[sub]at h;done)|exact .jv j|skip
  grind [sub,JL.ee,M]
 |c8 k off o a=>
  cases s<;>first|(simp[sub]at h;done)|skip
  grind [sub,M,Sb]
 |em off l v du a c b=>
  cases s<;>first|(simp[sub]at h;done)|skip
  simp[sub]at h;obtain⟨rfl,h⟩:=h;exact .em _ _ _ _ (m.2.1 _ _ (by simp at g;omega) a _ h) c b
 |ec k o a=>
  cases s<;>first|(simp[sub]at h;done)|skip
  grind [sub,M,Sb]
 |pk k o a=>
  cases s<;>first|(simp[sub]at h;done)|skip
  grind [sub,M,Sb]
 |ea f x y u v a b=>
  cases s<;>first|(simp[sub]at h;done)|skip
  simp[sub]at h;obtain⟨⟨rfl,q⟩,h2⟩:=h;exact .ea _ _ _ _ _ (m.2.2 _ _ (by simp at g;omega) a _ q) (m.2.2 _ _ (by simp at g;omega) b _ h2)
 |eb t A v a=>
  cases s<;>first|(simp[sub]at h;done)|skip
  simp[sub]at h;obtain⟨rfl,h⟩:=h;exact .eb _ _ _ (m.1 _ _ (by simp at g;omega) a _ h)
theorem amg(hs:Sb F θ θo V W){N:Nat}(f:aj8 F θ θo V W N):∀(i:List Sh) (v:LA),SizeOf.sizeOf i<=N+1->Ms V i v->∀(l:List Sh),subs F θ θo l i=eT->Ms W l v:=by
 intro i v g hv l h;unfold subs at h;split at h;·cases hv;exact .de
 ·rename_i l m;simp at g;cases hv with|eo _ _ _ _ x=>cases x|jv _ j b y=>exact .jv _ j _ (f.2.1 m _ (by omega) y _ h)
 ·rename_i l a b m;simp at g;cases hv with|eo _ _ _ _ x=>cases x|jg _ _ _ j R x y=>exact .jv _ j _ (f.2.1 m _ (by omega) y _ h)
 ·rename_i l a b c d e m _ _;simp at g;simp only[a01]at h;obtain⟨⟨⟨⟨⟨⟨k,n⟩,o⟩,p⟩,q⟩,t⟩,h2⟩:=h;cases hv with
  |eo _ _ D _ _ u hv=>
   cases hv with
   |eo _ _ E _ _ hb hv=>
    cases hv with
    |eo _ _ G _ _ w hv=>
     cases hv with
     |eo _ _ vd _ _ A hv=>
      cases hv with
      |eo _ _ ve R _ B hv=>obtain⟨j,hj⟩:=ak0 hs t u hb w A B;have:=Ms.jv (V:=W) _ j _ (f.2.1 m _ (by omega) hv _ h2);grind
      |jv=>cases q|jg=>cases q
     |jv=>cases p|jg=>cases p
    |jv=>cases o|jg=>cases o
   |jv=>cases n|jg=>cases n
  |jv=>cases k|jg=>cases k
 ·rename_i a b l c d m;simp at g;simp only[a01]at h;cases hv with|eo _ _ _ _ x=>cases x|jg _ _ _ j R x y=>exact .jg _ _ _ j _ (JL.ee hs h.1.1 h.1.2 x) (f.2.1 m _ (by omega) y _ h.2)
 ·rename_i s l C m _ _ _ _;simp at g;simp only[a01]at h;cases hv with|eo _ _ v b _ x y=>exact .eo _ _ _ _ h.1.1.1 (f.1 C _ (by omega) x _ h.1.2) (f.2.1 m _ (by omega) y _ h.2)|jv=>cases h.1.1.2|jg=>cases h.1.1.2
 ·cases h
theorem amh(hs:Sb F θ θo V W){N:Nat}(c:aj8 F θ θo V W N):∀(a:List Sh) (v:LA),SizeOf.sizeOf a<=N+1->Mt V a v->∀(l:List Sh),Sj F θ θo l a=eT->Mt W l v:=by
 intro a v d hv l h;unfold Sj at h;split at h;·cases hv;exact .de
 ·rename_i s l e m;simp at d;rw[a01]at h;cases hv with|cW _ _ v b x y=>exact .cW _ _ _ _ (c.1 e _ (by omega) x _ h.1) (c.2.2 m _ (by omega) y _ h.2)
 ·cases h
theorem PQ(hs:Sb F θ θo V W):∀N,aj8 F θ θo V W N|0=>⟨λc v a=>by cases c<;>simp at a,λb v a=>by cases b<;>simp at a,λb v a=>by cases b<;>simp at a⟩|N+1=>⟨aq6 hs (PQ hs N),amg hs (PQ hs N),amh hs (PQ hs N)⟩
theorem Wx(hs:Sb F θ θo V W){s a:Sh}{v:AV}(hv:M V a v)(h:sub F θ θo s a=eT):M W s v:=(PQ hs _).1 a v (a06 _) hv s h
theorem FK(hs:Sb F θ θo V W){l a:List Sh}{v:LA}(hv:Ms V a v)(h:subs F θ θo l a=eT):Ms W l v:=(PQ hs _).2.1 a v (a06 _) hv l h
theorem Vm(hs:Sb F θ θo V W){l a:List Sh}{v:LA}(hv:Mt V a v)(h:Sj F θ θo l a=eT):Mt W l v:=(PQ hs _).2.2 a v (a06 _) hv l h
end
inductive Sm where
 |ez (args:List Sh) (res:Sh)|ro (l args:List Sh) (res:Sh)|iP (args:List Sh)|pk (args:List Sh) (res:Sh)|iy (H:List HO) (args:List Sh) (res:Sh)
structure Cfg where
 gl:Nat->Option Sh
 sm:FuncId->List Sm
 mt:TypeId->String->Option FuncId
mutual
def shC:AV->Option Sh
 |.cX b=>J (.bc b)|.cU k n=>J (.ic k n)|.cV s=>J (.sc s)|.ev=>J .ev|.cY=>J .cY|.ep=>J .gF|.ej=>J .f9|.eA=>J .ga|.ea f x y=>match aeB x,aeB y with|J x,J y=>J (.ea f x y)|_,_=>U
 |.df []=>J .dT|_=>U
def aeB:LA->Option (List Sh)|[]=>J []|v::l=>match shC v,aeB l with|J s,J t=>J (s::t)|_,_=>U
end
def avS(X:Cfg)(A:Ab):XA->Option Sh|.t n=>la n A.az|.c v=>shC v|.g n=>X.gl n
def afa(X:Cfg)(A:Ab):List XA->Option (List Sh)|[]=>J []|x::l=>match avS X A x,afa X A l with|J s,J t=>J (s::t)|_,_=>U
def vF:List Sh->Nat->List Sh×Nat×Fs
 |[],n=>([],n,[])|.jv::l,n=>let(t,m,f):=vF l (n+2);(.jg n (n+1)::t,m,(n,0,n+1)::(n+1,-8192,0)::f)
 |.eB e::l,n=>let(t,m,f):=vF l (n+1);(.sl n e::t,m,(n,-(LS:Int),0)::f)
 |.fR::l,n=>let(t,m,f):=vF l (n+1);(.gC n::t,m,(n,-8192,0)::f)
 |.cV::l,n=>let(t,m,f):=vF l (n+1);(.eZ n::t,m,f)
 |.ds::l,n=>let(t,m,f):=vF l (n+1);(.eZ n::t,m,(n,-(LB:Int),0)::f)
 |s::l,n=>let(t,m,f):=vF l n;(s::t,m,f)
def opened(A:Ab)(l:List Sh):List Sh×Ab:=
 let(t,m,f):=vF l A.nx
 (t,{A with nx:=m,X:=f++A.X})
def cellsS:Sh->Option (List Sh)|.da l=>J l|.jv=>J [.jv]|.jg a b=>J [.jg a b]|s=>if s.eo then J [s]else U
def UX:List Sh->Sh|[.jv]=>.jv|[.jg a b]=>.jg a b|l=>.da l
def agd(A:Ab):Sh->Sh×Ab
 |.da l=>let(t,A):=opened A l;(.da t,A)
 |.jv=>let(t,A):=opened A [.jv];(UX t,A)
 |s=>if s.eo then(match opened A [s]with|([t],A)=>(t,A)|_=>(s,A))else(s,A)
def JD(A:Ab):List Sh->List Sh×Ab|[]=>([],A)|s::l=>let(s,A):=agd A s;let(t,A):=JD A l;(s::t,A)
def JC(A:Ab):Sh->Sh×Ab
 |.df l=>let(t,A):=JD A l;(.df t,A)
 |s=>agd A s
def cellAt:List Sh->Nat->Option Sh
 |[],_=>U|.jg a b::l,n=>match n with|0=>J (.cU .u8)|1=>J (.cU r)|2=>J .ds|3=>J (.sl a [.ds])|4=>J (.gC b)|n+5=>cellAt l n
 |.jv::l,n=>match n with|n+5=>cellAt l n|_=>U
 |s::l,n=>match n with|0=>J s|n+1=>cellAt l n
def aa0(ag:Bool)(sz:Nat)(l:List Sh)(off:Nat):Option Sh:=
 if ag then(match PV off l with
  |J (_,b)=>match PV sz b with|J (c,_)=>J (UX c)|U=>U
  |U=>U)else cellAt l off
def YF(l:List Sh)(off:Nat)(u:List Sh)(sz:Nat):Option (List Sh):=
 if wds u==sz then(match PV off l with
  |J (a,b)=>match PV sz b with|J (_,d)=>J (a++u++d)|U=>U
  |U=>U)else U
def afH(X:Cfg)(A:Ab):List Sh->List (Nat×Nat×XA)->Option (List Sh)
 |l,[]=>J l
 |l,(off,b,x)::a=>match avS X A x with
  |J s=>match cellsS s with
   |J u=>match YF l off u b with|J l=>afH X A l a|U=>U
   |U=>U
  |U=>U
def auM(d:List Sh):Nat->List Sh|0=>[]|n+1=>d++auM d n
def lin:Sh->Option (Nat×Int)|.eM j c=>J (j,c)|.ic r n=>J (0,n)|_=>U
def isInt:Sh->Option IntKind|.cU k=>J k|.ic k _=>J k|.eM _ _=>J r|_=>U
def KX:Sh->Bool|.cV=>eT|.ds=>eT|.sc _=>eT|.eZ _=>eT|_=>eF
def small(c:Int):Bool:=decide (-1099511627776<=c)&&decide (c<=1099511627776)
def IC:BinOp->Bool|.eql=>eT|_=>eF
def afz:Nat->List Sh->List Sh->Bool|_,[],[]=>eT|c,s::l,t::m=>s.eo&&t.eo&&(if c%3=0 then KX s&&KX t else if c%3=1 then el s&&el t else(match isInt s,isInt t with|J k,J k'=>k==k'|_,_=>eF))&&afz (c/3) l m|_,_,_=>eF
 where
  el:Sh->Bool
   |.cX=>eT|.bc _=>eT|.gD ..=>eT|.gh ..=>eT|_=>eF
def aqW(e a:Bool)(b:Nat)(x y:Sh):Option Sh:=
 match b,x,y with
 |n+8,.da l,.da m=>if wds l==n%1024&&afz (n/1024) l m then J .cX else U|3,.ev,.ev=>J (.bc e)|3,.c8 ..,.ev=>J (.bc !e)|3,.pk _,.ev=>J (.bc !e)|3,.em ..,.ev=>J (.bc !e)|5,.f9,.f9=>if a then J (.bc e)else U|5,.eb ..,.f9=>J (.bc !e)|7,.cY,.cY=>J (.bc e)|_,_,_=>U
def akU(F:Fs)(op:BinOp)(f:Nat)(e:Bool)(x y:Sh):Option Sh:=
 match isInt x,isInt y with
 |J k,J g=>
  match op with
  |.shl|.shr=>match y with|.ic _ n=>if 0<=n then J (.cU k)else U|_=>U
  |_=>if k !=g then U else
   match op with
   |.eql|.neq=>match lin x,lin y with|J (a,c),J (b,d)=>J (if a=b then .bc (decide (c=d)==IC op)else .gh (IC op) a (c-d) b)|_,_=>J .cX
   |.lss=>match lin x,lin y with|J (a,c),J (b,d)=>J (if a=b then .bc (decide (c<d))else .gD a (c-d+1) b)|_,_=>J .cX
   |.leq=>match lin x,lin y with|J (a,c),J (b,d)=>J (if a=b then .bc (decide (c<=d))else .gD a (c-d) b)|_,_=>J .cX
   |.gtr=>match lin x,lin y with|J (a,c),J (b,d)=>J (if a=b then .bc (decide (c>d))else .gD b (d-c+1) a)|_,_=>J .cX
   |.geq=>match lin x,lin y with|J (a,c),J (b,d)=>J (if a=b then .bc (decide (c>=d))else .gD b (d-c) a)|_,_=>J .cX
   |.add=>match x,y with|.eM j c,.ic r n=>if leN F j LB&&small c&&small n then J (.eM j (c+n))else J (.cU k)|.ic r n,.eM j c=>if leN F j LB&&small c&&small n then J (.eM j (c+n))else J (.cU k)|.ic r m,.ic r n=>if small m&&small n then J (.ic r (m+n))else J (.cU k)|_,_=>J (.cU k)
   |.sub=>match x,y with|.eM j c,.ic r n=>if leN F j LB&&small c&&small n then J (.eM j (c-n))else J (.cU k)|.ic r m,.ic r n=>if small m&&small n then J (.ic r (m-n))else J (.cU k)|_,_=>J (.cU k)
   |.quo|.rem=>match y with|.ic _ n=>if n !=0 then J (.cU k)else U|_=>U
   |_=>J (.cU k)
 |_,_=>
  if KX x&&KX y then(match op with
   |.eql|.neq=>match x,y with|.eZ i,.sc []=>J (.gh (IC op) i 0 0)|.sc [],.eZ i=>J (.gh (IC op) i 0 0)|_,_=>J .cX
   |.lss|.leq|.gtr|.geq=>J .cX|_=>U)else
  match op with
  |.eql|.neq=>aqW (IC op) e f x y|_=>U
def avd(op:UnOp)(x:Sh):Option Sh:=
 match op,x with
 |.not,.bc b=>J (.bc !b)|.not,.cX=>J .cX|.not,.gD a c b=>J (.gD b (1-c) a)|.not,.gh p a c b=>J (.gh (!p) a c b)|_,_=>U
mutual
def gen:Sh->Sh|.bc _=>.cX|.gD ..=>.cX|.gh ..=>.cX|.ic k _=>.cU k|.eM _ _=>.cU r|.sc _=>.ds|.eZ _=>.ds|.sl _ e=>.eB e|.gC _=>.fR|.jg _ _=>.jv|.eC n l=>.eC n (avJ l)|s=>s
def avJ:List Sh->List Sh|[]=>[]|s::l=>gen s::avJ l
end
def Ab.ce(A:Ab)(h:HO):Ab:={A with Q:=A.Q++[h]}
def Ab.bR(A:Ab)(k:Nat)(h:HO):Ab:={A with Q:=A.Q.set k h,wr:=k::A.wr}
def Ab.fq(A:Ab)(ks:List Nat):Ab:={A with ls:=ks++A.ls}
def awh(F:Fs)(nx:Nat)(p:Nat×Int):Bool:=decide (p.1<nx)&&(decide (0<=p.2)||le? F 0 (-p.2) p.1)
def agZ(F:Fs)(θ:List (Nat×Int))(θo:List Nat)(c:Option HO):HO->Bool
 |.eq=>eT|.cH l=>match c with|J (.cH f)=>subs F θ θo l f|_=>eF
 |.ro l=>match c with|J (.ro f)=>subs F θ θo l f|_=>eF
 |.g9 a e=>match c with|J (.g9 b d)=>BV θ[a]? b 0&&subs [] [] [] e d|J (.fN b d)=>BV θ[a]? b 0&&subs [] [] [] e d&&le? F 0 1 b|U=>BV θ[a]? 0 0|_=>eF
 |.fN a e=>match c with|J (.fN b d)=>BV θ[a]? b 0&&subs [] [] [] e d|_=>eF
 |.ec v=>match c with|J (.ec g)=>sub [] [] [] v g|_=>eF
 |.pk=>match c with|J .pk=>eT|_=>eF
def lG:HO->Bool|.eq=>eT|_=>eF
def MF(S:Ab)(θ:List (Nat×Int))(θo:List Nat):List Nat->List HO->List Nat->Bool|[],[],_=>eT|k::ks,h::hs,a=>agZ S.X θ θo S.Q[k]? h&&(lG h||decide (z S.Q<=k)|| !a.contains k)&&MF S θ θo ks hs (if lG h then a else k::a)|_,_,_=>eF
def aaQ(a S:Ab)(θ:List (Nat×Int))(θo:List Nat):Bool:=
 decide (z θ=a.nx)&&BV θ[0]? 0 0&&θ.all (awh S.X S.nx)&&
 a.az.all (λp=>match la p.1 S.az with|J s=>sub S.X θ θo p.2 s|U=>eF)&&
 a.X.all (λf=>match θ[f.1]?,θ[f.2.2]? with|J (i,p),J (j,q)=>le? S.X i (f.2.1+p-q) j|_,_=>eF)&&
 MF S θ θo θo a.Q []
def Hab(H:List HO):Ab:={az:=[],Q:=H,nx:=1,X:=[]}
def okH:HO->Bool|.cH _=>eT|.ec _=>eT|.eq=>eT|_=>eF
def Dz:List HO->List HO->List HO|h::H,x::l=>(if lG h then x else h)::Dz H l|_,l=>l
def ixs:Nat->List HO->List Nat|_,[]=>[]|k,h::H=>if lG h then ixs (k+1) H else k::ixs (k+1) H
def jO(A:Ab):List Bool->List HO->List HO×Ab|eT::m,.cH l::H=>((.cH (opened A l).1)::(jO (opened A l).2 m H).1,(jO (opened A l).2 m H).2)|_::m,h::H=>(h::(jO A m H).1,(jO A m H).2)|_,H=>(H,A)
def SL(m:Bool)(H:List HO)(k a w:Nat):Option (List Sh):=match H[k]? with|J (.g9 b e)=>if !m&&a==b&&wds e==w then J e else U|J (.fN b e)=>if a==b&&wds e==w then J e else U|_=>U
def auO(a:Nat)(e:List Sh):Sh:=if jvN [] 3 e then .gC a else .sl a e
def ahX:Sh->Option Sh|.cY=>J (.fS 0 [])|.eC n l=>if cls l then J (.fS n l)else U|s=>if cl s then J s else U
def Xg:List Sh->Option (List Sh)|[]=>J []|s::l=>match ahX s,Xg l with|J a,J b=>J (a::b)|_,_=>U
def Ab.cn(A:Ab)(e:List Sh)(fs:Fs):Sh×Ab:=(.ft (z A.Q) A.nx e,{A.ce (.fN A.nx e)with nx:=A.nx+1,X:=fs++A.X})
def aqE(A:Ab)(sz:Nat)(u:List Sh):Sh->Option (Sh×Ab)
 |.cY=>if subs A.X [] [] (u.map gen) u&&wds (u.map gen)==sz then J (A.cn (u.map gen) [(A.nx,-1,0),(0,1,A.nx)])else U|.fL k a e=>match SL eF A.Q k a (wds e)with|J e=>if leN A.X a LB&&subs A.X [] [] e u&&wds e==sz then J ((A.bR k .eq).cn e [(A.nx,-1,a),(a,1,A.nx)])else U|U=>U
 |.ft k a e=>match SL eT A.Q k a (wds e)with|J e=>if leN A.X a LB&&subs A.X [] [] e u&&wds e==sz then J ((A.bR k .eq).cn e [(A.nx,-1,a),(a,1,A.nx)])else U|U=>U
 |_=>U
def av3(A:Ab)(sz:Nat):Sh->Option (List Sh×Ab)
 |.eC m u=>if wds u==sz&&m==1 then J (u,A)else U|.ft k a e=>match SL eT A.Q k a (wds e)with|J e=>if le? A.X 0 1 a&&leN A.X a 1&&wds e==sz then J (e,A.bR k .eq)else U|U=>U
 |_=>U
def aci(H:List HO)(m:Bool)(k a w:Nat):Option Sh:=match SL m H k a w with|J e=>(Xg e).map (auO a)|U=>U
section
variable(H:List HO)
mutual
def IA:Sh->Option Sh
 |.cY=>J (.fS 0 [])|.eC n l=>match Qm l with|J l=>J (.fS n l)|U=>U
 |.fL k a e=>aci H eF k a (wds e)|.ft k a e=>aci H eT k a (wds e)|.da l=>match Qm l with|J l=>J (.da l)|U=>U
 |.df l=>match LZ l with|J l=>J (.df l)|U=>U
 |.eb t v=>match IA v with|J v=>J (.eb t v)|U=>U
 |.ea f x y=>match LZ x,LZ y with|J x,J y=>J (.ea f x y)|_,_=>U
 |.c8 k o=>J (.c8 k o)|.ec k=>J (.ec k)|.pk k=>J (.pk k)|s=>if cl s then J s else U
def Qm:List Sh->Option (List Sh)
 |[]=>J []|.jv::l=>match Qm l with|J t=>J (.jv::t)|U=>U
 |.jg a b::l=>match Qm l with|J t=>J (.jg a b::t)|U=>U
 |s::l=>if s.eo then(match IA s,Qm l with|J c,J t=>if c.eo then J (c::t)else U|_,_=>U)else U
def LZ:List Sh->Option (List Sh)|[]=>J []|s::l=>match IA s,LZ l with|J s,J t=>J (s::t)|_,_=>U
end
end
def ax3:Option HO->Bool|J .pk=>eT|_=>eF
def ab3(A:Ab)(ss:List Sh):Sm->Option (Sh×Ab)
 |.ez args res=>if Sj A.X [] [] args ss then J (JC A res)else U
 |.ro l args res=>match ss with
  |.c8 k 0::ss=>match A.Q[k]? with|J (.ro a)=>if subs A.X [] [] l a&&Sj A.X [] [] args ss then J (JC A res)else U|J (.cH a)=>if subs A.X [] [] l a&&Sj A.X [] [] args ss then J (JC A res)else U|_=>U
  |_=>U
 |.iP args=>if Sj A.X [] [] args ss then J (.pk (z A.Q),A.ce .pk)else U|.pk args res=>match ss with|.pk k::ss=>if ax3 A.Q[k]? &&Sj A.X [] [] args ss then J (JC {A with wr:=k::A.wr} res)else U|_=>U
 |.iy H args res=>if decide (z H<=z A.Q)&&aaQ (Hab H) A [(0,0)] (List.range (z H))&&Sj A.X [] (List.range (z H)) args ss then(let q:=jO {A with Q:=Dz H A.Q,wr:=ixs 0 H++A.wr} (H.map λh=>!lG h) (Dz H A.Q);J (JC {q.2 with Q:=q.1} res))else U
def aeV(A:Ab)(ss:List Sh):List Sm->Option (Sh×Ab)|[]=>U|m::l=>match ab3 A ss m with|J d=>J d|U=>aeV A ss l
def YX(X:Cfg)(A:Ab)(f:FuncId)(ss:List Sh):Option (Sh×Ab):=match LZ A.Q ss with|J ss=>aeV A ss (X.sm f)|U=>U
def rowAt(A:Ab)(n c:Nat×Int)(e:List Sh):Option (Sh×Ab):=
 if cls e&&le? A.X 0 (-n.2) n.1&&le? A.X n.1 (n.2+1-c.2) c.1 then(let(t,A):=opened A e;J (.em 0 t,A))else U
def anf(A:Ab):BinOp->Sh->Sh->Option (Sh×Ab)|.sub,.eM i c,.eM j d=>if leN A.X i LB&&small c&&small d&&le? A.X j (d-c) i then J (.eM A.nx 0,{A with nx:=A.nx+1,X:=(A.nx,d-c,i)::A.X})else U|_,_,_=>U
def abI(X:Cfg)(n0:Nat)(A:Ab)(i:XI):Option (Sh×Ab):=
 match i with
 |.mv x=>(avS X A x).map (·,A)|.gL c x y=>match avS X A c with|J (.bc b)=>(if b then avS X A x else avS X A y).map (·,A)|_=>U
 |.eN R U=>match aeB R with|J l=>if l.all Sh.eo then J (.c8 (z A.Q) 0,A.ce (.cH l))else U|U=>U
 |.iB x=>match avS X A x with
  |J s=>match cellsS s with
   |J l=>let(l,A):=opened A l;J (.c8 (z A.Q) 0,A.ce (.cH l))
   |U=>U
  |U=>U
 |.hA R w=>match aeB R with|J l=>if l.all Sh.eo then(afH X A l w).map λl=>(UX l,A)else U|U=>U
 |.gw R n g w=>match aeB R with
  |J l=>if l.all Sh.eo then(match afH X A (auM l n) w with
   | J u=>if wds u==n*g then(if Bq R then
     (if n==1&&subs A.X [] [] (u.map gen) u&&wds (u.map gen)==g then J (A.cn (u.map gen) [(A.nx,-1,0),(0,1,A.nx)])else U)
    else J (.eC n u,A))else U
   |U=>U)else U
  |U=>U
 |.ii ag g x=>match avS X A x with
  |J (.c8 k off)=>match A.Q[k]? with|J (.cH l)=>(aa0 ag g l off).map (·,A)|J (.ro l)=>(aa0 ag g l off).map (·,A)|_=>U
  |J (.em off l)=>(aa0 ag g l off).map (·,A)|_=>U
 |.fI g p x=>match avS X A p,avS X A x with
  |J (.c8 k off),J s=>match A.Q[k]?,cellsS s with
   |J (.cH l),J u=>let(u,A):=opened A u;match YF l off u g with|J l=>J (.dT,A.bR k (.cH l))|U=>U
   |_,_=>U
  |_,_=>U
 |.ip x=>match avS X A x with|J (.c8 k o)=>J (.c8 k o,A)|J (.pk k)=>J (.pk k,A)|J (.em o l)=>J (.em o l,A)|J (.eb t v)=>J (.eb t v,A)|J (.ea (.func f) x y)=>J (.ea (.func f) x y,A)|_=>U
 |.e9 op B q x y=>match avS X A x,avS X A y with
  |J s,J t=>match anf A op s t with|J N=>J N|U=>(akU A.X op B q s t).map (·,A)
  |_,_=>U
 |.un op x=>match avS X A x with|J s=>(avd op s).map (·,A)|U=>U
 |.iv k x=>match avS X A x with
  |J (.ic _ n)=>J (.ic k (k.wrap n),A)|J s=>match isInt s with|J _=>J (.cU k,A)|U=>U
  |U=>U
 |.gN t x=>(avS X A x).map λs=>(.eb t s,A)|.ia fn x y=>match afa X A x,afa X A y with|J x,J y=>J (.ea fn x y,A)|_,_=>U
 |.io=>J (.ec (z A.Q),A.ce (.ec (.cU r)))
 |.gB R g bytes l c=>match avS X A l,avS X A c,aeB R with
  |J (.ic _ 0),J c,J u=>match lin c with|J (j,d)=>if le? A.X 0 (-d) j&&leN A.X j LB&&decide (d<=LB)&&decide (bytes<=8192)&&wds (u.map gen)==g then J (A.cn (u.map gen) [(A.nx,0,0)])else U|U=>U
  |_,_,_=>U
 |.fW off x=>match avS X A x with|J (.c8 k f)=>J (.c8 k (f+off),A)|J (.em f l)=>if f+off<=wds l then J (.em (f+off) l,A)else U|_=>U
 |.fY len g x i=>match avS X A x,avS X A i with|J (.c8 k f),J (.ic _ n)=>if 0<=n&&n<len then J (.c8 k (f+n.toNat*g),A)else U|_,_=>U
 |.ey g x i=>match avS X A x,avS X A i with
  |J (.sl s e),J i=>match lin i with|J n=>if wds e==g then rowAt A n (s,0) e else U|U=>U
  |J (.gC s),J i=>match lin i with|J n=>if g==5 then rowAt A n (s,0) [.jv]else U|U=>U
  |J (.fS n e),J (.ic _ i)=>if 0<=i&&decide (i<n)&&wds e==n*g then J (.em (i.toNat*g) e,A)else U|_,_=>U
 |.hX len ag g x i=>match avS X A x,avS X A i with
  |J (.da (s::l)),J i=>match lin i with|J n=>if !ag&&g==1&&(s::l).all Sh.eo&&wds (s::l)==len&&l.all (λt=>sub [] [] [] (gen s) t)&&sub [] [] [] (gen s) s&&le? A.X 0 (-n.2) n.1&&le? A.X n.1 (n.2+1-len) 0 then J (gen s,A)else U|U=>U
  |_,_=>U
 |.fa x i=>match avS X A x,avS X A i with
  |J (.eZ s),J i=>match lin i with|J n=>if le? A.X 0 (-n.2) n.1&&le? A.X n.1 (n.2+1) s then J (.cU .u8,A)else U|U=>U
  |_,_=>U
 |.gR R m k ok=>match avS X A m,avS X A k,shC R with
  |J (.ec N),J s,J t=>match A.Q[N]? with|J (.ec v)=>if KX s&&sub [] [] [] v t&&cl v then J (if ok then .df [v,.cX]else v,A)else U|_=>U
  |_,_,_=>U
 |.gT m k v=>match avS X A m,avS X A k,avS X A v with
  |J (.ec N),J s,J t=>match A.Q[N]? with|J (.ec v)=>if KX s&&sub [] [] [] v t then J (.dT,A.bR N (.ec v))else U|_=>U
  |_,_,_=>U
 |.hG x i=>match avS X A x with|J (.df l)=>l[i]?.map (·,A)|_=>U
 |.eG eF g bytes U s x=>match avS X A s,avS X A x with
  |J s,J x=>match av3 A g x with|J (u,A)=>if(Xg u).isSome&&decide (bytes<=8192)then aqE A g u s else U|U=>U
  |_,_=>U
 |.dt k x=>match k,avS X A x with|0,J (.eZ s)=>J (.eM s 0,A)|0,J (.sc s)=>J (.ic r (z s),A)|0,J .cV=>J (.cU r,A)|1,J (.sl s _)=>J (.eM s 0,A)|1,J (.gC s)=>J (.eM s 0,A)|1,J (.fL _ a _)=>J (.eM a 0,A)|1,J (.ft _ a _)=>J (.eM a 0,A)|1,J .cY=>J (.ic r 0,A)|1,J (.eC n _)=>J (.ic r n,A)|1,J (.fS n _)=>J (.ic r n,A)|_,_=>U
 |.gM f l=>match afa X A l with|J h=>YX X A f h|U=>U
 |.ij f l=>match avS X A f,afa X A l with|J (.ea (.func f) x y),J h=>YX X A f (x++h++y)|_,_=>U
 |.gP x m l=>match avS X A x,afa X A l with
  |J (.eb t v),J h=>match X.mt t m with|J f=>YX X A f (v::h)|U=>U
  |_,_=>U
 |_=>U
def Ep(X:Cfg)(A:Ab):XI->Option (List Nat)
 |.ii _ _ x=>match avS X A x with|J (.c8 k _)=>J [k]|J (.em ..)=>J []|_=>U
 |.dt 0 _=>J []|.dt 1 _=>J []|_=>U
def ways (X:Cfg) (A:Ab) (c:XA):Option (List (Bool×Ab)):=match avS X A c with|J (.bc b)=>J [(b,A)]|J .cX=>J [(eT,kn A eT),(eF,kn A eF)]|J (.gD x c y)=>J [(eT,kn {A with X:=(x,c,y)::A.X} eT),(eF,kn {A with X:=(y,1-c,x)::A.X} eF)]|J (.gh p x c y)=>J [(p,kn {A with X:=(x,c,y)::(y,-c,x)::A.X} p),(!p,kn (if y==0&&le? A.X 0 (-c) x then{A with X:=(0,1-c,x)::A.X}else A) (!p))]|_=>U
 where
  kn (A:Ab) (b:Bool):Ab:=match c with|.t n=>{A with az:=(n,.bc b)::A.az}|_=>A
def ptS(A:Ab)(d:Option Nat)(s:Sh):Ab:=match d with|J d=>{A with az:=(d,s)::A.az}|U=>A
def adw(X:Cfg)(n0:Nat)(b:Bool)(o:XOp)(A:Ab):Option Ab:=match abI X n0 A o.i with|J (s,a)=>if b&& !o.aT.isEmpty then(match Ep X A o.i with|J ks=>J (ptS (a.fq ks) o.aM s)|U=>U)else J (ptS a o.aM s)|U=>U
def stepM{d c:Type}(a:Option d)(g:d->Option (List c))(f:Option (List c)):Option (List c):=match a with
 |J A=>match g A,f with|J b,J bs=>J (b++bs)|_,_=>U
 |U=>U
def Qa(X:Cfg)(n0:Nat)(a:Bool):List XOp->Ab->Option (List Ab)
 |[],A=>J [A]
 |o::l,A=>match o.aS with
  |U=>match adw X n0 a o A with|J A=>Qa X n0 a l A|U=>U
  | J (t,b)=>match(match la t A.az with|J .dT=>J [(!b,A)]|_=>ways X A (.t t))with|U=>U|J c=>c.foldr (λw d=>stepM (if w.1==b then adw X n0 a o w.2 else J (ptS w.2 o.aM .dT)) (λA=>Qa X n0 a l A) d) (J [])
abbrev Rg:=Ab×List (Nat×Nat)×List (Nat×Nat×List Nat)
def anh(X:Cfg)(n0 j:Nat)(o:XOp)(A:Ab)(b:List (Nat×Nat))(lt:List (Nat×Nat×List Nat)):Option Rg:=match adw X n0 eF o {A with wr:=[]}with|J a=>(match(if o.aT.isEmpty then J []else Ep X A o.i)with|J ks=>J (a,a.wr.map (λk=>(k,j))++b,ks.map (λk=>(k,j,o.aT))++lt)|U=>U)|U=>U
def adt(X:Cfg)(n0:Nat):List XOp->Nat->Rg->Option (List Rg)
 |[],_,p=>J [p]
 |o::l,j,p=>match o.aS with
  |U=>match anh X n0 j o p.1 p.2.1 p.2.2 with|J q=>adt X n0 l (j+1) q|U=>U
  | J (t,b)=>match(match la t p.1.az with|J .dT=>J [(!b,p.1)]|_=>ways X p.1 (.t t))with|U=>U|J a=>a.foldr (λw d=>stepM (if w.1==b then anh X n0 j o w.2 p.2.1 p.2.2 else J (ptS w.2 o.aM .dT,p.2.1,p.2.2)) (λq=>adt X n0 l (j+1) q) d) (J [])
def agu(n:Nat)(p:Rg):Bool:=p.2.2.all λq=>decide (q.1<n)&&q.2.2.all λc=>p.2.1.all λw=>w.1 !=q.1|| !(decide (min q.2.1 c<=w.2)&&decide (w.2<max q.2.1 (c+1)))
def Ab.an(m:List Nat)(A:Ab):Ab:={A with az:=m.filterMap λt=>(la t A.az).map λs=>(t,s)}
def Ld:KC->List Nat|.eI=>[]|.fe l|.eO l|.eL l=>l.flatMap XOp.aw|.eK a b=>Ld a++Ld b|.eJ c a b=>c.aw++(Ld a++Ld b)|.eE _ b=>Ld b|.fp m _=>m|.dq m _=>m|.ef m=>m|.eV b=>Ld b|.eD=>[]
mutual
def arq(n h:Nat):Sh->Bool|.gD x _ y=>decide (x<n)&&decide (y<n)|.gh _ x _ y=>decide (x<n)&&decide (y<n)|.eM j _=>decide (j<n)|.eZ i=>decide (i<n)|.sl i e=>decide (i<n)&&aag n h e|.eB e=>aag n h e|.gC i=>decide (i<n)|.eC _ e=>aag n h e|.fS _ e=>aag n h e|.fL k a _=>decide (k<h)&&decide (a<n)|.ft k a _=>decide (k<h)&&decide (a<n)|.da l=>aag n h l|.df l=>aag n h l|.jg a b=>decide (a<n)&&decide (b<n)|.c8 k _=>decide (k<h)|.em _ l=>aag n h l|.ec k=>decide (k<h)|.pk k=>decide (k<h)|.ea _ x y=>aag n h x&&aag n h y|.eb _ v=>arq n h v|_=>eT
def aag(n h:Nat):List Sh->Bool|[]=>eT|s::l=>arq n h s&&aag n h l
end
mutual
def eqS:Sh->Sh->Bool|.dT,.dT=>eT|.cX,.cX=>eT|.bc a,.bc b=>a==b|.gD x c y,.gD u B w=>x==u&&c==B&&y==w|.gh p x c y,.gh q u B w=>p==q&&x==u&&c==B&&y==w|.ds,.ds=>eT|.cU k,.cU g=>k==g|.ic k n,.ic g s=>k==g&&n==s|.eM j c,.eM i d=>j==i&&c==d|.cV,.cV=>eT|.sc a,.sc b=>a==b|.eZ i,.eZ j=>i==j|.ev,.ev=>eT|.cY,.cY=>eT|.gF,.gF=>eT|.f9,.f9=>eT|.ga,.ga=>eT|.sl i e,.sl j h=>i==j&&eqU e h|.eB e,.eB h=>eqU e h|.gC i,.gC j=>i==j|.fR,.fR=>eT|.eC n e,.eC s h=>n==s&&eqU e h|.fS n e,.fS s h=>n==s&&eqU e h|.fL k a e,.fL g A h=>k==g&&a==A&&eqU e h|.ft k a e,.ft g A h=>k==g&&a==A&&eqU e h|.da l,.da m=>eqU l m|.df l,.df m=>eqU l m|.jv,.jv=>eT|.jg a b,.jg c d=>a==c&&b==d|.c8 k o,.c8 g C=>k==g&&o==C|.em o l,.em C m=>o==C&&eqU l m|.ec k,.ec g=>k==g|.pk k,.pk g=>k==g|.ea f x y,.ea D u w=>f==D&&eqU x u&&eqU y w|.eb t v,.eb E F=>t==E&&eqS v F|_,_=>eF
def eqU:List Sh->List Sh->Bool|[],[]=>eT|s::l,t::m=>eqS s t&&eqU l m|_,_=>eF
end
mutual
def adS:Sh->Sh|.sl _ e=>.eB e|.da l=>.da (anE l)|.df l=>.df (anE l)|.eb t v=>.eb t (adS v)|s=>gen s
def anE:List Sh->List Sh|[]=>[]|s::l=>adS s::anE l
end
def asJ(n h:Nat)(s t:Sh):Option Sh:=
 if eqS s t&&arq n h s then J s else
 (if eqS (adS s) (adS t)&&arq n h (adS s)then J (adS s)else U)
def afU(n h:Nat)(lv:List Nat)(B:Ab):List (Nat×Sh)->List (Nat×Sh)
 |[]=>[]
 |(t,s)::l=>if !lv.contains t then afU n h lv B l else(match la t B.az with
  |J a=>match asJ n h s a with|J u=>(t,u)::afU n h (lv.filter (· !=t)) B l|U=>afU n h (lv.filter (· !=t)) B l
  |U=>afU n h (lv.filter (· !=t)) B l)
def asK(n h:Nat):List Sh->List Sh->Option (List Sh)
 |[],[]=>J []|s::l,t::m=>match asJ n h s t,asK n h l m with|J u,J v=>J (u::v)|_,_=>U
 |_,_=>U
def avZ(n h:Nat):HO->HO->HO
 |.cH l,.cH m=>match asK n h l m with|J u=>.cH u|U=>.eq
 |.ro l,.ro m=>if eqU l m&&aag n h l then .ro l else .eq|.g9 a e,.g9 b f=>if a==b&&decide (a<n)&&eqU e f then .g9 a e else .eq|.fN a e,.fN b f=>if a==b&&decide (a<n)&&eqU e f then .fN a e else .eq|.ec v,.ec w=>if eqS v w then .ec v else .eq|.pk,.pk=>.pk|_,_=>.eq
def NG(n h:Nat):Nat->List HO->List HO->List HO|0,_,_=>[]|k+1,x::l,y::m=>avZ n h x y::NG n h k l m|k+1,_,_=>.eq::NG n h k [] []
def acn(base:Ab)(lv:List Nat)(A B:Ab):Ab:=
 {az:=afU base.nx (z base.Q) lv B A.az,Q:=NG base.nx (z base.Q) (z base.Q) A.Q B.Q,nx:=base.nx,
  X:=A.X.filter λf=>decide (f.1<base.nx)&&decide (f.2.2<base.nx)&&B.X.contains f}
def au6(n:Nat):List (Nat×Int):=(List.range n).map λi=>(i,0)
structure Wd where
 nx:Nat
 Q:List HO
 eN:List Nat
def awP(w:Wd)(s t:Sh):Option (Sh×Wd):=
 if eqS s t then J (s,w)else
 match lin s,lin t with
 |J _,J _=>J (.eM w.nx 0,{w with nx:=w.nx+1,eN:=w.nx::w.eN})|_,_=>match s,t with|.cY,.ft _ _ e=>J (.fL (z w.Q) w.nx e,{nx:=w.nx+1,Q:=w.Q++[.g9 w.nx e],eN:=w.nx::w.eN})|.cY,.fL _ _ e=>J (.fL (z w.Q) w.nx e,{nx:=w.nx+1,Q:=w.Q++[.g9 w.nx e],eN:=w.nx::w.eN})|.fL _ _ e,.ft _ _ _=>J (.fL (z w.Q) w.nx e,{nx:=w.nx+1,Q:=w.Q++[.g9 w.nx e],eN:=w.nx::w.eN})|.fL _ _ e,.fL _ _ _=>J (.fL (z w.Q) w.nx e,{nx:=w.nx+1,Q:=w.Q++[.g9 w.nx e],eN:=w.nx::w.eN})|.ft _ _ e,.ft _ _ _=>J (.ft (z w.Q) w.nx e,{nx:=w.nx+1,Q:=w.Q++[.fN w.nx e],eN:=w.nx::w.eN})|_,_=>if eqS (adS s) (adS t)then J (adS s,w)else U
def avf(B:Ab):Wd->List (Nat×Sh)->List (Nat×Sh)×Wd
 |w,[]=>([],w)
 | w,(t,s)::l=>match(match la t B.az with|J a=>awP w s a|U=>U)with
  |J (u,w)=>let(d,w):=avf B w l;((t,u)::d,w)
  |U=>avf B w l
def awQ:Wd->List Sh->List Sh->Option (List Sh×Wd)
 |w,[],[]=>J ([],w)
 |w,s::l,t::m=>match awP w s t with
  |J (u,w)=>match awQ w l m with|J (d,w)=>J (u::d,w)|U=>U
  |U=>U
 |_,_,_=>U
def awO:Nat->Wd->List HO->List HO->List HO×Wd
 |_,w,[],_=>([],w)|0,w,_,_=>([],w)
 |k+1,w,x::l,c=>
  let y:=c.headD .eq
  let(f,w):HO×Wd:=match x,y with
   |.cH l,.cH m=>match awQ w l m with|J (u,w)=>(.cH u,w)|U=>(.eq,w)
   |.ro l,.ro _=>(.ro l,w)|.g9 a e,.g9 b _=>if a==b then(.g9 a e,w)else(.eq,w)|.fN a e,.fN b _=>if a==b then(.fN a e,w)else(.eq,w)|.ec v,.ec _=>(.ec v,w)|.pk,.pk=>(.pk,w)|_,_=>(.eq,w)
  let(d,w):=awO k w l c.tail
  (f::d,w)
structure Th where
 s:List (Nat×Nat×Int)
 o:List (Nat×Nat)
def avF(nb hb:Nat)(t:Th):Sh->Sh->Th|.eM x c,.ic r n=>if x<nb then t else{t with s:=(x,0,n-c)::t.s}|.eM x c,.eM i d=>if x<nb then t else{t with s:=(x,i,d-c)::t.s}|.fL k a _,.cY=>if a<nb then t else{s:=(a,0,0)::t.s,o:=(k,1000000000)::t.o}|.fL k a _,.fL b e _=>if a<nb then t else{s:=(a,e,0)::t.s,o:=(k,b)::t.o}|.fL k a _,.ft b e _=>if a<nb then t else{s:=(a,e,0)::t.s,o:=(k,b)::t.o}|.ft k a _,.ft b e _=>if a<nb then t else{s:=(a,e,0)::t.s,o:=(k,b)::t.o}|.c8 k _,.c8 b _=>if k<hb then t else{t with o:=(k,b)::t.o}|.pk k,.pk b=>if k<hb then t else{t with o:=(k,b)::t.o}|.ec k,.ec b=>if k<hb then t else{t with o:=(k,b)::t.o}|_,_=>t
def avG(nb hb:Nat):Th->List Sh->List Sh->Th|t,s::l,a::m=>avG nb hb (avF nb hb t s a) l m|t,_,_=>t
def avE(nb hb:Nat)(S:Ab):Th->List (Nat×Sh)->Th|t,[]=>t|t,(k,s)::l=>avE nb hb S (match la k S.az with|J a=>avF nb hb t s a|U=>t) l
def au0(nb hb:Nat):Th->List HO->List HO->Th|t,.cH l::x,.cH m::y=>au0 nb hb (avG nb hb t l m) x y|t,_::x,_::y=>au0 nb hb t x y|t,_,_=>t
def asc{a:Type}:List (Nat×a)->Nat->Option a|[],_=>U|(k,v)::l,n=>if k=n then J v else asc l n
def fit(nb hb:Nat)(a S:Ab):List (Nat×Int)×List Nat:=
 let t:=au0 nb hb (avE nb hb S ⟨[],[]⟩ a.az) (a.Q.take hb) S.Q
 ((List.range a.nx).map λi=>if i<nb then(i,0)else(asc t.s i).getD (0,0),(List.range (z a.Q)).map λk=>if k<hb then k else(asc t.o k).getD 1000000000)
def aq7:List (Nat×Sh)->List Nat|[]=>[]|(_,.eM j 0)::l=>j::aq7 l|_::l=>aq7 l
def asw(nb:Nat)(new:List Nat)(env:List (Nat×Sh)):Fs:=(new.flatMap λx=>[(0,1,x),(x,-8192,0),(x,-(LB:Int),0)])++new.flatMap λx=>(new++(aq7 env).filter (· <nb)).filterMap λy=>if x==y then U else J (x,0,y)
def adZ(S:Ab)(θ:List (Nat×Int))(f:Nat×Int×Nat):Bool:=match θ[f.1]?,θ[f.2.2]? with|J (i,p),J (j,q)=>le? S.X i (f.2.1+p-q) j|_,_=>eF
def widen(a H:Ab)(b:List Ab):Ab:=
 let go (H N:Ab):Ab:=
  let(env,w):=avf N ⟨H.nx,H.Q,[]⟩ H.az
  let(c,w):=awO (z a.Q) w (H.Q.take (z a.Q)) N.Q
  {H with az:=env,Q:=c++w.Q.drop (z a.Q),nx:=w.nx}
 b.foldl go H
def ai1(a:Ab)(run:Ab->Option (List Ab)):Nat->Ab->Option Ab
 |0,H=>J H
 |n+1,H=>match run H with
  |U=>U
  |J g=>
   if g.all λN=>let t:=fit a.nx (z a.Q) H N;aaQ H N t.1 t.2 then J H else
   let b:=widen a a g
   let new:=(List.range b.nx).filter (a.nx<= ·)
   let h:=fit a.nx (z a.Q) b a
   let fs:=(asw a.nx new b.az).filter λf=>adZ a h.1 f
   let c:={b with X:=fs++a.X}
   match run c with
   |U=>ai1 a run n c
   |J d=>
    let e:=fs.filter λf=>d.all λN=>let t:=fit a.nx (z a.Q) c N;adZ N t.1 f
    ai1 a run n {c with X:=e++a.X}
def asM(d:Ab)(l:List Ab):Bool:=(List.range (z d.Q)).any λk=>hp d.Q[k]? &&l.all λS=>!hp S.Q[k]?
 where
  hp:Option HO->Bool
   |J h=>lG h|U=>eT
def ajy(p:Nat->Bool):Nat->List HO->List HO|_,[]=>[]|k,h::l=>(if p k then h else .eq)::ajy p (k+1) l
def aw0(base:Ab)(lv:List Nat):List Ab->Ab
 |[]=>base
 |A::c=>
  let a:=widen base {A with az:=A.az.filter λp=>lv.contains p.1} c
  let b:=(A::c).map λS=>(S,fit base.nx (z base.Q) a S)
  let fs:=(asw base.nx ((List.range a.nx).filter (base.nx<= ·)) a.az++A.X.filter λf=>decide (f.1<base.nx)&&decide (f.2.2<base.nx)).filter λf=>b.all λt=>adZ t.1 t.2.1 f
  {a with X:=fs,Q:=ajy (λk=>decide (k<z base.Q)||b.all λt=>t.2.2[k]? !=J 1000000000) 0 a.Q}
def Yx(base:Ab)(lv:List Nat):List Ab->List Ab
 |[]=>[]|[A]=>[A]
 |A::B::l=>
  let a:=(B::l).foldl (acn base lv) (acn base lv A A)
  if !asM a (A::B::l)&&(A::B::l).all λS=>aaQ a S (au6 a.nx) (List.range (z a.Q))then[a]else
  let a:=aw0 base lv (A::B::l)
  if decide (base.nx<=a.nx/\z base.Q<=z a.Q)&&(!asM a (A::B::l)&&(A::B::l).all λS=>aaQ a S (fit base.nx (z base.Q) a S).1 (fit base.nx (z base.Q) a S).2)then[a]else A::B::l
def avW:KC->Bool|.fe _=>eT|.eO _=>eT|.eL _=>eT|_=>eF
def aod(k:KC)(base:Ab)(lv:List Nat)(l:List Ab):List Ab:=if avW k then l else Yx base lv l
def asQ(nb:Nat)(N:Ab)(θ:List (Nat×Int))(x s:Nat):Bool:=match θ[x]? with|J (i,d)=>i==x&&decide (1<=d)&&decide (s<nb)&&le? N.X x 1 s|U=>eF
def lowers(N:Ab)(θ:List (Nat×Int))(x:Nat):Bool:=match θ[x]? with|J (i,d)=>i==x&&decide (d<= -1)|U=>eF
abbrev xu:=List (XE×Ab)
def FC:xu->List Ab|[]=>[]|(.dp,A)::l=>A::FC l|_::l=>FC l
def others:xu->xu|[]=>[]|(.dp,_)::l=>others l|d::l=>d::others l
def aco(a d:Option xu):Option xu:=match a,d with|J x,J y=>J (x++y)|_,_=>U
def ajk(f:Ab->Option xu):List Ab->Option xu|[]=>J []|A::l=>aco (f A) (ajk f l)
def outOf(id:Nat):XE->XE|.dq i=>if i=id then .dp else .dq i|x=>x
def LR:Nat:=4
def ahu(m:List Nat)(run:Ab->Option xu)(A:Ab):Option xu:=
 let a:=A.an m
 match ai1 a (λH=>(run H).map λo=>(FC o).map (·.an m)) LR a with
 |U=>U
 |J H=>match run H with
  |U=>U
  |J o=>
   let c:=fit a.nx (z a.Q) H a
   let b:=(FC o).map (·.an m)
   let th (N:Ab):=fit a.nx (z a.Q) H N
   if decide (a.nx<=H.nx/\z a.Q<=z H.Q)&&aaQ H a c.1 c.2&&b.all (λN=>aaQ H N (th N).1 (th N).2)&&
    (b.isEmpty||((List.range H.nx).any λx=>decide (a.nx<=x)&&((List.range a.nx).any (λs=>b.all λN=>asQ a.nx N (th N).1 x s)||b.all λN=>lowers N (th N).1 x)))
   then J (others o)else U
def ajd(m:List Nat)(run:Ab->Option xu):Nat->Ab->Option xu|0,_=>U|n+1,A=>match run (A.an m)with|U=>U|J o=>aco (J (others o)) (ajk (ajd m run n) (FC o))
def adv(m:List Nat)(run:Ab->Option xu)(A:Ab):Option xu:=match ahu m run A with|J o=>J o|U=>ajd m run 6 A
def abK(X:Cfg)(n0:Nat):KC->List Nat->Ab->Option xu
 |.eI,_,A=>J [(.dp,A)]|.fe l,_,A=>(Qa X n0 eF l A).map λl=>l.map λA=>(.dp,A)|.eO l,_,A=>(Qa X n0 eF l A).map λl=>l.map λA=>(.dp,A)|.eL l,_,A=>match adt X n0 l 0 (A,[],[])with|J e=>if e.all (agu (z A.Q))&&l.all (λo=>o.aT.all λc=>decide (c<z l))then J (e.map λp=>(.dp,p.1))else U|U=>U
 |.eK a b,d,A=>match abK X n0 a (Ld b++d) A with|U=>U|J o=>match ajk (abK X n0 b d) (aod a A (Ld b++d) (FC o))with|J f=>J (others o++f)|U=>U
 |.eJ c a b,d,A=>match ways X A c with|U=>U|J g=>g.foldr (λw h=>aco (if w.1 then abK X n0 a d w.2 else abK X n0 b d w.2) h) (J [])
 |.eE id b,d,A=>match abK X n0 b d A with|J o=>J (o.map λp=>(outOf id p.1,p.2))|U=>U
 |.fp m b,d,A=>adv m (λH=>abK X n0 b m H) A|.dq m id,_,A=>J [(.dq id,A.an m)]|.ef m,_,A=>J [(.ef,A.an m)]|.eV b,d,A=>abK X n0 b d A|.eD,_,_=>U
def rsS(A:Ab):List XR->Option (List Sh)
 |[]=>J []|.fX t::l=>match la t A.az,rsS A l with|J s,J d=>J (s::d)|_,_=>U
 |.eS t ag a::l=>match la t A.az,rsS A l with
  |J (.c8 k off),J d=>match A.Q[k]? with
   |J (.cH c)=>match aa0 ag a c off with|J s=>J (s::d)|U=>U
   |_=>U
  |_,_=>U
def ava:List Sh->Sh|[s]=>s|l=>.df l
def Qb:Nat->List Sh->List (Nat×Sh)|_,[]=>[]|i,s::l=>(i,s)::Qb (i+1) l
def startA(args:List Sh):Ab:=
 let(l,A):=JD {az:=[],Q:=[],nx:=1,X:=[]} args
 {A with az:=Qb 0 l}
def av6(l args:List Sh):Ab:=
 let(u,A):=opened {az:=[],Q:=[],nx:=1,X:=[]} l
 let(v,A):=JD {A with Q:=[.ro u]} args
 {A with az:=(0,.c8 0 0)::Qb 1 v}
def endOk(K:KF)(res:Sh)(o:xu):Bool:=o.all λp=>match p.1 with
 |.dq _=>eF
 |_=>match rsS p.2 K.Y with
  |J l=>match LZ p.2.Q l with|J l=>sub p.2.X [] [] res (ava l)|U=>eF
  |U=>eF
def av5(H:List HO)(args:List Sh):Ab:=
 let q:=jO (Hab H) (H.map λ_=>eT) H
 let d:=JD {q.2 with Q:=q.1} args
 {d.2 with az:=Qb 0 d.1}
def anm(K:KF)(H:List HO)(res:Sh)(o:xu):Bool:=endOk K res o&&o.all λp=>aaQ (Hab H) p.2 [(0,0)] (List.range (z H))
def abF(X:Cfg)(K:KF):Sm->Bool|.ez args res=>cls args&&cl res&&decide (z args<=K.L)&&(match abK X K.L K.aE [] (startA args)with|J o=>endOk K res o|U=>eF)|.ro l args res=>cls l&&cls args&&cl res&&decide (z args+1<=K.L)&&(match abK X K.L K.aE [] (av6 l args)with|J o=>endOk K res o|U=>eF)|.iy H args res=>H.all okH&&cl res&&decide (z args<=K.L)&&(match abK X K.L K.aE [] (av5 H args)with|J o=>anm K H res o|U=>eF)|_=>eF
def aoh:∀{l:List (Nat×Sh)} {t:Nat} {s:Sh},la t l=J s->(t,s)∈l
 |[],_,_,h=>by cases h
 |(k,u)::l,t,s,h=>by
  simp only[la]at h;split at h;·grind
  ·exact aF2 _ (aoh h)
def Sb.de{V W:Val}(h:V.ν[0]?=J 0):Sb [] [] [] V W:=⟨h,λf hf=>(by cases hf),λj i c a=>by simp[BV]at a,λk b o a=>by simp[eqO]at a⟩
def νθ(V:Val)(θ:List (Nat×Int)):List Nat:=θ.map λp=>(((V.ν[p.1]?.getD 0:Nat):Int)+p.2).toNat
def ρθ(V:Val)(θo:List Nat):List (Option Nat):=θo.map λk=>(V.ρ[k]?).join
def abp(V:Vo):List Nat->List HO->List (List Nat)|k::ks,h::hs=>(if lG h then[]else(V.ac[k]?).getD [])::abp V ks hs|_,_=>[]
def ad2{S:Ab}{θ θo}:∀{ks:List Nat} {hs:List HO} {a:List Nat},MF S θ θo ks hs a=eT->z ks=z hs
 |[],[],_,_=>rfl|[],_::_,_,h=>by simp[MF]at h
 |_::_,[],_,h=>by simp[MF]at h
 |k::ks,x::hs,a,h=>by simp only[MF,a01]at h;simp[ad2 h.2]
def U3{V:Vo}:∀{ks:List Nat} {hs:List HO},z ks=z hs->z (abp V ks hs)=z hs
 |[],[],_=>rfl|[],_::_,h=>by simp at h
 |_::_,[],h=>by simp at h
 |k::ks,x::hs,h=>by simp[abp];exact U3 (by simpa using h)
def U2{V:Vo}:∀{ks:List Nat} {hs:List HO} {i:Nat} {x:HO} {k:Nat},ks[i]?=J k->hs[i]?=J x->(abp V ks hs)[i]?=J (if lG x then[]else(V.ac[k]?).getD [])
 |[],_,_,_,_,h,_=>by simp at h
 |_::_,[],_,_,_,_,h=>by simp at h
 |k::ks,x::hs,0,_,_,h,a=>by simp at h a;subst h;subst a;rfl
 |k::ks,x::hs,i+1,_,_,h,a=>by simp only[aB7]at h a;simp only[abp,aB7];exact U2 h a
def aaR{S:Ab}{θ θo}:∀{ks:List Nat} {hs:List HO} {c:List Nat},MF S θ θo ks hs c=eT->∀{i:Nat} {x:HO} {k:Nat},ks[i]?=J k->hs[i]?=J x->agZ S.X θ θo S.Q[k]? x=eT/\(lG x=eT\/z S.Q<=k\/k∉c)
 |[],_,_,_,_,_,_,h,_=>by simp at h
 |_::_,[],_,_,_,_,_,_,h=>by simp at h
 |k::ks,x::hs,c,a,0,_,_,h,b=>by simp at h b;subst h;subst b;simp only[MF,a01,aB4,decide_eq_true_eq,aF6,List.contains_eq_mem,decide_eq_false_iff_not]at a;exact⟨a.1.1,or_assoc.mp a.1.2⟩
 |k::ks,x::hs,c,a,i+1,_,_,h,b=>by simp only[aB7]at h b;simp only[MF,a01]at a;have:=aaR a.2 h b;grind
theorem Wv{S:Ab}{θ θo}:∀{ks:List Nat} {hs:List HO} {f:List Nat},MF S θ θo ks hs f=eT->∀{i j:Nat} {x y:HO} {k:Nat},i<j->ks[i]?=J k->ks[j]?=J k->hs[i]?=J x->hs[j]?=J y->lG x=eT\/lG y=eT\/z S.Q<=k
 |[],_,_,_,_,_,_,_,_,_,h,_,_,_=>by simp at h
 |_::_,[],_,_,_,_,_,_,_,_,_,_,h,_=>by simp at h
 |k::ks,x::hs,f,a,0,j+1,_,_,_,_,h,b,c,d=>by
  simp at h c;subst h;subst c;simp only[aB7]at b d;simp only[MF,a01]at a;cases g:lG x with
  |true=>exact .inl rfl|false=>rw[g]at a;have:=(aaR a.2 b d).2;grind
 |k::ks,x::hs,f,a,i+1,j+1,_,_,_,e,h,b,c,d=>by simp only[aB7]at h b c d;simp only[MF,a01]at a;exact Wv a.2 (by omega) h b c d
 |_::_,_::_,_,_,_,0,_,_,_,e,_,_,_,_=>by omega
def IX {PK:PkI} {O0:Frm} {V:Vo} {S d:Ab} {E:As} {Y:St} (h:G PK O0 V S E Y) {θ:List (Nat×Int)} {θo:List Nat} (hs:aaQ d S θ θo=eT):
  ∃W:Vo,G PK O0 W d E Y/\W.ν=νθ V.toVal θ/\W.ρ=ρθ V.toVal θo/\W.ac=abp V θo d.Q/\(∀(i:Nat) (p:Nat×Int),θ[i]?=J p->∃a b:Nat,V.ν[p.1]?=J a/\W.ν[i]?=J b/\(b:Int)=a+p.2):=by
 simp only[aaQ,a01,decide_eq_true_eq]at hs;obtain⟨⟨⟨⟨⟨hl,h0⟩,al⟩,Z⟩,N⟩,L⟩:=hs
 let W:Vo:=⟨⟨νθ V.toVal θ,ρθ V.toVal θo⟩,abp V θo d.Q⟩
 have F:∀(i:Nat) (p:Nat×Int),θ[i]?=J p->∃a b:Nat,V.ν[p.1]?=J a/\W.ν[i]?=J b/\(b:Int)=a+p.2:=λi p H=>by
  have D:=a97.mp al p (a08 H);simp only[awh,a01,aB4,decide_eq_true_eq]at D;obtain⟨a,K⟩:∃a,V.ν[p.1]?=J a:=⟨_,a02 (by rw[h.lν];exact D.1)⟩;have an:0<=(a:Int)+p.2:=by
   rcases D.2 with A|A;·omega
   ·have:=NW h.aa h.X _ _ _ _ _ _ A h.aa K;omega
  refine⟨a,((a:Int)+p.2).toNat,K,?_,by omega⟩;show(νθ V.toVal θ)[i]?=_;rw[νθ,aC6,H];grind
 have ac:∀(j i:Nat) (c:Int),BV θ[j]? i c=eT->∀a:Nat,V.ν[i]?=J a->∃b:Nat,W.ν[j]?=J b/\(b:Int)=a+c:=λj i c I a K=>by
  cases H:θ[j]? with
  |none=>rw[H]at I;cases I|some p=>rw[H]at I;simp only[BV,a01,beq_iff_eq]at I;grind
 have ab:∀(k C o:Nat),eqO θo[k]? C=eT->V.ρ[C]?=J (J o)->W.ρ[k]?=J (J o):=λk C o I aw=>by
  cases H:θo[k]? with
  |none=>rw[H]at I;cases I|some a=>rw[H]at I;simp only[eqO,beq_iff_eq]at I;subst I;show(ρθ V.toVal θo)[k]?=_;rw[ρθ,aC6,H];grind
 have B:Sb S.X θ θo V.toVal W.toVal:=⟨h.aa,h.X,ac,ab⟩;have O:Sb [] [] [] V.toVal W.toVal:=Sb.de h.aa;have M:z θo=z d.Q:=ad2 L;have u:∀(k C o:Nat),θo[k]?=J C->V.ρ[C]?=J (J o)->W.ρ[k]?=J (J o):=λk C o D I=>B.bx k C o (by simp[eqO,D]) I;have Q:∀(k:Nat) a,W.ac[k]?=J a->a=[]\/∃C x,θo[k]?=J C/\d.Q[k]?=J x/\lG x=eF/\V.ac[C]?=J a:=λk a K=>by
  have K:(abp V θo d.Q)[k]?=J a:=K;have D:k<z d.Q:=by have:=(a00.mp K).1;rwa[U3 M]at this
  have hx:=a02 D;have y:=a02 (show k<z θo by rw[M];exact D);rw[U2 y hx]at K;grind
 refine⟨W,⟨λt s ht=>?_,by show(νθ V.toVal θ).length=_;simp[νθ,hl],by show(ρθ V.toVal θo).length=_;simp[ρθ,M],by show(abp V θo d.Q).length=_;exact U3 M,?_,λf hf=>?_,λk x D=>?_,λk C a b ak K hb i hi af=>?_,λk a K i hi=>?_,λk o D=>?_,h.bE,h.ok⟩,rfl,rfl,rfl,F⟩;·have:=a97.mp Z _ (aoh ht);grind [Wx,G]
 ·grind [h.aa]
 ·have:=a97.mp N f hf;split at this;·rename_i i p j q H hq;obtain⟨a,b,A,h2,h3⟩:=F _ _ H;obtain⟨a',b',T,X,ad⟩:=F _ _ hq;have:=VS B this A T;exact⟨b,b',h2,X,by omega⟩
  ·cases this
 ·have ah:=(a00.mp D).1;obtain⟨C,y⟩:∃C,θo[k]?=J C:=⟨_,a02 (by rw[M];exact ah)⟩;have g:=(aaR L y D).1;have P:W.ac[k]?=J (if lG x then[]else(V.ac[C]?).getD []):=U2 y D;cases x with
  |eq=>exact P
  |cH l=>
   simp only[agZ]at g;split at g;·rename_i l' w;obtain⟨o,cs,A,h2,h3,h4⟩:=h.Q _ _ w;exact⟨o,cs,u _ _ _ y A,by rw[P,h2];rfl,h3,FK B h4 g⟩
   ·cases g
  |ro l=>
   simp only[agZ]at g;split at g;·rename_i l' w;obtain⟨o,cs,R,A,h2,h3,h4,h5⟩:=h.Q _ _ w;exact⟨o,cs,R,u _ _ _ y A,by rw[P,h2];rfl,h3,h4,FK B h5 g⟩
   ·cases g
  |g9 a e=>
   simp only[agZ]at g;split at g
   ·rename_i a' e' w;simp only[a01]at g;obtain⟨n,A,h2⟩:=h.Q _ _ w;refine⟨n,B.gg g.1 A,?_⟩;rcases h2 with⟨h2,h3⟩|⟨h2,o,rs,R,h3,h4,h5,h6,h7⟩;·grind
    ·exact .inr ⟨h2,o,rs,R,u _ _ _ y h3,by rw[P,h4];rfl,h5,h6,MRs.ec (λco hr=>FK O hr g.2) h7⟩
   ·rename_i a' e' w;simp only[a01]at g;obtain⟨n,A,o,rs,R,h3,h4,h5,h6,h7⟩:=h.Q _ _ w;have:=VS B g.2 h.aa A;exact⟨n,B.gg g.1.1 A,.inr ⟨by omega,o,rs,R,u _ _ _ y h3,by rw[P,h4];rfl,h5,h6,MRs.ec (λco hr=>FK O hr g.1.2) h7⟩⟩
   ·rename_i hn;have:V.ac[C]?=U:=(by grind [G]);exact⟨0,B.gg g h.aa,.inl ⟨rfl,by rw[P,this];rfl⟩⟩
   ·cases g
  |fN a e=>
   simp only[agZ]at g;split at g;·rename_i a' e' w;simp only[a01]at g;obtain⟨n,A,o,rs,R,h3,h4,h5,h6,h7⟩:=h.Q _ _ w;exact⟨n,B.gg g.1 A,o,rs,R,u _ _ _ y h3,by rw[P,h4];rfl,h5,h6,MRs.ec (λco hr=>FK O hr g.2) h7⟩
   ·cases g
  |ec v=>
   simp only[agZ]at g;split at g;·rename_i v' w;obtain⟨o,es,A,h2,h3,h4⟩:=h.Q _ _ w;exact⟨o,es,u _ _ _ y A,by rw[P,h2];rfl,h3,λp H=>⟨(h4 p H).1,Wx O (h4 p H).2 g⟩⟩
   ·cases g
  |pk=>
   simp only[agZ]at g;split at g;·rename_i w;obtain⟨o,ms,A,h2,h3⟩:=h.Q _ _ w;exact⟨o,ms,u _ _ _ y A,by rw[P,h2];rfl,h3⟩
   ·cases g
 ·rcases Q k a K with rfl|⟨m,x,A,h2,h3,h4⟩;·cases hi
  ·rcases Q C b hb with rfl|⟨m',x',T,X,ad,aq⟩;·cases af
   ·by_cases hm:m=m'
    ·subst hm;have au:m<z S.Q:=(by grind [G]);rcases Nat.lt_or_gt_of_ne ak with aa|aa;·grind [Wv,G]
     grind [Wv,G]
    grind [G]
 ·grind [G]
 ·have D:(ρθ V.toVal θo)[k]?=J (J o):=D;rw[ρθ,aC6]at D;grind [G]
section
variable{C:Ctx}{X:Cfg}{PK:PkI}{O0:Frm}{V:Vo}{A:Ab}{E:As}{Y:St}
mutual
def aiI{V:Val}:∀(v:AV) {s:Sh},shC v=J s->M V s v
 |.cX b,s,h=>by cases h;exact .bc b
 |.cU k n,s,h=>by cases h;exact .ic k n
 |.cV l,s,h=>by cases h;exact .sc l
 |.ev,s,h=>by cases h;exact .ev
 |.cY,s,h=>by cases h;exact .cY
 |.ep,s,h=>by cases h;exact .gF
 |.ej,s,h=>by cases h;exact .f9
 |.eA,s,h=>by cases h;exact .ga
 |.ea f x y,s,h=>by
  simp only[shC]at h;split at h;·rename_i a b c hb;cases h;exact .ea f _ _ _ _ (PL x c) (PL y hb)
  ·cases h
 |.df [],s,h=>by cases h;exact .dT
 |.df (_::_),s,h=>by simp[shC]at h
 |.c8 _ _,s,h=>by simp[shC]at h
 |.em _,s,h=>by simp[shC]at h
 |.fu,s,h=>by simp[shC]at h
 |.sl _ _,s,h=>by simp[shC]at h
 |.eC _ _,s,h=>by simp[shC]at h
 |.dj _ _ _ _,s,h=>by simp[shC]at h
 |.ec _,s,h=>by simp[shC]at h
 |.eb _ _,s,h=>by simp[shC]at h
 |.da _,s,h=>by simp[shC]at h
def PL{V:Val}:∀(l:LA) {t:List Sh},aeB l=J t->Mt V t l
 |[],t,h=>by cases h;exact .de
 |v::l,t,h=>by
  simp only[aeB]at h;split at h;·rename_i a b c hb;cases h;exact .cW _ _ _ _ (aiI v c) (PL l hb)
  ·cases h
end
def Jo(C:Ctx)(X:Cfg):Prop:=∀n s,X.gl n=J s->∀V:Val,M V s (.em ((C.gl n).getD []))
def bV(b:Jo C X)(h:G PK O0 V A E Y){x:XA}{s:Sh}(a:avS X A x=J s):M V.toVal s (avA C E x):=by
 cases x with
 |t n=>exact h.az n s a|c v=>exact aiI v a|g n=>exact b n s a _
def OC(d:Jo C X)(h:G PK O0 V A E Y):∀{l:List XA} {t:List Sh},afa X A l=J t->Mt V.toVal t (l.map (avA C E))
 |[],t,c=>by cases c;exact .de
 |x::l,t,c=>by
  simp only[afa]at c;split at c;·rename_i a b e hb;cases c;exact .cW _ _ _ _ (bV d h e) (OC d h hb)
  ·cases c
def VK{V:Val}{s:Sh}{v:AV}{l:List Sh}(h:M V s v)(a:cellsS s=J l):Ms V l v.cH:=by
 unfold cellsS at a;split at a;·cases a;cases h with|da _ _ h=>exact h
 ·cases a;cases h with|jv j=>rw[show j.av.cH=j.B++[]from(ay5 _).symm];exact .jv _ _ _ .de
 ·cases a;cases h with|jg _ _ j h=>rw[show j.av.cH=j.B++[]from(ay5 _).symm];exact .jg _ _ _ _ _ h .de
 ·split at a
  ·rename_i b;cases a;have:v.cH=[v]:=by cases h<;>first|rfl|cases b
   rw[this];exact .eo _ _ _ _ b h .de
  ·cases a
def RF{V:Val}{l:List Sh}{v:LA}(h:Ms V l v):M V (UX l) (.da v):=by
 unfold UX;split;·cases h with|eo _ _ _ _ a=>cases a|jv _ j b a=>cases a;rw[ay5];exact .jv j
 ·cases h with|eo _ _ _ _ a=>cases a|jg _ _ _ j b c a=>cases a;rw[ay5];exact .jg _ _ j c
 ·exact .da _ _ h
theorem Val.ab(V:Val)(b:List Nat):V.le ⟨V.ν++b,V.ρ⟩:=⟨λi a c=>by
 grind,λi a c=>c⟩
def aoV {V:Val}:∀{l:List Sh} {v:LA},Ms V l v->∀{n m:Nat} {t:List Sh} {f:Fs},z V.ν=n->V.ν[0]?=J 0->vF l n=(t,m,f)->
  ∃d:List Nat,z (V.ν++d)=m/\Ms ⟨V.ν++d,V.ρ⟩ t v/\∀g∈f,qZ ⟨V.ν++d,V.ρ⟩ g:=by
 intro l v h
 induction l generalizing v V with
 |nil=>intro n m t f L N u;cases h;simp only[vF,ay8]at u;obtain⟨rfl,rfl,rfl⟩:=u;exact⟨[],by simpa using L,.de,λg y=>by cases y⟩
 |cons s l T=>
  intro n m t f L N u;have step:∀(A:List Nat) {w:LA},Ms V l w->∀{m:Nat} {t:List Sh} {f:Fs},vF l (n+z A)=(t,m,f)->∃d:List Nat,z (V.ν++(A++d))=m/\Ms ⟨V.ν++(A++d),V.ρ⟩ t w/\(∀g∈f,qZ ⟨V.ν++(A++d),V.ρ⟩ g):=λA w S m t f u=>by
   have I:V.le ⟨V.ν++A,V.ρ⟩:=⟨λi a O=>by
    grind,λi a O=>O⟩
   obtain⟨d,B,h2,h3⟩:=T (V:=⟨V.ν++A,V.ρ⟩) (S.D I) (n:=n+z A) (by simp[L]) (I.ν _ _ N) u;grind
  have C:∀(a:Nat) (d:List Nat),(V.ν++([a]++d))[n]?=J a:=λa d=>by grind
  have K:∀(a b:Nat) (d:List Nat),(V.ν++([a,b]++d))[n]?=J a/\(V.ν++([a,b]++d))[n+1]?=J b:=λa b d=>by grind
  have dx:∀d:List Nat,(V.ν++d)[0]?=J 0:=λd=>by grind
  cases h with
  |jg a b _ j dv hj hr=>obtain⟨⟨G,F,E⟩,o⟩:∃q,vF l (n+z ([]:List Nat))=q:=⟨_,rfl⟩;obtain⟨d,B,h2,h3⟩:=step [] hr o;simp only[a94,aH4]at o;simp only[vF,o,ay8]at u;obtain⟨rfl,rfl,rfl⟩:=u;exact⟨d,B,.jg _ _ _ _ _ (hj.D (V.ab d)) h2,h3⟩
  |jv _ j dv hr=>
   obtain⟨k,c,tx,ns,is,e1,e3,e2,e4,rfl⟩:=j.ex;obtain⟨⟨G,F,E⟩,o⟩:∃q,vF l (n+[z ns,z is].length)=q:=⟨_,rfl⟩;obtain⟨d,B,h2,h3⟩:=step [z ns,z is] hr o;simp only[a90,a94]at o;simp only[vF,o,ay8]at u;obtain⟨rfl,rfl,rfl⟩:=u;have⟨R,M⟩:=K (z ns) (z is) d;refine⟨[z ns,z is]++d,B,.jg _ _ _ _ _ ⟨k,c,tx,ns,is,e1,e3,e2,e4,rfl,R,M⟩ h2,λg y=>?_⟩;rcases az4.mp y with rfl|y;·exact⟨_,_,R,M,by dsimp only;omega⟩
   ·rcases az4.mp y with rfl|y;·exact⟨_,_,M,dx _,by dsimp only;omega⟩
    ·exact h3 g y
  |eo _ _ x b D Q hb=>
   have H:(∀e,s≠ .eB e)->s≠ .fR->s≠ .cV->s≠ .ds->s≠ .jv->∃d:List Nat,z (V.ν++d)=m/\Ms ⟨V.ν++d,V.ρ⟩ t (x::b)/\∀g∈f,qZ ⟨V.ν++d,V.ρ⟩ g:=λW X Y Z k5=>by
    obtain⟨⟨G,F,E⟩,o⟩:∃q,vF l (n+z ([]:List Nat))=q:=⟨_,rfl⟩;obtain⟨d,B,h2,h3⟩:=step [] hb o;simp only[a94,aH4]at o;have:vF (s::l) n=(s::G,F,E):=by cases s<;>first|(exact absurd rfl (W _))|contradiction|(simp only[vF,o])
    rw[this]at u;simp only[ay8]at u;obtain⟨rfl,rfl,rfl⟩:=u;exact⟨d,B,.eo _ _ _ _ D (Q.D (V.ab d)) h2,h3⟩
   cases Q with
   |eB e rs P hr=>
    obtain⟨⟨G,F,E⟩,o⟩:∃q,vF l (n+[z rs].length)=q:=⟨_,rfl⟩;obtain⟨d,B,h2,h3⟩:=step [z rs] hb o;simp only[a90,a94]at o;simp only[vF,o,ay8]at u;obtain⟨rfl,rfl,rfl⟩:=u;have p:=C (z rs) d;refine⟨[z rs]++d,B,.eo _ _ _ _ rfl (.sl n e rs p (hr.D (V.ab ([z rs]++d)))) h2,λg y=>?_⟩;rcases az4.mp y with rfl|y;·exact⟨_,_,p,dx _,by dsimp only;omega⟩
    ·exact h3 g y
   |fR is P=>
    obtain⟨⟨G,F,E⟩,o⟩:∃q,vF l (n+[z is].length)=q:=⟨_,rfl⟩;obtain⟨d,B,h2,h3⟩:=step [z is] hb o;simp only[a90,a94]at o;simp only[vF,o,ay8]at u;obtain⟨rfl,rfl,rfl⟩:=u;have p:=C (z is) d;refine⟨[z is]++d,B,.eo _ _ _ _ rfl (.gC n is p) h2,λg y=>?_⟩;rcases az4.mp y with rfl|y;·exact⟨_,_,p,dx _,by dsimp only;omega⟩
    ·exact h3 g y
   |cV w=>obtain⟨⟨G,F,E⟩,o⟩:∃q,vF l (n+[z w].length)=q:=⟨_,rfl⟩;obtain⟨d,B,h2,h3⟩:=step [z w] hb o;simp only[a90,a94]at o;simp only[vF,o,ay8]at u;obtain⟨rfl,rfl,rfl⟩:=u;exact⟨[z w]++d,B,.eo _ _ _ _ rfl (.eZ n w (C (z w) d)) h2,h3⟩
   |ds w P=>
    obtain⟨⟨G,F,E⟩,o⟩:∃q,vF l (n+[z w].length)=q:=⟨_,rfl⟩;obtain⟨d,B,h2,h3⟩:=step [z w] hb o;simp only[a90,a94]at o;simp only[vF,o,ay8]at u;obtain⟨rfl,rfl,rfl⟩:=u;have p:=C (z w) d;refine⟨[z w]++d,B,.eo _ _ _ _ rfl (.eZ n w p) h2,λg y=>?_⟩;rcases az4.mp y with rfl|y;·exact⟨_,_,p,dx _,by dsimp only;omega⟩
    ·exact h3 g y
   |jv=>cases D|_=>exact H (λ_=>by simp) (by simp) (by simp) (by simp) (by simp)
theorem G.ab(h:G PK O0 V A E Y)(a:List Nat){m:Nat}{f:Fs}(e:z (V.ν++a)=m)(hf:∀g∈f,qZ ⟨V.ν++a,V.ρ⟩ g):G PK O0 ⟨⟨V.ν++a,V.ρ⟩,V.ac⟩ {A with nx:=m,X:=f++A.X} E Y:=by
 have b:V.toVal.le (⟨⟨V.ν++a,V.ρ⟩,V.ac⟩:Vo).toVal:=V.toVal.ab a;refine⟨λt s i=>(h.az t s i).D b,e,h.lρ,h.lo,b.ν _ _ h.aa,λg c=>?_,λk x d=>(h.Q k x d).D b rfl (λ_ _ _ _=>rfl) (λ_ _ _=>rfl),h.dw,h.cJ,h.ρl,h.bE,h.ok⟩;rcases aD3.mp c with c|c;·exact hf g c
 ·exact(h.X g c).D b
def acI(h:G PK O0 V A E Y){l:List Sh}{v:LA}(d:Ms V.toVal l v):∃V':Vo,V.toVal.le V'.toVal/\V'.ac=V.ac/\V'.ρ=V.ρ/\G PK O0 V' (opened A l).2 E Y/\Ms V'.toVal (opened A l).1 v:=by obtain⟨⟨t,m,f⟩,b⟩:∃q,vF l A.nx=q:=⟨_,rfl⟩;obtain⟨a,c,h2,h3⟩:=aoV d h.lν h.aa b;unfold opened;rw[b];exact⟨⟨⟨V.ν++a,V.ρ⟩,V.ac⟩,V.toVal.ab a,rfl,rfl,h.ab a c h3,h2⟩
def aaz{V:Val}:∀ns:List LU,(∀x∈ns,z x<=LB)->∃rs:List LA,z rs=z ns/\rs.flatten=ns.map AV.cV/\MRs V [.ds] rs|[],_=>⟨[],rfl,rfl,.de _⟩|s::ns,h=>by obtain⟨rs,a,h2,h3⟩:=aaz ns (λx b=>h x (by simp[b]));exact⟨[.cV s]::rs,by simp[a],by rw[aC2,h2];rfl,.cW _ _ _ (.eo _ _ _ _ rfl (.ds s (h s (by simp))) .de) h3⟩
def OH{V:Val}:∀{l:List Sh} {v:LA},Ms V l v->∀{n:Nat} {s:Sh},cellAt l n=J s->∃x,v[n]?=J x/\M V s x
 |_,_,.de,n,s,a=>by simp[cellAt]at a
 |_,_,.eo s0 t v b d h2 h3,n,s,a=>by
  cases n with
  |zero=>
   have:cellAt (s0::t) 0=J s0:=by cases s0<;>first|rfl|cases d
   grind
  |succ n=>
   have:cellAt (s0::t) (n+1)=cellAt t n:=by cases s0<;>first|rfl|cases d
   rw[this]at a;obtain⟨x,h4,h5⟩:=OH h3 a;exact⟨x,by simpa using h4,h5⟩
 |_,_,.jv t j b d,n,s,a=>by
  match n,a with
  |n+5,a=>have a:cellAt t n=J s:=a;obtain⟨x,h4,h5⟩:=OH d a;grind [j.dt]
 |_,_,.jg p q t j b e d,n,s,a=>by
  obtain⟨k,c,tx,ns,is,e1,e3,e2,e4,rfl,g,f⟩:=e;rw[JV.bB]
  match n,a with
  |0,a=>cases a;exact⟨_,rfl,.cU _ _⟩|1,a=>cases a;exact⟨_,rfl,.cU _ _⟩|2,a=>cases a;exact⟨_,rfl,.ds _ e4.t⟩|3,a=>cases a;obtain⟨rs,r1,r2,r3⟩:=aaz (V:=V) ns e4.ns;exact⟨_,rfl,by grind [M]⟩
  |4,a=>cases a;exact⟨_,rfl,.gC _ is f⟩|n+5,a=>have a:cellAt t n=J s:=a;obtain⟨x,h4,h5⟩:=OH d a;exact⟨x,h4,h5⟩
theorem UT{V:Val}{l:List Sh}{v:LA}(h:Ms V l v){ag:Bool}{sz off:Nat}{s:Sh}(e:aa0 ag sz l off=J s):∃x,pt ag sz (v.drop off)=J x/\M V s x:=by
 cases ag with
 |true=>
  simp only[aa0,if_true]at e;split at e
  ·rename_i a b g;split at e;·rename_i c d i;cases e;obtain⟨x,y,rfl,e2,e3,e4⟩:=h.aP g;obtain⟨m,o,rfl,j,f,k⟩:=e4.aP i;refine⟨.da m,?_,RF f⟩;unfold pt;grind
   ·cases e
  ·cases e
 |false=>simp only[aa0,aC3,if_false]at e;obtain⟨x,n,h2⟩:=OH h e;refine⟨x,?_,h2⟩;unfold pt;simp_all
def aaJ{V:Val}{l:List Sh}{v:LA}(h:Ms V l v){u q:List Sh}{w:LA}(j:Ms V u w){off sz:Nat}(hs:YF l off u sz=J q):z w=sz/\off+sz<=z v/\Ms V q (splice v off w):=by
 unfold YF at hs;split at hs
 ·rename_i k;rw[beq_iff_eq]at k;have n:=j.dt;split at hs
  ·rename_i a b g;split at hs
   ·rename_i c d i;cases hs;obtain⟨x,y,rfl,e2,e3,e4⟩:=h.aP g;obtain⟨o,p,rfl,e,m,f⟩:=e4.aP i;refine⟨by omega,by simp;omega,?_⟩;unfold splice;rw[aC4 (by omega),a95 (by omega),n,k,<-e2,<-e,<-a04,<-ay2 x o p,List.drop_left'];·exact(e3.eG j).eG f
    ·rfl
   ·cases hs
  ·cases hs
 ·cases hs
def ZK(d:Jo C X)(h:G PK O0 V A E Y):∀{c:List (Nat×Nat×XA)} {l:List Sh} {v:LA},Ms V.toVal l v->∀{q:List Sh},afH X A l c=J q->∃w,CW v (c.map λ(o,s,x)=>(o,s,avA C E x))=J w/\Ms V.toVal q w
 |[],l,v,a,q,hf=>by cases hf;exact⟨v,rfl,a⟩
 |(off,j,x)::c,l,v,a,q,hf=>by
  simp only[afH]at hf;split at hf
  ·rename_i s hs;split at hf
   ·rename_i u e;split at hf;·rename_i i b;have f:=VK (bV d h hs) e;obtain⟨e1,e2,e3⟩:=aaJ a f b;obtain⟨w,g,h2⟩:=ZK d h e3 hf;refine⟨w,?_,h2⟩;simp only[az3,CW];grind
    ·cases hf
   ·cases hf
  ·cases hf
def akl{V:Val}{l:List Sh}{d:LA}(h:Ms V l d):∀n,Ms V (auM l n) (rep d n)|0=>.de|n+1=>h.eG (akl h n)
end
section
variable{C:Ctx}{X:Cfg}{PK:PkI}{O0:Frm}{V:Vo}{A:Ab}{E:As}{Y:St}
structure Ch(V:Vo)(A:Ab)(Y:St)(V':Vo)(A':Ab)(Y':St):Prop where
 le:V.toVal.le V'.toVal
 wr:∀k∈A.wr,k∈A'.wr
 ls:A'.ls=A.ls
 az:A'.az=A.az
 c:∀k x,A.Q[k]?=some x->k∉A'.wr->A'.Q[k]?=some x/\V'.ac[k]?=V.ac[k]? /\∀l o,x=.cH l->V.ac[k]?=some [o]->Y'[o]?=Y[o]?
def Ch.ah:Ch V A Y V A Y:=⟨.cf,λ_ h=>h,rfl,rfl,λ_ _ h _=>⟨h,rfl,λ_ _ _ _=>rfl⟩⟩
def Ch.N{V' b:Vo}{A' a:Ab}{d c:St}(h:Ch V A Y V' A' d)(k:Ch V' A' d b a c):Ch V A Y b a c:=by refine⟨h.le.N k.le,λq e=>k.wr q (h.wr q e),k.ls.trans h.ls,k.az.trans h.az,λq l e f=>?_⟩;grind [Ch]
def G.g0(h:G PK O0 V A E Y)(k:Nat):G PK O0 ⟨V.toVal,V.ac.set k []⟩ (A.bR k .eq) E Y:=by
 have l:∀(j:Nat) a,(V.ac.set k [])[j]?=J a->a=[]\/V.ac[j]?=J a:=λj a e=>by grind
 refine⟨h.az,h.lν,by simp[Ab.bR,h.lρ],by simp[Ab.bR,h.lo],h.aa,h.X,λj d hj=>?_,λj n a b g e hb i hi f=>?_,λj a e i hi=>?_,h.ρl,h.bE,h.ok⟩
 ·simp only[Ab.bR]at hj;rw[List.getElem?_set]at hj;split at hj
  ·rename_i c;subst c;split at hj;·cases hj;show(V.ac.set k [])[k]?=_;grind [G]
   ·cases hj
  ·rename_i c;refine HM.D (V:=V) (V':=⟨V.toVal,V.ac.set k []⟩) (Y:=Y) .cf ?_ (λ_ _ _ _=>rfl) (λ_ _ _=>rfl) (h.Q j d hj);grind
 ·grind [G]
 grind [G]
def G.hm(h:G PK O0 V A E Y){o:Nat}{x:AO}(g:∀(k:Nat) a,V.ac[k]?=J a->o∉a)(l:O0.I<=o\/o∈O0.w)(n:x.below (z Y)=eT):G PK O0 V A E (Y.set o x):=by
 have c:∀(i:Nat),i≠o->(Y.set o x)[i]?=Y[i]?:=λi hi=>by rw[List.getElem?_set_ne (Ne.symm hi)]
 refine⟨h.az,h.lν,h.lρ,h.lo,h.aa,h.X,λk q f=>?_,h.dw,λk a d i hi=>by simpa using h.cJ k a d i hi,λk j f=>by simpa using h.ρl k j f,?_,?_⟩
 ·refine(h.Q k q f).D .cf rfl (λa d i hi=>c i λe=>?_) (λi hi m=>c i λe=>?_);·subst e;exact g k a d hi
  grind
 ·grind [G]
 grind [Ok,h.ok]
def Ch.g0(k:Nat):Ch V A Y ⟨V.toVal,V.ac.set k []⟩ (A.bR k .eq) Y:=by
 refine⟨.cf,λq a=>by simp[Ab.bR,a],rfl,rfl,λj l hj b=>?_⟩;simp only[Ab.bR,az4,not_or]at b;refine⟨?_,?_,λ_ _ _ _=>rfl⟩;·simp only[Ab.bR];grind
 grind
def Ch.kr{a:St}(c:∀(k:Nat) l (o:Nat),A.Q[k]?=J (.cH l)->V.ac[k]?=J [o]->a[o]?=Y[o]?):Ch V A Y V A a:=⟨.cf,λ_ h=>h,rfl,rfl,λk x b _=>⟨b,rfl,λl o e d=>c k l o (e▸b) d⟩⟩
def Ch.hm{x:AO}{o:Nat}(b:∀(k:Nat) a,V.ac[k]?=J a->o∉a):Ch V A Y V A (Y.set o x):=.kr λk l d _ c=>by grind
def Ch.lB(h:G PK O0 V A E Y){V':Vo}{A':Ab}(b:V.toVal.le V'.toVal)(e:V'.ac=V.ac)(f:A'.wr=A.wr)(d:A'.ls=A.ls)(he:A'.az=A.az)(c:A'.Q=A.Q):Ch V A Y V' A' Y:=
 ⟨b,λk a=>by rw[f];exact a,d,he,λk l a _=>⟨by rw[c];exact a,by rw[e],λ_ _ _ _=>rfl⟩⟩
def G.g6(h:G PK O0 V A E Y){V':Vo}{x:AO}{y:HO}(b:V.toVal.le V'.toVal)(e:V'.ac=V.ac++[[z Y]]):Ch V A Y V' (A.ce y) (Y++[x]):=by
 refine⟨b,λ_ a=>a,rfl,rfl,λk l a _=>?_⟩;have d:k<z A.Q:=(a00.mp a).1;refine⟨?_,?_,λ_ o _ c=>?_⟩;·show(A.Q++[y])[k]?=_;grind
 ·grind [G]
 ·rw[aA3 (h.cJ k _ c o (by simp)).2]
def G.j7 (h:G PK O0 V A E Y) {e:List Sh} {rs:List LA} {fz:Fz} (hr:MRs V.toVal e rs) {fs:Fs} (hf:∀f∈fs,∀V':Val,V.toVal.le V'->V'.ν[A.nx]?=J (z rs)->qZ V' f):
  ∃V':Vo,Ch V A Y V' (A.cn e fs).2 (Y++[.cH rs.flatten fz])/\G PK O0 V' (A.cn e fs).2 E (Y++[.cH rs.flatten fz])/\M V'.toVal (A.cn e fs).1 (.dj (z Y) 0 (z rs) (wds e)):=by
 obtain⟨v,c,g,p,u⟩:=h.eM (z rs);have hb:(AO.cH rs.flatten fz).below (z Y+1)=eT:=wR (aI2 _) (MRs.b5 h.ρl hr);obtain⟨i,d,m,t,q,h2⟩:=u.eN (x:=.cH rs.flatten fz) (y:=.fN A.nx e) hb (λV' b l s=>⟨z rs,b.ν _ _ g,z Y,rs,fz,l,s,by simp,rfl,(hr.D c).D b⟩);have j:=c.N d;have k:i.ν[A.nx]?=J (z rs):=d.ν _ _ g;have o:∀a:Fs,(∀f∈a,qZ i.toVal f)->G PK O0 i {A.ce (.fN A.nx e)with nx:=A.nx+1,X:=a++A.X} E (Y++[.cH rs.flatten fz]):=by
  intro a
  induction a with
  |nil=>intro _;exact h2|cons f a w=>grind [G]
 refine⟨i,?_,o fs λf n=>hf f n _ j k,?_⟩;·have:=h.g6 (V':=i) (x:=.cH rs.flatten fz) (y:=.fN A.nx e) j (by rw[q,p]);exact⟨this.le,this.wr,this.ls,this.az,this.c⟩
 ·exact .ft _ _ _ (z Y) (z rs) k m
def G.ix (h:G PK O0 V A E Y) {l:List Sh} {cs:LA} (g:Ms V.toVal l cs):
  ∃V':Vo,Ch V A Y V' (A.ce (.cH l)) (Y++[.cH cs FZ])/\G PK O0 V' (A.ce (.cH l)) E (Y++[.cH cs FZ])/\M V'.toVal (.c8 (z A.Q) 0) (.c8 (z Y) 0):=by
 obtain⟨j,b,d,i,e,h2⟩:=h.eN (x:=.cH cs FZ) (y:=.cH l) (wR (aI2 _) (Ms.b5 h.ρl g)) (λV' a c f=>⟨z Y,cs,c,f,by simp,g.D a⟩);exact⟨j,h.g6 b e,h2,.c8 _ _ _ d⟩
def YZ(h:G PK O0 V A E Y){m:Bool}{k a w:Nat}{e:List Sh}(c:SL m A.Q k a w=J e):wds e=w/\∃n,V.ν[a]?=J n/\(m=eF/\n=0/\V.ac[k]?=J []\/∃o rs fz,V.ρ[k]?=J (J o)/\V.ac[k]?=J [o]/\Y[o]?=J (.cH rs.flatten fz)/\z rs=n/\MRs V.toVal e rs):=by
 unfold SL at c;split at c
 ·rename_i b j f;split at c;·rename_i d;simp only[a01,beq_iff_eq,aF6]at d;cases c;obtain⟨⟨l,rfl⟩,i⟩:=d;obtain⟨n,g,h2⟩:=h.Q _ _ f;grind
  ·cases c
 ·rename_i b j f;split at c;·rename_i d;simp only[a01,beq_iff_eq]at d;cases c;obtain⟨rfl,i⟩:=d;obtain⟨n,g,h2⟩:=h.Q _ _ f;exact⟨i,n,g,.inr h2⟩
  ·cases c
 ·cases c
end
def NF{V:Val}{s:Sh}{k:IntKind}{v:AV}(h:isInt s=J k)(hv:M V s v):∃n,v=.cU k n:=by cases s<;>simp[isInt]at h<;>subst h<;>cases hv<;>exact⟨_,rfl⟩
def aea{V:Val}(b:V.ν[0]?=J 0){s:Sh}{a:Nat}{c:Int}{v:AV}(h:lin s=J (a,c))(hv:M V s v):∃m:Nat,V.ν[a]?=J m/\v=.cU r (m+c):=by
 cases s with
 |eM j d=>cases h;grind [M]|ic k n=>cases k<;>simp[lin]at h;grind [M]|_=>simp[lin]at h
def GX{V:Val}{s:Sh}{v:AV}(h:KX s=eT)(hv:M V s v):∃x,v=.cV x:=by cases s<;>simp[KX]at h<;>cases hv<;>exact⟨_,rfl⟩
def avt(np:Bool)(op:BinOp)(d:Nat)(c:Bool)(k e:IntKind)(a b:Int):Ac np op d c (.cU k a) (.cU e b)=binOp op d c (.cU k a) (.cU e b):=Zb ..
def bt(b:Bool):(b==eT)=b:=by cases b<;>rfl
def bf(b:Bool):(b==eF)= !b:=by cases b<;>rfl
def WT(x:LU):mF x []=decide ((z x:Int)+0=((0:Nat):Int)):=by rw[kZ];cases x<;>simp;omega
def Xv(x:LU):mF [] x=decide ((z x:Int)+0=((0:Nat):Int)):=by rw[kZ];cases x<;>simp;omega
section
variable{V:Val}{F:Fs}
def VT(b:V.ν[0]?=J 0)(c:∀f∈F,qZ V f){x n a:Nat}(h:leN F x n=eT)(d:V.ν[x]?=J a):a<=n:=by have:=NW b c _ _ _ _ _ _ h d b;omega
def G5(d:V.ν[0]?=J 0)(e:∀f∈F,qZ V f){x y a b:Nat}{c:Int}(h:le? F x c y=eT)(g:V.ν[x]?=J a)(hb:V.ν[y]?=J b):(a:Int)+c<=b:=NW d e _ _ _ _ _ _ h g hb
def OkB(V:Val)(u:Sh)(d:Option AV):Prop:=∃v,d=J v/\M V u v
theorem amI(b:V.ν[0]?=J 0)(d:∀f∈F,qZ V f){j:Nat}{c n:Int}{m:Nat}(a:(leN F j LB&&small c&&small n)=eT)(e:V.ν[j]?=J m):IntKind.i64.wrap ((m:Int)+(c+n))=m+(c+n):=by simp only[small,a01,decide_eq_true_eq]at a;have:=VT b d a.1.1 e;grind [LB,w64]
def aqK(D:V.ν[0]?=J 0)(H:∀f∈F,qZ V f)(np:Bool){op:BinOp}{G:Nat}{A:Bool}{x y u:Sh}{p q:AV}{k K:IntKind}(w:M V x p)(t:M V y q)(I:isInt x=J k)(B:isInt y=J K)(h:akU F op G A x y=J u):OkB V u (Ac np op G A p q):=by
 obtain⟨a,rfl⟩:=NF I w;obtain⟨b,rfl⟩:=NF B t;rw[avt];unfold akU at h;simp only[I,B]at h;have l:∀{i j:Nat} {c d:Int},lin x=J (i,c)->lin y=J (j,d)->∃m o:Nat,V.ν[i]?=J m/\V.ν[j]?=J o/\a=m+c/\b=o+d:=λs h2=>by obtain⟨m,e1,e2⟩:=aea D s w;obtain⟨o,e3,e4⟩:=aea D h2 t;grind
 cases op
 case shl=>
  simp only at h;split at h
  ·split at h;·cases h;cases t;rw[TB,if_neg (by omega)];exact⟨_,rfl,.cU _ _⟩
   ·cases h
  ·cases h
 case shr=>
  simp only at h;split at h
  ·split at h;·cases h;cases t;rw[TD,if_neg (by omega)];exact⟨_,rfl,.cU _ _⟩
   ·cases h
  ·cases h
 all_goals
  simp only at h;split at h;·cases h
  rename_i C;simp at C;subst C
 case add=>
  rw[Tf];split at h
  ·rename_i j c n;split at h;·rename_i v;cases h;cases w with|eM _ _ m e=>cases t;exact⟨_,rfl,by rw[Int.add_assoc,amI D H v e];exact .eM _ _ _ e⟩
   ·cases h;exact⟨_,rfl,.cU _ _⟩
  ·rename_i n j c;split at h;·rename_i v;cases h;cases t with|eM _ _ m e=>cases w;exact⟨_,rfl,by grind [amI,M]⟩
   ·cases h;exact⟨_,rfl,.cU _ _⟩
  ·split at h;·rename_i v;simp only[small,a01,decide_eq_true_eq]at v;cases h;cases w;cases t;skip;exact⟨_,rfl,by grind [w64,M]⟩
   ·cases h;exact⟨_,rfl,.cU _ _⟩
  ·cases h;exact⟨_,rfl,.cU _ _⟩
 case sub=>
  rw[OG];split at h
  ·rename_i j c n;split at h
   ·rename_i v;cases h;cases w with|eM _ _ m e=>
     cases t;skip;simp only[small,a01,decide_eq_true_eq]at v;have:=VT D H v.1.1 e;simp only[LB]at this;exact⟨_,rfl,by grind [w64,M]⟩
   ·cases h;exact⟨_,rfl,.cU _ _⟩
  ·split at h;·rename_i v;simp only[small,a01,decide_eq_true_eq]at v;cases h;cases w;cases t;skip;exact⟨_,rfl,by grind [w64,M]⟩
   ·cases h;exact⟨_,rfl,.cU _ _⟩
  ·cases h;exact⟨_,rfl,.cU _ _⟩
 case mul=>cases h;rw[Tu];exact⟨_,rfl,.cU _ _⟩
 case and=>cases h;rw[Ti];exact⟨_,rfl,.cU _ _⟩
 case or=>cases h;rw[Ze];exact⟨_,rfl,.cU _ _⟩
 case xor=>cases h;rw[TG];exact⟨_,rfl,.cU _ _⟩
 case andNot=>cases h;rw[Gl];exact⟨_,rfl,.cU _ _⟩
 case quo=>
  split at h
  ·split at h;·rename_i E;cases h;cases t;rw[Tz,if_neg (by simpa using E)];exact⟨_,rfl,.cU _ _⟩
   ·cases h
  ·cases h
 case rem=>
  split at h
  ·split at h;·rename_i E;cases h;cases t;rw[TA,if_neg (by simpa using E)];exact⟨_,rfl,.cU _ _⟩
   ·cases h
  ·cases h
 case eql=>
  rw[Tj];split at h
  ·rename_i i c j d s h2;obtain⟨m,o,e1,e2,rfl,rfl⟩:=l s h2;cases h;refine⟨_,rfl,?_⟩;split;·rename_i g;subst g;rw[e1]at e2;cases e2;rw[show((m:Int)+c==m+d)=(decide (c=d)==IC .eql) by rw[aH5];simp only[beq_iff_eq,decide_eq_true_eq,IC];omega];exact .bc _
   ·have:((m:Int)+c==o+d)=(decide ((m:Int)+(c-d)=o)==eT):=(by grind);rw[this];exact .gh _ _ _ _ _ _ e1 e2
  ·cases h;exact⟨_,rfl,.cX _⟩
 case neq=>
  rw[Tv];split at h
  ·rename_i i c j d s h2;obtain⟨m,o,e1,e2,rfl,rfl⟩:=l s h2;cases h;refine⟨_,rfl,?_⟩;split;·rename_i g;subst g;rw[e1]at e2;cases e2;rw[show((m:Int)+c !=m+d)=(decide (c=d)==IC .neq) by rw[aH5];simp only[bne_iff_ne,ne_eq,beq_iff_eq,IC,decide_eq_false_iff_not];omega];exact .bc _
   ·have:((m:Int)+c !=o+d)=(decide ((m:Int)+(c-d)=o)==eF):=(by grind);rw[this];exact .gh _ _ _ _ _ _ e1 e2
  ·cases h;exact⟨_,rfl,.cX _⟩
 case lss=>
  rw[Tt];split at h
  ·rename_i i c j d s h2;obtain⟨m,o,e1,e2,rfl,rfl⟩:=l s h2;cases h;refine⟨_,rfl,?_⟩;split;·rename_i g;subst g;rw[e1]at e2;cases e2;grind [M]
   ·rw[show decide ((m:Int)+c<o+d)=decide ((m:Int)+(c-d+1)<=o)from decide_eq_decide.mpr (by omega)];exact .gD _ _ _ _ _ e1 e2
  ·cases h;exact⟨_,rfl,.cX _⟩
 case leq=>
  rw[Tq];split at h
  ·rename_i i c j d s h2;obtain⟨m,o,e1,e2,rfl,rfl⟩:=l s h2;cases h;refine⟨_,rfl,?_⟩;split;·rename_i g;subst g;rw[e1]at e2;cases e2;grind [M]
   grind [M]
  ·cases h;exact⟨_,rfl,.cX _⟩
 case gtr=>
  rw[Tn];split at h
  ·rename_i i c j d s h2;obtain⟨m,o,e1,e2,rfl,rfl⟩:=l s h2;cases h;refine⟨_,rfl,?_⟩;split;·rename_i g;subst g;rw[e1]at e2;cases e2;grind [M]
   ·rw[show decide ((m:Int)+c>o+d)=decide ((o:Int)+(d-c+1)<=m)from decide_eq_decide.mpr (by omega)];exact .gD _ _ _ _ _ e2 e1
  ·cases h;exact⟨_,rfl,.cX _⟩
 case geq=>
  rw[Tm];split at h
  ·rename_i i c j d s h2;obtain⟨m,o,e1,e2,rfl,rfl⟩:=l s h2;cases h;refine⟨_,rfl,?_⟩;split;·rename_i g;subst g;rw[e1]at e2;cases e2;grind [M]
   ·rw[show decide ((m:Int)+c>=o+d)=decide ((o:Int)+(d-c)<=m)from decide_eq_decide.mpr (by omega)];exact .gD _ _ _ _ _ e2 e1
  ·cases h;exact⟨_,rfl,.cX _⟩
def ajE{V:Val}:∀{l m:List Sh} {c:Nat},afz c l m=eT->∀{v w:LA},Ms V l v->Ms V m w->∃b,kJ c v w=J b
 |[],[],c,_,v,w,a,h2=>by cases a;cases h2;exact⟨eT,by unfold kJ;rfl⟩
 |[],_::_,c,h,v,w,_,_=>by simp[afz]at h
 |_::_,[],c,h,v,w,_,_=>by simp[afz]at h
 |s::l,t::m,c,h,v,w,a,h2=>by
  simp only[afz,a01]at h;obtain⟨⟨⟨i,j⟩,h3⟩,h4⟩:=h;obtain⟨x,o,rfl,x1,a⟩:=a.cy i;obtain⟨y,u,rfl,f,h2⟩:=h2.cy j;obtain⟨b,hb⟩:=ajE h4 a h2;split at h3;·rename_i d;rw[a01]at h3;obtain⟨p,rfl⟩:=GX h3.1 x1;obtain⟨q,rfl⟩:=GX h3.2 f;exact⟨_,by unfold kJ;rw[if_pos d,hb];rfl⟩
  ·split at h3;·rename_i d;rw[a01]at h3;obtain⟨p,rfl⟩:∃p,x=.cX p:=(by cases s<;>simp[afz.el]at h3<;>cases x1<;>exact⟨_,rfl⟩);obtain⟨q,rfl⟩:∃p,y=.cX p:=(by cases t<;>simp[afz.el]at h3<;>cases f<;>exact⟨_,rfl⟩);exact⟨_,by unfold kJ;rw[if_pos d,hb];rfl⟩
   ·split at h3;·rename_i k n g e;rw[beq_iff_eq]at h3;subst h3;obtain⟨p,rfl⟩:=NF g x1;obtain⟨q,rfl⟩:=NF e f;exact⟨_,by unfold kJ;rw[if_pos ⟨by omega,rfl⟩,hb];rfl⟩
    ·cases h3
def ajF{op:BinOp}(h:op=.eql\/op=.neq)(b:Bool):xy op (J b)=J (.cX (b==IC op)):=by rcases h with rfl|rfl<;>cases b<;>rfl
def aqL(t:V.ν[0]?=J 0)(D:∀f∈F,qZ V f)(np:Bool){op:BinOp}{o:Nat}{c:Bool}{x y u:Sh}{p q:AV}(d:M V x p)(g:M V y q)(h:akU F op o c x y=J u):OkB V u (Ac np op o c p q):=by
 cases C:isInt x with
 |some k=>
  cases B:isInt y with
  |some H=>exact aqK t D np d g C B h|none=>exfalso;unfold akU at h;simp only[C,B]at h;cases x<;>simp[isInt,KX]at C h<;>(cases op<;>first|(simp at h;done)|(unfold aqW at h;split at h<;>first|(cases h;done)|simp_all))
 |none=>
  unfold akU at h;simp only[C]at h;split at h
  ·rename_i hs;rw[a01]at hs;obtain⟨a,rfl⟩:=GX hs.1 d;obtain⟨b,rfl⟩:=GX hs.2 g;rw[Zc,TE];cases op<;>simp only at h
   case eql=>
    split at h;·cases h;cases d with|eZ i s e=>cases g;exact⟨_,rfl,by rw[WT,<-bt (decide _)];exact .gh _ _ _ _ _ _ e t⟩
    ·cases h;cases g with|eZ i s e=>cases d;exact⟨_,rfl,by rw[Xv,<-bt (decide _)];exact .gh _ _ _ _ _ _ e t⟩
    ·cases h;exact⟨_,rfl,.cX _⟩
   case neq=>
    split at h;·cases h;cases d with|eZ i s e=>cases g;exact⟨_,rfl,by rw[WT,<-bf];exact .gh _ _ _ _ _ _ e t⟩
    ·cases h;cases g with|eZ i s e=>cases d;exact⟨_,rfl,by rw[Xv,<-bf];exact .gh _ _ _ _ _ _ e t⟩
    ·cases h;exact⟨_,rfl,.cX _⟩
   case lss=>cases h;exact⟨_,rfl,.cX _⟩
   case leq=>cases h;exact⟨_,rfl,.cX _⟩
   case gtr=>cases h;exact⟨_,rfl,.cX _⟩
   case geq=>cases h;exact⟨_,rfl,.cX _⟩
   all_goals cases h
  ·have j:op=.eql\/op=.neq:=(by cases op<;>simp at h<;>simp);have h:aqW (IC op) c o x y=J u:=(by rcases j with rfl|rfl<;>exact h);have fin:∀b:Bool,u=.bc (if b then IC op else !IC op)->Ac np op o c p q=xy op (J b)->OkB V u (Ac np op o c p q):=λb G hb=>by rw[hb,ajF j];refine⟨_,rfl,?_⟩;grind [IC,M]
   unfold aqW at h;split at h
   ·rename_i n l m _ _;split at h
    ·rename_i A;rw[a01,beq_iff_eq]at A;cases h;obtain⟨v,rfl,hv⟩:∃w,p=.da w/\Ms V l w:=(by grind [M]);obtain⟨w,rfl,E⟩:∃w,q=.da w/\Ms V m w:=(by grind [M]);obtain⟨b,hb⟩:=ajE A.2 hv E;rw[Za,Gm];have:eqA (n+8) c (.da v) (.da w)=J b:=by show(if z v=n%1024 then kJ (n/1024) v w else U)=_;rw[if_pos (by rw[hv.dt,A.1]),hb]
     rw[this,ajF j];exact⟨_,rfl,.cX _⟩
    ·cases h
   ·simp at h;subst h;cases d;cases g;refine fin eT (by simp) ?_;rw[SX,Ea];rfl
   ·simp at h;subst h;cases d;cases g;refine fin eF (by simp) ?_;rw[VG,Dk];rfl
   ·simp at h;subst h;cases d;cases g;refine fin eF (by simp) ?_;rw[VG,Dk];rfl
   ·simp at h;subst h;cases d;cases g;refine fin eF (by simp) ?_;rw[SV,D9];rfl
   ·split at h;·rename_i A;simp at h;subst h;cases d;cases g;refine fin eT (by simp) ?_;rw[D7,wC];show xy op (if c=eT then J eT else U)=_;rw[if_pos A]
    ·cases h
   ·simp at h;subst h;cases d;cases g;refine fin eF (by simp) ?_;rw[MZ,Bv];rfl
   ·simp at h;subst h;cases d;cases g;refine fin eT (by simp) ?_;rw[SY,Eb];rfl
   ·cases h
def ave{op:UnOp}{x u:Sh}{p:AV}(g:M V x p)(h:avd op x=J u):OkB V u (unOp op p):=by
 unfold avd at h;split at h<;>cases h<;>cases g;·exact⟨_,rfl,.bc _⟩
 ·exact⟨_,rfl,.cX _⟩
 ·rename_i a b e f;refine⟨_,rfl,?_⟩;rename_i x c y;rw[show(!decide ((a:Int)+c<=b))=decide ((b:Int)+(1-c)<=a) by
   grind]
  exact .gD _ _ _ _ _ f e
 ·rename_i a b e f;refine⟨_,rfl,?_⟩;rename_i d x c y;rw[show(!(decide ((a:Int)+c=b)==d))=(decide ((a:Int)+c=b)== !d) by grind];exact .gh _ _ _ _ _ _ e f
end
section
variable{V:Val}{v:AV}
def avN{b}(h:M V (.bc b) v):v=.cX b:=by cases h;rfl
def UH{k off}(h:M V (.c8 k off) v):∃o,V.ρ[k]?=J (J o)/\v=.c8 o off:=by grind [M]
def avO{k}(h:M V (.pk k) v):∃o,V.ρ[k]?=J (J o)/\v=.c8 o 0:=by grind [M]
def anS{k}(h:M V (.ec k) v):∃o,V.ρ[k]?=J (J o)/\v=.ec o:=by grind [M]
def ae0{off l}(h:M V (.em off l) v):∃w d,v=.em ((w++d).drop off)/\Ms V l w/\off<=z w/\ae 0 d=eT:=by grind [M]
def ajQ{t s}(h:M V (.eb t s) v):∃w,v=.eb t w/\M V s w:=by grind [M]
def anR{f x y}(h:M V (.ea f x y) v):∃a b,v=.ea f a b/\Mt V x a/\Mt V y b:=by grind [M]
def arb{k n}(h:M V (.ic k n) v):v=.cU k n:=by cases h;rfl
def asE{l}(h:M V (.da l) v):∃w,v=.da w/\Ms V l w:=by grind [M]
def anW{l}(h:M V (.df l) v):∃w,v=.df w/\Mt V l w:=by grind [M]
def ax2(h:M V .jv v):∃w,v=.da w/\Ms V [.jv] w:=by cases h with|jv j=>exact⟨j.B,rfl,by have:=Ms.jv (V:=V) [] j [] .de;rwa[ay5]at this⟩
def avP{i e}(h:M V (.sl i e) v):∃rs,v=.sl (z rs) rs.flatten/\V.ν[i]?=J (z rs)/\MRs V e rs:=by grind [M]
def asF{i}(h:M V (.gC i) v):∃is:List JV,v=.sl (z is) (aJ is)/\V.ν[i]?=J (z is):=by grind [M]
def anV{i}(h:M V (.eZ i) v):∃s,v=.cV s/\V.ν[i]?=J (z s):=by grind [M]
def anX{n e}(h:M V (.eC n e) v):∃l,v=.eC n l/\Ms V e l:=by grind [M]
def anU{n e}(h:M V (.fS n e) v):∃l,v=.sl n l/\Ms V e l:=by grind [M]
def anT(h:M V .cY v):v=.cY:=by cases h;rfl
def asD{k a e}(h:M V (.fL k a e) v):∃n,V.ν[a]?=J n/\(v=.cY/\n=0\/∃o,v=.dj o 0 n (wds e)/\0<n/\V.ρ[k]?=J (J o)):=by grind [M]
def ai2{k a e}(h:M V (.ft k a e) v):∃n o,V.ν[a]?=J n/\v=.dj o 0 n (wds e)/\V.ρ[k]?=J (J o):=by grind [M]
def Mt.fy:∀{l:List Sh} {w:LA},Mt V l w->l.all Sh.eo=eT->Ms V l w|_,_,.de,_=>.de|_,_,.cW s t v b a h2,h=>by rw[a07,a01]at h;exact .eo _ _ _ _ h.1 a (Mt.fy h2 h.2)
def Mt.b2:∀{l:List Sh} {w:LA},Mt V l w->∀{i:Nat} {s:Sh},l[i]?=J s->∃x,w[i]?=J x/\M V s x
 |_,_,.de,i,s,h=>by simp at h
 |_,_,.cW s t v b a h2,0,c,h=>by grind
 |_,_,.cW s t v b a h2,i+1,c,h=>by simpa using Mt.b2 h2 (by simpa using h)
theorem Mt.dt:∀{l:List Sh} {w:LA},Mt V l w->z w=z l|_,_,.de=>rfl|_,_,.cW s t v b a h2=>by simp[Mt.dt h2]
def Mt.eG:∀{l m:List Sh} {v w:LA},Mt V l v->Mt V m w->Mt V (l++m) (v++w)|_,_,_,_,.de,h=>h|_,_,_,_,.cW s t v b x y,h=>.cW s _ v _ x (y.eG h)
end
section
variable{C:Ctx}{X:Cfg}{PK:PkI}{O0:Frm}{V:Vo}{A:Ab}{E:As}{Y:St}
def Res(PK:PkI)(O0:Frm)(V:Vo)(A:Ab)(E:As)(Y:St)(d:Option (AV×St))(s:Sh)(A':Ab):Prop:=∃(v:AV) (b:St) (a:Vo),d=J (v,b)/\Ch V A Y a A' b/\G PK O0 a A' E b/\M a.toVal s v
def Res.aR(h:G PK O0 V A E Y){d:Option (AV×St)}{v:AV}{s:Sh}(hr:d=J (v,Y))(a:M V.toVal s v):Res PK O0 V A E Y d s A:=⟨v,Y,V,hr,.ah,h,a⟩
def Res.cH(h:G PK O0 V A E Y){d:Option (AV×St)}{l:List Sh}{cs:LA}(hr:d=J (.c8 (z Y) 0,Y++[.cH cs FZ]))(c:Ms V.toVal l cs):Res PK O0 V A E Y d (.c8 (z A.Q) 0) (A.ce (.cH l)):=by obtain⟨a,b,h2,h3⟩:=h.ix c;exact⟨_,_,a,hr,b,h2,h3⟩
theorem Res.g8(h:G PK O0 V A E Y){l:List Sh}{v:LA}(d:Ms V.toVal l v){f:Option (AV×St)}{s:Sh}{A':Ab}(hr:∀V':Vo,V.toVal.le V'.toVal->G PK O0 V' (opened A l).2 E Y->Ms V'.toVal (opened A l).1 v->Res PK O0 V' (opened A l).2 E Y f s A'):Res PK O0 V A E Y f s A':=by obtain⟨V',a,h2,h3,h4,h5⟩:=acI h d;obtain⟨w,c,b,e1,e2,e3,e4⟩:=hr V' a h4 h5;exact⟨w,c,b,e1,(Ch.lB (A':=(Ev.opened A l).2) h a h2 rfl rfl rfl rfl).N e2,e3,e4⟩
def Res.cn(h:G PK O0 V A E Y){d:Option (AV×St)}{e:List Sh}{rs:List LA}{fz:Fz}{sz:Nat}(hr:d=J (.dj (z Y) 0 (z rs) sz,Y++[.cH rs.flatten fz]))(c:wds e=sz)(b:MRs V.toVal e rs){fs:Fs}(hf:∀f∈fs,∀V':Val,V.toVal.le V'->V'.ν[A.nx]?=J (z rs)->qZ V' f):Res PK O0 V A E Y d (A.cn e fs).1 (A.cn e fs).2:=by obtain⟨V',a,h2,h3⟩:=h.j7 (fz:=fz) b hf;subst c;exact⟨_,_,V',hr,a,h2,h3⟩
def Res.g0(h:G PK O0 V A E Y){k:Nat}{i:Option (AV×St)}{s:Sh}{A':Ab}(hr:∀V':Vo,V'.toVal=V.toVal->(∀a,V.ac[k]?=J a->∀o∈a,∀(j:Nat) b,V'.ac[j]?=J b->o∉b)->G PK O0 V' (A.bR k .eq) E Y->Res PK O0 V' (A.bR k .eq) E Y i s A'):Res PK O0 V A E Y i s A':=by
 obtain⟨w,d,c,e1,e2,e3,e4⟩:=hr ⟨V.toVal,V.ac.set k []⟩ rfl (λa f o g j b hb e=>by
  grind [G]) (h.g0 k)
 exact⟨w,d,c,e1,(Ch.g0 k).N e2,e3,e4⟩
def Res.hm(h:G PK O0 V A E Y){o:Nat}{x:AO}(b:∀(k:Nat) a,V.ac[k]?=J a->o∉a)(e:O0.I<=o\/o∈O0.w)(f:x.below (z Y)=eT){i:Option (AV×St)}{s:Sh}{A':Ab}(hr:G PK O0 V A E (Y.set o x)->Res PK O0 V A E (Y.set o x) i s A'):Res PK O0 V A E Y i s A':=by obtain⟨w,d,c,e1,e2,e3,e4⟩:=hr (h.hm b e f);exact⟨w,d,c,e1,(Ch.hm b).N e2,e3,e4⟩
def asg (h:G PK O0 V A E Y) {sz:Nat} {x:Sh} {v:AV} (q:M V.toVal x v) {u:List Sh} {A':Ab} (hs:av3 A sz x=J (u,A')):isStr v=eF/\∃cs,jQ Y sz v=J (1,cs)/\Ms V.toVal u cs/\z cs=sz/\
  (A'=A\/∃k,A'=A.bR k .eq):=by
 unfold av3 at hs;split at hs
 ·rename_i m K;split at hs;·rename_i b;simp only[a01,beq_iff_eq]at b;cases hs;obtain⟨rfl,rfl⟩:=b;obtain⟨l,rfl,i⟩:=anX q;have:=i.dt;refine⟨rfl,l,?_,i,this,.inl rfl⟩;simp only[jQ,iZ];rw[if_pos (by omega)]
  ·cases hs
 ·rename_i k a e;split at hs
  ·rename_i B w;split at hs
   ·rename_i b;simp only[a01,beq_iff_eq]at b;obtain⟨⟨d,f⟩,s⟩:=b;cases hs;obtain⟨n,o,j,rfl,y⟩:=ai2 q;obtain⟨F,H,c,t⟩:=YZ h w;rw[j]at c;cases c;have D:=G5 h.aa h.X d h.aa j;have h2:=VT h.aa h.X f j;have p:n=1:=(by omega);subst p;rcases t with⟨_,h3,_⟩|⟨I,rs,C,h3,h4,h5,h6,h7⟩;·omega
    ·rw[y]at h3;cases h3;obtain⟨N,rfl⟩:∃N,rs=[N]:=(by grind [MRs]);cases h7 with|cW _ _ _ hr _=>have i:=hr.dt;have g:[N].flatten=N:=(by simp);rw[g]at h5;refine⟨rfl,N,?_,hr,by omega,.inr ⟨k,rfl⟩⟩;simp only[jQ,iZ,h5];grind
   ·cases hs
  ·cases hs
 ·cases hs
def MRs.eo{V:Val}{e:List Sh}{d:LA}(h:Ms V e d):MRs V e [d]:=.cW _ _ _ h (.de _)
def Sb.j8{V:Val}{F:Fs}(b:V.ν[0]?=J 0)(d:∀f∈F,qZ V f):Sb F [] [] V V:=⟨b,d,λj i c a=>by simp[BV]at a,λk e o a=>by simp[eqO]at a⟩
theorem Sb.fi{V W:Val}{F:Fs}(b:V.ν[0]?=J 0)(d:∀f∈F,qZ V f):Sb F [] [] V W:=⟨b,d,λj i c a=>by simp[BV]at a,λk e o a=>by simp[eqO]at a⟩
def wrA(A:Ab)(l:List Nat):G PK O0 V A E Y->G PK O0 V {A with wr:=l} E Y:=λh=>⟨h.az,h.lν,h.lρ,h.lo,h.aa,h.X,h.Q,h.dw,h.cJ,h.ρl,h.bE,h.ok⟩
def ajf(h:G PK O0 V A E Y){sz bytes:Nat}{u:List Sh}{cs:LA}(X:Ms V.toVal u cs)(hl:z cs=sz)(I:bytes<=8192){s:Sh}{v:AV}(hv:M V.toVal s v){C:Sh}{A':Ab}(hs:aqE A sz u s=J (C,A')):Res PK O0 V A E Y (tX Y sz bytes U v 1 cs) C A':=by
 have aa:1*bytes<=70368744177664:=by omega
 have d:∀(m:Bool) (k a:Nat) (e0:List Sh),(∃n,V.ν[a]?=J n/\(v=.cY/\n=0\/∃o,v=.dj o 0 n (wds e0)/\(m=eF->0<n)/\V.ρ[k]?=J (J o)))->(match SL m A.Q k a (wds e0)with|J e=>if leN A.X a LB&&subs A.X [] [] e u&&wds e==sz then J ((A.bR k .eq).cn e [(A.nx,-1,a),(a,1,A.nx)])else U|U=>U)=J (C,A')->Res PK O0 V A E Y (tX Y sz bytes U v 1 cs) C A':=by
  rintro mm k a e0 ⟨n,l,hv⟩ hs;split at hs
  ·rename_i e hk;split at hs
   ·rename_i j;simp only[a01,beq_iff_eq]at j;obtain⟨⟨K,L⟩,g⟩:=j;cases hs;have O:=VT h.aa h.X K l;simp only[LB]at O;have t:Ms V.toVal e cs:=FK (Sb.j8 h.aa h.X) X L;obtain⟨hw,n',w,hh⟩:=YZ h hk;rw[l]at w;cases w;have ab:(n+1)*bytes<=70368744177664:=by have:=Nat.mul_le_mul (show n+1<=4294967297 by omega) I;omega
    refine Res.g0 h (k:=k) λD H N P=>?_;have B:D.ν[a]?=J n:=(by grind);have b:∀{rs:List LA},MRs V.toVal e rs->MRs D.toVal e rs:=λhr=>H▸hr;have facts:∀m:Nat,m=n+1->∀f∈[(A.nx,-1,a),(a,1,A.nx)],∀W:Val,D.toVal.le W->W.ν[A.nx]?=J m->qZ W f:=λm S f hf W i q=>by
     have R:=i.ν _ _ B;simp only[az4,aE8,or_false]at hf;rcases hf with rfl|rfl;·exact⟨m,n,q,R,by simp;omega⟩
     ·exact⟨n,m,R,q,by simp;omega⟩
    rcases hv with⟨rfl,rfl⟩|⟨o,rfl,y,ho⟩;·refine Res.cn (rs:=[cs]) (fz:=FZ) (sz:=sz) P ?_ g (b (MRs.eo t)) (facts _ rfl);unfold tX;grind
    ·rcases hh with⟨S,rfl,T⟩|⟨o',rs,p,h3,h4,h5,h6,h7⟩;·exact absurd (y S) (by omega)
     ·rw[ho]at h3;cases h3;have ac:z rs.flatten=n*sz:=(by rw[h7.dt,h6,g]);have c:=h.cJ k _ h4 o (by simp);refine Res.hm P (N _ h4 o (by simp)) c.1 (x:=.eq) rfl λF=>?_;refine Res.cn (rs:=rs++[cs]) (fz:=⟨p.b,if p.t=U then U else U⟩) (sz:=sz) F ?_ g (b (h7.eG (MRs.eo t))) (facts _ (by simp[h6]));unfold tX;grind
   ·cases hs
  ·cases hs
 cases s with
 |cY=>
  cases anT hv;simp only[aqE]at hs;split at hs
  ·rename_i j;simp only[a01,beq_iff_eq]at j;cases hs;refine Res.cn (rs:=[cs]) (fz:=FZ) (sz:=sz) h ?_ j.2 (MRs.eo (FK (Sb.j8 h.aa h.X) X j.1)) ?_;·unfold tX;grind
   ·intro f hf W i q;simp only[az4,aE8,or_false]at hf;have Q:=i.ν _ _ h.aa;rcases hf with rfl|rfl;·exact⟨_,_,q,Q,by simp⟩
    ·exact⟨_,_,Q,q,by simp⟩
  ·cases hs
 |fL k a e=>
  obtain⟨n,l,hv⟩:=asD hv;exact d eF k a e ⟨n,l,by
   grind⟩ hs
 |ft k a e=>obtain⟨n,o,l,Z,h2⟩:=ai2 hv;exact d eT k a e ⟨n,l,.inr ⟨o,Z,(λhf=>by cases hf),h2⟩⟩ hs
 |_=>simp[aqE]at hs
end
def auF{ag:Bool}{sz:Nat}{a b:LA}{x:AV}(h:pt ag sz a=J x):pt ag sz (a++b)=J x:=by unfold pt at h⊢;grind
def afT:∀(is:List JV) (i:Nat),i<z is->∃j,is[i]?=J j/\(aJ is).drop (i*5)=j.B++aJ (is.drop (i+1))
 |[],i,h=>by simp at h
 |j::is,0,h=>⟨j,rfl,by simp[aJ]⟩|j::is,i+1,h=>by obtain⟨b,a,h2⟩:=afT is i (by simpa using h);refine⟨b,by simpa using a,?_⟩;rw[aJ,show(i+1)*5=z j.B+i*5 by rw[j.dt];omega,List.drop_append,aH2 (by omega)];simpa using h2
section
variable{C:Ctx}{X:Cfg}{PK:PkI}{O0:Frm}{V:Vo}{A:Ab}{E:As}{Y:St}
def SE(C:Ctx)(X:Cfg):Prop:=∀t m f,X.mt t m=J f->∀v,methodOf C.P t v m=J (f,v)
def Hu(C:Ctx)(X:Cfg)(PK:PkI)(O0:Frm):Prop:=∀(V:Vo) (A:Ab) (E:As) (Y:St) (f:FuncId) (c:List Sh) (a:LA) (s:Sh) (b:Ab),G PK O0 V A E Y->Mt V.toVal c a->YX X A f c=J (s,b)->Res PK O0 V A E Y (ai C f a Y) s b
def Res.ew(h:G PK O0 V A E Y){d:Option (AV×St)}{s:Sh}(hr:OkB V.toVal s (d.map (·.1)))(hs:∀p,d=J p->p.2=Y):Res PK O0 V A E Y d s A:=by
 obtain⟨v,a,h2⟩:=hr;cases d with
 |none=>cases a|some p=>cases a;exact Res.aR h (by rw[<-hs p rfl]) h2
def OB{V:Val}{s:Sh}{n:Nat×Int}{v:AV}(a:V.ν[0]?=J 0)(c:lin s=J n)(hv:M V s v):∃m:Nat,V.ν[n.1]?=J m/\(0<=(m:Int)+n.2->qK v=J ((m:Int)+n.2).toNat):=by obtain⟨m,b,rfl⟩:=aea a c hv;refine⟨m,b,λh=>?_⟩;simp only[qK,if_pos h]
def agD (h:G PK O0 V A E Y) {n c:Nat×Int} {e:List Sh} {j:Sh} {A':Ab} (hr:rowAt A n c e=J (j,A')) {m k:Nat} (i:V.ν[n.1]?=J m) (p:V.ν[c.1]?=J k):
  cls e=eT/\0<=(m:Int)+n.2/\(m:Int)+n.2<k+c.2/\∀(w x:LA),Ms V.toVal e w->ae 0 x=eT->∀q,q=J (AV.em (w++x),Y)->Res PK O0 V A E Y q j A':=by
 unfold rowAt at hr;split at hr
 ·rename_i g;simp only[a01]at g;obtain⟨⟨a,b⟩,d⟩:=g;have v:=G5 h.aa h.X b h.aa i;have h2:=G5 h.aa h.X d i p;refine⟨a,by omega,by omega,λw x u hb q t=>?_⟩
  cases hr;refine Res.g8 h u λl s o f=>?_;exact Res.aR o t (by
   have:=M.em (V:=l.toVal) 0 (Ev.opened A e).1 w x f (by omega) hb;rwa[ay9]at this)
 ·cases hr
def find_ok{V:Val}{w:Sh}(x:LU):∀(a:List (AV×AV)) (i:Nat),(∀p∈a,(∃s,p.1=.cV s)/\M V w p.2)->lZ (.cV x) a i=J U\/∃j v,lZ (.cV x) a i=J (J (j,v))/\M V w v
 |[],i,_=>.inl rfl
 |(c,v)::a,i,h=>by
  obtain⟨⟨s,hs⟩,hv⟩:=h (c,v) (by simp);dsimp only at hs hv;subst hs;unfold lZ Z8;dsimp only;cases hb:mF x s with
  |true=>exact .inr ⟨i,v,rfl,hv⟩|false=>exact find_ok x a (i+1) (λp b=>h p (by simp[b]))
def atW{V:Val}{w:Sh}{a:List (AV×AV)}(h:∀p∈a,(∃s,p.1=.cV s)/\M V w p.2){i:Nat}{x:LU}{v:AV}(hv:M V w v):∀p∈a.set i (.cV x,v),(∃s,p.1=.cV s)/\M V w p.2:=λp b=>by grind
def atV{V:Val}{w:Sh}{a:List (AV×AV)}(h:∀p∈a,(∃s,p.1=.cV s)/\M V w p.2){x:LU}{v:AV}(hv:M V w v):∀p∈a++[(.cV x,v)],(∃s,p.1=.cV s)/\M V w p.2:=λp b=>by grind
theorem Zr{N:Nat}:∀(a:List (AV×AV)),(∀p∈a,(∃s,p.1=.cV s)/\below N p.2=eT)->AO.below N (.ec a)=eT|[],_=>rfl|(k,v)::a,h=>by have b:=Zr a (λp c=>h p (by simp[c]));obtain⟨⟨s,hs⟩,hv⟩:=h (k,v) (by simp);dsimp only at hs hv;subst hs;simp only[AO.below,a01]at b⊢;simp only[az3,ae,b.1,b.2,hv,aA5];exact⟨rfl,trivial⟩
def Res.ie(h:G PK O0 V A E Y){k o:Nat}{w:Sh}(e:A.Q[k]?=J (.ec w))(f:V.ρ[k]?=J (J o)){c:List (AV×AV)}(b:∀p∈c,(∃s,p.1=.cV s)/\M V.toVal w p.2){q:Option (AV×St)}(t:q=J (AV.dT,Y.set o (.ec c))):Res PK O0 V A E Y q .dT (A.bR k (.ec w)):=by
 obtain⟨v,i,d,h2,h3,h4⟩:=h.Q _ _ e;rw[f]at d;cases d;have m:=(a00.mp e).1;have hb:AO.below (z Y) (.ec c)=eT:=Zr c λp g=>⟨(b p g).1,M.ay h.ρl (b p g).2⟩;have a:=h.cJ k _ h2 o (by simp);have h5:=h.co (y:=.ec w) m h2 hb ⟨o,c,f,h2,by rw[aE5 a.2],b⟩;refine⟨.dT,_,V,t,⟨.cf,λj hj=>by simp[Ab.bR,hj],rfl,rfl,λj l hj u=>?_⟩,wrA _ _ h5,.dT⟩;simp only[Ab.bR,az4,not_or]at u;refine⟨?_,rfl,λ_ v _ n=>?_⟩;·simp only[Ab.bR];grind
 grind [G]
def Res.jb(h:G PK O0 V A E Y){k o:Nat}{l c:List Sh}(e:A.Q[k]?=J (.cH l))(f:V.ρ[k]?=J (J o)){cs:LA}(b:Ms V.toVal c cs){q:Option (AV×St)}(n:q=J (AV.dT,Y.set o (.cH cs FZ))):Res PK O0 V A E Y q .dT (A.bR k (.cH c)):=by
 obtain⟨s,g,d,h2,h3,h4⟩:=h.Q _ _ e;rw[f]at d;cases d;have i:=(a00.mp e).1;have a:=h.cJ k _ h2 o (by simp);have h5:=h.co (x:=.cH cs FZ) (y:=.cH c) i h2 (Ms.b5 h.ρl b) ⟨o,cs,f,h2,by rw[aE5 a.2],b⟩;refine⟨.dT,_,V,n,⟨.cf,λj hj=>by simp[Ab.bR,hj],rfl,rfl,λj l hj p=>?_⟩,wrA _ _ h5,.dT⟩;simp only[Ab.bR,az4,not_or]at p;refine⟨?_,rfl,λ_ s _ m=>?_⟩;·simp only[Ab.bR];grind
 grind [G]
end
section
variable{C:Ctx}{X:Cfg}{PK:PkI}{O0:Frm}{V:Vo}{A:Ab}{E:As}{Y:St}
def MRs.ci{V:Val}{e:List Sh}:∀{rs:List LA},MRs V e rs->∀d,MRs V e (rs.drop d)|_,h,0=>h|_,.de _,_+1=>.de _|_,.cW _ f rs x y,d+1=>y.ci d
def map_ok{c:Type}{o:Option c}{b:Sh}{A':Ab}{f:c->Sh×Ab}(h:o.map f=J (b,A')):∃a,o=J a/\f a=(b,A'):=by simp_all
def aqT(h:G PK O0 V A E Y){op:BinOp}{x y:Sh}{p q:AV}(v:M V.toVal x p)(w:M V.toVal y q){np:Bool}{n:Nat}{b:Bool}{s:Sh}{A':Ab}(a:anf A op x y=J (s,A')){call:bH}{N:Option (AV×St)}(hr:N=opR call ((Ac np op n b p q).map (.ew · Y))):Res PK O0 V A E Y N s A':=by
 unfold anf at a;split at a
 ·rename_i i c j d;split at a
  ·rename_i k;simp only[small,a01,decide_eq_true_eq]at k;obtain⟨⟨⟨q1,q2⟩,q3⟩,q4⟩:=k;cases a;cases v with
   |eM _ _ m e=>
    cases w with
    |eM _ _ B g=>have u:=VT h.aa h.X q1 e;have h2:=G5 h.aa h.X q4 g e;simp only[LB]at u;obtain⟨l,l1,e1,C,o⟩:=h.eM (((m:Int)+c-(B+d)).toNat);have t:=o.gS (f:=(A.nx,d-c,i)) ⟨_,m,e1,l1.ν _ _ e,by simp only;omega⟩;refine⟨_,Y,l,?_,Ch.lB h l1 C rfl rfl rfl rfl,t,.eM _ 0 _ e1⟩;rw[hr,avt,OG,w64 (by omega) (by omega)];show J (AV.cU r _,Y)=_;congr 3;omega
  ·cases a
 ·cases a
def atz(B:Jo C X)(bj:SE C X)(Z:Hu C X PK O0)(h:G PK O0 V A E Y){n:Nat}{i:XI}{s:Sh}{A':Ab}(hi:abI X n A i=J (s,A')):Res PK O0 V A E Y (opR (ai C) (aB C (avA C E) n Y i)) s A':=by
 cases i with
 |mv x=>obtain⟨s',H,e⟩:=map_ok hi;cases e;exact .aR h rfl (bV B h H)
 |gL c x y=>
  simp only[abI]at hi;split at hi;·rename_i b hb;have hc:=avN (bV B h hb);obtain⟨s',H,e⟩:=map_ok hi;cases e;rw[aB.eq_2,hc];cases b with|true=>exact .aR h rfl (bV B h (by simpa using H))|false=>exact .aR h rfl (bV B h (by simpa using H))
  ·cases hi
 |eN dz ty=>
  cases ty with
  |some _=>cases hi
  |none=>
   simp only[abI]at hi;split at hi
   ·rename_i l R;split at hi;·rename_i T;cases hi;exact .cH h rfl ((PL dz R).fy T)
    ·cases hi
   ·cases hi
 |iB x=>
  simp only[abI]at hi;split at hi
  ·rename_i s' H;split at hi;·rename_i l R;cases hi;exact .g8 h (VK (bV B h H) R) λV' P h' L=>.cH h' rfl L
   ·cases hi
  ·cases hi
 |gA k d S x=>cases hi|gH=>cases hi
 |hA dz ps=>
  simp only[abI]at hi;split at hi
  ·rename_i l R;split at hi;·rename_i T;obtain⟨dv,hr,e⟩:=map_ok hi;cases e;obtain⟨w,L,F⟩:=ZK B h ((PL dz R).fy T) hr;rw[aB.eq_5,L];exact .aR h rfl (RF F)
   ·cases hi
  ·cases hi
 |gw dz m S ps=>
  simp only[abI]at hi;split at hi
  ·rename_i l R;split at hi
   ·rename_i T;split at hi
    ·rename_i u hu;obtain⟨w,L,F⟩:=ZK B h (akl ((PL dz R).fy T) m) hu;split at hi
     ·rename_i hz;rw[beq_iff_eq]at hz;rw[aB.eq_6,L];dsimp only;rw[if_pos (by rw[F.dt,hz])];split at hi
      ·rename_i N;rw[N];split at hi
       ·rename_i hc;simp only[a01,beq_iff_eq]at hc;obtain⟨⟨rfl,aR⟩,ba⟩:=hc;cases hi;refine .cn (rs:=[w]) (fz:=FZ) (sz:=S) h ?_ ba (MRs.eo (FK (Sb.j8 h.aa h.X) F aR)) ?_;·simp[BX,opR]
        ·intro f hf W P hW;simp only[az4,aE8,or_false]at hf;have h0:=P.ν _ _ h.aa;rcases hf with rfl|rfl;·exact⟨_,_,hW,h0,by simp⟩
         ·exact⟨_,_,h0,hW,by simp⟩
       ·cases hi
      ·rename_i N;cases hi;rw[Bool.not_eq_true]at N;rw[N];exact .aR h rfl (.eC _ _ _ F)
     ·cases hi
    ·cases hi
   ·cases hi
  ·cases hi
 |ii ag S x=>
  simp only[abI]at hi;split at hi
  ·rename_i k off D;obtain⟨o,N,g⟩:=UH (bV B h D);rw[aB.eq_7,g];dsimp only;split at hi;·rename_i l R;obtain⟨s',H,e⟩:=map_ok hi;cases e;obtain⟨o',cs,O,h2,h3,h4⟩:=h.Q _ _ R;rw[N]at O;cases O;obtain⟨y,hy,F⟩:=UT h4 H;rw[h3];dsimp only;rw[hy];exact .aR h rfl F
   ·rename_i l R;obtain⟨s',H,e⟩:=map_ok hi;cases e;obtain⟨o',cs,fz,O,h2,hN,h3,h4⟩:=h.Q _ _ R;rw[N]at O;cases O;obtain⟨y,hy,F⟩:=UT h4 H;rw[h3];dsimp only;rw[hy];exact .aR h rfl F
   ·cases hi
  ·rename_i off l D;obtain⟨w,dv,g,F,P,hb⟩:=ae0 (bV B h D);obtain⟨s',H,e⟩:=map_ok hi;cases e;obtain⟨y,hy,Q⟩:=UT F H;rw[aB.eq_7,g];dsimp only;rw[List.drop_append_of_le_length P,auF hy];exact .aR h rfl Q
  ·cases hi
 |fI S p x=>
  simp only[abI]at hi;split at hi
  ·rename_i k off s' hp D;split at hi
   ·rename_i l u R hu;obtain⟨o,N,g⟩:=UH (bV B h hp);have F:=VK (bV B h D) hu;obtain⟨⟨u',A1⟩,au⟩:∃q,opened A u=q:=⟨_,rfl⟩;rw[au]at hi;dsimp only at hi;split at hi;·rename_i l' be;cases hi;refine .g8 h F λV' P h' L=>?_;rw[au]at h' L⊢;have al:A1.Q[k]?=J (.cH l):=(by grind [opened]);obtain⟨o',cs,O,h2,h3,h4⟩:=h'.Q _ _ al;have aq:=P.ρ _ _ N;rw[aq]at O;cases O;obtain⟨e1,e2,e3⟩:=aaJ h4 L be;refine .jb h' al aq e3 ?_;rw[aB.eq_8,g];dsimp only;rw[h3];dsimp only;rw[if_pos ⟨e1,e2,L.C⟩];rfl
    ·cases hi
   ·cases hi
  ·cases hi
 |ip x=>
  simp only[abI]at hi;split at hi;·rename_i k o D;cases hi;have F:=bV B h D;obtain⟨o',N,g⟩:=UH F;rw[aB.eq_9,g];exact .aR h rfl (g▸F)
  ·rename_i k D;cases hi;have F:=bV B h D;obtain⟨o',N,g⟩:=avO F;rw[aB.eq_9,g];exact .aR h rfl (g▸F)
  ·rename_i o l D;cases hi;have F:=bV B h D;obtain⟨w,dv,g,_⟩:=ae0 F;rw[aB.eq_9,g];exact .aR h rfl (g▸F)
  ·rename_i t v D;cases hi;have F:=bV B h D;obtain⟨w,g,_⟩:=ajQ F;rw[aB.eq_9,g];exact .aR h rfl (g▸F)
  ·rename_i f a b D;cases hi;have F:=bV B h D;obtain⟨w,dv,g,_⟩:=anR F;rw[aB.eq_9,g];exact .aR h rfl (g▸F)
  ·cases hi
 |e9 op ek bv x y=>
  simp only[abI]at hi;split at hi
  ·rename_i a b ha hb;split at hi;·rename_i dv hr;cases hi;exact aqT h (bV B h ha) (bV B h hb) hr (by rw[aB.eq_10])
   obtain⟨u,hu,e⟩:=map_ok hi;cases e;obtain⟨v,hv,F⟩:=aqL h.aa h.X C.np (bV B h ha) (bV B h hb) hu;rw[aB.eq_10,hv];exact .aR h rfl F
  ·cases hi
 |un op x=>
  simp only[abI]at hi;split at hi;·rename_i a ha;obtain⟨u,hu,e⟩:=map_ok hi;cases e;obtain⟨v,hv,F⟩:=ave (bV B h ha) hu;rw[aB.eq_11,hv];exact .aR h rfl F
  ·cases hi
 |iv k x=>
  simp only[abI]at hi;split at hi;·rename_i k' m D;cases hi;have g:=arb (bV B h D);rw[aB.eq_12,g];exact .aR h rfl (.ic _ _)
  ·rename_i a _ ha;split at hi;·rename_i k' bd;cases hi;obtain⟨m,g⟩:=NF bd (bV B h ha);rw[aB.eq_12,g];exact .aR h rfl (.cU _ _)
   ·cases hi
  ·cases hi
 |kl x=>cases hi|gN t x=>obtain⟨s',H,e⟩:=map_ok hi;cases e;exact .aR h rfl (.eb _ _ _ (bV B h H))
 |ia fn x y=>
  simp only[abI]at hi;split at hi;·rename_i a b ha hb;cases hi;exact .aR h rfl (.ea _ _ _ _ _ (OC B h ha) (OC B h hb))
  ·cases hi
 |io=>cases hi;obtain⟨V2,an,aM,br,bk,h2⟩:=h.eN (x:=.ec []) (y:=.ec (.cU r)) rfl (λV' bo aL aD=>⟨z Y,[],aL,aD,by simp,λp hp=>by simp at hp⟩);exact⟨_,_,V2,rfl,h.g6 an bk,h2,.ec _ _ aM⟩
 |gB dz S bytes l c=>
  simp only[abI]at hi;split at hi
  ·rename_i k c' u R hc hu;split at hi
   ·rename_i j d bb;split at hi
    ·rename_i K;simp only[a01,decide_eq_true_eq,beq_iff_eq]at K;obtain⟨⟨⟨⟨q1,q2⟩,q3⟩,q4⟩,q5⟩:=K;cases hi;have g:=arb (bV B h R);obtain⟨m,F,aa⟩:=aea h.aa bb (bV B h hc);have O:=G5 h.aa h.X q1 h.aa F;have h2:=VT h.aa h.X q2 F;simp only[LB]at h2 q3;rw[aB.eq_21,g,aa];dsimp only;rw[if_pos ⟨by omega,by omega,by omega,by
      have:=Int.mul_le_mul (show(bytes:Int)<=8192 by omega) (show(m:Int)+d<=8589934592 by omega) (by omega) (by omega);omega⟩]
     refine .cn (rs:=[]) (fz:=FZ) (sz:=S) h ?_ q5 (.de _) ?_;·rfl
     ·intro f hf W P hW;simp only[az4,aE8,or_false]at hf;subst hf;exact⟨_,_,hW,P.ν _ _ h.aa,by simp⟩
    ·cases hi
   ·cases hi
  ·cases hi
 |fW off x=>
  simp only[abI]at hi;split at hi;·rename_i k f D;cases hi;obtain⟨o,N,g⟩:=UH (bV B h D);rw[aB.eq_26,g];exact .aR h rfl (.c8 _ _ _ N)
  ·rename_i f l D;split at hi;·rename_i hf;cases hi;obtain⟨w,dv,g,F,P,hb⟩:=ae0 (bV B h D);rw[aB.eq_26,g];dsimp only;have R:=F.dt;rw[if_pos (by grind),aG4];exact .aR h rfl (.em _ _ _ _ F (by omega) hb)
   ·cases hi
  ·cases hi
 |iu ag off S x=>cases hi
 |fY len S x i=>
  simp only[abI]at hi;split at hi
  ·rename_i k f k' m D F;split at hi;·rename_i hc;simp only[a01,decide_eq_true_eq]at hc;cases hi;obtain⟨o,N,g⟩:=UH (bV B h D);have aa:=arb (bV B h F);rw[aB.eq_28,g,aa];simp only[qK,if_pos hc.1];rw[if_pos (by omega)];exact .aR h rfl (.c8 _ _ _ N)
   ·cases hi
  ·cases hi
 |ey S x i=>
  simp only[abI]at hi;split at hi
  ·rename_i q e j D hj;split at hi
   ·rename_i m F;split at hi;·rename_i hz;rw[beq_iff_eq]at hz;obtain⟨rs,g,I,ac⟩:=avP (bV B h D);obtain⟨m',Q,hn⟩:=OB h.aa F (bV B h hj);obtain⟨ak,O,h2,h3⟩:=agD h hi Q I;obtain⟨dv,g1,g2,pre,g3,g4⟩:=ac.b2 (((m':Int)+m.2).toNat) (by omega);have ad:ae 0 (rs.drop (((m':Int)+m.2).toNat+1)).flatten=eT:=MRs.ay (ac.ci _) ak;refine h3 dv _ g2 ad _ ?_;rw[aB.eq_29,g,hn O];dsimp only;rw[if_pos ⟨by omega,by rw[ac.dt,hz]⟩,g3,<-hz,<-g4,List.drop_left];rfl
    ·cases hi
   ·cases hi
  ·rename_i q j D hj;split at hi
   ·rename_i m F;split at hi;·rename_i hz;rw[beq_iff_eq]at hz;subst hz;obtain⟨is,g,I⟩:=asF (bV B h D);obtain⟨m',Q,hn⟩:=OB h.aa F (bV B h hj);obtain⟨ak,O,h2,h3⟩:=agD h hi Q I;obtain⟨j',g1,g2⟩:=afT is (((m':Int)+m.2).toNat) (by omega);refine h3 j'.B _ (by have:=Ms.jv (V:=V.toVal) [] j' [] .de;rwa[ay5]at this) (gY (is.drop (((m':Int)+m.2).toNat+1))) _ ?_;rw[aB.eq_29,g,hn O];dsimp only;rw[if_pos ⟨by omega,jF is⟩,g2];rfl
    ·cases hi
   ·cases hi
  ·rename_i m e k j D hj;split at hi
   ·rename_i K;simp only[a01,decide_eq_true_eq,beq_iff_eq]at K;cases hi;obtain⟨w,g,L⟩:=anU (bV B h D);have aa:=arb (bV B h hj);have R:=L.dt;rw[aB.eq_29,g,aa];simp only[qK,if_pos K.1.1];rw[if_pos ⟨by omega,by rw[R,K.2]⟩];refine .aR h rfl ?_;have P:j.toNat*S<=z w:=by rw[R,K.2];exact aD1 _ (by omega)
    have:=M.em (V:=V.toVal) (j.toNat*S) e w [] L P rfl;rwa[ay5]at this
   ·cases hi
  ·cases hi
 |hX len ag S x i=>
  simp only[abI]at hi;split at hi
  ·rename_i s0 l j D hj;split at hi
   ·rename_i m F;split at hi
    ·rename_i K;simp only[a01,beq_iff_eq,aF6]at K;obtain⟨⟨⟨⟨⟨⟨⟨q1,q2⟩,q3⟩,q4⟩,q5⟩,q6⟩,q7⟩,q8⟩:=K;cases hi;subst q1 q2;obtain⟨w,g,L⟩:=asE (bV B h D);obtain⟨m',Q,hn⟩:=OB h.aa F (bV B h hj);have O:=G5 h.aa h.X q7 h.aa Q;have h2:=G5 h.aa h.X q8 Q h.aa;have bp:=L.dt;have ah:∀(l:List Sh) (w:LA),Ms V.toVal l w->l.all Sh.eo=eT->(∀t∈l,sub [] [] [] (gen s0) t=eT)->∀i,i<z w->∃y,w[i]?=J y/\M V.toVal (gen s0) y:=by
      intro l
      induction l with
      |nil=>grind [Ms]
      |cons t l ih=>
       intro w L N ht i hi;rw[a07,a01]at N;obtain⟨y,w',rfl,hy,aD⟩:=L.cy N.1;cases i with
       |zero=>exact⟨y,rfl,Wx (Sb.de h.aa) hy (ht t (by simp))⟩|succ i=>simp_all
     obtain⟨y,hy,bh⟩:=ah _ w L q3 (λt ht=>by
      grind) (((m':Int)+m.2).toNat) (by omega)
     rw[aB.eq_30,g,hn (by omega)];dsimp only;rw[if_pos (by omega)];have:pt eF 1 (w.drop (((m':Int)+m.2).toNat*1))=J y:=by simp only[pt,aC3,if_false,aB5];rw[aE6];exact hy
     rw[this];exact .aR h rfl bh
    ·cases hi
   ·cases hi
  ·cases hi
 |fa x i=>
  simp only[abI]at hi;split at hi
  ·rename_i q j D hj;split at hi
   ·rename_i m F;split at hi;·rename_i K;simp only[a01]at K;cases hi;obtain⟨t,g,I⟩:=anV (bV B h D);obtain⟨m',Q,hn⟩:=OB h.aa F (bV B h hj);have O:=G5 h.aa h.X K.1 h.aa Q;have h2:=G5 h.aa h.X K.2 Q I;rw[aB.eq_31,g,hn (by omega)];dsimp only;rw[a02 (show((m':Int)+m.2).toNat<z t by omega)];exact .aR h rfl (.cU _ _)
    ·cases hi
   ·cases hi
  ·cases hi
 |gt x lo bw=>cases hi
 |gR dz m k ok=>
  simp only[abI]at hi;split at hi
  ·rename_i dv s' t F hk hz;split at hi
   ·rename_i v hv;split at hi
    ·rename_i K;simp only[a01]at K;cases hi;obtain⟨o,N,g⟩:=anS (bV B h F);obtain⟨x,D⟩:=GX K.1.1 (bV B h hk);obtain⟨o',es,O,h2,h3,h4⟩:=h.Q _ _ hv;rw[N]at O;cases O;have aE:M V.toVal v dz:=Wx (Sb.de h.aa) (aiI (V:=V.toVal) dz hz) K.1.2;rw[aB.eq_32,g,D];simp only[mapOf,h3];rcases find_ok x es 0 h4 with hf|⟨j,y,hf,hy⟩;·rw[hf];cases ok with|true=>exact .aR h rfl (.df _ _ (.cW _ _ _ _ aE (.cW _ _ _ _ (.cX _) .de)))|false=>exact .aR h rfl aE
     ·rw[hf];cases ok with|true=>exact .aR h rfl (.df _ _ (.cW _ _ _ _ hy (.cW _ _ _ _ (.cX _) .de)))|false=>exact .aR h rfl hy
    ·cases hi
   ·cases hi
  ·cases hi
 |gT m k v=>
  simp only[abI]at hi;split at hi
  ·rename_i dv s' t F hk hv;split at hi
   ·rename_i w L;split at hi
    ·rename_i K;simp only[a01]at K;cases hi;obtain⟨o,N,g⟩:=anS (bV B h F);obtain⟨x,D⟩:=GX K.1 (bV B h hk);obtain⟨o',es,O,h2,h3,h4⟩:=h.Q _ _ L;rw[N]at O;cases O;have az:M V.toVal w (avA C E v):=Wx (Sb.de h.aa) (bV B h hv) K.2;rw[aB.eq_33,g,D];dsimp only;rw[h3];dsimp only;rcases find_ok x es 0 h4 with hf|⟨j,y,hf,hy⟩;·rw[hf];exact .ie h L N (atV h4 az) rfl
     ·rw[hf];exact .ie h L N (atW h4 az) rfl
    ·cases hi
   ·cases hi
  ·cases hi
 |hG x i=>
  simp only[abI]at hi;split at hi;·rename_i l D;obtain⟨w,g,L⟩:=anW (bV B h D);obtain⟨s',H,e⟩:=map_ok hi;cases e;obtain⟨y,hy,F⟩:=L.b2 H;rw[aB.eq_36,g];dsimp only;rw[hy];exact .aR h rfl F
  ·cases hi
 |eG str S bytes ty s1 x=>
  cases str with
  |true=>cases hi
  |false=>
   cases ty with
   |some _=>cases hi
   |none=>
    simp only[abI]at hi;split at hi
    ·rename_i s' x' hs D;split at hi
     ·rename_i u A1 ay;split at hi
      ·rename_i K;simp only[a01,decide_eq_true_eq]at K;have bm:=bV B h D;have ax:=bV B h hs;obtain⟨e1,cs,e2,e3,e4,e5⟩:=asg h bm ay;have aw:opR (ai C) (aB C (avA C E) n Y (.eG eF S bytes U s1 x))=tX Y S bytes U (avA C E s1) 1 cs:=by
        rw[aB.eq_37,e2];dsimp only;rw[e1,e3.C];simp only[bne_self_eq_false,aA8,Bool.or_self,aC3,if_false];cases tX Y S bytes U (avA C E s1) 1 cs with
        |none=>rfl|some p=>rfl
       rw[aw];rcases e5 with rfl|⟨k,rfl⟩;·exact ajf h e3 e4 K.2 ax hi
       ·exact .g0 h λV' af _ h'=>ajf h' (af▸e3) e4 K.2 (af▸ax) hi
      ·cases hi
     ·cases hi
    ·cases hi
 |dt k x=>
  simp only[abI]at hi;split at hi;·rename_i q D;cases hi;obtain⟨t,g,I⟩:=anV (bV B h D);rw[xJ,g];refine .aR h rfl ?_;have:=M.eM (V:=V.toVal) q 0 _ I;rwa[Int.add_zero]at this
  ·rename_i t D;cases hi;have g:avA C E x=.cV t:=by have:=bV B h D;grind [M]
   rw[xJ,g];exact .aR h rfl (.ic _ _)
  ·rename_i D;cases hi;obtain⟨t,g⟩:=GX (s:=.cV) rfl (bV B h D);rw[xJ,g];exact .aR h rfl (.cU _ _)
  ·rename_i q e D;cases hi;obtain⟨rs,g,I,ac⟩:=avP (bV B h D);rw[xJ,g];refine .aR h rfl ?_;have:=M.eM (V:=V.toVal) q 0 _ I;rwa[Int.add_zero]at this
  ·rename_i q D;cases hi;obtain⟨is,g,I⟩:=asF (bV B h D);rw[xJ,g];refine .aR h rfl ?_;have:=M.eM (V:=V.toVal) q 0 _ I;rwa[Int.add_zero]at this
  ·rename_i k a e D;cases hi;obtain⟨m,I,hv⟩:=asD (bV B h D);have hs:=M.eM (V:=V.toVal) a 0 _ I;rw[Int.add_zero]at hs;rcases hv with⟨g,rfl⟩|⟨o,g,_⟩;·rw[xJ,g];exact .aR h rfl hs
   ·rw[xJ,g];exact .aR h rfl hs
  ·rename_i k a e D;cases hi;obtain⟨m,o,I,g,_⟩:=ai2 (bV B h D);have hs:=M.eM (V:=V.toVal) a 0 _ I;rw[Int.add_zero]at hs;rw[xJ,g];exact .aR h rfl hs
  ·rename_i D;cases hi;have g:=anT (bV B h D);rw[xJ,g];exact .aR h rfl (.ic _ _)
  ·rename_i m e D;cases hi;obtain⟨l,g,_⟩:=anX (bV B h D);rw[xJ,g];exact .aR h rfl (.ic _ _)
  ·rename_i m e D;cases hi;obtain⟨l,g,_⟩:=anU (bV B h D);rw[xJ,g];exact .aR h rfl (.ic _ _)
  ·cases hi
 |iz m=>cases hi|hZ mx x y=>cases hi
 |gM f l=>
  simp only[abI]at hi;split at hi;·rename_i ss ab;exact Z V A E Y f ss _ s A' h (OC B h ab) hi
  ·cases hi
 |ij f l=>
  simp only[abI]at hi;split at hi;·rename_i f' x y ss hf ab;obtain⟨a,b,g,O,h2⟩:=anR (bV B h hf);have:=Z V A E Y f' _ _ s A' h ((O.eG (OC B h ab)).eG h2) hi;rw[aB.eq_43,g];exact this
  ·cases hi
 |gP x m l=>
  simp only[abI]at hi;split at hi
  ·rename_i t v ss D ab;split at hi;·rename_i f hf;obtain⟨w,g,L⟩:=ajQ (bV B h D);have:=Z V A E Y f _ _ s A' h (.cW _ _ _ _ L (OC B h ab)) hi;rw[aB.eq_44,g];dsimp only;rw[bj t m f hf w];exact this
   ·cases hi
  ·cases hi
 |_=>cases hi
end
def V0:Val:=⟨[0],[]⟩
def abE{V:Val}(h:V.ν[0]?=J 0):V0.le V:=⟨λi a hi=>by
 grind [V0],λi a hi=>by simp[V0]at hi⟩
def dh(C:Ctx)(PK:PkI)(f:FuncId):Sm->Prop|.ez args res=>∀(O:St) (c b:LA) (d:St),Ok O->hand eF c O=J (b,d)->Ok d->Mt V0 args b->∃v,ai C f c O=J (v,d)/\M V0 res v|.ro l args res=>∀(O:St) (o:Nat) (c b:LA) (d:St) (cs:LA) (g:Fz),Ok O->hand eF (.c8 o 0::c) O=J (.c8 o 0::b,d)->Ok d->d[o]?=J (.cH cs g)->Ms V0 l cs->Mt V0 args b->∃v,ai C f (.c8 o 0::c) O=J (v,d)/\M V0 res v|.iP args=>∀(O:St) (c b:LA) (d:St),Ok O->hand eF c O=J (b,d)->Ok d->Mt V0 args b->∃(L:St) (o:Nat) (ms:List Nat),ai C f c O=J (.c8 o 0,d++L)/\Ok (d++L)/\(∀i∈o::ms,z d<=i/\i<z (d++L))/\PK.ok (d++L) o ms|.pk args res=>∀(O:St) (o:Nat) (ms:List Nat) (c b:LA) (d:St),Ok O->hand eF (.c8 o 0::c) O=J (.c8 o 0::b,d)->Ok d->PK.ok d o ms->Mt V0 args b->∃v e,ai C f (.c8 o 0::c) O=J (v,e)/\M V0 res v/\Ok e/\z e=z d/\(∀i,i∉o::ms->e[i]?=d[i]?)/\PK.ok e o ms|.iy H args res=>∀(O:St) (c b:LA) (d:St),Ok O->hand eF c O=J (b,d)->Ok d->∀(F:Frm) (W:Vo) (E:As),G PK F W (Hab H) E d->Mt W.toVal args b->∃v e,ai C f c O=J (v,e)/\M V0 res v/\Ok e/\z e=z d/\(∀i,(∀(k:Nat) a,W.ac[k]?=J a->i∉a)->e[i]?=d[i]?)/\∀(k:Nat) h,H[k]?=J h->HM PK W F e k h
theorem MRs.af{V:Val}{e:List Sh}(a:cls e=eT):∀{rs:List LA},MRs V e rs->NVs rs.flatten|_,.de _=>.de|_,.cW _ d rs x y=>by rw[aC2];exact(Ms.af x a).eG (MRs.af a y)
def aks{V:Val}:∀{rs:List LA},MRs V [.jv] rs->∃is:List JV,z is=z rs/\rs.flatten=aJ is
 |_,.de _=>⟨[],rfl,rfl⟩
 |_,.cW _ d rs x y=>by
  obtain⟨is,a,h2⟩:=aks y;cases x with
  |eo _ _ _ _ h=>cases h|jv _ j b hb=>cases hb;exact⟨j::is,by simp[a],by rw[aC2,h2,aJ,ay5]⟩
def G7 {O:St} {f:LA->Option (LA×List Nat)}:∀{a:LA} (b:LA),NVs a->aZ O f (a++b)=match aZ O f b with|J (l,fs)=>J (a++l,fs)|U=>U
 |[],b,_=>by grind
 |v::a,b,h=>by show(match bI O f v,aZ O f (a++b)with|J (v,fs),J (l,c)=>J (v::l,fs++c)|_,_=>U)=_;rw[(h v (by simp)).nf,G7 b (λx d=>h x (by simp[d]))];cases aZ O f b<;>rfl
def aoG{V:Val}(a:V.ν[0]?=J 0){e:List Sh}(hj:jvN [] 3 e=eT):∀{rs:List LA},MRs V e rs->MRs V [.jv] rs|_,.de _=>.de _|_,.cW _ d rs x y=>by obtain⟨j,rfl⟩:=aia (Sb.de (W:=V) a) 3 hj x;refine .cW _ _ _ ?_ (aoG a hj y);have:=Ms.jv (V:=V) [] j [] .de;rwa[ay5]at this
theorem akq{V:Val}(c:V.ν[0]?=J 0){a:Nat}{e:List Sh}{rs:List LA}(h:V.ν[a]?=J (z rs))(b:MRs V e rs):M V (auO a e) (.sl (z rs) rs.flatten):=by
 unfold auO;split;·rename_i hj;obtain⟨is,d,h2⟩:=aks (aoG c hj b);grind [M]
 ·exact .sl _ _ _ h b
def alh{V:Val}{O:St}{R:LA->Option (LA×List Nat)}{s b:Sh}{v:AV}(d:s.eo=eT)(h:M V s v)(hs:ahX s=J b):b.eo=eT/\∃v',bI O R v=J (v',[])/\M V b v':=by
 unfold ahX at hs;split at hs;·cases hs;cases h;exact⟨rfl,.sl 0 [],rfl,.fS _ _ _ .de⟩
 ·rename_i n l;split at hs;·rename_i a;cases hs;obtain⟨w,rfl,c⟩:=anX h;refine⟨rfl,.sl n w,?_,.fS _ _ _ c⟩;unfold bI;rw[(Ms.af c a).nf]
  ·cases hs
 ·split at hs;·rename_i a;cases hs;exact⟨d,v,(M.nv h a).nf _ _,h⟩
  ·cases hs
def UD{V:Val}{O:St}{R:LA->Option (LA×List Nat)}:∀{e:List Sh} {q:LA},Ms V e q->∀{d:List Sh},Xg e=J d->∃c,aZ O R q=J (c,[])/\Ms V d c
 |_,_,.de,d,hs=>by cases hs;exact⟨[],rfl,.de⟩
 |_,_,.eo s t v b a x y,d,hs=>by
  simp only[Xg]at hs;split at hs;·rename_i s2 t2 f h2;cases hs;obtain⟨i,k,e1,h⟩:=alh (O:=O) (R:=R) a x f;obtain⟨c,e2,g⟩:=UD (O:=O) (R:=R) y h2;grind [aZ,Ms]
  ·cases hs
 |_,_,.jv t j b x,d,hs=>by
  simp only[Xg]at hs;split at hs;·rename_i s2 t2 f h2;cases hs;cases f;obtain⟨c,e2,g⟩:=UD (O:=O) (R:=R) x h2;exact⟨j.B++c,by rw[G7 _ j.af,e2],.jv _ _ _ g⟩
  ·cases hs
 |_,_,.jg a b t j q x y,d,hs=>by
  simp only[Xg]at hs;split at hs;·rename_i s2 t2 f h2;cases hs;cases f;obtain⟨c,e2,g⟩:=UD (O:=O) (R:=R) y h2;exact⟨j.B++c,by rw[G7 _ j.af,e2],.jg _ _ _ _ _ x g⟩
  ·cases hs
def aad{O:St}{R:LA->Option (LA×List Nat)}:∀{a b d e:LA},aZ O R a=J (d,[])->aZ O R b=J (e,[])->aZ O R (a++b)=J (d++e,[])
 |[],b,d,e,c,h2=>by cases c;exact h2
 |v::a,b,d,e,c,h2=>by
  unfold aZ at c;split at c;·rename_i w fs l f e1 e2;simp only[a05,ay8,List.append_eq_nil_iff]at c;obtain⟨rfl,rfl,rfl⟩:=c;have:=aad e2 h2;grind [aZ]
  ·cases c
def acj{V:Val}{O:St}{R:LA->Option (LA×List Nat)}{e b:List Sh}(hs:Xg e=J b):∀{rs:List LA},MRs V e rs->∃a,aZ O R rs.flatten=J (a.flatten,[])/\MRs V b a/\z a=z rs|_,.de _=>⟨[],rfl,.de _,rfl⟩|_,.cW _ h rs x y=>by obtain⟨f,e1,c⟩:=UD (O:=O) (R:=R) x hs;obtain⟨a,e2,d,l2⟩:=acj (O:=O) (R:=R) hs y;exact⟨f::a,by rw[aC2,aC2];exact aad e1 e2,.cW _ _ _ c d,by simp[l2]⟩
section
variable{C:Ctx}{X:Cfg}{PK:PkI}{O0:Frm}{V:Vo}{A:Ab}{E:As}{Y:St}
def Fr(V:Vo)(A:Ab)(o:Nat):Prop:=∃k:Nat,V.ac[k]?=J [o]/\∃y:HO,A.Q[k]?=J y/\((∃a e,y=HO.g9 a e)\/(∃a e,y=HO.fN a e))
theorem amH{m:Bool}{k a w:Nat}{e:List Sh}(b:SL m A.Q k a w=J e){o:Nat}(c:V.ac[k]?=J [o]):Fr V A o:=by refine⟨k,c,?_⟩;unfold SL at b;grind
def af7(h:G PK O0 V A E Y){m:Bool}{k a w:Nat}{i:Sh}(hs:aci A.Q m k a w=J i){n o:Nat}(t:V.ν[a]?=J n)(u:V.ρ[k]?=J (J o))(v:m=eF->0<n):∃v' fs,bI Y (dS Y 11) (.dj o 0 n w)=J (v',fs)/\M V.toVal i v'/\∀o∈fs,Fr V A o:=by
 unfold aci at hs;split at hs
 ·rename_i e p;simp only[ay4]at hs;obtain⟨x,d,rfl⟩:=hs;obtain⟨g,D,c,j⟩:=YZ h p;rw[t]at c;cases c;rcases j with⟨s,rfl,_⟩|⟨F,rs,y,h3,h4,h5,h6,h7⟩;·exact absurd (v s) (by omega)
  ·rw[u]at h3;cases h3;have b:=h7.dt;obtain⟨f,e1,C,l1⟩:=acj (O:=Y) (R:=dS Y 10) d h7;refine⟨.sl n f.flatten,[o],?_,?_,λq B=>?_⟩;·unfold bI;rw[h5];dsimp only;rw[if_pos (by rw[b,h6,g];omega),ay9,a95 (by rw[b,h6,g];omega)];show(match aZ Y (dS Y 10) rs.flatten with|J (l,fs)=>J (AV.sl n l,o::fs)|U=>U)=_;rw[e1]
   ·grind [akq,h.aa]
   grind [amH]
 ·cases hs
def akO(h:G PK O0 V A E Y){m:Bool}{k a w:Nat}{b:Sh}(hs:aci A.Q m k a w=J b)(d:V.ν[a]?=J 0):∃v' fs,bI Y (dS Y 11) .cY=J (v',fs)/\M V.toVal b v'/\∀o∈fs,Fr V A o:=by
 unfold aci at hs;split at hs;·rename_i e g;simp only[ay4]at hs;obtain⟨f,c,rfl⟩:=hs;exact⟨.sl 0 [],[],rfl,akq (rs:=[]) h.aa d (.de _),by simp⟩
 ·cases hs
mutual
def ZV(h:G PK O0 V A E Y):∀{s:Sh} {v:AV},M V.toVal s v->∀{d:Sh},IA A.Q s=J d->∃v' fs,bI Y (dS Y 11) v=J (v',fs)/\M V.toVal d v'/\∀o∈fs,Fr V A o
 |_,_,.dT,d,hs=>by cases hs;exact⟨_,_,rfl,.dT,by simp⟩
 |_,_,.cX b,d,hs=>by cases hs;exact⟨_,_,rfl,.cX b,by simp⟩
 |_,_,.bc b,d,hs=>by cases hs;exact⟨_,_,rfl,.bc b,by simp⟩
 |_,_,.gD x c y a b e f,d,hs=>by cases hs;exact⟨_,_,rfl,.gD x c y a b e f,by simp⟩
 |_,_,.gh x c y a b e f g,d,hs=>by cases hs;exact⟨_,_,rfl,.gh x c y a b e f g,by simp⟩
 |_,_,.cU k n,d,hs=>by cases hs;exact⟨_,_,rfl,.cU k n,by simp⟩
 |_,_,.ic k n,d,hs=>by cases hs;exact⟨_,_,rfl,.ic k n,by simp⟩
 |_,_,.eM j c a e,d,hs=>by cases hs;exact⟨_,_,rfl,.eM j c a e,by simp⟩
 |_,_,.cV x,d,hs=>by cases hs;exact⟨_,_,rfl,.cV x,by simp⟩
 |_,_,.ds x e,d,hs=>by cases hs;exact⟨_,_,rfl,.ds x e,by simp⟩
 |_,_,.sc x,d,hs=>by cases hs;exact⟨_,_,rfl,.sc x,by simp⟩
 |_,_,.eZ i x e,d,hs=>by cases hs;exact⟨_,_,rfl,.eZ i x e,by simp⟩
 |_,_,.ev,d,hs=>by cases hs;exact⟨_,_,rfl,.ev,by simp⟩
 |_,_,.cY,d,hs=>by cases hs;exact⟨_,_,rfl,.fS 0 [] [] .de,by simp⟩
 |_,_,.gF,d,hs=>by cases hs;exact⟨_,_,rfl,.gF,by simp⟩
 |_,_,.f9,d,hs=>by cases hs;exact⟨_,_,rfl,.f9,by simp⟩
 |_,_,.ga,d,hs=>by cases hs;exact⟨_,_,rfl,.ga,by simp⟩
 |_,_,.sl i e rs a b,d,hs=>by
  simp only[IA]at hs;split at hs;·cases hs;exact⟨_,_,rfl,.sl i e rs a b,by simp⟩
  ·cases hs
 |_,_,.eB e rs a b,d,hs=>by
  simp only[IA]at hs;split at hs;·cases hs;exact⟨_,_,rfl,.eB e rs a b,by simp⟩
  ·cases hs
 |_,_,.gC i is a,d,hs=>by cases hs;exact⟨_,_,rfl,.gC i is a,by simp⟩
 |_,_,.fR is a,d,hs=>by cases hs;exact⟨_,_,rfl,.fR is a,by simp⟩
 |_,_,.eC n e l a,d,hs=>by
  simp only[IA]at hs;split at hs;·rename_i H q;cases hs;obtain⟨w,fs,p,h2,h3⟩:=NE h a q;refine⟨.sl n w,fs,?_,.fS _ _ _ h2,h3⟩;unfold bI;rw[p]
  ·cases hs
 |_,_,.fS n e l a,d,hs=>by
  simp only[IA]at hs;split at hs;·cases hs;exact⟨_,_,rfl,.fS n e l a,by simp⟩
  ·cases hs
 |_,_,.it k a e x,d,hs=>akO (m:=eF) h hs x|_,_,.fL k a e o n x y co,d,hs=>af7 (m:=eF) h hs x co (λ_=>y)|_,_,.ft k a e o n x co,d,hs=>af7 (m:=eT) h hs x co (λhf=>by cases hf)
 |_,_,.da l v a,d,hs=>by
  simp only[IA]at hs;split at hs;·rename_i H q;cases hs;obtain⟨w,fs,p,h2,h3⟩:=NE h a q;refine⟨.da w,fs,?_,.da _ _ h2,h3⟩;unfold bI;rw[p]
  ·cases hs
 |_,_,.df l v a,d,hs=>by
  simp only[IA]at hs;split at hs;·rename_i H q;cases hs;obtain⟨w,fs,p,h2,h3⟩:=ND h a q;refine⟨.df w,fs,?_,.df _ _ h2,h3⟩;unfold bI;rw[p]
  ·cases hs
 |_,_,.jv j,d,hs=>by cases hs;exact⟨_,_,j.nv.nf _ _,.jv j,by simp⟩
 |_,_,.jg a b j x,d,hs=>by cases hs;exact⟨_,_,j.nv.nf _ _,.jg a b j x,by simp⟩
 |_,_,.c8 k off o a,d,hs=>by cases hs;exact⟨_,_,rfl,.c8 k off o a,by simp⟩
 |_,_,.em off l v R a c b,d,hs=>by
  simp only[IA]at hs;split at hs;·cases hs;exact⟨_,_,rfl,.em off l v R a c b,by simp⟩
  ·cases hs
 |_,_,.ec k o a,d,hs=>by cases hs;exact⟨_,_,rfl,.ec k o a,by simp⟩
 |_,_,.pk k o a,d,hs=>by cases hs;exact⟨_,_,rfl,.pk k o a,by simp⟩
 |_,_,.ea f x y u v a b,d,hs=>by
  simp only[IA]at hs;split at hs
  ·rename_i P Q K L;cases hs;obtain⟨w,fs,p,h2,h3⟩:=ND h a K;obtain⟨N,B,C,D,I⟩:=ND h b L;refine⟨.ea f w N,fs++B,?_,.ea _ _ _ _ _ h2 D,λo O=>?_⟩;·unfold bI;rw[p,C]
   grind
  ·cases hs
 |_,_,.eb t s v a,d,hs=>by
  simp only[IA]at hs;split at hs;·rename_i s2 F;cases hs;obtain⟨w,fs,p,h2,h3⟩:=ZV h a F;grind [bI,M]
  ·cases hs
def NE(h:G PK O0 V A E Y):∀{l:List Sh} {v:LA},Ms V.toVal l v->∀{d:List Sh},Qm A.Q l=J d->∃v' fs,aZ Y (dS Y 11) v=J (v',fs)/\Ms V.toVal d v'/\∀o∈fs,Fr V A o
 |_,_,.de,d,hs=>by cases hs;exact⟨[],[],rfl,.de,by simp⟩
 |_,_,.eo s t v b a x y,d,hs=>by
  have q:Qm A.Q (s::t)=if s.eo then(match IA A.Q s,Qm A.Q t with|J i,J t=>if i.eo then J (i::t)else U|_,_=>U)else U:=by cases s<;>first|rfl|cases a
  rw[q,if_pos a]at hs;split at hs
  ·rename_i s2 t2 f c;split at hs;·rename_i g;cases hs;obtain⟨w,fs,e,h2,h3⟩:=ZV h x f;obtain⟨u,k,m,n,p⟩:=NE h y c;grind [aZ,Ms]
   ·cases hs
  ·cases hs
 |_,_,.jv t j b x,d,hs=>by
  simp only[Qm]at hs;split at hs;·rename_i t2 c;cases hs;obtain⟨w,fs,e,h2,h3⟩:=NE h x c;refine⟨j.B++w,fs,?_,.jv _ _ _ h2,h3⟩;rw[G7 _ j.af,e]
  ·cases hs
 |_,_,.jg a b t j N x y,d,hs=>by
  simp only[Qm]at hs;split at hs;·rename_i t2 c;cases hs;obtain⟨w,fs,e,h2,h3⟩:=NE h y c;refine⟨j.B++w,fs,?_,.jg _ _ _ _ _ x h2,h3⟩;rw[G7 _ j.af,e]
  ·cases hs
def ND(h:G PK O0 V A E Y):∀{l:List Sh} {v:LA},Mt V.toVal l v->∀{a:List Sh},LZ A.Q l=J a->∃v' fs,aZ Y (dS Y 11) v=J (v',fs)/\Mt V.toVal a v'/\∀o∈fs,Fr V A o
 |_,_,.de,a,hs=>by cases hs;exact⟨[],[],rfl,.de,by simp⟩
 |_,_,.cW s t v b x y,a,hs=>by
  simp only[LZ]at hs;split at hs;·rename_i s2 t2 c d;cases hs;obtain⟨w,fs,j,h2,h3⟩:=ZV h x c;obtain⟨k,e,f,g,i⟩:=ND h y d;grind [aZ,Mt]
  ·cases hs
end
def alA{a:Type}{l:List a}{k:Nat}{y:a}(h:l[k]?=J y):l.set k y=l:=by apply aA9;grind
def acb:∀(fs:List Nat) {Y:St},G PK O0 V A E Y->(∀o∈fs,Fr V A o)->G PK O0 V A E (freeze Y fs)/\Ch V A Y V A (freeze Y fs)
 |[],Y,h,_=>⟨h,.ah⟩
 |o::fs,Y,h,hf=>by
  have s:=λ{u:St} (B:G PK O0 V A E u)=>acb fs B (λq F=>hf q (by simp[F]));unfold freeze;split
  ·rename_i l t p;obtain⟨k,g,y,j,m⟩:=hf o (by simp);have c:=h.cJ k _ g o (by simp)
   have f:=h.Q _ _ j;have b:=h.co (k:=k) (o:=o) (x:=.cH l ⟨eT,t⟩) (y:=y) ((a00.mp j).1) g (by
     have:=a97.mp h.ok _ (a08 p);exact this) (by
    rcases m with⟨a,e,rfl⟩|⟨a,e,rfl⟩;·obtain⟨n,i,h2⟩:=f;refine⟨n,i,?_⟩;grind
    ·obtain⟨n,i,H,rs,I,h3,h4,h5,h6,h7⟩:=f;rw[g]at h4;cases h4;rw[p]at h5;cases h5;exact⟨n,i,o,rs,⟨eT,t⟩,h3,g,by rw[aE5 c.2],h6,h7⟩)
   have b:G PK O0 V A E (Y.set o (.cH l ⟨eT,t⟩)):=by rw[alA j]at b;exact b
   obtain⟨v,w⟩:=s b;refine⟨v,Ch.N (.kr λK L H C D=>?_) w⟩;rw[List.getElem?_set_ne];grind [G]
  ·exact s h
def ajO(h:G PK O0 V A E Y){ss b:List Sh}{azs:LA}(g:Mt V.toVal ss azs)(hs:LZ A.Q ss=J b):∃a c,hand eF azs Y=J (a,c)/\Mt V.toVal b a/\G PK O0 V A E c/\Ch V A Y V A c:=by obtain⟨w,fs,f,h2,h3⟩:=ND h g hs;obtain⟨d,e⟩:=acb fs h h3;refine⟨w,freeze Y fs,?_,h2,d,e⟩;show(match dS Y 12 azs with|J (l,fs)=>J (l,freeze Y fs)|U=>U)=_;rw[show dS Y 12 azs=aZ Y (dS Y 11) azs from rfl,f]
end
end Go.Ev
