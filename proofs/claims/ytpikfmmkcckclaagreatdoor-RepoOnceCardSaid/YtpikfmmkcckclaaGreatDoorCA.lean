/- Code. No conditions. -/
import Derived.Test.YtpikfmmkcckclaaGreatDoorEC
set_option linter.unusedVariables false
set_option linter.unusedSimpArgs false
set_option linter.defProp false
namespace Go.Ev
set_option maxRecDepth 100000
def LB:Nat:=4294967296
def LS:Nat:=8192
structure StB(t:LU)(ns:List LU):Prop where
 t:t.length<=LB
 ns:∀x∈ns,x.length<=LB
inductive JW where
 |mk (k n:Int) (t:LU) (ns:List LU) (is:List JW)
mutual
def JW.cs:JW->LA
 |.mk k n t ns is=>[.int .u8 k,.int .i64 n,.str t,.sl ns.length (ns.map .str),.sl is.length (yU is)]
def yU:List JW->LA
 |[]=>[]
 |j::l=>JW.cs j++yU l
end
mutual
def JW.Sm:JW->Prop
 |.mk k n t ns is=>ns.length<=is.length/\(k=5->is.length<=ns.length)/\is.length<=8192/\StB t ns/\QL is
def QL:List JW->Prop
 |[]=>True
 |j::l=>j.Sm/\QL l
end
structure JV where
 of::
 w:JW
 ok:w.Sm
def JV.cs(j:JV):LA:=j.w.cs
def aJ:List JV->LA
 |[]=>[]
 |j::l=>j.cs++aJ l
def JV.av(j:JV):AV:=.agg j.cs
def Us:∀is:List JV,QL (is.map (·.w))
 |[]=>trivial
 |j::l=>⟨j.ok,Us l⟩
def JV.mk(k n:Int)(t:LU)(ns:List LU)(is:List JV)(h1:ns.length<=is.length)(h3:k=5->is.length<=ns.length)(h2:is.length<=8192)(h4:StB t ns):JV:=⟨.mk k n t ns (is.map (·.w)),by rw[aw8];exact h1,by rw[aw8];exact h3,by rw[aw8];exact h2,h4,Us is⟩
def Xi:∀is:List JV,yU (is.map (·.w))=aJ is
 |[]=>rfl
 |j::l=>by rw[av3,yU,Xi l];rfl
theorem JV.mk_cs(k n:Int)(t:LU)(ns:List LU)(is:List JV)(h1:ns.length<=is.length)(h3:k=5->is.length<=ns.length)(h2:is.length<=8192)(h4:StB t ns):(JV.mk k n t ns is h1 h3 h2 h4).cs=[.int .u8 k,.int .i64 n,.str t,.sl ns.length (ns.map .str),.sl is.length (aJ is)]:=by
 show JW.cs (.mk k n t ns (is.map (·.w)))=_;rw[JW.cs,aw8,Xi]
def JV.ups:(l:List JW)->QL l->List JV
 |[],_=>[]
 |j::l,h=>⟨j,h.1⟩::JV.ups l h.2
def JV.ups_map:∀(l:List JW) (h:QL l),(JV.ups l h).map (·.w)=l
 |[],_=>rfl
 |j::l,h=>by rw[JV.ups,av3,JV.ups_map l h.2]
theorem JV.ex(j:JV):∃(k n:Int) (t:LU) (ns:List LU) (is:List JV) (h1:ns.length<=is.length) (h3:k=5->is.length<=ns.length) (h2:is.length<=8192) (h4:StB t ns),j=JV.mk k n t ns is h1 h3 h2 h4:=by
 obtain⟨⟨k,n,t,ns,is⟩,h1,h3,h2,h5,h4⟩:=j;have hm:=JV.ups_map is h4;have hl:(JV.ups is h4).length=is.length:=by
  grind
 refine⟨k,n,t,ns,JV.ups is h4,by omega,by rw[hl];exact h3,by omega,h5,?_⟩
 unfold JV.mk
 congr 1
 rw[hm]
def StB.nil{t:LU}(h:t.length<=LB):StB t []:=⟨h,by simp⟩
def JV.leaf(k n:Int)(t:LU)(h:t.length<=LB):JV:=JV.mk k n t [] [] (by simp) (by simp) (by simp) (StB.nil h)
def JV.leaf_cs(k n:Int)(t:LU)(h:t.length<=LB):(JV.leaf k n t h).cs=[.int .u8 k,.int .i64 n,.str t,.sl 0 [],.sl 0 []]:=by
 unfold JV.leaf;rw[JV.mk_cs];rfl
theorem JV.len(j:JV):j.cs.length=5:=by
 grind [j.ex,JV.mk_cs]
def jK:∀l:List JV,(aJ l).length=l.length*5
 |[]=>by simp[aJ]
 |j::l=>by rw[aJ,a04,JV.len,jK l,a07];omega
def FV:∀l m:List JV,aJ (l++m)=aJ l++aJ m
 |[],m=>by simp[aJ]
 |j::l,m=>by rw[a99,aJ,FV l m,aJ,au2]
def o9:∀l:List LU,ae 0 (l.map AV.str)=true
 |[]=>rfl
 |s::l=>by rw[av3,ae,o9 l];rfl
def uB:∀l m:LA,ae 0 l=true->ae 0 m=true->ae 0 (l++m)=true
 |[],m,_,h=>h
 |a::l,m,h1,h2=>by
  rw[ae,a01]at h1;rw[a99,ae,h1.1,uB l m h1.2 h2];rfl
mutual
theorem JW.bel:∀j:JW,ae 0 j.cs=true
 |.mk k n t ns is=>by
  rw[JW.cs];simp only[ae,Ev.below,o9,Xh is,aw7]
theorem Xh:∀l:List JW,ae 0 (yU l)=true
 |[]=>by rw[yU];rfl
 |j::l=>by
  rw[yU];exact uB _ _ (JW.bel j) (Xh l)
end
theorem JV.bel(j:JV):ae 0 j.cs=true:=JW.bel j.w
def iq:∀l:List JV,ae 0 (aJ l)=true
 |[]=>by rw[aJ];rfl
 |j::l=>by
  rw[aJ];exact uB _ _ (JV.bel j) (iq l)
theorem JV.flat(j:JV):j.cs.all AV.flat=true:=by
 grind [j.ex,JV.mk_cs,AV.flat]
theorem JV.nvs(j:JV):NVs j.cs:=by
 obtain⟨k,n,t,ns,is,h1,h3,h2,h4,rfl⟩:=j.ex;rw[JV.mk_cs];exact .cons (.int _ _) (.cons (.int _ _) (.cons (.str _) (.cons (.sl _ (o9 ns)) (.cons (.sl _ (iq is)) .nil))))
def JV.nv(j:JV):NV j.av:=.agg j.nvs
inductive Sh where
 |undef
 |bool
 |bc (b:Bool)
 |tst (x:Nat) (c:Int) (y:Nat)
 |teq (p:Bool) (x:Nat) (c:Int) (y:Nat)
 |int (k:IntKind)
 |ic (k:IntKind) (n:Int)
 |sym (j:Nat) (c:Int)
 |str
 |strb
 |sc (s:LU)
 |strl (i:Nat)
 |nilp
 |nils
 |nilF
 |nilI
 |nilM
 |sl (i:Nat) (e:List Sh)
 |slx (e:List Sh)
 |slj (i:Nat)
 |sljx
 |xsl (n:Nat) (e:List Sh)
 |slc (n:Nat) (e:List Sh)
 |acc (k a:Nat) (e:List Sh)
 |accm (k a:Nat) (e:List Sh)
 |agg (l:List Sh)
 |tup (l:List Sh)
 |jv
 |jg (a b:Nat)
 |ref (k off:Nat)
 |eptr (off:Nat) (l:List Sh)
 |map (k:Nat)
 |pk (k:Nat)
 |func (f:Fn) (x y:List Sh)
 |iface (t:TypeId) (v:Sh)
 deriving Inhabited
structure Val where
 ν:List Nat
 ρ:List (Option Nat)
def Sh.wd:Sh->Nat
 |.jv=>5
 |.jg _ _=>5
 |_=>1
def wds:List Sh->Nat
 |[]=>0
 |s::l=>s.wd+wds l
def Sh.one:Sh->Bool
 |.jv=>false
 |.jg _ _=>false
 |.agg _=>false
 |.tup _=>false
 |.undef=>false
 |_=>true
def JL(V:Val)(a b:Nat)(j:JV):Prop:=∃k n t ns is h1 h3 h2 h4,j=JV.mk k n t ns is h1 h3 h2 h4/\V.ν[a]?=some ns.length/\V.ν[b]?=some is.length
mutual
inductive M(V:Val):Sh->AV->Prop
 |undef:M V .undef (.tup [])
 |bool (b:Bool):M V .bool (.bool b)
 |bc (b:Bool):M V (.bc b) (.bool b)
 |tst (x:Nat) (c:Int) (y:Nat) (a b:Nat):V.ν[x]?=some a->V.ν[y]?=some b->M V (.tst x c y) (.bool (decide ((a:Int)+c<=b)))
 |teq (p:Bool) (x:Nat) (c:Int) (y:Nat) (a b:Nat):V.ν[x]?=some a->V.ν[y]?=some b->M V (.teq p x c y) (.bool (decide ((a:Int)+c=b)==p))
 |int (k:IntKind) (n:Int):M V (.int k) (.int k n)
 |ic (k:IntKind) (n:Int):M V (.ic k n) (.int k n)
 |sym (j:Nat) (c:Int) (a:Nat):V.ν[j]?=some a->M V (.sym j c) (.int .i64 (a+c))
 |str (s:LU):M V .str (.str s)
 |strb (s:LU):s.length<=LB->M V .strb (.str s)
 |sc (s:LU):M V (.sc s) (.str s)
 |strl (i:Nat) (s:LU):V.ν[i]?=some s.length->M V (.strl i) (.str s)
 |nilp:M V .nilp .nilp
 |nils:M V .nils .nils
 |nilF:M V .nilF .nilFunc
 |nilI:M V .nilI .nilIface
 |nilM:M V .nilM .nilMap
 |sl (i:Nat) (e:List Sh) (rs:List LA):V.ν[i]?=some rs.length->MRs V e rs->M V (.sl i e) (.sl rs.length rs.flatten)
 |slx (e:List Sh) (rs:List LA):rs.length<=LS->MRs V e rs->M V (.slx e) (.sl rs.length rs.flatten)
 |slj (i:Nat) (is:List JV):V.ν[i]?=some is.length->M V (.slj i) (.sl is.length (aJ is))
 |sljx (is:List JV):is.length<=8192->M V .sljx (.sl is.length (aJ is))
 |xsl (n:Nat) (e:List Sh) (l:LA):Ms V e l->M V (.xsl n e) (.xsl n l)
 |slc (n:Nat) (e:List Sh) (l:LA):Ms V e l->M V (.slc n e) (.sl n l)
 |acc0 (k a:Nat) (e:List Sh):V.ν[a]?=some 0->M V (.acc k a e) .nils
 |acc (k a:Nat) (e:List Sh) (o n:Nat):V.ν[a]?=some n->0<n->V.ρ[k]?=some (some o)->M V (.acc k a e) (.msl o 0 n (wds e))
 |accm (k a:Nat) (e:List Sh) (o n:Nat):V.ν[a]?=some n->V.ρ[k]?=some (some o)->M V (.accm k a e) (.msl o 0 n (wds e))
 |agg (l:List Sh) (v:LA):Ms V l v->M V (.agg l) (.agg v)
 |tup (l:List Sh) (v:LA):Mt V l v->M V (.tup l) (.tup v)
 |jv (j:JV):M V .jv j.av
 |jg (a b:Nat) (j:JV):JL V a b j->M V (.jg a b) j.av
 |ref (k off o:Nat):V.ρ[k]?=some (some o)->M V (.ref k off) (.ref o off)
 |eptr (off:Nat) (l:List Sh) (v r:LA):Ms V l v->off<=v.length->ae 0 r=true->M V (.eptr off l) (.eptr ((v++r).drop off))
 |map (k o:Nat):V.ρ[k]?=some (some o)->M V (.map k) (.map o)
 |pk (k o:Nat):V.ρ[k]?=some (some o)->M V (.pk k) (.ref o 0)
 |func (f:Fn) (x y:List Sh) (u v:LA):Mt V x u->Mt V y v->M V (.func f x y) (.func f u v)
 |iface (t:TypeId) (s:Sh) (v:AV):M V s v->M V (.iface t s) (.iface t v)
inductive Ms(V:Val):List Sh->LA->Prop
 |nil:Ms V [] []
 |one (s:Sh) (t:List Sh) (v:AV) (b:LA):s.one=true->M V s v->Ms V t b->Ms V (s::t) (v::b)
 |jv (t:List Sh) (j:JV) (b:LA):Ms V t b->Ms V (.jv::t) (j.cs++b)
 |jg (a b:Nat) (t:List Sh) (j:JV) (r:LA):JL V a b j->Ms V t r->Ms V (.jg a b::t) (j.cs++r)
inductive MRs(V:Val):List Sh->List LA->Prop
 |nil (e:List Sh):MRs V e []
 |cons (e:List Sh) (r:LA) (rs:List LA):Ms V e r->MRs V e rs->MRs V e (r::rs)
inductive Mt(V:Val):List Sh->LA->Prop
 |nil:Mt V [] []
 |cons (s:Sh) (t:List Sh) (v:AV) (b:LA):M V s v->Mt V t b->Mt V (s::t) (v::b)
end
structure Val.le(V V':Val):Prop where
 ν:∀(i a:Nat),V.ν[i]?=some a->V'.ν[i]?=some a
 ρ:∀(i:Nat) (a:Option Nat),V.ρ[i]?=some a->V'.ρ[i]?=some a
def Val.le.rfl{V:Val}:V.le V:=⟨fun _ _ h=>h,fun _ _ h=>h⟩
def Val.le.trans{V V' V'':Val}(h:V.le V')(k:V'.le V''):V.le V'':=⟨fun i a e=>k.ν i a (h.ν i a e),fun i a e=>k.ρ i a (h.ρ i a e)⟩
theorem JL.mono{V V':Val}(h:V.le V'){a b:Nat}{j:JV}(hj:JL V a b j):JL V' a b j:=by
 obtain⟨k,n,t,ns,is,h1,h3,h2,h4,e,ea,eb⟩:=hj;exact⟨k,n,t,ns,is,h1,h3,h2,h4,e,h.ν _ _ ea,h.ν _ _ eb⟩
mutual
theorem M.mono{V V':Val}(h:V.le V'):∀{s:Sh} {v:AV},M V s v->M V' s v
 |_,_,.undef=>.undef
 |_,_,.bool b=>.bool b
 |_,_,.bc b=>.bc b
 |_,_,.tst x c y a b e f=>.tst x c y a b (h.ν _ _ e) (h.ν _ _ f)
 |_,_,.teq p x c y a b e f=>.teq p x c y a b (h.ν _ _ e) (h.ν _ _ f)
 |_,_,.int k n=>.int k n
 |_,_,.ic k n=>.ic k n
 |_,_,.sym j c a e=>.sym j c a (h.ν _ _ e)
 |_,_,.str s=>.str s
 |_,_,.strb s e=>.strb s e
 |_,_,.sc s=>.sc s
 |_,_,.strl i s e=>.strl i s (h.ν _ _ e)
 |_,_,.nilp=>.nilp
 |_,_,.nils=>.nils
 |_,_,.nilF=>.nilF
 |_,_,.nilI=>.nilI
 |_,_,.nilM=>.nilM
 |_,_,.sl i e rs a b=>.sl i e rs (h.ν _ _ a) (MRs.mono h b)
 |_,_,.slx e rs a b=>.slx e rs a (MRs.mono h b)
 |_,_,.slj i is a=>.slj i is (h.ν _ _ a)
 |_,_,.sljx is a=>.sljx is a
 |_,_,.xsl n e l a=>.xsl n e l (Ms.mono h a)
 |_,_,.slc n e l a=>.slc n e l (Ms.mono h a)
 |_,_,.acc0 k a e x=>.acc0 k a e (h.ν _ _ x)
 |_,_,.acc k a e o n x y z=>.acc k a e o n (h.ν _ _ x) y (h.ρ _ _ z)
 |_,_,.accm k a e o n x z=>.accm k a e o n (h.ν _ _ x) (h.ρ _ _ z)
 |_,_,.agg l v a=>.agg l v (Ms.mono h a)
 |_,_,.tup l v a=>.tup l v (Mt.mono h a)
 |_,_,.jv j=>.jv j
 |_,_,.jg a b j x=>.jg a b j (x.mono h)
 |_,_,.ref k off o a=>.ref k off o (h.ρ _ _ a)
 |_,_,.eptr off l v r a c b=>.eptr off l v r (Ms.mono h a) c b
 |_,_,.map k o a=>.map k o (h.ρ _ _ a)
 |_,_,.pk k o a=>.pk k o (h.ρ _ _ a)
 |_,_,.func f x y u v a b=>.func f x y u v (Mt.mono h a) (Mt.mono h b)
 |_,_,.iface t s v a=>.iface t s v (M.mono h a)
theorem Ms.mono{V V':Val}(h:V.le V'):∀{l:List Sh} {v:LA},Ms V l v->Ms V' l v
 |_,_,.nil=>.nil
 |_,_,.one s t v b a x y=>.one s t v b a (M.mono h x) (Ms.mono h y)
 |_,_,.jv t j b x=>.jv t j b (Ms.mono h x)
 |_,_,.jg a b t j r x y=>.jg a b t j r (x.mono h) (Ms.mono h y)
theorem MRs.mono{V V':Val}(h:V.le V'):∀{l:List Sh} {v:List LA},MRs V l v->MRs V' l v
 |_,_,.nil e=>.nil e
 |_,_,.cons e r rs x y=>.cons e r rs (Ms.mono h x) (MRs.mono h y)
theorem Mt.mono{V V':Val}(h:V.le V'):∀{l:List Sh} {v:LA},Mt V l v->Mt V' l v
 |_,_,.nil=>.nil
 |_,_,.cons s t v b x y=>.cons s t v b (M.mono h x) (Mt.mono h y)
end
theorem Ms.len{V:Val}:∀{l:List Sh} {v:LA},Ms V l v->v.length=wds l
 |_,_,.nil=>rfl
 |_,_,.one s t v b a x y=>by
  have:s.wd=1:=by cases s<;>first|rfl|cases a
  rw[wds,this,a07,y.len];omega
 |_,_,.jv t j b x=>by rw[wds,a04,j.len,x.len];rfl
 |_,_,.jg a b t j r x y=>by rw[wds,a04,j.len,y.len];rfl
def Ms.app{V:Val}:∀{l m:List Sh} {v w:LA},Ms V l v->Ms V m w->Ms V (l++m) (v++w)
 |_,_,_,_,.nil,h=>h
 |_,_,_,_,.one s t v b a x y,h=>.one s _ v _ a x (y.app h)
 |_,_,_,_,.jv t j b x,h=>by rw[au2];exact .jv _ j _ (x.app h)
 |_,_,_,_,.jg a b t j r x y,h=>by rw[au2];exact .jg a b _ j _ x (y.app h)
theorem MRs.len{V:Val}{e:List Sh}:∀{rs:List LA},MRs V e rs->rs.flatten.length=rs.length*wds e
 |_,.nil _=>by simp
 |_,.cons _ r rs x y=>by rw[ax3,a04,x.len,y.len,a07,Nat.succ_mul];omega
def MRs.app{V:Val}{e:List Sh}:∀{rs rs':List LA},MRs V e rs->MRs V e rs'->MRs V e (rs++rs')
 |_,_,.nil _,h=>h
 |_,_,.cons _ r rs x y,h=>.cons _ r _ x (y.app h)
def MRs.get{V:Val}{e:List Sh}:∀{rs:List LA},MRs V e rs->∀(i:Nat),i<rs.length->∃r,rs[i]?=some r/\Ms V e r/\∃pre,rs.flatten=pre++(r++(rs.drop (i+1)).flatten)/\pre.length=i*wds e
 |_,.nil _,i,h=>by simp at h
 |_,.cons _ r rs x y,0,h=>⟨r,rfl,x,[],by simp,by simp⟩
 |_,.cons _ r rs x y,i+1,h=>by
  obtain⟨r',h1,h2,pre,h3,h4⟩:=y.get i (by simpa using h)
  grind [x.len]
def MH:Nat->List Sh->Option (List Sh×List Sh)
 |0,l=>some ([],l)
 |_+1,[]=>none
 |n+1,s::l=>if s.wd<=n+1 then(match MH (n+1-s.wd) l with
  |some (a,b)=>some (s::a,b)
  |none=>none)else none
def Ms.cut{V:Val}:∀{l:List Sh} {v:LA},Ms V l v->∀{n:Nat} {a b:List Sh},MH n l=some (a,b)->∃x y,v=x++y/\x.length=n/\Ms V a x/\Ms V b y
 |l,v,h,0,a,b,hc=>by
  simp only[MH,a05,av6]at hc;obtain⟨rfl,rfl⟩:=hc;exact⟨[],v,rfl,rfl,.nil,h⟩
 |_,_,.nil,n+1,a,b,hc=>by simp[MH]at hc
 |_,_,.one s t v r h1 h2 h3,n+1,a,b,hc=>by
  have hw:s.wd=1:=by cases s<;>first|rfl|cases h1
  simp only[MH,hw]at hc;rw[if_pos (by omega)]at hc
  split at hc
  ·rename_i a' b' hab;simp only[a05,av6]at hc;obtain⟨rfl,rfl⟩:=hc;obtain⟨x,y,e1,e2,e3,e4⟩:=h3.cut hab
   grind [Ms]
  ·cases hc
 |_,_,.jv t j r h1,n+1,a,b,hc=>by
  simp only[MH]at hc;split at hc
  ·rename_i hle;split at hc
   ·rename_i a' b' hab;simp only[a05,av6]at hc;obtain⟨rfl,rfl⟩:=hc;obtain⟨x,y,e1,e2,e3,e4⟩:=h1.cut hab;have hw:Sh.jv.wd=5:=rfl;exact⟨j.cs++x,y,by rw[e1,au2],by rw[a04,j.len,e2];omega,.jv _ _ _ e3,e4⟩
   ·cases hc
  ·cases hc
 |_,_,.jg p q t j r h0 h1,n+1,a,b,hc=>by
  simp only[MH]at hc;split at hc
  ·rename_i hle;split at hc
   ·rename_i a' b' hab;simp only[a05,av6]at hc;obtain⟨rfl,rfl⟩:=hc;obtain⟨x,y,e1,e2,e3,e4⟩:=h1.cut hab;have hw:(Sh.jg p q).wd=5:=rfl;exact⟨j.cs++x,y,by rw[e1,au2],by rw[a04,j.len,e2];omega,.jg _ _ _ _ _ h0 e3,e4⟩
   ·cases hc
  ·cases hc
def EF{N:Nat}:∀(k:Nat) {l:LA},ae N l=true->ae N (l.drop k)=true
 |0,_,h=>h
 |_+1,[],_=>rfl
 |k+1,a::l,h=>by
  rw[ae,a01]at h;exact EF k h.2
mutual
def cl:Sh->Bool
 |.nils=>false
 |.acc ..=>false
 |.accm ..=>false
 |.ref ..=>false
 |.map _=>false
 |.pk _=>false
 |.xsl ..=>false
 |.sl _ e=>cls e
 |.slx e=>cls e
 |.slc _ e=>cls e
 |.agg l=>cls l
 |.tup l=>cls l
 |.eptr _ l=>cls l
 |.func _ x y=>cls x&&cls y
 |.iface _ v=>cl v
 |_=>true
def cls:List Sh->Bool
 |[]=>true
 |s::l=>cl s&&cls l
end
def NV.eptr{l:LA}(h:ae 0 l=true):NV (.eptr l):=⟨fun _ _=>rfl,by rw[below];exact h⟩
def NV.iface{t:TypeId}{v:AV}(h:NV v):NV (.iface t v):=⟨fun O r=>by unfold asb;rw[h.nf],by rw[below];exact h.cl⟩
def NV.func{f:Fn}{x y:LA}(h:NVs x)(k:NVs y):NV (.func f x y):=⟨fun O r=>by unfold asb;rw[h.nf,k.nf];rfl,by rw[below,h.cl,k.cl];rfl⟩
mutual
theorem M.nv{V:Val}:∀{s:Sh} {v:AV},M V s v->cl s=true->NV v
 |_,_,.undef,_=>.tup .nil
 |_,_,.bool b,_=>.bool _
 |_,_,.bc b,_=>.bool _
 |_,_,.tst x c y a b e f,_=>.bool _
 |_,_,.teq p x c y a b e f,_=>.bool _
 |_,_,.int k n,_=>.int _ _
 |_,_,.ic k n,_=>.int _ _
 |_,_,.sym j c a e,_=>.int _ _
 |_,_,.str s,_=>.str _
 |_,_,.strb s e,_=>.str _
 |_,_,.sc s,_=>.str _
 |_,_,.strl i s e,_=>.str _
 |_,_,.nilp,_=>⟨fun _ _=>rfl,rfl⟩
 |_,_,.nils,h=>by simp[cl]at h
 |_,_,.nilF,_=>⟨fun _ _=>rfl,rfl⟩
 |_,_,.nilI,_=>⟨fun _ _=>rfl,rfl⟩
 |_,_,.nilM,_=>⟨fun _ _=>rfl,rfl⟩
 |_,_,.sl i e rs a b,h=>.sl _ (MRs.bel b (by simpa[cl]using h))
 |_,_,.slx e rs a b,h=>.sl _ (MRs.bel b (by simpa[cl]using h))
 |_,_,.slj i is a,_=>.sl _ (iq is)
 |_,_,.sljx is a,_=>.sl _ (iq is)
 |_,_,.xsl n e l a,h=>by simp[cl]at h
 |_,_,.slc n e l a,h=>.sl _ (Ms.nvs a (by simpa[cl]using h)).cl
 |_,_,.acc0 k a e x,h=>by simp[cl]at h
 |_,_,.acc k a e o n x y z,h=>by simp[cl]at h
 |_,_,.accm k a e o n x z,h=>by simp[cl]at h
 |_,_,.agg l v a,h=>.agg (Ms.nvs a (by simpa[cl]using h))
 |_,_,.tup l v a,h=>.tup (Mt.nvs a (by simpa[cl]using h))
 |_,_,.jv j,_=>j.nv
 |_,_,.jg a b j x,_=>j.nv
 |_,_,.ref k off o a,h=>by simp[cl]at h
 |_,_,.eptr off l v r a c b,h=>.eptr (EF off (uB _ _ (Ms.nvs a (by simpa[cl]using h)).cl b))
 |_,_,.map k o a,h=>by simp[cl]at h
 |_,_,.pk k o a,h=>by simp[cl]at h
 |_,_,.func f x y u v a b,h=>by
  rw[cl,a01]at h;exact .func (Mt.nvs a h.1) (Mt.nvs b h.2)
 |_,_,.iface t s v a,h=>.iface (M.nv a (by simpa[cl]using h))
theorem Ms.nvs{V:Val}:∀{l:List Sh} {v:LA},Ms V l v->cls l=true->NVs v
 |_,_,.nil,_=>.nil
 |_,_,.one s t v b a x y,h=>by
  rw[cls,a01]at h;exact .cons (M.nv x h.1) (Ms.nvs y h.2)
 |_,_,.jv t j b x,h=>by
  rw[cls,a01]at h;exact j.nvs.app (Ms.nvs x h.2)
 |_,_,.jg a b t j r x y,h=>by
  rw[cls,a01]at h;exact j.nvs.app (Ms.nvs y h.2)
theorem MRs.bel{V:Val}:∀{l:List Sh} {v:List LA},MRs V l v->cls l=true->ae 0 v.flatten=true
 |_,_,.nil e,_=>rfl
 |_,_,.cons e r rs x y,h=>by
  rw[ax3];exact uB _ _ (Ms.nvs x h).cl (MRs.bel y h)
theorem Mt.nvs{V:Val}:∀{l:List Sh} {v:LA},Mt V l v->cls l=true->NVs v
 |_,_,.nil,_=>.nil
 |_,_,.cons s t v b x y,h=>by
  rw[cls,a01]at h;exact .cons (M.nv x h.1) (Mt.nvs y h.2)
end
theorem M.flat{V:Val}{s:Sh}{v:AV}(h:M V s v)(h1:s.one=true):v.flat=true:=by
 cases h<;>first|rfl|cases h1
theorem Ms.flat{V:Val}:∀{l:List Sh} {v:LA},Ms V l v->v.all AV.flat=true
 |_,_,.nil=>rfl
 |_,_,.one s t v b a x y=>by rw[a88,x.flat a,y.flat];rfl
 |_,_,.jv t j b x=>by rw[aC6,j.flat,x.flat];rfl
 |_,_,.jg a b t j r x y=>by rw[aC6,j.flat,y.flat];rfl
theorem MRs.flat{V:Val}:∀{l:List Sh} {v:List LA},MRs V l v->v.flatten.all AV.flat=true
 |_,_,.nil e=>rfl
 |_,_,.cons e r rs x y=>by rw[ax3,aC6,x.flat,y.flat];rfl
def AL{N:Nat}:∀{l m:LA},ae N l=true->ae N m=true->ae N (l++m)=true
 |[],m,_,h=>h
 |a::l,m,h1,h2=>by
  rw[ae,a01]at h1;rw[a99,ae,h1.1,AL h1.2 h2];rfl
def tY{n k:Nat}(h:n<=k){l:LA}(hl:ae n l=true):ae k l=true:=aO h l hl
mutual
theorem M.bel{V:Val}{N:Nat}(hN:∀(k o:Nat),V.ρ[k]?=some (some o)->o<N):∀{s:Sh} {v:AV},M V s v->below N v=true
 |_,_,.undef=>rfl
 |_,_,.bool b=>rfl
 |_,_,.bc b=>rfl
 |_,_,.tst x c y a b e f=>rfl
 |_,_,.teq p x c y a b e f=>rfl
 |_,_,.int k n=>rfl
 |_,_,.ic k n=>rfl
 |_,_,.sym j c a e=>rfl
 |_,_,.str s=>rfl
 |_,_,.strb s e=>rfl
 |_,_,.sc s=>rfl
 |_,_,.strl i s e=>rfl
 |_,_,.nilp=>rfl
 |_,_,.nils=>rfl
 |_,_,.nilF=>rfl
 |_,_,.nilI=>rfl
 |_,_,.nilM=>rfl
 |_,_,.sl i e rs a b=>by rw[below];exact MRs.bels hN b
 |_,_,.slx e rs a b=>by rw[below];exact MRs.bels hN b
 |_,_,.slj i is a=>by rw[below];exact tY (a98 N) (iq is)
 |_,_,.sljx is a=>by rw[below];exact tY (a98 N) (iq is)
 |_,_,.xsl n e l a=>by rw[below];exact Ms.bels hN a
 |_,_,.slc n e l a=>by rw[below];exact Ms.bels hN a
 |_,_,.acc0 k a e x=>rfl
 |_,_,.acc k a e o n x y z=>by rw[below];simpa using hN _ _ z
 |_,_,.accm k a e o n x z=>by rw[below];simpa using hN _ _ z
 |_,_,.agg l v a=>by rw[below];exact Ms.bels hN a
 |_,_,.tup l v a=>by rw[below];exact Mt.bels hN a
 |_,_,.jv j=>by unfold JV.av;rw[below];exact tY (a98 N) j.bel
 |_,_,.jg a b j x=>by unfold JV.av;rw[below];exact tY (a98 N) j.bel
 |_,_,.ref k off o a=>by rw[below];simpa using hN _ _ a
 |_,_,.eptr off l v r a c b=>by rw[below];exact EF off (AL (Ms.bels hN a) (tY (a98 N) b))
 |_,_,.map k o a=>by rw[below];simpa using hN _ _ a
 |_,_,.pk k o a=>by rw[below];simpa using hN _ _ a
 |_,_,.func f x y u v a b=>by rw[below,Mt.bels hN a,Mt.bels hN b];rfl
 |_,_,.iface t s v a=>by rw[below];exact M.bel hN a
theorem Ms.bels{V:Val}{N:Nat}(hN:∀(k o:Nat),V.ρ[k]?=some (some o)->o<N):∀{l:List Sh} {v:LA},Ms V l v->ae N v=true
 |_,_,.nil=>rfl
 |_,_,.one s t v b a x y=>by rw[ae,M.bel hN x,Ms.bels hN y];rfl
 |_,_,.jv t j b x=>AL (tY (a98 N) j.bel) (Ms.bels hN x)
 |_,_,.jg a b t j r x y=>AL (tY (a98 N) j.bel) (Ms.bels hN y)
theorem MRs.bels{V:Val}{N:Nat}(hN:∀(k o:Nat),V.ρ[k]?=some (some o)->o<N):∀{l:List Sh} {v:List LA},MRs V l v->ae N v.flatten=true
 |_,_,.nil e=>rfl
 |_,_,.cons e r rs x y=>by
  rw[ax3];exact AL (Ms.bels hN x) (MRs.bels hN y)
theorem Mt.bels{V:Val}{N:Nat}(hN:∀(k o:Nat),V.ρ[k]?=some (some o)->o<N):∀{l:List Sh} {v:LA},Mt V l v->ae N v=true
 |_,_,.nil=>rfl
 |_,_,.cons s t v b x y=>by rw[ae,M.bel hN x,Mt.bels hN y];rfl
end
inductive HO where
 |cells (l:List Sh)
 |ro (l:List Sh)
 |arr (a:Nat) (e:List Sh)
 |arrm (a:Nat) (e:List Sh)
 |map (v:Sh)
 |pk
 |dead
 deriving Inhabited
structure Ab where
 env:List (Nat×Sh)
 heap:List HO
 nx:Nat
 facts:List (Nat×Int×Nat)
 wr:List Nat:=[]
 ls:List Nat:=[]
 deriving Inhabited
def la(t:Nat):List (Nat×Sh)->Option Sh
 |[]=>none
 |(k,s)::l=>if k=t then some s else la t l
structure Vo extends Val where
 own:List (List Nat)
def nV(V:Val)(f:Nat×Int×Nat):Prop:=∃a b:Nat,V.ν[f.1]?=some a/\V.ν[f.2.2]?=some b/\(a:Int)+f.2.1<=b
theorem nV.mono{V V':Val}(h:V.le V'){f:Nat×Int×Nat}(hf:nV V f):nV V' f:=by
 obtain⟨a,b,h1,h2,h3⟩:=hf;exact⟨a,b,h.ν _ _ h1,h.ν _ _ h2,h3⟩
structure PkI where
 ok:St->Nat->List Nat->Prop
 fr:∀{Y Y':St} {o:Nat} {ms:List Nat},ok Y o ms->(∀i∈o::ms,Y'[i]?=Y[i]?)->ok Y' o ms
structure Frm where
 s:St
 w:List Nat
def Frm.length(F:Frm):Nat:=F.s.length
def HM(PK:PkI)(V:Vo)(F:Frm)(Y:St)(k:Nat):HO->Prop
 |.cells l=>∃o cs,V.ρ[k]?=some (some o)/\V.own[k]?=some [o]/\Y[o]?=some (.cells cs FZ)/\Ms V.toVal l cs
 |.ro l=>∃o cs fz,V.ρ[k]?=some (some o)/\V.own[k]?=some []/\(o<F.length/\o∉F.w)/\Y[o]?=some (.cells cs fz)/\Ms V.toVal l cs
 |.arr a e=>∃n,V.ν[a]?=some n/\(n=0/\V.own[k]?=some []\/0<n/\∃o rs fz,V.ρ[k]?=some (some o)/\V.own[k]?=some [o]/\Y[o]?=some (.cells rs.flatten fz)/\rs.length=n/\MRs V.toVal e rs)
 |.arrm a e=>∃n,V.ν[a]?=some n/\∃o rs fz,V.ρ[k]?=some (some o)/\V.own[k]?=some [o]/\Y[o]?=some (.cells rs.flatten fz)/\rs.length=n/\MRs V.toVal e rs
 |.map v=>∃o es,V.ρ[k]?=some (some o)/\V.own[k]?=some [o]/\Y[o]?=some (.map es)/\∀p∈es,(∃s,p.1=.str s)/\M V.toVal v p.2
 |.pk=>∃o ms,V.ρ[k]?=some (some o)/\V.own[k]?=some (o::ms)/\PK.ok Y o ms
 |.dead=>V.own[k]?=some []
structure G(PK:PkI)(O0:Frm)(V:Vo)(A:Ab)(E:As)(Y:St):Prop where
 env:∀t s,la t A.env=some s->M V.toVal s (look E t)
 lν:V.ν.length=A.nx
 lρ:V.ρ.length=A.heap.length
 lo:V.own.length=A.heap.length
 zero:V.ν[0]?=some 0
 facts:∀f∈A.facts,nV V.toVal f
 heap:∀k h,A.heap[k]?=some h->HM PK V O0 Y k h
 dis:∀(k k':Nat) a b,k≠k'->V.own[k]?=some a->V.own[k']?=some b->∀i∈a,i∉b
 rng:∀(k:Nat) a,V.own[k]?=some a->∀i∈a,(O0.length<=i\/i∈O0.w)/\i<Y.length
 ρl:∀(k o:Nat),V.ρ[k]?=some (some o)->o<Y.length
 base:O0.length<=Y.length/\∀i,i<O0.length->i∉O0.w->Y[i]?=O0.s[i]?
 ok:Ok Y
section
variable{PK:PkI}{O0:Frm}{V:Vo}{A:Ab}{E:As}{Y:St}
theorem G.len(h:G PK O0 V A E Y):O0.length<=Y.length:=h.base.1
def G.old(h:G PK O0 V A E Y){i:Nat}(hi:i<O0.length)(hw:i∉O0.w):Y[i]?=O0.s[i]?:=h.base.2 i hi hw
def G.put(h:G PK O0 V A E Y){s:Sh}{v:AV}(hv:M V.toVal s v)(d:Nat):G PK O0 V {A with env:=(d,s)::A.env} ((d,v)::E) Y:=by
 refine⟨fun t s' ht=>?_,h.lν,h.lρ,h.lo,h.zero,h.facts,h.heap,h.dis,h.rng,h.ρl,h.base,h.ok⟩;simp only[la]at ht;simp only[look]
 grind [G]
def G.envle(h:G PK O0 V A E Y){l:List (Nat×Sh)}(hl:∀t s,la t l=some s->M V.toVal s (look E t)):G PK O0 V {A with env:=l} E Y:=
 ⟨hl,h.lν,h.lρ,h.lo,h.zero,h.facts,h.heap,h.dis,h.rng,h.ρl,h.base,h.ok⟩
def G.fact(h:G PK O0 V A E Y){f:Nat×Int×Nat}(hf:nV V.toVal f):G PK O0 V {A with facts:=f::A.facts} E Y:=by
 grind [G]
theorem HM.mono{N:Frm}{V V':Vo}(hle:V.toVal.le V'.toVal){k:Nat}(ho:V'.own[k]?=V.own[k]?){Y Y':St}(ht:∀a,V.own[k]?=some a->∀i∈a,Y'[i]?=Y[i]?)(hr:∀(i:Nat),i<N.length->i∉N.w->Y'[i]?=Y[i]?):∀{x:HO},HM PK V N Y k x->HM PK V' N Y' k x
 |.cells l,⟨o,cs,h1,h2,h3,h4⟩=>⟨o,cs,hle.ρ _ _ h1,ho.trans h2,(ht _ h2 o (by simp)).trans h3,h4.mono hle⟩
 |.ro l,⟨o,cs,fz,h1,h2,h3,h4,h5⟩=>⟨o,cs,fz,hle.ρ _ _ h1,ho.trans h2,h3,(hr o h3.1 h3.2).trans h4,h5.mono hle⟩
 |.arr a e,⟨n,h1,h⟩=>by
  refine⟨n,hle.ν _ _ h1,?_⟩;rcases h with⟨h2,h3⟩|⟨h2,o,rs,fz,h3,h4,h5,h6,h7⟩
  ·exact .inl ⟨h2,ho.trans h3⟩
  ·exact .inr ⟨h2,o,rs,fz,hle.ρ _ _ h3,ho.trans h4,(ht _ h4 o (by simp)).trans h5,h6,h7.mono hle⟩
 |.arrm a e,⟨n,h1,o,rs,fz,h3,h4,h5,h6,h7⟩=>⟨n,hle.ν _ _ h1,o,rs,fz,hle.ρ _ _ h3,ho.trans h4,(ht _ h4 o (by simp)).trans h5,h6,h7.mono hle⟩
 |.map v,⟨o,es,h1,h2,h3,h4⟩=>⟨o,es,hle.ρ _ _ h1,ho.trans h2,(ht _ h2 o (by simp)).trans h3,fun p hp=>⟨(h4 p hp).1,(h4 p hp).2.mono hle⟩⟩
 |.pk,⟨o,ms,h1,h2,h3⟩=>⟨o,ms,hle.ρ _ _ h1,ho.trans h2,PK.fr h3 (fun i hi=>ht _ h2 i hi)⟩
 |.dead,h=>ho.trans h
def G.sym(h:G PK O0 V A E Y)(a:Nat):∃V':Vo,V.toVal.le V'.toVal/\V'.ν[A.nx]?=some a/\V'.own=V.own/\G PK O0 V' {A with nx:=A.nx+1} E Y:=by
 have hle:V.toVal.le (⟨⟨V.ν++[a],V.ρ⟩,V.own⟩:Vo).toVal:=⟨fun i x hx=>by
  grind,fun i x hx=>hx⟩
 refine⟨⟨⟨V.ν++[a],V.ρ⟩,V.own⟩,hle,?_,rfl,?_⟩
 ·grind [G]
 ·refine⟨fun t s ht=>(h.env t s ht).mono hle,?_,h.lρ,h.lo,hle.ν _ _ h.zero,fun f hf=>(h.facts f hf).mono hle,fun k x hk=>(h.heap k x hk).mono hle rfl (fun _ _ _ _=>rfl) (fun _ _ _=>rfl),h.dis,h.rng,h.ρl,h.base,h.ok⟩
  grind [G]
def Ok.push{Y:St}(h:Ok Y){x:AO}(hx:x.below (Y.length+1)=true):Ok (Y++[x]):=h.app (l:=[x]) (by simpa using hx)
def G.new (h:G PK O0 V A E Y) {x:AO} {y:HO} (hx:x.below (Y.length+1)=true) (hy:∀V':Vo,V.toVal.le V'.toVal->V'.ρ[A.heap.length]?=some (some Y.length)->V'.own[A.heap.length]?=some [Y.length]->HM PK V' O0 (Y++[x]) A.heap.length y):
  ∃V':Vo,V.toVal.le V'.toVal/\V'.ρ[A.heap.length]?=some (some Y.length)/\V'.ν=V.ν/\V'.own=V.own++[[Y.length]]/\G PK O0 V' {A with heap:=A.heap++[y]} E (Y++[x]):=by
 have hle:V.toVal.le (⟨⟨V.ν,V.ρ++[some Y.length]⟩,V.own++[[Y.length]]⟩:Vo).toVal:=⟨fun i a ha=>ha,fun i a ha=>by
  grind⟩
 have hρ:(V.ρ++[some Y.length])[A.heap.length]?=some Y.length:=by rw[<-h.lρ];simp
 have hown:(V.own++[[Y.length]])[A.heap.length]?=some [Y.length]:=by rw[<-h.lo];simp
 have hoo:∀(k:Nat) a,(V.own++[[Y.length]])[k]?=some a->V.own[k]?=some a\/k=A.heap.length/\a=[Y.length]:=fun k a ha=>by
  grind [G]
 have hold:∀(i:Nat),i<Y.length->(Y++[x])[i]?=Y[i]?:=fun i hi=>av1 hi;refine⟨⟨⟨V.ν,V.ρ++[some Y.length]⟩,V.own++[[Y.length]]⟩,hle,hρ,rfl,rfl,fun t s ht=>(h.env t s ht).mono hle,h.lν,by simp[h.lρ],by simp[h.lo],h.zero,fun f hf=>(h.facts f hf).mono hle,fun k z hk=>?_,fun k k' a b hkk ha hb i hi hi'=>?_,fun k a ha i hi=>?_,fun k o hk=>?_,?_,h.ok.push hx⟩
 ·rw[ax2]at hk;split at hk
  ·rename_i hlt;refine(h.heap k z hk).mono hle ?_ (fun a ha i hi=>hold i (h.rng k a ha i hi).2) (fun i hi _=>hold i (ax8 hi h.len))
   grind
  grind
 ·rcases hoo k a ha with ha|⟨rfl,rfl⟩<;>rcases hoo k' b hb with hb|⟨rfl,rfl⟩
  ·exact h.dis k k' a b hkk ha hb i hi hi'
  ·grind [G]
  ·grind [G]
  ·exact hkk rfl
 ·grind [G]
 ·grind [G]
 grind [G]
def G.set(h:G PK O0 V A E Y){k o:Nat}{x:AO}{y:HO}(hk:k<A.heap.length)(hw:V.own[k]?=some [o])(hx:x.below Y.length=true)(hy:HM PK V O0 (Y.set o x) k y):G PK O0 V {A with heap:=A.heap.set k y} E (Y.set o x):=by
 have ho:=h.rng k [o] hw o (by simp)
 have hne:∀(i:Nat),i≠o->(Y.set o x)[i]?=Y[i]?:=fun i hi=>by rw[aA5 (Ne.symm hi)]
 refine⟨h.env,h.lν,by simp[h.lρ],by simp[h.lo],h.zero,h.facts,fun k' z hk'=>?_,h.dis,fun k' a ha i hi=>by simpa using h.rng k' a ha i hi,fun k' o' hk'=>by simpa using h.ρl k' o' hk',?_,?_⟩
 ·rw[List.getElem?_set]at hk';split at hk'
  ·grind
  ·rename_i hkk;refine(h.heap k' z hk').mono .rfl rfl (fun a ha i hi=>hne i fun e=>?_) (fun i hi hw'=>hne i fun e=>?_)
   ·grind [G]
   grind
 ·grind [G]
 grind [Ok,h.ok]
end
abbrev Fs:=List (Nat×Int×Nat)
def prove(F:Fs):Nat->Nat->Int->Nat->Bool
 |0,x,c,y=>(x==y||x==0)&&decide (c<=0)
 |d+1,x,c,y=>((x==y||x==0)&&decide (c<=0))||F.any fun f=>(f.1==x||x==0)&&prove F d f.2.2 (c-f.2.1) y
def JK{V:Val}{F:Fs}(h0:V.ν[0]?=some 0)(hF:∀f∈F,nV V f):∀(d x:Nat) (c:Int) (y a b:Nat),prove F d x c y=true->V.ν[x]?=some a->V.ν[y]?=some b->(a:Int)+c<=b:=by
 have base:∀(x:Nat) (c:Int) (y a b:Nat),((x==y||x==0)&&decide (c<=0))=true->V.ν[x]?=some a->V.ν[y]?=some b->(a:Int)+c<=b:=by
  grind
 intro d
 induction d with
 |zero=>exact fun x c y a b h ha hb=>base x c y a b h ha hb
 |succ d ih=>
  intro x c y a b h ha hb;rw[prove,az0]at h;rcases h with h|h
  ·exact base x c y a b h ha hb
  ·obtain⟨f,hf,hh⟩:=aC1.mp h;simp only[a01,az0,beq_iff_eq]at hh;obtain⟨hx,hh⟩:=hh;obtain⟨p,q,hp,hq,hpq⟩:=hF f hf;have:=ih _ _ _ _ _ hh hq hb
   grind
def PD:Nat:=4
def le?(F:Fs)(x:Nat)(c:Int)(y:Nat):Bool:=prove F PD x c y
def leN(F:Fs)(x:Nat)(n:Nat):Bool:=prove F PD x (-(n:Int)) 0
section
variable(F:Fs)(θ:List (Nat×Int))(θo:List Nat)
def ajT:Sh->Bool
 |.int .i64=>true
 |.ic .i64 _=>true
 |.sym _ _=>true
 |_=>false
def anG:Sh->Bool
 |.strb=>true
 |.sc s=>decide (s.length<=LB)
 |.strl i=>leN F i LB
 |_=>false
def OV(p:List Sh->Bool)(w:Nat):Nat->List Sh->Bool
 |0,l=>l.isEmpty
 |n+1,l=>match MH w l with
  |some (a,b)=>p a&&OV p w n b
  |none=>false
def akL:List Sh->Bool
 |[s]=>s.one&&anG F s
 |_=>false
def nmS:Sh->Option (Nat×Int)
 |.sl i [.strb]=>some (i,0)
 |.slc n l=>if OV (akL F) 1 n l then some (0,(n:Int))else none
 |_=>none
def ao5:Sh->Option Bool
 |.ic .u8 k=>some (k !=5)
 |.int .u8=>some false
 |_=>none
def jvP(a b c:Sh)(p q:Option (Nat×Int)):Bool:=match ao5 a,p,q with
 |some no,some p,some q=>ajT b&&anG F c&&le? F p.1 (p.2-q.2) q.1&&le? F q.1 (q.2-8192) 0&&(no||le? F q.1 (q.2-p.2) p.1)
 |_,_,_=>false
def jvN:Nat->List Sh->Bool
 |_,[.jv]=>true
 |_,[.jg _ _]=>true
 |n+1,[a,b,c,d,e]=>a.one&&b.one&&c.one&&d.one&&e.one&&jvP F a b c (nmS F d) (match e with
  |.slj j=>some (j,0)
  |.slc k m=>if OV (jvN n) 5 k m then some (0,(k:Int))else none
  |_=>none)
 |_,_=>false
def ak9(a b c d e:Sh):Bool:=jvN F 4 [a,b,c,d,e]
def yX(p:Option (Nat×Int))(i:Nat)(c:Int):Bool:=match p with
 |some (a,b)=>a==i&&b==c
 |none=>false
def eqO(p:Option Nat)(k:Nat):Bool:=match p with
 |some a=>a==k
 |none=>false
mutual
def sub:Sh->Sh->Bool
 |.undef,.undef=>true
 |.bool,.bool=>true
 |.bool,.bc _=>true
 |.bool,.tst ..=>true
 |.bool,.teq ..=>true
 |.bc a,.bc b=>a==b
 |.int k,.int k'=>k==k'
 |.int k,.ic k' _=>k==k'
 |.int k,.sym _ _=>k== .i64
 |.ic k n,.ic k' n'=>k==k'&&n==n'
 |.sym j c,.sym i d=>yX θ[j]? i (d-c)
 |.sym j c,.ic k n=>k== .i64&&yX θ[j]? 0 (n-c)
 |.str,.str=>true
 |.str,.strb=>true
 |.strb,.strb=>true
 |.strb,.strl i=>leN F i LB
 |.strb,.sc s=>decide (s.length<=LB)
 |.str,.sc _=>true
 |.str,.strl _=>true
 |.sc a,.sc b=>a==b
 |.strl i,.strl j=>yX θ[i]? j 0
 |.strl i,.sc s=>yX θ[i]? 0 s.length
 |.nilp,.nilp=>true
 |.nils,.nils=>true
 |.nilF,.nilF=>true
 |.nilI,.nilI=>true
 |.nilM,.nilM=>true
 |.sl i e,.sl j e'=>yX θ[i]? j 0&&subs e e'
 |.slx e,.sl j e'=>leN F j LS&&subs e e'
 |.slx e,.slx e'=>subs e e'
 |.slx e,.slc n l=>decide (n<=LS)&&OV (fun m=>subs e m) (wds e) n l
 |.slj i,.slj j=>yX θ[i]? j 0
 |.sljx,.slj j=>leN F j 8192
 |.sljx,.slc 0 []=>true
 |.sljx,.sljx=>true
 |.xsl n e,.xsl n' e'=>n==n'&&subs e e'
 |.slc n e,.slc n' e'=>n==n'&&subs e e'
 |.acc k a e,.nils=>yX θ[a]? 0 0
 |.acc k a e,.acc k' a' e'=>yX θ[a]? a' 0&&eqO θo[k]? k'&&wds e==wds e'
 |.acc k a e,.accm k' a' e'=>yX θ[a]? a' 0&&eqO θo[k]? k'&&wds e==wds e'&&le? F 0 1 a'
 |.accm k a e,.accm k' a' e'=>yX θ[a]? a' 0&&eqO θo[k]? k'&&wds e==wds e'
 |.agg l,.agg m=>subs l m
 |.tup l,.tup m=>O6 l m
 |.jv,.jv=>true
 |.jv,.jg _ _=>true
 |.jv,.agg [a,b,c,d,e]=>a.one&&b.one&&c.one&&d.one&&e.one&&ak9 F a b c d e
 |.jg a b,.jg c d=>yX θ[a]? c 0&&yX θ[b]? d 0
 |.ref k o,.ref k' o'=>eqO θo[k]? k'&&o==o'
 |.eptr o l,.eptr o' m=>o==o'&&subs l m
 |.map k,.map k'=>eqO θo[k]? k'
 |.pk k,.pk k'=>eqO θo[k]? k'
 |.func f x y,.func f' x' y'=>f==f'&&O6 x x'&&O6 y y'
 |.iface t v,.iface t' v'=>t==t'&&sub v v'
 |_,_=>false
def subs:List Sh->List Sh->Bool
 |[],[]=>true
 |.jv::l,.jv::m=>subs l m
 |.jv::l,.jg _ _::m=>subs l m
 |.jv::l,a::b::c::d::e::m=>a.one&&b.one&&c.one&&d.one&&e.one&&ak9 F a b c d e&&subs l m
 |.jg a b::l,.jg c d::m=>yX θ[a]? c 0&&yX θ[b]? d 0&&subs l m
 |s::l,s'::m=>s.one&&s'.one&&sub s s'&&subs l m
 |_,_=>false
def O6:List Sh->List Sh->Bool
 |[],[]=>true
 |s::l,s'::m=>sub s s'&&O6 l m
 |_,_=>false
end
end
structure Sb(F:Fs)(θ:List (Nat×Int))(θo:List Nat)(V W:Val):Prop where
 zero:V.ν[0]?=some 0
 facts:∀f∈F,nV V f
 sym:∀(j i:Nat) (c:Int),yX θ[j]? i c=true->∀a:Nat,V.ν[i]?=some a->∃b:Nat,W.ν[j]?=some b/\(b:Int)=a+c
 obj:∀(k k' o:Nat),eqO θo[k]? k'=true->V.ρ[k']?=some (some o)->W.ρ[k]?=some (some o)
section
variable{F:Fs}{θ:List (Nat×Int)}{θo:List Nat}{V W:Val}
theorem abm(hs:Sb F θ θo V W){x n a:Nat}(h:leN F x n=true)(ha:V.ν[x]?=some a):a<=n:=by
 have:=JK hs.zero hs.facts _ _ _ _ _ _ h ha hs.zero;omega
theorem S9(hs:Sb F θ θo V W){x y a b:Nat}{c:Int}(h:le? F x c y=true)(ha:V.ν[x]?=some a)(hb:V.ν[y]?=some b):(a:Int)+c<=b:=JK hs.zero hs.facts _ _ _ _ _ _ h ha hb
theorem Sb.eqS(hs:Sb F θ θo V W){j i:Nat}(h:yX θ[j]? i 0=true){a:Nat}(ha:V.ν[i]?=some a):W.ν[j]?=some a:=by
 grind [Sb]
theorem TD:∀{rs:List LA},MRs V [.strb] rs->∃ns:List LU,rs.flatten=ns.map AV.str/\ns.length=rs.length/\∀x∈ns,x.length<=LB
 |_,.nil _=>⟨[],rfl,rfl,by simp⟩
 |_,.cons _ r rs x y=>by
  obtain⟨ns,h1,h2,h3⟩:=TD y;cases x with
  |one _ _ v b h4 h5 h6=>
   cases h6;cases h5 with
   |strb s hs=>exact⟨s::ns,by rw[ax3,h1];rfl,by simp[h2],fun x hx=>by
    grind⟩
theorem JL.sub(hs:Sb F θ θo V W){a b c d:Nat}{j:JV}(h1:yX θ[a]? c 0=true)(h2:yX θ[b]? d 0=true)(h:JL V c d j):JL W a b j:=by
 obtain⟨k,n,t,ns,is,x1,x3,x2,x4,e,ec,ed⟩:=h;exact⟨k,n,t,ns,is,x1,x3,x2,x4,e,hs.eqS h1 ec,hs.eqS h2 ed⟩
theorem acv:∀{l:List Sh} {n:Nat} {a b:List Sh},MH n l=some (a,b)->SizeOf.sizeOf a<=SizeOf.sizeOf l/\SizeOf.sizeOf b<=SizeOf.sizeOf l
 |l,0,a,b,h=>by
  simp only[MH,a05,av6]at h;obtain⟨rfl,rfl⟩:=h;refine⟨?_,a06 _⟩;cases l<;>simp;omega
 |[],n+1,a,b,h=>by simp[MH]at h
 |s::l,n+1,a,b,h=>by
  simp only[MH]at h;split at h
  ·split at h
   ·rename_i x y hxy;simp only[a05,av6]at h;obtain⟨rfl,rfl⟩:=h;have:=acv hxy;simp;omega
   ·cases h
  ·cases h
theorem rows_ok{V W:Val}{e:List Sh}{p:List Sh->Bool}{N:Nat}(hp:∀{a:List Sh} {v:LA},SizeOf.sizeOf a<=N->p a=true->Ms V a v->Ms W e v):∀{n:Nat} {l:List Sh} {v:LA},SizeOf.sizeOf l<=N->OV p (wds e) n l=true->Ms V l v->∃rs:List LA,rs.length=n/\v=rs.flatten/\MRs W e rs
 |0,l,v,hl,h,hv=>by
  simp only[OV,List.isEmpty_iff]at h;subst h;cases hv;exact⟨[],rfl,rfl,.nil _⟩
 |n+1,l,v,hl,h,hv=>by
  simp only[OV]at h;split at h
  ·rename_i a b hc;rw[a01]at h;obtain⟨x,y,rfl,h2,h3,h4⟩:=hv.cut hc;have hz:=acv hc;obtain⟨rs,e1,e2,e3⟩:=rows_ok hp (by omega) h.2 h4
   exact⟨x::rs,by simp[e1],by rw[ax3,e2],.cons _ _ _ (hp (by omega) h.1 h3) e3⟩
  ·cases h
theorem MRs.map{V W:Val}{l l':List Sh}(h:∀r,Ms V l' r->Ms W l r):∀{rs:List LA},MRs V l' rs->MRs W l rs
 |_,.nil _=>.nil _
 |_,.cons _ r rs x y=>.cons _ _ _ (h r x) (MRs.map h y)
theorem Ms.inv{V:Val}{q:Sh}{t:List Sh}{r:LA}(h:Ms V (q::t) r)(ho:q.one=true):∃v r',r=v::r'/\M V q v/\Ms V t r':=by
 cases h with
 |one _ _ v b _ hv ht=>exact⟨v,b,rfl,hv,ht⟩
 |jv=>cases ho
 |jg a b=>cases ho
theorem ajU{s:Sh}{v:AV}(h:ajT s=true)(hv:M V s v):∃n,v=.int .i64 n:=by
 cases hv<;>first|(cases h;done)|skip
 ·rename_i k n;cases k<;>first|(cases h;done)|exact⟨_,rfl⟩
 ·rename_i k n;cases k<;>first|(cases h;done)|exact⟨_,rfl⟩
 ·exact⟨_,rfl⟩
theorem ah9(hs:Sb F θ θo V W){s:Sh}{v:AV}(h:anG F s=true)(hv:M V s v):∃n,v=.str n/\n.length<=LB:=by
 unfold anG at h;split at h
 ·grind [M]
 ·grind [M]
 ·cases hv with|strl i s e=>exact⟨s,rfl,abm hs h e⟩
 ·cases h
theorem apw(hs:Sb F θ θo V W){d:Sh}{p:Nat×Int}{v:AV}(h:nmS F d=some p)(hv:M V d v):∃(ns:List LU) (m:Nat),v=.sl ns.length (ns.map .str)/\V.ν[p.1]?=some m/\(ns.length:Int)=m+p.2/\∀x∈ns,x.length<=LB:=by
 unfold nmS at h;split at h
 ·cases h;cases hv with
  |sl _ _ rs hi hr=>
   obtain⟨ns,e1,e2,e3⟩:=TD hr
   grind
 ·rename_i n l;split at h
  ·rename_i hr;cases h;cases hv with
   |slc _ _ w hw=>
    obtain⟨rs,e1,rfl,e3⟩:=rows_ok (W:=V) (e:=[.strb]) (fun{x y} _ hx hy=>by
     unfold akL at hx;split at hx
     ·rename_i s;rw[a01]at hx;obtain⟨z,r,rfl,hz,hn⟩:=Ms.inv hy hx.1;cases hn;obtain⟨t,rfl,ht⟩:=ah9 hs hx.2 hz;exact .one _ _ _ _ rfl (.strb t ht) .nil
     ·cases hx) (a06 _) hr hw
    grind [TD,hs.zero]
  ·cases h
 ·cases h
theorem ZW{V:Val}:∀{rs:List LA},MRs V [.jv] rs->∃is:List JV,is.length=rs.length/\rs.flatten=aJ is
 |_,.nil _=>⟨[],rfl,rfl⟩
 |_,.cons _ r rs x y=>by
  obtain⟨is,h1,h2⟩:=ZW y;cases x with
  |one _ _ _ _ h=>cases h
  |jv _ j b hb=>
   cases hb;exact⟨j::is,by simp[h1],by rw[ax3,h2,aJ,au6]⟩
theorem aeU(hs:Sb F θ θo V W):∀(n:Nat) {l:List Sh} {v:LA},jvN F n l=true->Ms V l v->∃j:JV,v=j.cs
 |n,l,v,h,hv=>by
  unfold jvN at h;split at h
  ·cases hv with
   |one _ _ _ _ x=>cases x
   |jv _ j b y=>cases y;exact⟨j,by simp⟩
  ·cases hv with
   |one _ _ _ _ x=>cases x
   |jg _ _ _ j r x y=>cases y;exact⟨j,by simp⟩
  ·rename_i n a b c d e;simp only[a01]at h;obtain⟨⟨⟨⟨⟨o1,o2⟩,o3⟩,o4⟩,o5⟩,hq⟩:=h;obtain⟨va,r1,rfl,ma,hv⟩:=hv.inv o1;obtain⟨vb,r2,rfl,mb,hv⟩:=hv.inv o2;obtain⟨vc,r3,rfl,mc,hv⟩:=hv.inv o3;obtain⟨vd,r4,rfl,md,hv⟩:=hv.inv o4;obtain⟨ve,r5,rfl,me,hv⟩:=hv.inv o5;cases hv;unfold jvP at hq;split at hq
   ·rename_i no p q hk hp hi;simp only[a01,az0]at hq;obtain⟨⟨⟨⟨h1,h2⟩,h3⟩,h4⟩,h5⟩:=hq;obtain⟨vn,rfl⟩:=ajU h1 mb;obtain⟨vt,rfl,hvt⟩:=ah9 hs h2 mc;obtain⟨ns,m,rfl,hm,hns,hnb⟩:=apw hs hp md;have hit:∃(is:List JV) (m':Nat),ve=.sl is.length (aJ is)/\V.ν[q.1]?=some m'/\(is.length:Int)=m'+q.2:=by
     split at hi
     ·cases hi;cases me with|slj _ is hj=>grind
     ·rename_i k mm;split at hi
      ·rename_i hr;cases hi;cases me with
       |slc _ _ w hw=>
        obtain⟨rs,e1,rfl,e3⟩:=rows_ok (W:=V) (e:=[.jv]) (fun{x y} _ hx hy=>by
         obtain⟨j,rfl⟩:=aeU hs n hx hy;have:=Ms.jv (V:=V) [] j [] .nil;rwa[au6]at this) (a06 _) hr hw
        grind [ZW,hs.zero]
      ·cases hi
     ·cases hi
    obtain⟨is,m',rfl,hm',his⟩:=hit;have l1:=S9 hs h3 hm hm';have l2:=S9 hs h4 hm' hs.zero;obtain⟨k,rfl,hk5⟩:∃k,va=.int .u8 k/\(no=true->k≠5):=by
     unfold ao5 at hk;split at hk
     ·cases hk;cases ma;grind
     ·cases hk;cases ma;exact⟨_,rfl,fun h=>by cases h⟩
     ·cases hk
    refine⟨JV.mk k vn vt ns is (by omega) (fun hk=>?_) (by omega) ⟨hvt,hnb⟩,by rw[JV.mk_cs]⟩
    rcases h5 with h5|h5
    ·exact absurd hk (hk5 h5)
    ·have:=S9 hs h5 hm' hm;omega
   ·cases hq
  ·cases h
theorem agA(hs:Sb F θ θo V W){a b c d e:Sh}{va vb vc vd ve:AV}(h:ak9 F a b c d e=true)(ha:M V a va)(hb:M V b vb)(hc:M V c vc)(hd:M V d vd)(he:M V e ve):∃j:JV,[va,vb,vc,vd,ve]=j.cs:=by
 have h':=h;unfold ak9 jvN at h';simp only[a01]at h';obtain⟨⟨⟨⟨⟨o1,o2⟩,o3⟩,o4⟩,o5⟩,_⟩:=h';exact aeU hs 4 h (.one _ _ _ _ o1 ha (.one _ _ _ _ o2 hb (.one _ _ _ _ o3 hc (.one _ _ _ _ o4 hd (.one _ _ _ _ o5 he .nil)))))
def afK(F:Fs)(θ:List (Nat×Int))(θo:List Nat)(V W:Val)(N:Nat):Prop:=
 (∀(s':Sh) (v:AV),SizeOf.sizeOf s'<=N->M V s' v->∀(s:Sh),sub F θ θo s s'=true->M W s v)/\
 (∀(l':List Sh) (v:LA),SizeOf.sizeOf l'<=N->Ms V l' v->∀(l:List Sh),subs F θ θo l l'=true->Ms W l v)/\
 (∀(l':List Sh) (v:LA),SizeOf.sizeOf l'<=N->Mt V l' v->∀(l:List Sh),O6 F θ θo l l'=true->Mt W l v)
theorem alK(hs:Sb F θ θo V W){N:Nat}(ih:afK F θ θo V W N):∀(s':Sh) (v:AV),SizeOf.sizeOf s'<=N+1->M V s' v->∀(s:Sh),sub F θ θo s s'=true->M W s v:=by
 intro s' v hz hv s h;cases hv with
 |undef=>grind [sub,M]
 |bool b=>grind [sub,M]
 |bc b=>cases s<;>first|(simp[sub]at h;done)|exact .bool _|(simp[sub]at h;subst h;exact .bc _)
 |tst x c y a b e f=>cases s<;>first|(simp[sub]at h;done)|exact .bool _
 |teq p x c y a b e f=>cases s<;>first|(simp[sub]at h;done)|exact .bool _
 |int k n=>cases s<;>first|(simp[sub]at h;done)|grind [sub,M]
 |ic k n=>
  cases s<;>first|(simp[sub]at h;done)|skip
  ·simp[sub]at h;subst h;exact .int _ _
  ·grind [sub,M]
  ·rename_i j c;simp[sub]at h;obtain⟨rfl,h⟩:=h;obtain⟨b,h1,h2⟩:=hs.sym _ _ _ h 0 hs.zero;have:=M.sym (V:=W) j c b h1
   grind
 |sym i d a e=>
  cases s<;>first|(simp[sub]at h;done)|skip
  ·simp[sub]at h;subst h;exact .int _ _
  ·rename_i j c;simp[sub]at h;obtain⟨b,h1,h2⟩:=hs.sym _ _ _ h a e;have:=M.sym (V:=W) j c b h1
   grind
 |str t=>grind [sub,M]
 |strb t e=>cases s<;>first|(simp[sub]at h;done)|exact .str _|exact .strb _ e
 |sc t=>
  cases s<;>first|(simp[sub]at h;done)|exact .str _|(refine .strb _ ?_;simpa[sub]using h)|skip
  ·simp[sub]at h;subst h;exact .sc _
  grind [sub,M,Sb]
 |strl i t e=>
  cases s<;>first|(simp[sub]at h;done)|exact .str _|(refine .strb _ ?_;simp[sub]at h;exact abm hs h e)|skip
  simp[sub]at h;exact .strl _ t (hs.eqS h e)
 |nilp=>cases s<;>first|(simp[sub]at h;done)|exact .nilp
 |nils=>
  cases s<;>first|(simp[sub]at h;done)|exact .nils|skip
  rename_i k a e;simp[sub]at h;exact .acc0 k a e (hs.eqS h hs.zero)
 |nilF=>cases s<;>first|(simp[sub]at h;done)|exact .nilF
 |nilI=>cases s<;>first|(simp[sub]at h;done)|exact .nilI
 |nilM=>grind [sub,M]
 |sl i e rs a b=>
  cases s<;>first|(simp[sub]at h;done)|skip
  ·simp[sub]at h;exact .sl _ _ rs (hs.eqS h.1 a) (MRs.map (fun r hr=>ih.2.1 e _ (by simp at hz;omega) hr _ h.2) b)
  ·simp[sub]at h;exact .slx _ rs (abm hs h.1 a) (MRs.map (fun r hr=>ih.2.1 e _ (by simp at hz;omega) hr _ h.2) b)
 |slx e rs a b=>
  cases s<;>first|(simp[sub]at h;done)|skip
  simp[sub]at h;exact .slx _ rs a (MRs.map (fun r hr=>ih.2.1 e _ (by simp at hz;omega) hr _ h) b)
 |slj i is a=>
  cases s<;>first|(simp[sub]at h;done)|skip
  ·grind [sub,M,Sb]
  ·simp[sub]at h;exact .sljx is (abm hs h a)
 |sljx is a=>grind [sub,M]
 |xsl n e l a=>
  cases s<;>first|(simp[sub]at h;done)|skip
  simp[sub]at h;obtain⟨rfl,h⟩:=h;exact .xsl _ _ _ (ih.2.1 _ _ (by simp at hz;omega) a _ h)
 |slc n e l a=>
  cases s<;>first|(simp[sub]at h;done)|skip
  ·simp[sub]at h;obtain⟨rs,e1,e2,e3⟩:=rows_ok (W:=W) (N:=N) (fun{x y} hle hx hy=>ih.2.1 x _ hle hy _ hx) (by simp at hz;omega) h.2 a
   grind [M]
  ·cases n with
   |zero=>
    cases e with
    |nil=>cases a;exact .sljx [] (by simp)
    |cons _ _=>simp[sub]at h
   |succ n=>simp[sub]at h
  ·simp[sub]at h;obtain⟨rfl,h⟩:=h;exact .slc _ _ _ (ih.2.1 _ _ (by simp at hz;omega) a _ h)
 |acc0 k a e x=>
  cases s<;>first|(simp[sub]at h;done)|skip
  grind [sub,M,Sb]
 |acc k a e o n x y z=>
  cases s<;>first|(simp[sub]at h;done)|skip
  grind [sub,M,Sb]
 |accm k a e o n x z=>
  cases s<;>first|(simp[sub]at h;done)|skip
  ·simp[sub]at h;obtain⟨⟨⟨h1,h2⟩,h3⟩,h4⟩:=h;rw[<-h3];have:=S9 hs h4 hs.zero x;exact .acc _ _ _ o n (hs.eqS h1 x) (by omega) (hs.obj _ _ _ h2 z)
  grind [sub,M,Sb]
 |agg l v a=>
  cases s<;>first|(simp[sub]at h;done)|skip
  ·simp[sub]at h;exact .agg _ _ (ih.2.1 _ _ (by simp at hz;omega) a _ h)
  ·have:∃x y z u w,l=[x,y,z,u,w]/\(x.one&&y.one&&z.one&&u.one&&w.one&&ak9 F x y z u w)=true:=by
    rcases l with _|⟨x,_|⟨y,_|⟨z,_|⟨u,_|⟨w,_|⟨w',l⟩⟩⟩⟩⟩⟩<;>first|(simp[sub]at h;done)|exact⟨_,_,_,_,_,rfl,h⟩
   obtain⟨x,y,z,u,w,rfl,hq⟩:=this;simp only[a01]at hq;obtain⟨⟨⟨⟨⟨o1,o2⟩,o3⟩,o4⟩,o5⟩,hq⟩:=hq;obtain⟨v1,r1,rfl,m1,a⟩:=a.inv o1;obtain⟨v2,r2,rfl,m2,a⟩:=a.inv o2;obtain⟨v3,r3,rfl,m3,a⟩:=a.inv o3;obtain⟨v4,r4,rfl,m4,a⟩:=a.inv o4;obtain⟨v5,r5,rfl,m5,a⟩:=a.inv o5;cases a;obtain⟨j,hj⟩:=agA hs hq m1 m2 m3 m4 m5;rw[hj];exact .jv j
 |tup l v a=>
  cases s<;>first|(simp[sub]at h;done)|skip
  simp[sub]at h;exact .tup _ _ (ih.2.2 _ _ (by simp at hz;omega) a _ h)
 |jv j=>grind [sub,M]
 |jg a b j x=>
  cases s<;>first|(simp[sub]at h;done)|exact .jv j|skip
  grind [sub,JL.sub,M]
 |ref k off o a=>
  cases s<;>first|(simp[sub]at h;done)|skip
  grind [sub,M,Sb]
 |eptr off l v r a c b=>
  cases s<;>first|(simp[sub]at h;done)|skip
  simp[sub]at h;obtain⟨rfl,h⟩:=h;exact .eptr _ _ _ _ (ih.2.1 _ _ (by simp at hz;omega) a _ h) c b
 |map k o a=>
  cases s<;>first|(simp[sub]at h;done)|skip
  grind [sub,M,Sb]
 |pk k o a=>
  cases s<;>first|(simp[sub]at h;done)|skip
  grind [sub,M,Sb]
 |func f x y u v a b=>
  cases s<;>first|(simp[sub]at h;done)|skip
  simp[sub]at h;obtain⟨⟨rfl,h1⟩,h2⟩:=h;exact .func _ _ _ _ _ (ih.2.2 _ _ (by simp at hz;omega) a _ h1) (ih.2.2 _ _ (by simp at hz;omega) b _ h2)
 |iface t s' v a=>
  cases s<;>first|(simp[sub]at h;done)|skip
  simp[sub]at h;obtain⟨rfl,h⟩:=h;exact .iface _ _ _ (ih.1 _ _ (by simp at hz;omega) a _ h)
theorem aiw(hs:Sb F θ θo V W){N:Nat}(ih:afK F θ θo V W N):∀(l':List Sh) (v:LA),SizeOf.sizeOf l'<=N+1->Ms V l' v->∀(l:List Sh),subs F θ θo l l'=true->Ms W l v:=by
 intro l' v hz hv l h;unfold subs at h;split at h
 ·cases hv;exact .nil
 ·rename_i l m;simp at hz;cases hv with
  |one _ _ _ _ x=>cases x
  |jv _ j b y=>exact .jv _ j _ (ih.2.1 m _ (by omega) y _ h)
 ·rename_i l a b m;simp at hz;cases hv with
  |one _ _ _ _ x=>cases x
  |jg _ _ _ j r x y=>exact .jv _ j _ (ih.2.1 m _ (by omega) y _ h)
 ·rename_i l a b c d e m _ _;simp at hz;simp only[a01]at h;obtain⟨⟨⟨⟨⟨⟨o1,o2⟩,o3⟩,o4⟩,o5⟩,h1⟩,h2⟩:=h;cases hv with
  |one _ _ va _ _ ha hv=>
   cases hv with
   |one _ _ vb _ _ hb hv=>
    cases hv with
    |one _ _ vc _ _ hc hv=>
     cases hv with
     |one _ _ vd _ _ hd hv=>
      cases hv with
      |one _ _ ve r _ he hv=>
       obtain⟨j,hj⟩:=agA hs h1 ha hb hc hd he;have:=Ms.jv (V:=W) _ j _ (ih.2.1 m _ (by omega) hv _ h2)
       grind
      |jv=>cases o5
      |jg=>cases o5
     |jv=>cases o4
     |jg=>cases o4
    |jv=>cases o3
    |jg=>cases o3
   |jv=>cases o2
   |jg=>cases o2
  |jv=>cases o1
  |jg=>cases o1
 ·rename_i a b l c d m;simp at hz;simp only[a01]at h;cases hv with
  |one _ _ _ _ x=>cases x
  |jg _ _ _ j r x y=>exact .jg _ _ _ j _ (JL.sub hs h.1.1 h.1.2 x) (ih.2.1 m _ (by omega) y _ h.2)
 ·rename_i s l s' m _ _ _ _;simp at hz;simp only[a01]at h;cases hv with
  |one _ _ v b _ x y=>exact .one _ _ _ _ h.1.1.1 (ih.1 s' _ (by omega) x _ h.1.2) (ih.2.1 m _ (by omega) y _ h.2)
  |jv=>cases h.1.1.2
  |jg=>cases h.1.1.2
 ·cases h
theorem aix(hs:Sb F θ θo V W){N:Nat}(ih:afK F θ θo V W N):∀(l':List Sh) (v:LA),SizeOf.sizeOf l'<=N+1->Mt V l' v->∀(l:List Sh),O6 F θ θo l l'=true->Mt W l v:=by
 intro l' v hz hv l h;unfold O6 at h;split at h
 ·cases hv;exact .nil
 ·rename_i s l s' m;simp at hz;rw[a01]at h;cases hv with
  |cons _ _ v b x y=>exact .cons _ _ _ _ (ih.1 s' _ (by omega) x _ h.1) (ih.2.2 m _ (by omega) y _ h.2)
 ·cases h
theorem L9(hs:Sb F θ θo V W):∀N,afK F θ θo V W N
 |0=>⟨fun s' v hz=>by cases s'<;>simp at hz,fun l' v hz=>by cases l'<;>simp at hz,fun l' v hz=>by cases l'<;>simp at hz⟩
 |N+1=>⟨alK hs (L9 hs N),aiw hs (L9 hs N),aix hs (L9 hs N)⟩
theorem TG(hs:Sb F θ θo V W){s s':Sh}{v:AV}(hv:M V s' v)(h:sub F θ θo s s'=true):M W s v:=(L9 hs _).1 s' v (a06 _) hv s h
theorem Dh(hs:Sb F θ θo V W){l l':List Sh}{v:LA}(hv:Ms V l' v)(h:subs F θ θo l l'=true):Ms W l v:=(L9 hs _).2.1 l' v (a06 _) hv l h
theorem RI(hs:Sb F θ θo V W){l l':List Sh}{v:LA}(hv:Mt V l' v)(h:O6 F θ θo l l'=true):Mt W l v:=(L9 hs _).2.2 l' v (a06 _) hv l h
end
inductive Sm where
 |pure (args:List Sh) (res:Sh)
 |ro (l args:List Sh) (res:Sh)
 |pof (args:List Sh)
 |pk (args:List Sh) (res:Sh)
 |chg (H:List HO) (args:List Sh) (res:Sh)
structure Cfg where
 gl:Nat->Option Sh
 sm:FuncId->List Sm
 mt:TypeId->String->Option FuncId
mutual
def shC:AV->Option Sh
 |.bool b=>some (.bc b)
 |.int k n=>some (.ic k n)
 |.str s=>some (.sc s)
 |.nilp=>some .nilp
 |.nils=>some .nils
 |.nilFunc=>some .nilF
 |.nilIface=>some .nilI
 |.nilMap=>some .nilM
 |.func f x y=>match abN x,abN y with
  |some x,some y=>some (.func f x y)
  |_,_=>none
 |.tup []=>some .undef
 |_=>none
def abN:LA->Option (List Sh)
 |[]=>some []
 |v::l=>match shC v,abN l with
  |some s,some t=>some (s::t)
  |_,_=>none
end
def avS(X:Cfg)(A:Ab):XA->Option Sh
 |.t n=>la n A.env
 |.c v=>shC v
 |.g n=>X.gl n
def aci(X:Cfg)(A:Ab):List XA->Option (List Sh)
 |[]=>some []
 |x::l=>match avS X A x,aci X A l with
  |some s,some t=>some (s::t)
  |_,_=>none
def rG:List Sh->Nat->List Sh×Nat×Fs
 |[],n=>([],n,[])
 |.jv::l,n=>let(t,m,f):=rG l (n+2);(.jg n (n+1)::t,m,(n,0,n+1)::(n+1,-8192,0)::f)
 |.slx e::l,n=>let(t,m,f):=rG l (n+1);(.sl n e::t,m,(n,-(LS:Int),0)::f)
 |.sljx::l,n=>let(t,m,f):=rG l (n+1);(.slj n::t,m,(n,-8192,0)::f)
 |.str::l,n=>let(t,m,f):=rG l (n+1);(.strl n::t,m,f)
 |.strb::l,n=>let(t,m,f):=rG l (n+1);(.strl n::t,m,(n,-(LB:Int),0)::f)
 |s::l,n=>let(t,m,f):=rG l n;(s::t,m,f)
def opened(A:Ab)(l:List Sh):List Sh×Ab:=
 let(t,m,f):=rG l A.nx
 (t,{A with nx:=m,facts:=f++A.facts})
def cellsS:Sh->Option (List Sh)
 |.agg l=>some l
 |.jv=>some [.jv]
 |.jg a b=>some [.jg a b]
 |s=>if s.one then some [s]else none
def QW:List Sh->Sh
 |[.jv]=>.jv
 |[.jg a b]=>.jg a b
 |l=>.agg l
def adq(A:Ab):Sh->Sh×Ab
 |.agg l=>let(t,A):=opened A l;(.agg t,A)
 |.jv=>let(t,A):=opened A [.jv];(QW t,A)
 |s=>if s.one then(match opened A [s]with
  |([t],A)=>(t,A)
  |_=>(s,A))else(s,A)
def Gp(A:Ab):List Sh->List Sh×Ab
 |[]=>([],A)
 |s::l=>let(s,A):=adq A s;let(t,A):=Gp A l;(s::t,A)
def Gn(A:Ab):Sh->Sh×Ab
 |.tup l=>let(t,A):=Gp A l;(.tup t,A)
 |s=>adq A s
def cellAt:List Sh->Nat->Option Sh
 |[],_=>none
 |.jg a b::l,n=>match n with
  |0=>some (.int .u8)
  |1=>some (.int .i64)
  |2=>some .strb
  |3=>some (.sl a [.strb])
  |4=>some (.slj b)
  |n+5=>cellAt l n
 |.jv::l,n=>match n with
  |n+5=>cellAt l n
  |_=>none
 |s::l,n=>match n with
  |0=>some s
  |n+1=>cellAt l n
def Xm(ag:Bool)(sz:Nat)(l:List Sh)(off:Nat):Option Sh:=
 if ag then(match MH off l with
  |some (_,b)=>match MH sz b with
   |some (c,_)=>some (QW c)
   |none=>none
  |none=>none)else cellAt l off
def VI(l:List Sh)(off:Nat)(u:List Sh)(sz:Nat):Option (List Sh):=
 if wds u==sz then(match MH off l with
  |some (a,b)=>match MH sz b with
   |some (_,d)=>some (a++u++d)
   |none=>none
  |none=>none)else none
def acN(X:Cfg)(A:Ab):List Sh->List (Nat×Nat×XA)->Option (List Sh)
 |l,[]=>some l
 |l,(off,sz,x)::ps=>match avS X A x with
  |some s=>match cellsS s with
   |some u=>match VI l off u sz with
    |some l=>acN X A l ps
    |none=>none
   |none=>none
  |none=>none
def apX(z:List Sh):Nat->List Sh
 |0=>[]
 |n+1=>z++apX z n
def lin:Sh->Option (Nat×Int)
 |.sym j c=>some (j,c)
 |.ic .i64 n=>some (0,n)
 |_=>none
def isInt:Sh->Option IntKind
 |.int k=>some k
 |.ic k _=>some k
 |.sym _ _=>some .i64
 |_=>none
def H7:Sh->Bool
 |.str=>true
 |.strb=>true
 |.sc _=>true
 |.strl _=>true
 |_=>false
def small(c:Int):Bool:=decide (-1099511627776<=c)&&decide (c<=1099511627776)
def EZ:BinOp->Bool
 |.eql=>true
 |_=>false
def acI:Nat->List Sh->List Sh->Bool
  |_,[],[]=>true
  |c,s::l,t::m=>s.one&&t.one&&(if c%3=0 then H7 s&&H7 t else if c%3=1 then isBoolS s&&isBoolS t else(match isInt s,isInt t with
   |some k,some k'=>k==k'
   |_,_=>false))&&acI (c/3) l m
  |_,_,_=>false
 where
  isBoolS:Sh->Bool
   |.bool=>true
   |.bc _=>true
   |.tst ..=>true
   |.teq ..=>true
   |_=>false
def amB(e cst:Bool)(ek:Nat)(x y:Sh):Option Sh:=
 match ek,x,y with
 |n+8,.agg l,.agg m=>if wds l==n%1024&&acI (n/1024) l m then some .bool else none
 |3,.nilp,.nilp=>some (.bc e)
 |3,.ref ..,.nilp=>some (.bc !e)
 |3,.pk _,.nilp=>some (.bc !e)
 |3,.eptr ..,.nilp=>some (.bc !e)
 |5,.nilI,.nilI=>if cst then some (.bc e)else none
 |5,.iface ..,.nilI=>some (.bc !e)
 |7,.nils,.nils=>some (.bc e)
 |_,_,_=>none
def aho(F:Fs)(op:BinOp)(ek:Nat)(cst:Bool)(x y:Sh):Option Sh:=
 match isInt x,isInt y with
 |some k,some k'=>
  match op with
  |.shl|.shr=>match y with
   |.ic _ n=>if 0<=n then some (.int k)else none
   |_=>none
  |_=>if k !=k' then none else
   match op with
   |.eql|.neq=>match lin x,lin y with
    |some (a,c),some (b,d)=>some (if a=b then .bc (decide (c=d)==EZ op)else .teq (EZ op) a (c-d) b)
    |_,_=>some .bool
   |.lss=>match lin x,lin y with
    |some (a,c),some (b,d)=>some (if a=b then .bc (decide (c<d))else .tst a (c-d+1) b)
    |_,_=>some .bool
   |.leq=>match lin x,lin y with
    |some (a,c),some (b,d)=>some (if a=b then .bc (decide (c<=d))else .tst a (c-d) b)
    |_,_=>some .bool
   |.gtr=>match lin x,lin y with
    |some (a,c),some (b,d)=>some (if a=b then .bc (decide (c>d))else .tst b (d-c+1) a)
    |_,_=>some .bool
   |.geq=>match lin x,lin y with
    |some (a,c),some (b,d)=>some (if a=b then .bc (decide (c>=d))else .tst b (d-c) a)
    |_,_=>some .bool
   |.add=>match x,y with
    |.sym j c,.ic .i64 n=>if leN F j LB&&small c&&small n then some (.sym j (c+n))else some (.int k)
    |.ic .i64 n,.sym j c=>if leN F j LB&&small c&&small n then some (.sym j (c+n))else some (.int k)
    |.ic .i64 m,.ic .i64 n=>if small m&&small n then some (.ic .i64 (m+n))else some (.int k)
    |_,_=>some (.int k)
   |.sub=>match x,y with
    |.sym j c,.ic .i64 n=>if leN F j LB&&small c&&small n then some (.sym j (c-n))else some (.int k)
    |.ic .i64 m,.ic .i64 n=>if small m&&small n then some (.ic .i64 (m-n))else some (.int k)
    |_,_=>some (.int k)
   |.quo|.rem=>match y with
    |.ic _ n=>if n !=0 then some (.int k)else none
    |_=>none
   |_=>some (.int k)
 |_,_=>
  if H7 x&&H7 y then(match op with
   |.eql|.neq=>match x,y with
    |.strl i,.sc []=>some (.teq (EZ op) i 0 0)
    |.sc [],.strl i=>some (.teq (EZ op) i 0 0)
    |_,_=>some .bool
   |.lss|.leq|.gtr|.geq=>some .bool
   |_=>none)else
  match op with
  |.eql|.neq=>amB (EZ op) cst ek x y
  |_=>none
def aqh(op:UnOp)(x:Sh):Option Sh:=
 match op,x with
 |.not,.bc b=>some (.bc !b)
 |.not,.bool=>some .bool
 |.not,.tst a c b=>some (.tst b (1-c) a)
 |.not,.teq p a c b=>some (.teq (!p) a c b)
 |_,_=>none
mutual
def gen:Sh->Sh
 |.bc _=>.bool
 |.tst ..=>.bool
 |.teq ..=>.bool
 |.ic k _=>.int k
 |.sym _ _=>.int .i64
 |.sc _=>.strb
 |.strl _=>.strb
 |.sl _ e=>.slx e
 |.slj _=>.sljx
 |.jg _ _=>.jv
 |.xsl n l=>.xsl n (aqL l)
 |s=>s
def aqL:List Sh->List Sh
 |[]=>[]
 |s::l=>gen s::aqL l
end
def Ab.push(A:Ab)(h:HO):Ab:={A with heap:=A.heap++[h]}
def Ab.seth(A:Ab)(k:Nat)(h:HO):Ab:={A with heap:=A.heap.set k h,wr:=k::A.wr}
def Ab.sees(A:Ab)(ks:List Nat):Ab:={A with ls:=ks++A.ls}
def arc(F:Fs)(nx:Nat)(p:Nat×Int):Bool:=decide (p.1<nx)&&(decide (0<=p.2)||le? F 0 (-p.2) p.1)
def adZ(F:Fs)(θ:List (Nat×Int))(θo:List Nat)(h':Option HO):HO->Bool
 |.dead=>true
 |.cells l=>match h' with
  |some (.cells l')=>subs F θ θo l l'
  |_=>false
 |.ro l=>match h' with
  |some (.ro l')=>subs F θ θo l l'
  |_=>false
 |.arr a e=>match h' with
  |some (.arr a' e')=>yX θ[a]? a' 0&&subs [] [] [] e e'
  |some (.arrm a' e')=>yX θ[a]? a' 0&&subs [] [] [] e e'&&le? F 0 1 a'
  |none=>yX θ[a]? 0 0
  |_=>false
 |.arrm a e=>match h' with
  |some (.arrm a' e')=>yX θ[a]? a' 0&&subs [] [] [] e e'
  |_=>false
 |.map v=>match h' with
  |some (.map v')=>sub [] [] [] v v'
  |_=>false
 |.pk=>match h' with
  |some .pk=>true
  |_=>false
def jJ:HO->Bool
 |.dead=>true
 |_=>false
def IL(S:Ab)(θ:List (Nat×Int))(θo:List Nat):List Nat->List HO->List Nat->Bool
 |[],[],_=>true
 |k::ks,h::hs,us=>adZ S.facts θ θo S.heap[k]? h&&(jJ h||decide (S.heap.length<=k)|| !us.contains k)&&IL S θ θo ks hs (if jJ h then us else k::us)
 |_,_,_=>false
def Ya(J S:Ab)(θ:List (Nat×Int))(θo:List Nat):Bool:=
 decide (θ.length=J.nx)&&yX θ[0]? 0 0&&θ.all (arc S.facts S.nx)&&
 J.env.all (fun p=>match la p.1 S.env with
  |some s=>sub S.facts θ θo p.2 s
  |none=>false)&&
 J.facts.all (fun f=>match θ[f.1]?,θ[f.2.2]? with
  |some (i,p),some (j,q)=>le? S.facts i (f.2.1+p-q) j
  |_,_=>false)&&
 IL S θ θo θo J.heap []
def Hab(H:List HO):Ab:={env:=[],heap:=H,nx:=1,facts:=[]}
def okH:HO->Bool
 |.cells _=>true
 |.map _=>true
 |.dead=>true
 |_=>false
def zU:List HO->List HO->List HO
 |h::H,x::l=>(if jJ h then x else h)::zU H l
 |_,l=>l
def ixs:Nat->List HO->List Nat
 |_,[]=>[]
 |k,h::H=>if jJ h then ixs (k+1) H else k::ixs (k+1) H
def iK(A:Ab):List Bool->List HO->List HO×Ab
 |true::m,.cells l::H=>((.cells (opened A l).1)::(iK (opened A l).2 m H).1,(iK (opened A l).2 m H).2)
 |_::m,h::H=>(h::(iK A m H).1,(iK A m H).2)
 |_,H=>(H,A)
def Pq(m:Bool)(H:List HO)(k a w:Nat):Option (List Sh):=match H[k]? with
 |some (.arr b e)=>if !m&&a==b&&wds e==w then some e else none
 |some (.arrm b e)=>if a==b&&wds e==w then some e else none
 |_=>none
def apY(a:Nat)(e:List Sh):Sh:=if jvN [] 3 e then .slj a else .sl a e
def aeM:Sh->Option Sh
 |.nils=>some (.slc 0 [])
 |.xsl n l=>if cls l then some (.slc n l)else none
 |s=>if cl s then some s else none
def Un:List Sh->Option (List Sh)
 |[]=>some []
 |s::l=>match aeM s,Un l with
  |some a,some b=>some (a::b)
  |_,_=>none
def Ab.grow(A:Ab)(e:List Sh)(fs:Fs):Sh×Ab:=(.accm A.heap.length A.nx e,{A.push (.arrm A.nx e)with nx:=A.nx+1,facts:=fs++A.facts})
def amc(A:Ab)(sz:Nat)(u:List Sh):Sh->Option (Sh×Ab)
 |.nils=>if subs A.facts [] [] (u.map gen) u&&wds (u.map gen)==sz then some (A.grow (u.map gen) [(A.nx,-1,0),(0,1,A.nx)])else none
 |.acc k a e=>match Pq false A.heap k a (wds e)with
  |some e=>if leN A.facts a LB&&subs A.facts [] [] e u&&wds e==sz then some ((A.seth k .dead).grow e [(A.nx,-1,a),(a,1,A.nx)])else none
  |none=>none
 |.accm k a e=>match Pq true A.heap k a (wds e)with
  |some e=>if leN A.facts a LB&&subs A.facts [] [] e u&&wds e==sz then some ((A.seth k .dead).grow e [(A.nx,-1,a),(a,1,A.nx)])else none
  |none=>none
 |_=>none
def aqa(A:Ab)(sz:Nat):Sh->Option (List Sh×Ab)
 |.xsl m u=>if wds u==sz&&m==1 then some (u,A)else none
 |.accm k a e=>match Pq true A.heap k a (wds e)with
  |some e=>if le? A.facts 0 1 a&&leN A.facts a 1&&wds e==sz then some (e,A.seth k .dead)else none
  |none=>none
 |_=>none
def ZA(H:List HO)(m:Bool)(k a w:Nat):Option Sh:=match Pq m H k a w with
 |some e=>(Un e).map (apY a)
 |none=>none
section
variable(H:List HO)
mutual
def EY:Sh->Option Sh
 |.nils=>some (.slc 0 [])
 |.xsl n l=>match Nc l with
  |some l=>some (.slc n l)
  |none=>none
 |.acc k a e=>ZA H false k a (wds e)
 |.accm k a e=>ZA H true k a (wds e)
 |.agg l=>match Nc l with
  |some l=>some (.agg l)
  |none=>none
 |.tup l=>match IA l with
  |some l=>some (.tup l)
  |none=>none
 |.iface t v=>match EY v with
  |some v=>some (.iface t v)
  |none=>none
 |.func f x y=>match IA x,IA y with
  |some x,some y=>some (.func f x y)
  |_,_=>none
 |.ref k o=>some (.ref k o)
 |.map k=>some (.map k)
 |.pk k=>some (.pk k)
 |s=>if cl s then some s else none
def Nc:List Sh->Option (List Sh)
 |[]=>some []
 |.jv::l=>match Nc l with
  |some t=>some (.jv::t)
  |none=>none
 |.jg a b::l=>match Nc l with
  |some t=>some (.jg a b::t)
  |none=>none
 |s::l=>if s.one then(match EY s,Nc l with
  |some s',some t=>if s'.one then some (s'::t)else none
  |_,_=>none)else none
def IA:List Sh->Option (List Sh)
 |[]=>some []
 |s::l=>match EY s,IA l with
  |some s,some t=>some (s::t)
  |_,_=>none
end
end
def arV:Option HO->Bool
 |some .pk=>true
 |_=>false
def Yk(A:Ab)(ss:List Sh):Sm->Option (Sh×Ab)
 |.pure args res=>if O6 A.facts [] [] args ss then some (Gn A res)else none
 |.ro l args res=>match ss with
  |.ref k 0::ss=>match A.heap[k]? with
   |some (.ro l')=>if subs A.facts [] [] l l'&&O6 A.facts [] [] args ss then some (Gn A res)else none
   |some (.cells l')=>if subs A.facts [] [] l l'&&O6 A.facts [] [] args ss then some (Gn A res)else none
   |_=>none
  |_=>none
 |.pof args=>if O6 A.facts [] [] args ss then some (.pk A.heap.length,A.push .pk)else none
 |.pk args res=>match ss with
  |.pk k::ss=>if arV A.heap[k]? &&O6 A.facts [] [] args ss then some (Gn {A with wr:=k::A.wr} res)else none
  |_=>none
 |.chg H args res=>if decide (H.length<=A.heap.length)&&Ya (Hab H) A [(0,0)] (List.range H.length)&&O6 A.facts [] (List.range H.length) args ss then(let q:=iK {A with heap:=zU H A.heap,wr:=ixs 0 H++A.wr} (H.map fun h=>!jJ h) (zU H A.heap);some (Gn {q.2 with heap:=q.1} res))else none
def ac6(A:Ab)(ss:List Sh):List Sm->Option (Sh×Ab)
 |[]=>none
 |m::l=>match Yk A ss m with
  |some r=>some r
  |none=>ac6 A ss l
def VY(X:Cfg)(A:Ab)(f:FuncId)(ss:List Sh):Option (Sh×Ab):=match IA A.heap ss with
 |some ss=>ac6 A ss (X.sm f)
 |none=>none
def rowAt(A:Ab)(n c:Nat×Int)(e:List Sh):Option (Sh×Ab):=
 if cls e&&le? A.facts 0 (-n.2) n.1&&le? A.facts n.1 (n.2+1-c.2) c.1 then(let(t,A):=opened A e;some (.eptr 0 t,A))else none
def ajk(A:Ab):BinOp->Sh->Sh->Option (Sh×Ab)
 |.sub,.sym i c,.sym j d=>if leN A.facts i LB&&small c&&small d&&le? A.facts j (d-c) i then some (.sym A.nx 0,{A with nx:=A.nx+1,facts:=(A.nx,d-c,i)::A.facts})else none
 |_,_,_=>none
def abI(X:Cfg)(n0:Nat)(A:Ab)(i:XI):Option (Sh×Ab):=
 match i with
 |.mv x=>(avS X A x).map (·,A)
 |.pick c x y=>match avS X A c with
  |some (.bc b)=>(if b then avS X A x else avS X A y).map (·,A)
  |_=>none
 |.new z none=>match abN z with
  |some l=>if l.all Sh.one then some (.ref A.heap.length 0,A.push (.cells l))else none
  |none=>none
 |.box x=>match avS X A x with
  |some s=>match cellsS s with
   |some l=>let(l,A):=opened A l;some (.ref A.heap.length 0,A.push (.cells l))
   |none=>none
  |none=>none
 |.build z ps=>match abN z with
  |some l=>if l.all Sh.one then(acN X A l ps).map fun l=>(QW l,A)else none
  |none=>none
 |.buildSl z n sz ps=>match abN z with
  |some l=>if l.all Sh.one then(match acN X A (apX l n) ps with
   | some u=>if wds u==n*sz then(if Cb z then
     (if n==1&&subs A.facts [] [] (u.map gen) u&&wds (u.map gen)==sz then some (A.grow (u.map gen) [(A.nx,-1,0),(0,1,A.nx)])else none)
    else some (.xsl n u,A))else none
   |none=>none)else none
  |none=>none
 |.load ag sz x=>match avS X A x with
  |some (.ref k off)=>match A.heap[k]? with
   |some (.cells l)=>(Xm ag sz l off).map (·,A)
   |some (.ro l)=>(Xm ag sz l off).map (·,A)
   |_=>none
  |some (.eptr off l)=>(Xm ag sz l off).map (·,A)
  |_=>none
 |.store sz p x=>match avS X A p,avS X A x with
  |some (.ref k off),some s=>match A.heap[k]?,cellsS s with
   |some (.cells l),some u=>let(u,A):=opened A u;match VI l off u sz with
    |some l=>some (.undef,A.seth k (.cells l))
    |none=>none
   |_,_=>none
  |_,_=>none
 |.nilck x=>match avS X A x with
  |some (.ref k o)=>some (.ref k o,A)
  |some (.pk k)=>some (.pk k,A)
  |some (.eptr o l)=>some (.eptr o l,A)
  |some (.iface t v)=>some (.iface t v,A)
  |some (.func (.func f) x y)=>some (.func (.func f) x y,A)
  |_=>none
 |.bin op ek cst x y=>match avS X A x,avS X A y with
  |some s,some t=>match ajk A op s t with
   |some r=>some r
   |none=>(aho A.facts op ek cst s t).map (·,A)
  |_,_=>none
 |.un op x=>match avS X A x with
  |some s=>(aqh op s).map (·,A)
  |none=>none
 |.i2i k x=>match avS X A x with
  |some (.ic _ n)=>some (.ic k (k.wrap n),A)
  |some s=>match isInt s with
   |some _=>some (.int k,A)
   |none=>none
  |none=>none
 |.mkIface t x=>(avS X A x).map fun s=>(.iface t s,A)
 |.mkFunc fn x y=>match aci X A x,aci X A y with
  |some x,some y=>some (.func fn x y,A)
  |_,_=>none
 |.mkMap=>some (.map A.heap.length,A.push (.map (.int .i64)))
 |.mkSlice z sz bytes l c=>match avS X A l,avS X A c,abN z with
  |some (.ic _ 0),some c,some u=>match lin c with
   |some (j,d)=>if le? A.facts 0 (-d) j&&leN A.facts j LB&&decide (d<=LB)&&decide (bytes<=8192)&&wds (u.map gen)==sz then some (A.grow (u.map gen) [(A.nx,0,0)])else none
   |none=>none
  |_,_,_=>none
 |.fieldAddr off x=>match avS X A x with
  |some (.ref k f)=>some (.ref k (f+off),A)
  |some (.eptr f l)=>if f+off<=wds l then some (.eptr (f+off) l,A)else none
  |_=>none
 |.idxAddrArr len sz x i=>match avS X A x,avS X A i with
  |some (.ref k f),some (.ic _ n)=>if 0<=n&&n<len then some (.ref k (f+n.toNat*sz),A)else none
  |_,_=>none
 |.idxAddrSl sz x i=>match avS X A x,avS X A i with
  |some (.sl s e),some i=>match lin i with
   |some n=>if wds e==sz then rowAt A n (s,0) e else none
   |none=>none
  |some (.slj s),some i=>match lin i with
   |some n=>if sz==5 then rowAt A n (s,0) [.jv]else none
   |none=>none
  |some (.slc n e),some (.ic _ i)=>if 0<=i&&decide (i<n)&&wds e==n*sz then some (.eptr (i.toNat*sz) e,A)else none
  |_,_=>none
 |.idxArr len ag sz x i=>match avS X A x,avS X A i with
  |some (.agg (s::l)),some i=>match lin i with
   |some n=>if !ag&&sz==1&&(s::l).all Sh.one&&wds (s::l)==len&&l.all (fun t=>sub [] [] [] (gen s) t)&&sub [] [] [] (gen s) s&&le? A.facts 0 (-n.2) n.1&&le? A.facts n.1 (n.2+1-len) 0 then some (gen s,A)else none
   |none=>none
  |_,_=>none
 |.idxStr x i=>match avS X A x,avS X A i with
  |some (.strl s),some i=>match lin i with
   |some n=>if le? A.facts 0 (-n.2) n.1&&le? A.facts n.1 (n.2+1) s then some (.int .u8,A)else none
   |none=>none
  |_,_=>none
 |.lookup z m k ok=>match avS X A m,avS X A k,shC z with
  |some (.map r),some s,some t=>match A.heap[r]? with
   |some (.map v)=>if H7 s&&sub [] [] [] v t&&cl v then some (if ok then .tup [v,.bool]else v,A)else none
   |_=>none
  |_,_,_=>none
 |.mapUpd m k v=>match avS X A m,avS X A k,avS X A v with
  |some (.map r),some s,some t=>match A.heap[r]? with
   |some (.map v)=>if H7 s&&sub [] [] [] v t then some (.undef,A.seth r (.map v))else none
   |_=>none
  |_,_,_=>none
 |.extract x i=>match avS X A x with
  |some (.tup l)=>l[i]?.map (·,A)
  |_=>none
 |.app false sz bytes none s x=>match avS X A s,avS X A x with
  |some s,some x=>match aqa A sz x with
   |some (u,A)=>if(Un u).isSome&&decide (bytes<=8192)then amc A sz u s else none
   |none=>none
  |_,_=>none
 |.len k x=>match k,avS X A x with
  |0,some (.strl s)=>some (.sym s 0,A)
  |0,some (.sc s)=>some (.ic .i64 s.length,A)
  |0,some .str=>some (.int .i64,A)
  |1,some (.sl s _)=>some (.sym s 0,A)
  |1,some (.slj s)=>some (.sym s 0,A)
  |1,some (.acc _ a _)=>some (.sym a 0,A)
  |1,some (.accm _ a _)=>some (.sym a 0,A)
  |1,some .nils=>some (.ic .i64 0,A)
  |1,some (.xsl n _)=>some (.ic .i64 n,A)
  |1,some (.slc n _)=>some (.ic .i64 n,A)
  |_,_=>none
 |.callF f l=>match aci X A l with
  |some ss=>VY X A f ss
  |none=>none
 |.callV f l=>match avS X A f,aci X A l with
  |some (.func (.func f) x y),some ss=>VY X A f (x++ss++y)
  |_,_=>none
 |.invoke x m l=>match avS X A x,aci X A l with
  |some (.iface t v),some ss=>match X.mt t m with
   |some f=>VY X A f (v::ss)
   |none=>none
  |_,_=>none
 |_=>none
def Bl(X:Cfg)(A:Ab):XI->Option (List Nat)
 |.load _ _ x=>match avS X A x with
  |some (.ref k _)=>some [k]
  |some (.eptr ..)=>some []
  |_=>none
 |.len 0 _=>some []
 |.len 1 _=>some []
 |_=>none
def ways (X:Cfg) (A:Ab) (c:XA):Option (List (Bool×Ab)):=match avS X A c with
  |some (.bc b)=>some [(b,A)]
  |some .bool=>some [(true,kn A true),(false,kn A false)]
  |some (.tst x c y)=>some [(true,kn {A with facts:=(x,c,y)::A.facts} true),(false,kn {A with facts:=(y,1-c,x)::A.facts} false)]
  |some (.teq p x c y)=>some [(p,kn {A with facts:=(x,c,y)::(y,-c,x)::A.facts} p),(!p,kn (if y==0&&le? A.facts 0 (-c) x then{A with facts:=(0,1-c,x)::A.facts}else A) (!p))]
  |_=>none
 where
  kn (A:Ab) (b:Bool):Ab:=match c with
   |.t n=>{A with env:=(n,.bc b)::A.env}
   |_=>A
def ptS(A:Ab)(d:Option Nat)(s:Sh):Ab:=match d with
 |some d=>{A with env:=(d,s)::A.env}
 |none=>A
def aaG(X:Cfg)(n0:Nat)(dr:Bool)(o:XOp)(A:Ab):Option Ab:=match abI X n0 A o.i with
 |some (s,A')=>if dr&& !o.loose.isEmpty then(match Bl X A o.i with
  |some ks=>some (ptS (A'.sees ks) o.dst s)
  |none=>none)else some (ptS A' o.dst s)
 |none=>none
def stepM{β γ:Type}(a:Option β)(g:β->Option (List γ))(r:Option (List γ)):Option (List γ):=match a with
 |some A=>match g A,r with
  |some azs,some bs=>some (azs++bs)
  |_,_=>none
 |none=>none
def MR(X:Cfg)(n0:Nat)(dr:Bool):List XOp->Ab->Option (List Ab)
 |[],A=>some [A]
 |o::l,A=>match o.guard with
  |none=>match aaG X n0 dr o A with
   |some A=>MR X n0 dr l A
   |none=>none
  | some (t,b)=>match(match la t A.env with
    |some .undef=>some [(!b,A)]
    |_=>ways X A (.t t))with
   |none=>none
   |some ws=>ws.foldr (fun w r=>stepM (if w.1==b then aaG X n0 dr o w.2 else some (ptS w.2 o.dst .undef)) (fun A=>MR X n0 dr l A) r) (some [])
abbrev Rg:=Ab×List (Nat×Nat)×List (Nat×Nat×List Nat)
def ajm(X:Cfg)(n0 j:Nat)(o:XOp)(A:Ab)(wt:List (Nat×Nat))(lt:List (Nat×Nat×List Nat)):Option Rg:=match aaG X n0 false o {A with wr:=[]}with
 |some A1=>(match(if o.loose.isEmpty then some []else Bl X A o.i)with
  |some ks=>some (A1,A1.wr.map (fun k=>(k,j))++wt,ks.map (fun k=>(k,j,o.loose))++lt)
  |none=>none)
 |none=>none
def aaD(X:Cfg)(n0:Nat):List XOp->Nat->Rg->Option (List Rg)
 |[],_,p=>some [p]
 |o::l,j,p=>match o.guard with
  |none=>match ajm X n0 j o p.1 p.2.1 p.2.2 with
   |some q=>aaD X n0 l (j+1) q
   |none=>none
  | some (t,b)=>match(match la t p.1.env with
    |some .undef=>some [(!b,p.1)]
    |_=>ways X p.1 (.t t))with
   |none=>none
   |some ws=>ws.foldr (fun w r=>stepM (if w.1==b then ajm X n0 j o w.2 p.2.1 p.2.2 else some (ptS w.2 o.dst .undef,p.2.1,p.2.2)) (fun q=>aaD X n0 l (j+1) q) r) (some [])
def adB(n:Nat)(p:Rg):Bool:=p.2.2.all fun q=>decide (q.1<n)&&q.2.2.all fun c=>p.2.1.all fun w=>w.1 !=q.1|| !(decide (min q.2.1 c<=w.2)&&decide (w.2<max q.2.1 (c+1)))
def Ab.keep(m:List Nat)(A:Ab):Ab:={A with env:=m.filterMap fun t=>(la t A.env).map fun s=>(t,s)}
def Ib:KC->List Nat
 |.skip=>[]
 |.ops l|.plain l|.drawn l=>l.flatMap XOp.reads
 |.seq a b=>Ib a++Ib b
 |.cond c a b=>c.reads++(Ib a++Ib b)
 |.block _ b=>Ib b
 |.loop m _=>m
 |.exit m _=>m
 |.ret m=>m
 |.scope b=>Ib b
 |.fail=>[]
mutual
def an3(n h:Nat):Sh->Bool
 |.tst x _ y=>decide (x<n)&&decide (y<n)
 |.teq _ x _ y=>decide (x<n)&&decide (y<n)
 |.sym j _=>decide (j<n)
 |.strl i=>decide (i<n)
 |.sl i e=>decide (i<n)&&Xy n h e
 |.slx e=>Xy n h e
 |.slj i=>decide (i<n)
 |.xsl _ e=>Xy n h e
 |.slc _ e=>Xy n h e
 |.acc k a _=>decide (k<h)&&decide (a<n)
 |.accm k a _=>decide (k<h)&&decide (a<n)
 |.agg l=>Xy n h l
 |.tup l=>Xy n h l
 |.jg a b=>decide (a<n)&&decide (b<n)
 |.ref k _=>decide (k<h)
 |.eptr _ l=>Xy n h l
 |.map k=>decide (k<h)
 |.pk k=>decide (k<h)
 |.func _ x y=>Xy n h x&&Xy n h y
 |.iface _ v=>an3 n h v
 |_=>true
def Xy(n h:Nat):List Sh->Bool
 |[]=>true
 |s::l=>an3 n h s&&Xy n h l
end
mutual
def eqS:Sh->Sh->Bool
 |.undef,.undef=>true
 |.bool,.bool=>true
 |.bc a,.bc b=>a==b
 |.tst x c y,.tst x' c' y'=>x==x'&&c==c'&&y==y'
 |.teq p x c y,.teq q x' c' y'=>p==q&&x==x'&&c==c'&&y==y'
 |.strb,.strb=>true
 |.int k,.int k'=>k==k'
 |.ic k n,.ic k' n'=>k==k'&&n==n'
 |.sym j c,.sym i d=>j==i&&c==d
 |.str,.str=>true
 |.sc a,.sc b=>a==b
 |.strl i,.strl j=>i==j
 |.nilp,.nilp=>true
 |.nils,.nils=>true
 |.nilF,.nilF=>true
 |.nilI,.nilI=>true
 |.nilM,.nilM=>true
 |.sl i e,.sl j e'=>i==j&&eqU e e'
 |.slx e,.slx e'=>eqU e e'
 |.slj i,.slj j=>i==j
 |.sljx,.sljx=>true
 |.xsl n e,.xsl n' e'=>n==n'&&eqU e e'
 |.slc n e,.slc n' e'=>n==n'&&eqU e e'
 |.acc k a e,.acc k' a' e'=>k==k'&&a==a'&&eqU e e'
 |.accm k a e,.accm k' a' e'=>k==k'&&a==a'&&eqU e e'
 |.agg l,.agg m=>eqU l m
 |.tup l,.tup m=>eqU l m
 |.jv,.jv=>true
 |.jg a b,.jg c d=>a==c&&b==d
 |.ref k o,.ref k' o'=>k==k'&&o==o'
 |.eptr o l,.eptr o' m=>o==o'&&eqU l m
 |.map k,.map k'=>k==k'
 |.pk k,.pk k'=>k==k'
 |.func f x y,.func f' x' y'=>f==f'&&eqU x x'&&eqU y y'
 |.iface t v,.iface t' v'=>t==t'&&eqS v v'
 |_,_=>false
def eqU:List Sh->List Sh->Bool
 |[],[]=>true
 |s::l,t::m=>eqS s t&&eqU l m
 |_,_=>false
end
mutual
def ab6:Sh->Sh
 |.sl _ e=>.slx e
 |.agg l=>.agg (ajB l)
 |.tup l=>.tup (ajB l)
 |.iface t v=>.iface t (ab6 v)
 |s=>gen s
def ajB:List Sh->List Sh
 |[]=>[]
 |s::l=>ab6 s::ajB l
end
def ao3(n h:Nat)(s t:Sh):Option Sh:=
 if eqS s t&&an3 n h s then some s else
 (if eqS (ab6 s) (ab6 t)&&an3 n h (ab6 s)then some (ab6 s)else none)
def ad2(n h:Nat)(lv:List Nat)(B:Ab):List (Nat×Sh)->List (Nat×Sh)
 |[]=>[]
 |(t,s)::l=>if !lv.contains t then ad2 n h lv B l else(match la t B.env with
  |some s'=>match ao3 n h s s' with
   |some u=>(t,u)::ad2 n h (lv.filter (· !=t)) B l
   |none=>ad2 n h (lv.filter (· !=t)) B l
  |none=>ad2 n h (lv.filter (· !=t)) B l)
def ao4(n h:Nat):List Sh->List Sh->Option (List Sh)
 |[],[]=>some []
 |s::l,t::m=>match ao3 n h s t,ao4 n h l m with
  |some u,some v=>some (u::v)
  |_,_=>none
 |_,_=>none
def aqV(n h:Nat):HO->HO->HO
 |.cells l,.cells m=>match ao4 n h l m with
  |some u=>.cells u
  |none=>.dead
 |.ro l,.ro m=>if eqU l m&&Xy n h l then .ro l else .dead
 |.arr a e,.arr b f=>if a==b&&decide (a<n)&&eqU e f then .arr a e else .dead
 |.arrm a e,.arrm b f=>if a==b&&decide (a<n)&&eqU e f then .arrm a e else .dead
 |.map v,.map w=>if eqS v w then .map v else .dead
 |.pk,.pk=>.pk
 |_,_=>.dead
def Jw(n h:Nat):Nat->List HO->List HO->List HO
 |0,_,_=>[]
 |k+1,x::l,y::m=>aqV n h x y::Jw n h k l m
 |k+1,_,_=>.dead::Jw n h k [] []
def ZF(base:Ab)(lv:List Nat)(A B:Ab):Ab:=
 {env:=ad2 base.nx base.heap.length lv B A.env,heap:=Jw base.nx base.heap.length base.heap.length A.heap B.heap,nx:=base.nx,
  facts:=A.facts.filter fun f=>decide (f.1<base.nx)&&decide (f.2.2<base.nx)&&B.facts.contains f}
def apf(n:Nat):List (Nat×Int):=(List.range n).map fun i=>(i,0)
structure Wd where
 nx:Nat
 heap:List HO
 new:List Nat
def arK(w:Wd)(s t:Sh):Option (Sh×Wd):=
 if eqS s t then some (s,w)else
 match lin s,lin t with
 |some _,some _=>some (.sym w.nx 0,{w with nx:=w.nx+1,new:=w.nx::w.new})
 |_,_=>match s,t with
  |.nils,.accm _ _ e=>some (.acc w.heap.length w.nx e,{nx:=w.nx+1,heap:=w.heap++[.arr w.nx e],new:=w.nx::w.new})
  |.nils,.acc _ _ e=>some (.acc w.heap.length w.nx e,{nx:=w.nx+1,heap:=w.heap++[.arr w.nx e],new:=w.nx::w.new})
  |.acc _ _ e,.accm _ _ _=>some (.acc w.heap.length w.nx e,{nx:=w.nx+1,heap:=w.heap++[.arr w.nx e],new:=w.nx::w.new})
  |.acc _ _ e,.acc _ _ _=>some (.acc w.heap.length w.nx e,{nx:=w.nx+1,heap:=w.heap++[.arr w.nx e],new:=w.nx::w.new})
  |.accm _ _ e,.accm _ _ _=>some (.accm w.heap.length w.nx e,{nx:=w.nx+1,heap:=w.heap++[.arrm w.nx e],new:=w.nx::w.new})
  |_,_=>if eqS (ab6 s) (ab6 t)then some (ab6 s,w)else none
def aqk(B:Ab):Wd->List (Nat×Sh)->List (Nat×Sh)×Wd
 |w,[]=>([],w)
 | w,(t,s)::l=>match(match la t B.env with
   |some s'=>arK w s s'
   |none=>none)with
  |some (u,w)=>let(r,w):=aqk B w l;((t,u)::r,w)
  |none=>aqk B w l
def arL:Wd->List Sh->List Sh->Option (List Sh×Wd)
 |w,[],[]=>some ([],w)
 |w,s::l,t::m=>match arK w s t with
  |some (u,w)=>match arL w l m with
   |some (r,w)=>some (u::r,w)
   |none=>none
  |none=>none
 |_,_,_=>none
def arJ:Nat->Wd->List HO->List HO->List HO×Wd
 |_,w,[],_=>([],w)
 |0,w,_,_=>([],w)
 |k+1,w,x::l,ys=>
  let y:=ys.headD .dead
  let(z,w):HO×Wd:=match x,y with
   |.cells l,.cells m=>match arL w l m with
    |some (u,w)=>(.cells u,w)
    |none=>(.dead,w)
   |.ro l,.ro _=>(.ro l,w)
   |.arr a e,.arr b _=>if a==b then(.arr a e,w)else(.dead,w)
   |.arrm a e,.arrm b _=>if a==b then(.arrm a e,w)else(.dead,w)
   |.map v,.map _=>(.map v,w)
   |.pk,.pk=>(.pk,w)
   |_,_=>(.dead,w)
  let(r,w):=arJ k w l ys.tail
  (z::r,w)
structure Th where
 s:List (Nat×Nat×Int)
 o:List (Nat×Nat)
def aqG(nb hb:Nat)(t:Th):Sh->Sh->Th
 |.sym x c,.ic .i64 n=>if x<nb then t else{t with s:=(x,0,n-c)::t.s}
 |.sym x c,.sym i d=>if x<nb then t else{t with s:=(x,i,d-c)::t.s}
 |.acc k a _,.nils=>if a<nb then t else{s:=(a,0,0)::t.s,o:=(k,1000000000)::t.o}
 |.acc k a _,.acc k' a' _=>if a<nb then t else{s:=(a,a',0)::t.s,o:=(k,k')::t.o}
 |.acc k a _,.accm k' a' _=>if a<nb then t else{s:=(a,a',0)::t.s,o:=(k,k')::t.o}
 |.accm k a _,.accm k' a' _=>if a<nb then t else{s:=(a,a',0)::t.s,o:=(k,k')::t.o}
 |.ref k _,.ref k' _=>if k<hb then t else{t with o:=(k,k')::t.o}
 |.pk k,.pk k'=>if k<hb then t else{t with o:=(k,k')::t.o}
 |.map k,.map k'=>if k<hb then t else{t with o:=(k,k')::t.o}
 |_,_=>t
def aqH(nb hb:Nat):Th->List Sh->List Sh->Th
 |t,s::l,s'::m=>aqH nb hb (aqG nb hb t s s') l m
 |t,_,_=>t
def aqF(nb hb:Nat)(S:Ab):Th->List (Nat×Sh)->Th
 |t,[]=>t
 |t,(k,s)::l=>aqF nb hb S (match la k S.env with
  |some s'=>aqG nb hb t s s'
  |none=>t) l
def ap8(nb hb:Nat):Th->List HO->List HO->Th
 |t,.cells l::x,.cells m::y=>ap8 nb hb (aqH nb hb t l m) x y
 |t,_::x,_::y=>ap8 nb hb t x y
 |t,_,_=>t
def asc{α:Type}:List (Nat×α)->Nat->Option α
 |[],_=>none
 |(k,v)::l,n=>if k=n then some v else asc l n
def fit(nb hb:Nat)(J S:Ab):List (Nat×Int)×List Nat:=
 let t:=ap8 nb hb (aqF nb hb S ⟨[],[]⟩ J.env) (J.heap.take hb) S.heap
 ((List.range J.nx).map fun i=>if i<nb then(i,0)else(asc t.s i).getD (0,0),(List.range J.heap.length).map fun k=>if k<hb then k else(asc t.o k).getD 1000000000)
def alL:List (Nat×Sh)->List Nat
 |[]=>[]
 |(_,.sym j 0)::l=>j::alL l
 |_::l=>alL l
def anS(nb:Nat)(new:List Nat)(env:List (Nat×Sh)):Fs:=(new.flatMap fun x=>[(0,1,x),(x,-8192,0),(x,-(LB:Int),0)])++new.flatMap fun x=>(new++(alL env).filter (· <nb)).filterMap fun y=>if x==y then none else some (x,0,y)
def abd(S:Ab)(θ:List (Nat×Int))(f:Nat×Int×Nat):Bool:=match θ[f.1]?,θ[f.2.2]? with
 |some (i,p),some (j,q)=>le? S.facts i (f.2.1+p-q) j
 |_,_=>false
def widen(E0 H:Ab)(Ns:List Ab):Ab:=
 let go (H N:Ab):Ab:=
  let(env,w):=aqk N ⟨H.nx,H.heap,[]⟩ H.env
  let(hp,w):=arJ E0.heap.length w (H.heap.take E0.heap.length) N.heap
  {H with env,heap:=hp++w.heap.drop E0.heap.length,nx:=w.nx}
 Ns.foldl go H
def aeO(E0:Ab)(run:Ab->Option (List Ab)):Nat->Ab->Option Ab
 |0,H=>some H
 |n+1,H=>match run H with
  |none=>none
  |some Ns=>
   if Ns.all fun N=>let t:=fit E0.nx E0.heap.length H N;Ya H N t.1 t.2 then some H else
   let H1:=widen E0 E0 Ns
   let new:=(List.range H1.nx).filter (E0.nx<= ·)
   let t0:=fit E0.nx E0.heap.length H1 E0
   let fs:=(anS E0.nx new H1.env).filter fun f=>abd E0 t0.1 f
   let H2:={H1 with facts:=fs++E0.facts}
   match run H2 with
   |none=>aeO E0 run n H2
   |some Ns2=>
    let fs2:=fs.filter fun f=>Ns2.all fun N=>let t:=fit E0.nx E0.heap.length H2 N;abd N t.1 f
    aeO E0 run n {H2 with facts:=fs2++E0.facts}
def ao6(J:Ab)(l:List Ab):Bool:=(List.range J.heap.length).any fun k=>isDeadO J.heap[k]? &&l.all fun S=>!isDeadO S.heap[k]?
 where
  isDeadO:Option HO->Bool
   |some h=>jJ h
   |none=>true
def aga(p:Nat->Bool):Nat->List HO->List HO
 |_,[]=>[]
 |k,h::l=>(if p k then h else .dead)::aga p (k+1) l
def aqW(base:Ab)(lv:List Nat):List Ab->Ab
 |[]=>base
 |A::Bs=>
  let J:=widen base {A with env:=A.env.filter fun p=>lv.contains p.1} Bs
  let ths:=(A::Bs).map fun S=>(S,fit base.nx base.heap.length J S)
  let fs:=(anS base.nx ((List.range J.nx).filter (base.nx<= ·)) J.env++A.facts.filter fun f=>decide (f.1<base.nx)&&decide (f.2.2<base.nx)).filter fun f=>ths.all fun t=>abd t.1 t.2.1 f
  {J with facts:=fs,heap:=aga (fun k=>decide (k<base.heap.length)||ths.all fun t=>t.2.2[k]? !=some 1000000000) 0 J.heap}
def VB(base:Ab)(lv:List Nat):List Ab->List Ab
 |[]=>[]
 |[A]=>[A]
 |A::B::l=>
  let J:=(B::l).foldl (ZF base lv) (ZF base lv A A)
  if !ao6 J (A::B::l)&&(A::B::l).all fun S=>Ya J S (apf J.nx) (List.range J.heap.length)then[J]else
  let J:=aqW base lv (A::B::l)
  if decide (base.nx<=J.nx/\base.heap.length<=J.heap.length)&&(!ao6 J (A::B::l)&&(A::B::l).all fun S=>Ya J S (fit base.nx base.heap.length J S).1 (fit base.nx base.heap.length J S).2)then[J]else A::B::l
def aqU:KC->Bool
 |.ops _=>true
 |.plain _=>true
 |.drawn _=>true
 |_=>false
def ak6(k:KC)(base:Ab)(lv:List Nat)(l:List Ab):List Ab:=if aqU k then l else VB base lv l
def aob(nb:Nat)(N:Ab)(θ:List (Nat×Int))(x s:Nat):Bool:=match θ[x]? with
 |some (i,d)=>i==x&&decide (1<=d)&&decide (s<nb)&&le? N.facts x 1 s
 |none=>false
def lowers(N:Ab)(θ:List (Nat×Int))(x:Nat):Bool:=match θ[x]? with
 |some (i,d)=>i==x&&decide (d<= -1)
 |none=>false
abbrev uz:=List (XE×Ab)
def C9:uz->List Ab
 |[]=>[]
 |(.normal,A)::l=>A::C9 l
 |_::l=>C9 l
def others:uz->uz
 |[]=>[]
 |(.normal,_)::l=>others l
 |r::l=>r::others l
def ZG(a r:Option uz):Option uz:=match a,r with
 |some x,some y=>some (x++y)
 |_,_=>none
def afX(f:Ab->Option uz):List Ab->Option uz
 |[]=>some []
 |A::l=>ZG (f A) (afX f l)
def outOf(id:Nat):XE->XE
 |.exit i=>if i=id then .normal else .exit i
 |x=>x
def LR:Nat:=4
def aek(m:List Nat)(run:Ab->Option uz)(A:Ab):Option uz:=
 let E0:=A.keep m
 match aeO E0 (fun H=>(run H).map fun o=>(C9 o).map (·.keep m)) LR E0 with
 |none=>none
 |some H=>match run H with
  |none=>none
  |some o=>
   let t0:=fit E0.nx E0.heap.length H E0
   let Ns:=(C9 o).map (·.keep m)
   let th (N:Ab):=fit E0.nx E0.heap.length H N
   if decide (E0.nx<=H.nx/\E0.heap.length<=H.heap.length)&&Ya H E0 t0.1 t0.2&&Ns.all (fun N=>Ya H N (th N).1 (th N).2)&&
    (Ns.isEmpty||((List.range H.nx).any fun x=>decide (E0.nx<=x)&&((List.range E0.nx).any (fun s=>Ns.all fun N=>aob E0.nx N (th N).1 x s)||Ns.all fun N=>lowers N (th N).1 x)))
   then some (others o)else none
def afO(m:List Nat)(run:Ab->Option uz):Nat->Ab->Option uz
 |0,_=>none
 |n+1,A=>match run (A.keep m)with
  |none=>none
  |some o=>ZG (some (others o)) (afX (afO m run n) (C9 o))
def aaF(m:List Nat)(run:Ab->Option uz)(A:Ab):Option uz:=match aek m run A with
 |some o=>some o
 |none=>afO m run 6 A
def abK(X:Cfg)(n0:Nat):KC->List Nat->Ab->Option uz
 |.skip,_,A=>some [(.normal,A)]
 |.ops l,_,A=>(MR X n0 false l A).map fun l=>l.map fun A=>(.normal,A)
 |.plain l,_,A=>(MR X n0 false l A).map fun l=>l.map fun A=>(.normal,A)
 |.drawn l,_,A=>match aaD X n0 l 0 (A,[],[])with
  |some azs=>if azs.all (adB A.heap.length)&&l.all (fun o=>o.loose.all fun c=>decide (c<l.length))then some (azs.map fun p=>(.normal,p.1))else none
  |none=>none
 |.seq a b,lv,A=>match abK X n0 a (Ib b++lv) A with
  |none=>none
  |some o=>match afX (abK X n0 b lv) (ak6 a A (Ib b++lv) (C9 o))with
   |some o'=>some (others o++o')
   |none=>none
 |.cond c a b,lv,A=>match ways X A c with
  |none=>none
  |some ws=>ws.foldr (fun w r=>ZG (if w.1 then abK X n0 a lv w.2 else abK X n0 b lv w.2) r) (some [])
 |.block id b,lv,A=>match abK X n0 b lv A with
  |some o=>some (o.map fun p=>(outOf id p.1,p.2))
  |none=>none
 |.loop m b,lv,A=>aaF m (fun H=>abK X n0 b m H) A
 |.exit m id,_,A=>some [(.exit id,A.keep m)]
 |.ret m,_,A=>some [(.ret,A.keep m)]
 |.scope b,lv,A=>abK X n0 b lv A
 |.fail,_,_=>none
def rsS(A:Ab):List XR->Option (List Sh)
 |[]=>some []
 |.tmp t::l=>match la t A.env,rsS A l with
  |some s,some r=>some (s::r)
  |_,_=>none
 |.cell t ag sz::l=>match la t A.env,rsS A l with
  |some (.ref k off),some r=>match A.heap[k]? with
   |some (.cells c)=>match Xm ag sz c off with
    |some s=>some (s::r)
    |none=>none
   |_=>none
  |_,_=>none
def aqf:List Sh->Sh
 |[s]=>s
 |l=>.tup l
def MS:Nat->List Sh->List (Nat×Sh)
 |_,[]=>[]
 |i,s::l=>(i,s)::MS (i+1) l
def startA(args:List Sh):Ab:=
 let(l,A):=Gp {env:=[],heap:=[],nx:=1,facts:=[]} args
 {A with env:=MS 0 l}
def aqd(l args:List Sh):Ab:=
 let(u,A):=opened {env:=[],heap:=[],nx:=1,facts:=[]} l
 let(v,A):=Gp {A with heap:=[.ro u]} args
 {A with env:=(0,.ref 0 0)::MS 1 v}
def endOk(K:KF)(res:Sh)(o:uz):Bool:=o.all fun p=>match p.1 with
 |.exit _=>false
 |_=>match rsS p.2 K.results with
  |some l=>match IA p.2.heap l with
   |some l=>sub p.2.facts [] [] res (aqf l)
   |none=>false
  |none=>false
def aqc(H:List HO)(args:List Sh):Ab:=
 let q:=iK (Hab H) (H.map fun _=>true) H
 let r:=Gp {q.2 with heap:=q.1} args
 {r.2 with env:=MS 0 r.1}
def ajr(K:KF)(H:List HO)(res:Sh)(o:uz):Bool:=endOk K res o&&o.all fun p=>Ya (Hab H) p.2 [(0,0)] (List.range H.length)
def abF(X:Cfg)(K:KF):Sm->Bool
 |.pure args res=>cls args&&cl res&&decide (args.length<=K.ntmps)&&(match abK X K.ntmps K.body [] (startA args)with
  |some o=>endOk K res o
  |none=>false)
 |.ro l args res=>cls l&&cls args&&cl res&&decide (args.length+1<=K.ntmps)&&(match abK X K.ntmps K.body [] (aqd l args)with
  |some o=>endOk K res o
  |none=>false)
 |.chg H args res=>H.all okH&&cl res&&decide (args.length<=K.ntmps)&&(match abK X K.ntmps K.body [] (aqc H args)with
  |some o=>ajr K H res o
  |none=>false)
 |_=>false
def akb:∀{l:List (Nat×Sh)} {t:Nat} {s:Sh},la t l=some s->(t,s)∈l
 |[],_,_,h=>by cases h
 |(k,u)::l,t,s,h=>by
  simp only[la]at h;split at h
  ·grind
  ·exact aB6 _ (akb h)
def Sb.nil{V W:Val}(h:V.ν[0]?=some 0):Sb [] [] [] V W:=⟨h,fun f hf=>(by cases hf),fun j i c ho=>by simp[yX]at ho,fun k k' o ho=>by simp[eqO]at ho⟩
def νθ(V:Val)(θ:List (Nat×Int)):List Nat:=θ.map fun p=>(((V.ν[p.1]?.getD 0:Nat):Int)+p.2).toNat
def ρθ(V:Val)(θo:List Nat):List (Option Nat):=θo.map fun k=>(V.ρ[k]?).join
def YD(V:Vo):List Nat->List HO->List (List Nat)
 |k::ks,h::hs=>(if jJ h then[]else(V.own[k]?).getD [])::YD V ks hs
 |_,_=>[]
def aag{S:Ab}{θ θo}:∀{ks:List Nat} {hs:List HO} {us:List Nat},IL S θ θo ks hs us=true->ks.length=hs.length
 |[],[],_,_=>rfl
 |[],_::_,_,h=>by simp[IL]at h
 |_::_,[],_,h=>by simp[IL]at h
 |k::ks,x::hs,us,h=>by
  simp only[IL,a01]at h;simp[aag h.2]
def Ri{V:Vo}:∀{ks:List Nat} {hs:List HO},ks.length=hs.length->(YD V ks hs).length=hs.length
 |[],[],_=>rfl
 |[],_::_,h=>by simp at h
 |_::_,[],h=>by simp at h
 |k::ks,x::hs,h=>by simp[YD];exact Ri (by simpa using h)
def Rh{V:Vo}:∀{ks:List Nat} {hs:List HO} {i:Nat} {x:HO} {k:Nat},ks[i]?=some k->hs[i]?=some x->(YD V ks hs)[i]?=some (if jJ x then[]else(V.own[k]?).getD [])
 |[],_,_,_,_,h,_=>by simp at h
 |_::_,[],_,_,_,_,h=>by simp at h
 |k::ks,x::hs,0,_,_,h,h'=>by simp at h h';subst h;subst h';rfl
 |k::ks,x::hs,i+1,_,_,h,h'=>by
  simp only[ax0]at h h';simp only[YD,ax0];exact Rh h h'
def Yb{S:Ab}{θ θo}:∀{ks:List Nat} {hs:List HO} {us:List Nat},IL S θ θo ks hs us=true->∀{i:Nat} {x:HO} {k:Nat},ks[i]?=some k->hs[i]?=some x->adZ S.facts θ θo S.heap[k]? x=true/\(jJ x=true\/S.heap.length<=k\/k∉us)
 |[],_,_,_,_,_,_,h,_=>by simp at h
 |_::_,[],_,_,_,_,_,_,h=>by simp at h
 |k::ks,x::hs,us,hh,0,_,_,h,h'=>by
  simp at h h';subst h;subst h';simp only[IL,a01,az0,decide_eq_true_eq,aA8,List.contains_eq_mem,decide_eq_false_iff_not]at hh;exact⟨hh.1.1,or_assoc.mp hh.1.2⟩
 |k::ks,x::hs,us,hh,i+1,_,_,h,h'=>by
  simp only[ax0]at h h';simp only[IL,a01]at hh;have:=Yb hh.2 h h'
  grind
theorem TE{S:Ab}{θ θo}:∀{ks:List Nat} {hs:List HO} {us:List Nat},IL S θ θo ks hs us=true->∀{i j:Nat} {x y:HO} {k:Nat},i<j->ks[i]?=some k->ks[j]?=some k->hs[i]?=some x->hs[j]?=some y->jJ x=true\/jJ y=true\/S.heap.length<=k
 |[],_,_,_,_,_,_,_,_,_,h,_,_,_=>by simp at h
 |_::_,[],_,_,_,_,_,_,_,_,_,_,h,_=>by simp at h
 |k::ks,x::hs,us,hh,0,j+1,_,_,_,_,h,h',hx,hy=>by
  simp at h hx;subst h;subst hx;simp only[ax0]at h' hy;simp only[IL,a01]at hh;cases hd:jJ x with
  |true=>exact .inl rfl
  |false=>
   rw[hd]at hh;have:=(Yb hh.2 h' hy).2
   grind
 |k::ks,x::hs,us,hh,i+1,j+1,_,_,_,hij,h,h',hx,hy=>by
  simp only[ax0]at h h' hx hy;simp only[IL,a01]at hh;exact TE hh.2 (by omega) h h' hx hy
 |_::_,_::_,_,_,_,0,_,_,_,hij,_,_,_,_=>by omega
def Fq {PK:PkI} {O0:Frm} {V:Vo} {S J:Ab} {E:As} {Y:St} (h:G PK O0 V S E Y) {θ:List (Nat×Int)} {θo:List Nat} (hs:Ya J S θ θo=true):
  ∃W:Vo,G PK O0 W J E Y/\W.ν=νθ V.toVal θ/\W.ρ=ρθ V.toVal θo/\W.own=YD V θo J.heap/\(∀(i:Nat) (p:Nat×Int),θ[i]?=some p->∃a b:Nat,V.ν[p.1]?=some a/\W.ν[i]?=some b/\(b:Int)=a+p.2):=by
 simp only[Ya,a01,decide_eq_true_eq]at hs;obtain⟨⟨⟨⟨⟨hl,h0⟩,hθ⟩,henv⟩,hfacts⟩,hheap⟩:=hs
 let W:Vo:=⟨⟨νθ V.toVal θ,ρθ V.toVal θo⟩,YD V θo J.heap⟩
 have hνat:∀(i:Nat) (p:Nat×Int),θ[i]?=some p->∃a b:Nat,V.ν[p.1]?=some a/\W.ν[i]?=some b/\(b:Int)=a+p.2:=fun i p hp=>by
  have hk:=a90.mp hθ p (a94 hp);simp only[arc,a01,az0,decide_eq_true_eq]at hk;obtain⟨a,ha⟩:∃a,V.ν[p.1]?=some a:=⟨_,a02 (by rw[h.lν];exact hk.1)⟩
  have hpos:0<=(a:Int)+p.2:=by
   rcases hk.2 with h1|h1
   ·omega
   ·have:=JK h.zero h.facts _ _ _ _ _ _ h1 h.zero ha;omega
  refine⟨a,((a:Int)+p.2).toNat,ha,?_,by omega⟩
  show(νθ V.toVal θ)[i]?=_;rw[νθ,ax5,hp]
  grind
 have hsym:∀(j i:Nat) (c:Int),yX θ[j]? i c=true->∀a:Nat,V.ν[i]?=some a->∃b:Nat,W.ν[j]?=some b/\(b:Int)=a+c:=fun j i c ho a ha=>by
  cases hp:θ[j]? with
  |none=>rw[hp]at ho;cases ho
  |some p=>
   rw[hp]at ho;simp only[yX,a01,beq_iff_eq]at ho
   grind
 have hobj:∀(k k' o:Nat),eqO θo[k]? k'=true->V.ρ[k']?=some (some o)->W.ρ[k]?=some (some o):=fun k k' o ho ho'=>by
  cases hp:θo[k]? with
  |none=>rw[hp]at ho;cases ho
  |some a=>
   rw[hp]at ho;simp only[eqO,beq_iff_eq]at ho;subst ho;show(ρθ V.toVal θo)[k]?=_;rw[ρθ,ax5,hp]
   grind
 have hsb:Sb S.facts θ θo V.toVal W.toVal:=⟨h.zero,h.facts,hsym,hobj⟩;have hsn:Sb [] [] [] V.toVal W.toVal:=Sb.nil h.zero;have hlo:θo.length=J.heap.length:=aag hheap;have hρat:∀(k k' o:Nat),θo[k]?=some k'->V.ρ[k']?=some (some o)->W.ρ[k]?=some (some o):=fun k k' o hk ho=>hsb.obj k k' o (by simp[eqO,hk]) ho
 have hown:∀(k:Nat) a,W.own[k]?=some a->a=[]\/∃k' x,θo[k]?=some k'/\J.heap[k]?=some x/\jJ x=false/\V.own[k']?=some a:=fun k a ha=>by
  have ha:(YD V θo J.heap)[k]?=some a:=ha;have hk:k<J.heap.length:=by
   have:=(a00.mp ha).1;rwa[Ri hlo]at this
  have hx:=a02 hk;have hk':=a02 (show k<θo.length by rw[hlo];exact hk)
  rw[Rh hk' hx]at ha
  grind
 refine⟨W,⟨fun t s ht=>?_,by show(νθ V.toVal θ).length=_;simp[νθ,hl],by show(ρθ V.toVal θo).length=_;simp[ρθ,hlo],by show(YD V θo J.heap).length=_;exact Ri hlo,?_,fun f hf=>?_,fun k x hk=>?_,fun k k' a b hkk ha hb i hi hi'=>?_,fun k a ha i hi=>?_,fun k o hk=>?_,h.base,h.ok⟩,rfl,rfl,rfl,hνat⟩
 ·have:=a90.mp henv _ (akb ht)
  grind [TG,G]
 ·grind [h.zero]
 ·have:=a90.mp hfacts f hf;split at this
  ·rename_i i p j q hp hq;obtain⟨a,b,h1,h2,h3⟩:=hνat _ _ hp;obtain⟨a',b',h1',h2',h3'⟩:=hνat _ _ hq;have:=S9 hsb this h1 h1';exact⟨b,b',h2,h2',by omega⟩
  ·cases this
 ·have hk0:=(a00.mp hk).1;obtain⟨k',hk'⟩:∃k',θo[k]?=some k':=⟨_,a02 (by rw[hlo];exact hk0)⟩
  have hsub:=(Yb hheap hk' hk).1;have hw:W.own[k]?=some (if jJ x then[]else(V.own[k']?).getD []):=Rh hk' hk;cases x with
  |dead=>exact hw
  |cells l=>
   simp only[adZ]at hsub;split at hsub
   ·rename_i l' hl';obtain⟨o,cs,h1,h2,h3,h4⟩:=h.heap _ _ hl';exact⟨o,cs,hρat _ _ _ hk' h1,by rw[hw,h2];rfl,h3,Dh hsb h4 hsub⟩
   ·cases hsub
  |ro l=>
   simp only[adZ]at hsub;split at hsub
   ·rename_i l' hl';obtain⟨o,cs,fz,h1,h2,h3,h4,h5⟩:=h.heap _ _ hl';exact⟨o,cs,fz,hρat _ _ _ hk' h1,by rw[hw,h2];rfl,h3,h4,Dh hsb h5 hsub⟩
   ·cases hsub
  |arr a e=>
   simp only[adZ]at hsub;split at hsub
   ·rename_i a' e' hl';simp only[a01]at hsub;obtain⟨n,h1,h2⟩:=h.heap _ _ hl';refine⟨n,hsb.eqS hsub.1 h1,?_⟩;rcases h2 with⟨h2,h3⟩|⟨h2,o,rs,fz,h3,h4,h5,h6,h7⟩
    ·grind
    ·exact .inr ⟨h2,o,rs,fz,hρat _ _ _ hk' h3,by rw[hw,h4];rfl,h5,h6,MRs.map (fun r hr=>Dh hsn hr hsub.2) h7⟩
   ·rename_i a' e' hl';simp only[a01]at hsub;obtain⟨n,h1,o,rs,fz,h3,h4,h5,h6,h7⟩:=h.heap _ _ hl';have:=S9 hsb hsub.2 h.zero h1;exact⟨n,hsb.eqS hsub.1.1 h1,.inr ⟨by omega,o,rs,fz,hρat _ _ _ hk' h3,by rw[hw,h4];rfl,h5,h6,MRs.map (fun r hr=>Dh hsn hr hsub.1.2) h7⟩⟩
   ·rename_i hn;have:V.own[k']?=none:=by
     grind [G]
    exact⟨0,hsb.eqS hsub h.zero,.inl ⟨rfl,by rw[hw,this];rfl⟩⟩
   ·cases hsub
  |arrm a e=>
   simp only[adZ]at hsub;split at hsub
   ·rename_i a' e' hl';simp only[a01]at hsub;obtain⟨n,h1,o,rs,fz,h3,h4,h5,h6,h7⟩:=h.heap _ _ hl';exact⟨n,hsb.eqS hsub.1 h1,o,rs,fz,hρat _ _ _ hk' h3,by rw[hw,h4];rfl,h5,h6,MRs.map (fun r hr=>Dh hsn hr hsub.2) h7⟩
   ·cases hsub
  |map v=>
   simp only[adZ]at hsub;split at hsub
   ·rename_i v' hl';obtain⟨o,es,h1,h2,h3,h4⟩:=h.heap _ _ hl';exact⟨o,es,hρat _ _ _ hk' h1,by rw[hw,h2];rfl,h3,fun p hp=>⟨(h4 p hp).1,TG hsn (h4 p hp).2 hsub⟩⟩
   ·cases hsub
  |pk=>
   simp only[adZ]at hsub;split at hsub
   ·rename_i hl';obtain⟨o,ms,h1,h2,h3⟩:=h.heap _ _ hl';exact⟨o,ms,hρat _ _ _ hk' h1,by rw[hw,h2];rfl,h3⟩
   ·cases hsub
 ·rcases hown k a ha with rfl|⟨m,x,h1,h2,h3,h4⟩
  ·cases hi
  ·rcases hown k' b hb with rfl|⟨m',x',h1',h2',h3',h4'⟩
   ·cases hi'
   ·by_cases hm:m=m'
    ·subst hm;have hlt:m<S.heap.length:=by
      grind [G]
     rcases Nat.lt_or_gt_of_ne hkk with hlt'|hlt'
     ·grind [TE,G]
     grind [TE,G]
    grind [G]
 ·grind [G]
 ·have hk:(ρθ V.toVal θo)[k]?=some (some o):=hk;rw[ρθ,ax5]at hk
  grind [G]
section
variable{C:Ctx}{X:Cfg}{PK:PkI}{O0:Frm}{V:Vo}{A:Ab}{E:As}{Y:St}
mutual
def afm{V:Val}:∀(v:AV) {s:Sh},shC v=some s->M V s v
 |.bool b,s,h=>by cases h;exact .bc b
 |.int k n,s,h=>by cases h;exact .ic k n
 |.str l,s,h=>by cases h;exact .sc l
 |.nilp,s,h=>by cases h;exact .nilp
 |.nils,s,h=>by cases h;exact .nils
 |.nilFunc,s,h=>by cases h;exact .nilF
 |.nilIface,s,h=>by cases h;exact .nilI
 |.nilMap,s,h=>by cases h;exact .nilM
 |.func f x y,s,h=>by
  simp only[shC]at h;split at h
  ·rename_i a b ha hb;cases h;exact .func f _ _ _ _ (LY x ha) (LY y hb)
  ·cases h
 |.tup [],s,h=>by cases h;exact .undef
 |.tup (_::_),s,h=>by simp[shC]at h
 |.ref _ _,s,h=>by simp[shC]at h
 |.eptr _,s,h=>by simp[shC]at h
 |.emp,s,h=>by simp[shC]at h
 |.sl _ _,s,h=>by simp[shC]at h
 |.xsl _ _,s,h=>by simp[shC]at h
 |.msl _ _ _ _,s,h=>by simp[shC]at h
 |.map _,s,h=>by simp[shC]at h
 |.iface _ _,s,h=>by simp[shC]at h
 |.agg _,s,h=>by simp[shC]at h
def LY{V:Val}:∀(l:LA) {t:List Sh},abN l=some t->Mt V t l
 |[],t,h=>by cases h;exact .nil
 |v::l,t,h=>by
  simp only[abN]at h;split at h
  ·rename_i a b ha hb;cases h;exact .cons _ _ _ _ (afm v ha) (LY l hb)
  ·cases h
end
def F5(C:Ctx)(X:Cfg):Prop:=∀n s,X.gl n=some s->∀V:Val,M V s (.eptr ((C.gl n).getD []))
def bC(hg:F5 C X)(h:G PK O0 V A E Y){x:XA}{s:Sh}(hx:avS X A x=some s):M V.toVal s (avA C E x):=by
 cases x with
 |t n=>exact h.env n s hx
 |c v=>exact afm v hx
 |g n=>exact hg n s hx _
def KD(hg:F5 C X)(h:G PK O0 V A E Y):∀{l:List XA} {t:List Sh},aci X A l=some t->Mt V.toVal t (l.map (avA C E))
 |[],t,hx=>by cases hx;exact .nil
 |x::l,t,hx=>by
  simp only[aci]at hx;split at hx
  ·rename_i a b ha hb;cases hx;exact .cons _ _ _ _ (bC hg h ha) (KD hg h hb)
  ·cases hx
def SG{V:Val}{s:Sh}{v:AV}{l:List Sh}(h:M V s v)(hc:cellsS s=some l):Ms V l v.cells:=by
 unfold cellsS at hc;split at hc
 ·cases hc;cases h with
  |agg _ _ h=>exact h
 ·cases hc;cases h with
  |jv j=>rw[show j.av.cells=j.cs++[]from(au6 _).symm];exact .jv _ _ _ .nil
 ·cases hc;cases h with
  |jg _ _ j h=>rw[show j.av.cells=j.cs++[]from(au6 _).symm];exact .jg _ _ _ _ _ h .nil
 ·split at hc
  ·rename_i h1;cases hc;have:v.cells=[v]:=by
    cases h<;>first|rfl|cases h1
   rw[this];exact .one _ _ _ _ h1 h .nil
  ·cases hc
def OL{V:Val}{l:List Sh}{v:LA}(h:Ms V l v):M V (QW l) (.agg v):=by
 unfold QW;split
 ·cases h with
  |one _ _ _ _ h1=>cases h1
  |jv _ j b h1=>cases h1;rw[au6];exact .jv j
 ·cases h with
  |one _ _ _ _ h1=>cases h1
  |jg _ _ _ j b h0 h1=>cases h1;rw[au6];exact .jg _ _ j h0
 ·exact .agg _ _ h
theorem Val.more(V:Val)(ν':List Nat):V.le ⟨V.ν++ν',V.ρ⟩:=⟨fun i a ha=>by
 grind,fun i a ha=>ha⟩
def akM {V:Val}:∀{l:List Sh} {v:LA},Ms V l v->∀{n m:Nat} {t:List Sh} {f:Fs},V.ν.length=n->V.ν[0]?=some 0->rG l n=(t,m,f)->
  ∃ν':List Nat,(V.ν++ν').length=m/\Ms ⟨V.ν++ν',V.ρ⟩ t v/\∀g∈f,nV ⟨V.ν++ν',V.ρ⟩ g:=by
 intro l v h
 induction l generalizing v V with
 |nil=>
  intro n m t f hn h0 ho;cases h;simp only[rG,av6]at ho;obtain⟨rfl,rfl,rfl⟩:=ho;exact⟨[],by simpa using hn,.nil,fun g hg=>by cases hg⟩
 |cons s l ih=>
  intro n m t f hn h0 ho;have step:∀(ν1:List Nat) {w:LA},Ms V l w->∀{m:Nat} {t:List Sh} {f:Fs},rG l (n+ν1.length)=(t,m,f)->∃ν':List Nat,(V.ν++(ν1++ν')).length=m/\Ms ⟨V.ν++(ν1++ν'),V.ρ⟩ t w/\(∀g∈f,nV ⟨V.ν++(ν1++ν'),V.ρ⟩ g):=fun ν1 w hw m t f ho=>by
   have hle:V.le ⟨V.ν++ν1,V.ρ⟩:=⟨fun i a ha=>by
    grind,fun i a ha=>ha⟩
   obtain⟨ν',h1,h2,h3⟩:=ih (V:=⟨V.ν++ν1,V.ρ⟩) (hw.mono hle) (n:=n+ν1.length) (by simp[hn]) (hle.ν _ _ h0) ho
   grind
  have at1:∀(a:Nat) (ν':List Nat),(V.ν++([a]++ν'))[n]?=some a:=fun a ν'=>by
   grind
  have at2:∀(a b:Nat) (ν':List Nat),(V.ν++([a,b]++ν'))[n]?=some a/\(V.ν++([a,b]++ν'))[n+1]?=some b:=fun a b ν'=>by
   grind
  have z:∀ν':List Nat,(V.ν++ν')[0]?=some 0:=fun ν'=>by
   grind
  cases h with
  |jg a b _ j r hj hr=>
   obtain⟨⟨t',m',f'⟩,hq⟩:∃q,rG l (n+([]:List Nat).length)=q:=⟨_,rfl⟩;obtain⟨ν',h1,h2,h3⟩:=step [] hr hq;simp only[a09,aD4]at hq;simp only[rG,hq,av6]at ho;obtain⟨rfl,rfl,rfl⟩:=ho;exact⟨ν',h1,.jg _ _ _ _ _ (hj.mono (V.more ν')) h2,h3⟩
  |jv _ j r hr=>
   obtain⟨k,c,tx,ns,is,e1,e3,e2,e4,rfl⟩:=j.ex;obtain⟨⟨t',m',f'⟩,hq⟩:∃q,rG l (n+[ns.length,is.length].length)=q:=⟨_,rfl⟩;obtain⟨ν',h1,h2,h3⟩:=step [ns.length,is.length] hr hq;simp only[a07,a09]at hq;simp only[rG,hq,av6]at ho;obtain⟨rfl,rfl,rfl⟩:=ho;have⟨p1,p2⟩:=at2 ns.length is.length ν';refine⟨[ns.length,is.length]++ν',h1,.jg _ _ _ _ _ ⟨k,c,tx,ns,is,e1,e3,e2,e4,rfl,p1,p2⟩ h2,fun g hg=>?_⟩;rcases au9.mp hg with rfl|hg
   ·exact⟨_,_,p1,p2,by dsimp only;omega⟩
   ·rcases au9.mp hg with rfl|hg
    ·exact⟨_,_,p2,z _,by dsimp only;omega⟩
    ·exact h3 g hg
  |one _ _ x b hone hx hb=>
   have dflt:(∀e,s≠ .slx e)->s≠ .sljx->s≠ .str->s≠ .strb->s≠ .jv->∃ν':List Nat,(V.ν++ν').length=m/\Ms ⟨V.ν++ν',V.ρ⟩ t (x::b)/\∀g∈f,nV ⟨V.ν++ν',V.ρ⟩ g:=fun k1 k2 k3 k4 k5=>by
    obtain⟨⟨t',m',f'⟩,hq⟩:∃q,rG l (n+([]:List Nat).length)=q:=⟨_,rfl⟩;obtain⟨ν',h1,h2,h3⟩:=step [] hb hq;simp only[a09,aD4]at hq;have:rG (s::l) n=(s::t',m',f'):=by
     cases s<;>first|(exact absurd rfl (k1 _))|contradiction|(simp only[rG,hq])
    rw[this]at ho;simp only[av6]at ho;obtain⟨rfl,rfl,rfl⟩:=ho;exact⟨ν',h1,.one _ _ _ _ hone (hx.mono (V.more ν')) h2,h3⟩
   cases hx with
   |slx e rs hl hr=>
    obtain⟨⟨t',m',f'⟩,hq⟩:∃q,rG l (n+[rs.length].length)=q:=⟨_,rfl⟩;obtain⟨ν',h1,h2,h3⟩:=step [rs.length] hb hq;simp only[a07,a09]at hq;simp only[rG,hq,av6]at ho;obtain⟨rfl,rfl,rfl⟩:=ho;have p:=at1 rs.length ν';refine⟨[rs.length]++ν',h1,.one _ _ _ _ rfl (.sl n e rs p (hr.mono (V.more ([rs.length]++ν')))) h2,fun g hg=>?_⟩;rcases au9.mp hg with rfl|hg
    ·exact⟨_,_,p,z _,by dsimp only;omega⟩
    ·exact h3 g hg
   |sljx is hl=>
    obtain⟨⟨t',m',f'⟩,hq⟩:∃q,rG l (n+[is.length].length)=q:=⟨_,rfl⟩;obtain⟨ν',h1,h2,h3⟩:=step [is.length] hb hq;simp only[a07,a09]at hq;simp only[rG,hq,av6]at ho;obtain⟨rfl,rfl,rfl⟩:=ho;have p:=at1 is.length ν';refine⟨[is.length]++ν',h1,.one _ _ _ _ rfl (.slj n is p) h2,fun g hg=>?_⟩;rcases au9.mp hg with rfl|hg
    ·exact⟨_,_,p,z _,by dsimp only;omega⟩
    ·exact h3 g hg
   |str w=>
    obtain⟨⟨t',m',f'⟩,hq⟩:∃q,rG l (n+[w.length].length)=q:=⟨_,rfl⟩;obtain⟨ν',h1,h2,h3⟩:=step [w.length] hb hq;simp only[a07,a09]at hq;simp only[rG,hq,av6]at ho;obtain⟨rfl,rfl,rfl⟩:=ho;exact⟨[w.length]++ν',h1,.one _ _ _ _ rfl (.strl n w (at1 w.length ν')) h2,h3⟩
   |strb w hl=>
    obtain⟨⟨t',m',f'⟩,hq⟩:∃q,rG l (n+[w.length].length)=q:=⟨_,rfl⟩;obtain⟨ν',h1,h2,h3⟩:=step [w.length] hb hq;simp only[a07,a09]at hq;simp only[rG,hq,av6]at ho;obtain⟨rfl,rfl,rfl⟩:=ho;have p:=at1 w.length ν';refine⟨[w.length]++ν',h1,.one _ _ _ _ rfl (.strl n w p) h2,fun g hg=>?_⟩;rcases au9.mp hg with rfl|hg
    ·exact⟨_,_,p,z _,by dsimp only;omega⟩
    ·exact h3 g hg
   |jv=>cases hone
   |_=>exact dflt (fun _=>by simp) (by simp) (by simp) (by simp) (by simp)
theorem G.more(h:G PK O0 V A E Y)(ν':List Nat){m:Nat}{f:Fs}(hm:(V.ν++ν').length=m)(hf:∀g∈f,nV ⟨V.ν++ν',V.ρ⟩ g):G PK O0 ⟨⟨V.ν++ν',V.ρ⟩,V.own⟩ {A with nx:=m,facts:=f++A.facts} E Y:=by
 have hle:V.toVal.le (⟨⟨V.ν++ν',V.ρ⟩,V.own⟩:Vo).toVal:=V.toVal.more ν';refine⟨fun t s ht=>(h.env t s ht).mono hle,hm,h.lρ,h.lo,hle.ν _ _ h.zero,fun g hg=>?_,fun k x hk=>(h.heap k x hk).mono hle rfl (fun _ _ _ _=>rfl) (fun _ _ _=>rfl),h.dis,h.rng,h.ρl,h.base,h.ok⟩;rcases az8.mp hg with hg|hg
 ·exact hf g hg
 ·exact(h.facts g hg).mono hle
def Z5(h:G PK O0 V A E Y){l:List Sh}{v:LA}(hl:Ms V.toVal l v):∃V':Vo,V.toVal.le V'.toVal/\V'.own=V.own/\V'.ρ=V.ρ/\G PK O0 V' (opened A l).2 E Y/\Ms V'.toVal (opened A l).1 v:=by
 obtain⟨⟨t,m,f⟩,hq⟩:∃q,rG l A.nx=q:=⟨_,rfl⟩;obtain⟨ν',h1,h2,h3⟩:=akM hl h.lν h.zero hq;unfold opened;rw[hq];exact⟨⟨⟨V.ν++ν',V.ρ⟩,V.own⟩,V.toVal.more ν',rfl,rfl,h.more ν' h1 h3,h2⟩
def XU{V:Val}:∀ns:List LU,(∀x∈ns,x.length<=LB)->∃rs:List LA,rs.length=ns.length/\rs.flatten=ns.map AV.str/\MRs V [.strb] rs
 |[],_=>⟨[],rfl,rfl,.nil _⟩
 |s::ns,h=>by
  obtain⟨rs,h1,h2,h3⟩:=XU ns (fun x hx=>h x (by simp[hx]))
  exact⟨[.str s]::rs,by simp[h1],by rw[ax3,h2];rfl,.cons _ _ _ (.one _ _ _ _ rfl (.strb s (h s (by simp))) .nil) h3⟩
def KI{V:Val}:∀{l:List Sh} {v:LA},Ms V l v->∀{n:Nat} {s:Sh},cellAt l n=some s->∃x,v[n]?=some x/\M V s x
 |_,_,.nil,n,s,hc=>by simp[cellAt]at hc
 |_,_,.one s0 t v b h1 h2 h3,n,s,hc=>by
  cases n with
  |zero=>
   have:cellAt (s0::t) 0=some s0:=by cases s0<;>first|rfl|cases h1
   grind
  |succ n=>
   have:cellAt (s0::t) (n+1)=cellAt t n:=by cases s0<;>first|rfl|cases h1
   rw[this]at hc;obtain⟨x,h4,h5⟩:=KI h3 hc;exact⟨x,by simpa using h4,h5⟩
 |_,_,.jv t j b h1,n,s,hc=>by
  match n,hc with
  |n+5,hc=>
   have hc:cellAt t n=some s:=hc;obtain⟨x,h4,h5⟩:=KI h1 hc
   grind [j.len]
 |_,_,.jg p q t j b h0 h1,n,s,hc=>by
  obtain⟨k,c,tx,ns,is,e1,e3,e2,e4,rfl,hp,hq⟩:=h0;rw[JV.mk_cs]
  match n,hc with
  |0,hc=>cases hc;exact⟨_,rfl,.int _ _⟩
  |1,hc=>cases hc;exact⟨_,rfl,.int _ _⟩
  |2,hc=>cases hc;exact⟨_,rfl,.strb _ e4.t⟩
  |3,hc=>
   cases hc;obtain⟨rs,r1,r2,r3⟩:=XU (V:=V) ns e4.ns;exact⟨_,rfl,by grind [M]⟩
  |4,hc=>cases hc;exact⟨_,rfl,.slj _ is hq⟩
  |n+5,hc=>
   have hc:cellAt t n=some s:=hc;obtain⟨x,h4,h5⟩:=KI h1 hc;exact⟨x,h4,h5⟩
theorem QR{V:Val}{l:List Sh}{v:LA}(h:Ms V l v){ag:Bool}{sz off:Nat}{s:Sh}(hl:Xm ag sz l off=some s):∃x,pt ag sz (v.drop off)=some x/\M V s x:=by
 cases ag with
 |true=>
  simp only[Xm,if_true]at hl;split at hl
  ·rename_i a b hab;split at hl
   ·rename_i c d hcd;cases hl;obtain⟨x,y,rfl,e2,e3,e4⟩:=h.cut hab;obtain⟨x',y',rfl,e2',e3',e4'⟩:=e4.cut hcd;refine⟨.agg x',?_,OL e3'⟩;unfold pt
    grind
   ·cases hl
  ·cases hl
 |false=>
  simp only[Xm,ay4,if_false]at hl;obtain⟨x,h1,h2⟩:=KI h hl;refine⟨x,?_,h2⟩;unfold pt;simp_all
def X3{V:Val}{l:List Sh}{v:LA}(h:Ms V l v){u r:List Sh}{w:LA}(hw:Ms V u w){off sz:Nat}(hs:VI l off u sz=some r):w.length=sz/\off+sz<=v.length/\Ms V r (splice v off w):=by
 unfold VI at hs;split at hs
 ·rename_i hz;rw[beq_iff_eq]at hz;have hl:=hw.len;split at hs
  ·rename_i a b hab;split at hs
   ·rename_i c d hcd;cases hs;obtain⟨x,y,rfl,e2,e3,e4⟩:=h.cut hab;obtain⟨x',y',rfl,e2',e3',e4'⟩:=e4.cut hcd;refine⟨by omega,by simp;omega,?_⟩
    unfold splice;rw[av7 (by omega),a08 (by omega),hl,hz,<-e2,<-e2',<-a04,<-au2 x x' y',List.drop_left']
    ·exact(e3.app hw).app e4'
    ·rfl
   ·cases hs
  ·cases hs
 ·cases hs
def WV(hg:F5 C X)(h:G PK O0 V A E Y):∀{ps:List (Nat×Nat×XA)} {l:List Sh} {v:LA},Ms V.toVal l v->∀{r:List Sh},acN X A l ps=some r->∃w,zA v (ps.map fun(o,s,x)=>(o,s,avA C E x))=some w/\Ms V.toVal r w
 |[],l,v,hl,r,hf=>by cases hf;exact⟨v,rfl,hl⟩
 |(off,sz,x)::ps,l,v,hl,r,hf=>by
  simp only[acN]at hf;split at hf
  ·rename_i s hs;split at hf
   ·rename_i u hu;split at hf
    ·rename_i l' hl';have hx:=SG (bC hg h hs) hu;obtain⟨e1,e2,e3⟩:=X3 hl hx hl';obtain⟨w,h1,h2⟩:=WV hg h e3 hf;refine⟨w,?_,h2⟩;simp only[av3,zA]
     grind
    ·cases hf
   ·cases hf
  ·cases hf
def agV{V:Val}{l:List Sh}{z:LA}(h:Ms V l z):∀n,Ms V (apX l n) (rep z n)
 |0=>.nil
 |n+1=>h.app (agV h n)
end
section
variable{C:Ctx}{X:Cfg}{PK:PkI}{O0:Frm}{V:Vo}{A:Ab}{E:As}{Y:St}
structure Ch(V:Vo)(A:Ab)(Y:St)(V':Vo)(A':Ab)(Y':St):Prop where
 le:V.toVal.le V'.toVal
 wr:∀k∈A.wr,k∈A'.wr
 ls:A'.ls=A.ls
 env:A'.env=A.env
 c:∀k x,A.heap[k]?=some x->k∉A'.wr->A'.heap[k]?=some x/\V'.own[k]?=V.own[k]? /\∀l o,x=.cells l->V.own[k]?=some [o]->Y'[o]?=Y[o]?
def Ch.refl:Ch V A Y V A Y:=⟨.rfl,fun _ h=>h,rfl,rfl,fun _ _ h _=>⟨h,rfl,fun _ _ _ _=>rfl⟩⟩
def Ch.trans{V' V'':Vo}{A' A'':Ab}{Y' Y'':St}(h:Ch V A Y V' A' Y')(k:Ch V' A' Y' V'' A'' Y''):Ch V A Y V'' A'' Y'':=by
 refine⟨h.le.trans k.le,fun q hq=>k.wr q (h.wr q hq),k.ls.trans h.ls,k.env.trans h.env,fun q l hq hw=>?_⟩
 grind [Ch]
def G.kill(h:G PK O0 V A E Y)(k:Nat):G PK O0 ⟨V.toVal,V.own.set k []⟩ (A.seth k .dead) E Y:=by
 have hoo:∀(j:Nat) a,(V.own.set k [])[j]?=some a->a=[]\/V.own[j]?=some a:=fun j a ha=>by
  grind
 refine⟨h.env,h.lν,by simp[Ab.seth,h.lρ],by simp[Ab.seth,h.lo],h.zero,h.facts,fun j z hj=>?_,fun j j' a b hjj ha hb i hi hi'=>?_,fun j a ha i hi=>?_,h.ρl,h.base,h.ok⟩
 ·simp only[Ab.seth]at hj;rw[List.getElem?_set]at hj;split at hj
  ·rename_i hjk;subst hjk;split at hj
   ·cases hj;show(V.own.set k [])[k]?=_
    grind [G]
   ·cases hj
  ·rename_i hjk;refine HM.mono (V:=V) (V':=⟨V.toVal,V.own.set k []⟩) (Y:=Y) .rfl ?_ (fun _ _ _ _=>rfl) (fun _ _ _=>rfl) (h.heap j z hj)
   grind
 ·grind [G]
 grind [G]
def G.free(h:G PK O0 V A E Y){o:Nat}{x:AO}(hn:∀(k:Nat) a,V.own[k]?=some a->o∉a)(h0:O0.length<=o\/o∈O0.w)(hx:x.below Y.length=true):G PK O0 V A E (Y.set o x):=by
 have hne:∀(i:Nat),i≠o->(Y.set o x)[i]?=Y[i]?:=fun i hi=>by rw[aA5 (Ne.symm hi)]
 refine⟨h.env,h.lν,h.lρ,h.lo,h.zero,h.facts,fun k z hk=>?_,h.dis,fun k a ha i hi=>by simpa using h.rng k a ha i hi,fun k o' hk=>by simpa using h.ρl k o' hk,?_,?_⟩
 ·refine(h.heap k z hk).mono .rfl rfl (fun a ha i hi=>hne i fun e=>?_) (fun i hi hw=>hne i fun e=>?_)
  ·subst e;exact hn k a ha hi
  grind
 ·grind [G]
 grind [Ok,h.ok]
def Ch.kill(k:Nat):Ch V A Y ⟨V.toVal,V.own.set k []⟩ (A.seth k .dead) Y:=by
 refine⟨.rfl,fun q hq=>by simp[Ab.seth,hq],rfl,rfl,fun j l hj hw=>?_⟩
 simp only[Ab.seth,au9,not_or]at hw;refine⟨?_,?_,fun _ _ _ _=>rfl⟩
 ·simp only[Ab.seth]
  grind
 grind
def Ch.state{Y':St}(hc:∀(k:Nat) l (o:Nat),A.heap[k]?=some (.cells l)->V.own[k]?=some [o]->Y'[o]?=Y[o]?):Ch V A Y V A Y':=⟨.rfl,fun _ h=>h,rfl,rfl,fun k x hk _=>⟨hk,rfl,fun l o hx ho=>hc k l o (hx▸hk) ho⟩⟩
def Ch.free{x:AO}{o:Nat}(hn:∀(k:Nat) a,V.own[k]?=some a->o∉a):Ch V A Y V A (Y.set o x):=.state fun k l o' _ ho=>by
 grind
def Ch.open(h:G PK O0 V A E Y){V':Vo}{A':Ab}(hle:V.toVal.le V'.toVal)(ho:V'.own=V.own)(hw:A'.wr=A.wr)(hl:A'.ls=A.ls)(he:A'.env=A.env)(hh:A'.heap=A.heap):Ch V A Y V' A' Y:=
 ⟨hle,fun k hk=>by rw[hw];exact hk,hl,he,fun k l hk _=>⟨by rw[hh];exact hk,by rw[ho],fun _ _ _ _=>rfl⟩⟩
def G.new_ch(h:G PK O0 V A E Y){V':Vo}{x:AO}{y:HO}(hle:V.toVal.le V'.toVal)(ho:V'.own=V.own++[[Y.length]]):Ch V A Y V' (A.push y) (Y++[x]):=by
 refine⟨hle,fun _ hk=>hk,rfl,rfl,fun k l hk _=>?_⟩;have hlt:k<A.heap.length:=(a00.mp hk).1;refine⟨?_,?_,fun _ o _ ho'=>?_⟩
 ·show(A.heap++[y])[k]?=_
  grind
 ·grind [G]
 ·rw[av1 (h.rng k _ ho' o (by simp)).2]
def G.grow_ok (h:G PK O0 V A E Y) {e:List Sh} {rs:List LA} {fz:Fz} (hr:MRs V.toVal e rs) {fs:Fs} (hf:∀f∈fs,∀V':Val,V.toVal.le V'->V'.ν[A.nx]?=some rs.length->nV V' f):
  ∃V':Vo,Ch V A Y V' (A.grow e fs).2 (Y++[.cells rs.flatten fz])/\G PK O0 V' (A.grow e fs).2 E (Y++[.cells rs.flatten fz])/\M V'.toVal (A.grow e fs).1 (.msl Y.length 0 rs.length (wds e)):=by
 obtain⟨V1,hle1,hν1,ho1,h1⟩:=h.sym rs.length;have hb:(AO.cells rs.flatten fz).below (Y.length+1)=true:=tY (Nat.le_succ _) (MRs.bels h.ρl hr);obtain⟨V2,hle2,hρ2,hν2,ho2,h2⟩:=h1.new (x:=.cells rs.flatten fz) (y:=.arrm A.nx e) hb (fun V' hle' hρ' hw'=>⟨rs.length,hle'.ν _ _ hν1,Y.length,rs,fz,hρ',hw',by simp,rfl,(hr.mono hle1).mono hle'⟩)
 have hle:=hle1.trans hle2;have hν:V2.ν[A.nx]?=some rs.length:=hle2.ν _ _ hν1;have hfs:∀fs':Fs,(∀f∈fs',nV V2.toVal f)->G PK O0 V2 {A.push (.arrm A.nx e)with nx:=A.nx+1,facts:=fs'++A.facts} E (Y++[.cells rs.flatten fz]):=by
  intro fs'
  induction fs' with
  |nil=>intro _;exact h2
  |cons f fs' ih=>grind [G]
 refine⟨V2,?_,hfs fs fun f hf'=>hf f hf' _ hle hν,?_⟩
 ·have:=h.new_ch (V':=V2) (x:=.cells rs.flatten fz) (y:=.arrm A.nx e) hle (by rw[ho2,ho1])
  exact⟨this.le,this.wr,this.ls,this.env,this.c⟩
 ·exact .accm _ _ _ Y.length rs.length hν hρ2
def G.cells_ok (h:G PK O0 V A E Y) {l:List Sh} {cs:LA} (hl:Ms V.toVal l cs):
  ∃V':Vo,Ch V A Y V' (A.push (.cells l)) (Y++[.cells cs FZ])/\G PK O0 V' (A.push (.cells l)) E (Y++[.cells cs FZ])/\M V'.toVal (.ref A.heap.length 0) (.ref Y.length 0):=by
 obtain⟨V2,hle2,hρ2,hν2,ho2,h2⟩:=h.new (x:=.cells cs FZ) (y:=.cells l) (tY (Nat.le_succ _) (Ms.bels h.ρl hl)) (fun V' hle' hρ' hw'=>⟨Y.length,cs,hρ',hw',by simp,hl.mono hle'⟩)
 exact⟨V2,h.new_ch hle2 ho2,h2,.ref _ _ _ hρ2⟩
def V4(h:G PK O0 V A E Y){m:Bool}{k a w:Nat}{e:List Sh}(hk:Pq m A.heap k a w=some e):wds e=w/\∃n,V.ν[a]?=some n/\(m=false/\n=0/\V.own[k]?=some []\/∃o rs fz,V.ρ[k]?=some (some o)/\V.own[k]?=some [o]/\Y[o]?=some (.cells rs.flatten fz)/\rs.length=n/\MRs V.toVal e rs):=by
 unfold Pq at hk;split at hk
 ·rename_i b e' hh;split at hk
  ·rename_i hc;simp only[a01,beq_iff_eq,aA8]at hc;cases hk;obtain⟨⟨hm,rfl⟩,hw⟩:=hc;obtain⟨n,h1,h2⟩:=h.heap _ _ hh
   grind
  ·cases hk
 ·rename_i b e' hh;split at hk
  ·rename_i hc;simp only[a01,beq_iff_eq]at hc;cases hk;obtain⟨rfl,hw⟩:=hc;obtain⟨n,h1,h2⟩:=h.heap _ _ hh;exact⟨hw,n,h1,.inr h2⟩
  ·cases hk
 ·cases hk
end
def Jv{V:Val}{s:Sh}{k:IntKind}{v:AV}(h:isInt s=some k)(hv:M V s v):∃n,v=.int k n:=by
 cases s<;>simp[isInt]at h<;>subst h<;>cases hv<;>exact⟨_,rfl⟩
def abn{V:Val}(h0:V.ν[0]?=some 0){s:Sh}{a:Nat}{c:Int}{v:AV}(h:lin s=some (a,c))(hv:M V s v):∃m:Nat,V.ν[a]?=some m/\v=.int .i64 (m+c):=by
 cases s with
 |sym j d=>cases h;grind [M]
 |ic k n=>
  cases k<;>simp[lin]at h
  grind [M]
 |_=>simp[lin]at h
def Eb{V:Val}{s:Sh}{v:AV}(h:H7 s=true)(hv:M V s v):∃x,v=.str x:=by
 cases s<;>simp[H7]at h<;>cases hv<;>exact⟨_,rfl⟩
def aqA(np:Bool)(op:BinOp)(ek:Nat)(c:Bool)(k k':IntKind)(a b:Int):xn np op ek c (.int k a) (.int k' b)=binOp op ek c (.int k a) (.int k' b):=V9 ..
def bt(b:Bool):(b==true)=b:=by cases b<;>rfl
def bf(b:Bool):(b==false)= !b:=by cases b<;>rfl
def Ub(x:LU):jU x []=decide ((x.length:Int)+0=((0:Nat):Int)):=by
 rw[nK];cases x<;>simp;omega
def UC(x:LU):jU [] x=decide ((x.length:Int)+0=((0:Nat):Int)):=by
 rw[nK];cases x<;>simp;omega
section
variable{V:Val}{F:Fs}
def Tc(h0:V.ν[0]?=some 0)(hF:∀f∈F,nV V f){x n a:Nat}(h:leN F x n=true)(ha:V.ν[x]?=some a):a<=n:=by
 have:=JK h0 hF _ _ _ _ _ _ h ha h0;omega
def Ed(h0:V.ν[0]?=some 0)(hF:∀f∈F,nV V f){x y a b:Nat}{c:Int}(h:le? F x c y=true)(ha:V.ν[x]?=some a)(hb:V.ν[y]?=some b):(a:Int)+c<=b:=JK h0 hF _ _ _ _ _ _ h ha hb
def OkB(V:Val)(u:Sh)(r:Option AV):Prop:=∃v,r=some v/\M V u v
theorem aiP(h0:V.ν[0]?=some 0)(hF:∀f∈F,nV V f){j:Nat}{c n:Int}{m:Nat}(hq:(leN F j LB&&small c&&small n)=true)(hm:V.ν[j]?=some m):IntKind.i64.wrap ((m:Int)+(c+n))=m+(c+n):=by
 simp only[small,a01,decide_eq_true_eq]at hq;have:=Tc h0 hF hq.1.1 hm
 grind [LB,w64]
def aml(h0:V.ν[0]?=some 0)(hF:∀f∈F,nV V f)(np:Bool){op:BinOp}{ek:Nat}{cst:Bool}{x y u:Sh}{p q:AV}{k k':IntKind}(hx:M V x p)(hy:M V y q)(hk:isInt x=some k)(hk':isInt y=some k')(h:aho F op ek cst x y=some u):OkB V u (xn np op ek cst p q):=by
 obtain⟨a,rfl⟩:=Jv hk hx;obtain⟨b,rfl⟩:=Jv hk' hy;rw[aqA];unfold aho at h;simp only[hk,hk']at h;have hlin:∀{i j:Nat} {c d:Int},lin x=some (i,c)->lin y=some (j,d)->∃m m':Nat,V.ν[i]?=some m/\V.ν[j]?=some m'/\a=m+c/\b=m'+d:=fun h1 h2=>by
  obtain⟨m,e1,e2⟩:=abn h0 h1 hx;obtain⟨m',e3,e4⟩:=abn h0 h2 hy
  grind
 cases op
 case shl=>
  simp only at h;split at h
  ·split at h
   ·cases h;cases hy;rw[PV,if_neg (by omega)];exact⟨_,rfl,.int _ _⟩
   ·cases h
  ·cases h
 case shr=>
  simp only at h;split at h
  ·split at h
   ·cases h;cases hy;rw[PW,if_neg (by omega)];exact⟨_,rfl,.int _ _⟩
   ·cases h
  ·cases h
 all_goals
  simp only at h;split at h
  ·cases h
  rename_i hkk;simp at hkk;subst hkk
 case add=>
  rw[PH];split at h
  ·rename_i j c n;split at h
   ·rename_i hq;cases h;cases hx with|sym _ _ m e=>cases hy;exact⟨_,rfl,by rw[Int.add_assoc,aiP h0 hF hq e];exact .sym _ _ _ e⟩
   ·cases h;exact⟨_,rfl,.int _ _⟩
  ·rename_i n j c;split at h
   ·rename_i hq;cases h;cases hy with|sym _ _ m e=>cases hx;exact⟨_,rfl,by grind [aiP,M]⟩
   ·cases h;exact⟨_,rfl,.int _ _⟩
  ·split at h
   ·rename_i hq;simp only[small,a01,decide_eq_true_eq]at hq;cases h;cases hx;cases hy;skip;exact⟨_,rfl,by grind [w64,M]⟩
   ·cases h;exact⟨_,rfl,.int _ _⟩
  ·cases h;exact⟨_,rfl,.int _ _⟩
 case sub=>
  rw[KH];split at h
  ·rename_i j c n;split at h
   ·rename_i hq;cases h;cases hx with|sym _ _ m e=>
     cases hy;skip;simp only[small,a01,decide_eq_true_eq]at hq;have:=Tc h0 hF hq.1.1 e;simp only[LB]at this;exact⟨_,rfl,by grind [w64,M]⟩
   ·cases h;exact⟨_,rfl,.int _ _⟩
  ·split at h
   ·rename_i hq;simp only[small,a01,decide_eq_true_eq]at hq;cases h;cases hx;cases hy;skip;exact⟨_,rfl,by grind [w64,M]⟩
   ·cases h;exact⟨_,rfl,.int _ _⟩
  ·cases h;exact⟨_,rfl,.int _ _⟩
 case mul=>cases h;rw[PQ];exact⟨_,rfl,.int _ _⟩
 case and=>cases h;rw[PI];exact⟨_,rfl,.int _ _⟩
 case or=>cases h;rw[Wi];exact⟨_,rfl,.int _ _⟩
 case xor=>cases h;rw[PY];exact⟨_,rfl,.int _ _⟩
 case andNot=>cases h;rw[DN];exact⟨_,rfl,.int _ _⟩
 case quo=>
  split at h
  ·split at h
   ·rename_i hn;cases h;cases hy;rw[PT,if_neg (by simpa using hn)];exact⟨_,rfl,.int _ _⟩
   ·cases h
  ·cases h
 case rem=>
  split at h
  ·split at h
   ·rename_i hn;cases h;cases hy;rw[PU,if_neg (by simpa using hn)];exact⟨_,rfl,.int _ _⟩
   ·cases h
  ·cases h
 case eql=>
  rw[PL];split at h
  ·rename_i i c j d h1 h2;obtain⟨m,m',e1,e2,rfl,rfl⟩:=hlin h1 h2;cases h;refine⟨_,rfl,?_⟩;split
   ·rename_i hij;subst hij;rw[e1]at e2;cases e2;rw[show((m:Int)+c==m+d)=(decide (c=d)==EZ .eql) by rw[aB7];simp only[beq_iff_eq,decide_eq_true_eq,EZ];omega]
    exact .bc _
   ·have:((m:Int)+c==m'+d)=(decide ((m:Int)+(c-d)=m')==true):=by
     grind
    rw[this];exact .teq _ _ _ _ _ _ e1 e2
  ·cases h;exact⟨_,rfl,.bool _⟩
 case neq=>
  rw[PR];split at h
  ·rename_i i c j d h1 h2;obtain⟨m,m',e1,e2,rfl,rfl⟩:=hlin h1 h2;cases h;refine⟨_,rfl,?_⟩;split
   ·rename_i hij;subst hij;rw[e1]at e2;cases e2;rw[show((m:Int)+c !=m+d)=(decide (c=d)==EZ .neq) by rw[aB7];simp only[bne_iff_ne,ne_eq,beq_iff_eq,EZ,decide_eq_false_iff_not];omega]
    exact .bc _
   ·have:((m:Int)+c !=m'+d)=(decide ((m:Int)+(c-d)=m')==false):=by
     grind
    rw[this];exact .teq _ _ _ _ _ _ e1 e2
  ·cases h;exact⟨_,rfl,.bool _⟩
 case lss=>
  rw[PP];split at h
  ·rename_i i c j d h1 h2;obtain⟨m,m',e1,e2,rfl,rfl⟩:=hlin h1 h2;cases h;refine⟨_,rfl,?_⟩;split
   ·rename_i hij;subst hij;rw[e1]at e2;cases e2
    grind [M]
   ·rw[show decide ((m:Int)+c<m'+d)=decide ((m:Int)+(c-d+1)<=m')from decide_eq_decide.mpr (by omega)]
    exact .tst _ _ _ _ _ e1 e2
  ·cases h;exact⟨_,rfl,.bool _⟩
 case leq=>
  rw[PO];split at h
  ·rename_i i c j d h1 h2;obtain⟨m,m',e1,e2,rfl,rfl⟩:=hlin h1 h2;cases h;refine⟨_,rfl,?_⟩;split
   ·rename_i hij;subst hij;rw[e1]at e2;cases e2
    grind [M]
   grind [M]
  ·cases h;exact⟨_,rfl,.bool _⟩
 case gtr=>
  rw[PN];split at h
  ·rename_i i c j d h1 h2;obtain⟨m,m',e1,e2,rfl,rfl⟩:=hlin h1 h2;cases h;refine⟨_,rfl,?_⟩;split
   ·rename_i hij;subst hij;rw[e1]at e2;cases e2
    grind [M]
   ·rw[show decide ((m:Int)+c>m'+d)=decide ((m':Int)+(d-c+1)<=m)from decide_eq_decide.mpr (by omega)]
    exact .tst _ _ _ _ _ e2 e1
  ·cases h;exact⟨_,rfl,.bool _⟩
 case geq=>
  rw[PM];split at h
  ·rename_i i c j d h1 h2;obtain⟨m,m',e1,e2,rfl,rfl⟩:=hlin h1 h2;cases h;refine⟨_,rfl,?_⟩;split
   ·rename_i hij;subst hij;rw[e1]at e2;cases e2
    grind [M]
   ·rw[show decide ((m:Int)+c>=m'+d)=decide ((m':Int)+(d-c)<=m)from decide_eq_decide.mpr (by omega)]
    exact .tst _ _ _ _ _ e2 e1
  ·cases h;exact⟨_,rfl,.bool _⟩
def agh{V:Val}:∀{l m:List Sh} {c:Nat},acI c l m=true->∀{v w:LA},Ms V l v->Ms V m w->∃b,jW c v w=some b
 |[],[],c,_,v,w,h1,h2=>by cases h1;cases h2;exact⟨true,by unfold jW;rfl⟩
 |[],_::_,c,h,v,w,_,_=>by simp[acI]at h
 |_::_,[],c,h,v,w,_,_=>by simp[acI]at h
 |s::l,t::m,c,h,v,w,h1,h2=>by
  simp only[acI,a01]at h;obtain⟨⟨⟨o1,o2⟩,h3⟩,h4⟩:=h;obtain⟨x,v',rfl,x1,h1⟩:=h1.inv o1;obtain⟨y,w',rfl,y1,h2⟩:=h2.inv o2;obtain⟨b,hb⟩:=agh h4 h1 h2;split at h3
  ·rename_i hc;rw[a01]at h3;obtain⟨p,rfl⟩:=Eb h3.1 x1;obtain⟨q,rfl⟩:=Eb h3.2 y1;exact⟨_,by unfold jW;rw[if_pos hc,hb];rfl⟩
  ·split at h3
   ·rename_i hc;rw[a01]at h3;obtain⟨p,rfl⟩:∃p,x=.bool p:=by cases s<;>simp[acI.isBoolS]at h3<;>cases x1<;>exact⟨_,rfl⟩
    obtain⟨q,rfl⟩:∃p,y=.bool p:=by cases t<;>simp[acI.isBoolS]at h3<;>cases y1<;>exact⟨_,rfl⟩
    exact⟨_,by unfold jW;rw[if_pos hc,hb];rfl⟩
   ·split at h3
    ·rename_i k k' hk hk';rw[beq_iff_eq]at h3;subst h3;obtain⟨p,rfl⟩:=Jv hk x1;obtain⟨q,rfl⟩:=Jv hk' y1;exact⟨_,by unfold jW;rw[if_pos ⟨by omega,rfl⟩,hb];rfl⟩
    ·cases h3
def agi{op:BinOp}(h:op=.eql\/op=.neq)(b:Bool):uF op (some b)=some (.bool (b==EZ op)):=by
 rcases h with rfl|rfl<;>cases b<;>rfl
def amm(h0:V.ν[0]?=some 0)(hF:∀f∈F,nV V f)(np:Bool){op:BinOp}{ek:Nat}{cst:Bool}{x y u:Sh}{p q:AV}(hx:M V x p)(hy:M V y q)(h:aho F op ek cst x y=some u):OkB V u (xn np op ek cst p q):=by
 cases hk:isInt x with
 |some k=>
  cases hk':isInt y with
  |some k'=>exact aml h0 hF np hx hy hk hk' h
  |none=>
   exfalso;unfold aho at h;simp only[hk,hk']at h;cases x<;>simp[isInt,H7]at hk h<;>(cases op<;>first|(simp at h;done)|(unfold amB at h;split at h<;>first|(cases h;done)|simp_all))
 |none=>
  unfold aho at h;simp only[hk]at h;split at h
  ·rename_i hs;rw[a01]at hs;obtain⟨a,rfl⟩:=Eb hs.1 hx;obtain⟨b,rfl⟩:=Eb hs.2 hy;rw[We,PX];cases op<;>simp only at h
   case eql=>
    split at h
    ·cases h;cases hx with|strl i s e=>cases hy;exact⟨_,rfl,by rw[Ub,<-bt (decide _)];exact .teq _ _ _ _ _ _ e h0⟩
    ·cases h;cases hy with|strl i s e=>cases hx;exact⟨_,rfl,by rw[UC,<-bt (decide _)];exact .teq _ _ _ _ _ _ e h0⟩
    ·cases h;exact⟨_,rfl,.bool _⟩
   case neq=>
    split at h
    ·cases h;cases hx with|strl i s e=>cases hy;exact⟨_,rfl,by rw[Ub,<-bf];exact .teq _ _ _ _ _ _ e h0⟩
    ·cases h;cases hy with|strl i s e=>cases hx;exact⟨_,rfl,by rw[UC,<-bf];exact .teq _ _ _ _ _ _ e h0⟩
    ·cases h;exact⟨_,rfl,.bool _⟩
   case lss=>cases h;exact⟨_,rfl,.bool _⟩
   case leq=>cases h;exact⟨_,rfl,.bool _⟩
   case gtr=>cases h;exact⟨_,rfl,.bool _⟩
   case geq=>cases h;exact⟨_,rfl,.bool _⟩
   all_goals cases h
  ·have hop:op=.eql\/op=.neq:=by cases op<;>simp at h<;>simp
   have h:amB (EZ op) cst ek x y=some u:=by
    rcases hop with rfl|rfl<;>exact h
   have fin:∀b:Bool,u=.bc (if b then EZ op else !EZ op)->xn np op ek cst p q=uF op (some b)->OkB V u (xn np op ek cst p q):=fun b hu hb=>by
    rw[hb,agi hop];refine⟨_,rfl,?_⟩
    grind [EZ,M]
   unfold amB at h;split at h
   ·rename_i n l m _ _;split at h
    ·rename_i hc;rw[a01,beq_iff_eq]at hc;cases h;obtain⟨v,rfl,hv⟩:∃w,p=.agg w/\Ms V l w:=by grind [M]
     obtain⟨w,rfl,hw⟩:∃w,q=.agg w/\Ms V m w:=by grind [M]
     obtain⟨b,hb⟩:=agh hc.2 hv hw;rw[V8,DR];have:eqA (n+8) cst (.agg v) (.agg w)=some b:=by
      show(if v.length=n%1024 then jW (n/1024) v w else none)=_;rw[if_pos (by rw[hv.len,hc.1]),hb]
     rw[this,agi hop];exact⟨_,rfl,.bool _⟩
    ·cases h
   ·simp at h;subst h;cases hx;cases hy;refine fin true (by simp) ?_
    rw[Py,AQ];rfl
   ·simp at h;subst h;cases hx;cases hy;refine fin false (by simp) ?_
    rw[SB,zI];rfl
   ·simp at h;subst h;cases hx;cases hy;refine fin false (by simp) ?_
    rw[SB,zI];rfl
   ·simp at h;subst h;cases hx;cases hy;refine fin false (by simp) ?_
    rw[Px,AP];rfl
   ·split at h
    ·rename_i hc;simp at h;subst h;cases hx;cases hy;refine fin true (by simp) ?_
     rw[AC,sU];show uF op (if cst=true then some true else none)=_;rw[if_pos hc]
    ·cases h
   ·simp at h;subst h;cases hx;cases hy;refine fin false (by simp) ?_
    rw[Je,yI];rfl
   ·simp at h;subst h;cases hx;cases hy;refine fin true (by simp) ?_
    rw[Pz,AU];rfl
   ·cases h
def aqi{op:UnOp}{x u:Sh}{p:AV}(hx:M V x p)(h:aqh op x=some u):OkB V u (unOp op p):=by
 unfold aqh at h;split at h<;>cases h<;>cases hx
 ·exact⟨_,rfl,.bc _⟩
 ·exact⟨_,rfl,.bool _⟩
 ·rename_i a b e f;refine⟨_,rfl,?_⟩;rename_i x c y;rw[show(!decide ((a:Int)+c<=b))=decide ((b:Int)+(1-c)<=a) by
   grind]
  exact .tst _ _ _ _ _ f e
 ·rename_i a b e f;refine⟨_,rfl,?_⟩;rename_i pp x c y;rw[show(!(decide ((a:Int)+c=b)==pp))=(decide ((a:Int)+c=b)== !pp) by grind]
  exact .teq _ _ _ _ _ _ e f
end
section
variable{V:Val}{v:AV}
def aqN{b}(h:M V (.bc b) v):v=.bool b:=by cases h;rfl
def QJ{k off}(h:M V (.ref k off) v):∃o,V.ρ[k]?=some (some o)/\v=.ref o off:=by grind [M]
def aqO{k}(h:M V (.pk k) v):∃o,V.ρ[k]?=some (some o)/\v=.ref o 0:=by grind [M]
def ajN{k}(h:M V (.map k) v):∃o,V.ρ[k]?=some (some o)/\v=.map o:=by grind [M]
def abe{off l}(h:M V (.eptr off l) v):∃w r,v=.eptr ((w++r).drop off)/\Ms V l w/\off<=w.length/\ae 0 r=true:=by grind [M]
def ags{t s}(h:M V (.iface t s) v):∃w,v=.iface t w/\M V s w:=by grind [M]
def ajM{f x y}(h:M V (.func f x y) v):∃a b,v=.func f a b/\Mt V x a/\Mt V y b:=by grind [M]
def amL{k n}(h:M V (.ic k n) v):v=.int k n:=by cases h;rfl
def anY{l}(h:M V (.agg l) v):∃w,v=.agg w/\Ms V l w:=by grind [M]
def ajR{l}(h:M V (.tup l) v):∃w,v=.tup w/\Mt V l w:=by grind [M]
def arU(h:M V .jv v):∃w,v=.agg w/\Ms V [.jv] w:=by cases h with|jv j=>exact⟨j.cs,rfl,by have:=Ms.jv (V:=V) [] j [] .nil;rwa[au6]at this⟩
def aqP{i e}(h:M V (.sl i e) v):∃rs,v=.sl rs.length rs.flatten/\V.ν[i]?=some rs.length/\MRs V e rs:=by grind [M]
def anZ{i}(h:M V (.slj i) v):∃is:List JV,v=.sl is.length (aJ is)/\V.ν[i]?=some is.length:=by grind [M]
def ajQ{i}(h:M V (.strl i) v):∃s,v=.str s/\V.ν[i]?=some s.length:=by grind [M]
def ajS{n e}(h:M V (.xsl n e) v):∃l,v=.xsl n l/\Ms V e l:=by grind [M]
def ajP{n e}(h:M V (.slc n e) v):∃l,v=.sl n l/\Ms V e l:=by grind [M]
def ajO(h:M V .nils v):v=.nils:=by cases h;rfl
def anX{k a e}(h:M V (.acc k a e) v):∃n,V.ν[a]?=some n/\(v=.nils/\n=0\/∃o,v=.msl o 0 n (wds e)/\0<n/\V.ρ[k]?=some (some o)):=by
 grind [M]
def aeP{k a e}(h:M V (.accm k a e) v):∃n o,V.ν[a]?=some n/\v=.msl o 0 n (wds e)/\V.ρ[k]?=some (some o):=by grind [M]
def Mt.one_ms:∀{l:List Sh} {w:LA},Mt V l w->l.all Sh.one=true->Ms V l w
 |_,_,.nil,_=>.nil
 |_,_,.cons s t v b h1 h2,h=>by
  rw[a88,a01]at h;exact .one _ _ _ _ h.1 h1 (Mt.one_ms h2 h.2)
def Mt.get:∀{l:List Sh} {w:LA},Mt V l w->∀{i:Nat} {s:Sh},l[i]?=some s->∃x,w[i]?=some x/\M V s x
 |_,_,.nil,i,s,h=>by simp at h
 |_,_,.cons s t v b h1 h2,0,s',h=>by grind
 |_,_,.cons s t v b h1 h2,i+1,s',h=>by simpa using Mt.get h2 (by simpa using h)
theorem Mt.len:∀{l:List Sh} {w:LA},Mt V l w->w.length=l.length
 |_,_,.nil=>rfl
 |_,_,.cons s t v b h1 h2=>by simp[Mt.len h2]
def Mt.app:∀{l m:List Sh} {v w:LA},Mt V l v->Mt V m w->Mt V (l++m) (v++w)
 |_,_,_,_,.nil,h=>h
 |_,_,_,_,.cons s t v b x y,h=>.cons s _ v _ x (y.app h)
end
section
variable{C:Ctx}{X:Cfg}{PK:PkI}{O0:Frm}{V:Vo}{A:Ab}{E:As}{Y:St}
def Res(PK:PkI)(O0:Frm)(V:Vo)(A:Ab)(E:As)(Y:St)(r:Option (AV×St))(s:Sh)(A':Ab):Prop:=∃(v:AV) (Y':St) (V':Vo),r=some (v,Y')/\Ch V A Y V' A' Y'/\G PK O0 V' A' E Y'/\M V'.toVal s v
def Res.stay(h:G PK O0 V A E Y){r:Option (AV×St)}{v:AV}{s:Sh}(hr:r=some (v,Y))(hm:M V.toVal s v):Res PK O0 V A E Y r s A:=⟨v,Y,V,hr,.refl,h,hm⟩
def Res.cells(h:G PK O0 V A E Y){r:Option (AV×St)}{l:List Sh}{cs:LA}(hr:r=some (.ref Y.length 0,Y++[.cells cs FZ]))(hl:Ms V.toVal l cs):Res PK O0 V A E Y r (.ref A.heap.length 0) (A.push (.cells l)):=by
 obtain⟨V',h1,h2,h3⟩:=h.cells_ok hl;exact⟨_,_,V',hr,h1,h2,h3⟩
theorem Res.opened(h:G PK O0 V A E Y){l:List Sh}{v:LA}(hl:Ms V.toVal l v){r:Option (AV×St)}{s:Sh}{A':Ab}(hr:∀V':Vo,V.toVal.le V'.toVal->G PK O0 V' (opened A l).2 E Y->Ms V'.toVal (opened A l).1 v->Res PK O0 V' (opened A l).2 E Y r s A'):Res PK O0 V A E Y r s A':=by
 obtain⟨V',h1,h2,h3,h4,h5⟩:=Z5 h hl;obtain⟨w,Y',V2,e1,e2,e3,e4⟩:=hr V' h1 h4 h5;exact⟨w,Y',V2,e1,(Ch.open (A':=(Ev.opened A l).2) h h1 h2 rfl rfl rfl rfl).trans e2,e3,e4⟩
def Res.grow(h:G PK O0 V A E Y){r:Option (AV×St)}{e:List Sh}{rs:List LA}{fz:Fz}{sz:Nat}(hr:r=some (.msl Y.length 0 rs.length sz,Y++[.cells rs.flatten fz]))(hw:wds e=sz)(hm:MRs V.toVal e rs){fs:Fs}(hf:∀f∈fs,∀V':Val,V.toVal.le V'->V'.ν[A.nx]?=some rs.length->nV V' f):Res PK O0 V A E Y r (A.grow e fs).1 (A.grow e fs).2:=by
 obtain⟨V',h1,h2,h3⟩:=h.grow_ok (fz:=fz) hm hf;subst hw;exact⟨_,_,V',hr,h1,h2,h3⟩
def Res.kill(h:G PK O0 V A E Y){k:Nat}{r:Option (AV×St)}{s:Sh}{A':Ab}(hr:∀V':Vo,V'.toVal=V.toVal->(∀a,V.own[k]?=some a->∀o∈a,∀(j:Nat) b,V'.own[j]?=some b->o∉b)->G PK O0 V' (A.seth k .dead) E Y->Res PK O0 V' (A.seth k .dead) E Y r s A'):Res PK O0 V A E Y r s A':=by
 obtain⟨w,Y',V2,e1,e2,e3,e4⟩:=hr ⟨V.toVal,V.own.set k []⟩ rfl (fun a ha o ho j b hb hob=>by
  grind [G]) (h.kill k)
 exact⟨w,Y',V2,e1,(Ch.kill k).trans e2,e3,e4⟩
def Res.free(h:G PK O0 V A E Y){o:Nat}{x:AO}(hn:∀(k:Nat) a,V.own[k]?=some a->o∉a)(h0:O0.length<=o\/o∈O0.w)(hx:x.below Y.length=true){r:Option (AV×St)}{s:Sh}{A':Ab}(hr:G PK O0 V A E (Y.set o x)->Res PK O0 V A E (Y.set o x) r s A'):Res PK O0 V A E Y r s A':=by
 obtain⟨w,Y',V2,e1,e2,e3,e4⟩:=hr (h.free hn h0 hx);exact⟨w,Y',V2,e1,(Ch.free hn).trans e2,e3,e4⟩
def anF (h:G PK O0 V A E Y) {sz:Nat} {x:Sh} {v:AV} (hx:M V.toVal x v) {u:List Sh} {A':Ab} (hs:aqa A sz x=some (u,A')):isStr v=false/\∃cs,ji Y sz v=some (1,cs)/\Ms V.toVal u cs/\cs.length=sz/\
  (A'=A\/∃k,A'=A.seth k .dead):=by
 unfold aqa at hs;split at hs
 ·rename_i m u';split at hs
  ·rename_i hc;simp only[a01,beq_iff_eq]at hc;cases hs;obtain⟨rfl,rfl⟩:=hc;obtain⟨l,rfl,hl⟩:=ajS hx;have:=hl.len;refine⟨rfl,l,?_,hl,this,.inl rfl⟩;simp only[ji,gY];rw[if_pos (by omega)]
  ·cases hs
 ·rename_i k a e;split at hs
  ·rename_i e' hk;split at hs
   ·rename_i hc;simp only[a01,beq_iff_eq]at hc;obtain⟨⟨hc1,hc2⟩,hc3⟩:=hc;cases hs;obtain⟨n,o,hn,rfl,ho⟩:=aeP hx;obtain⟨hw,n',hn',hh⟩:=V4 h hk;rw[hn]at hn';cases hn';have h1:=Ed h.zero h.facts hc1 h.zero hn;have h2:=Tc h.zero h.facts hc2 hn;have hn1:n=1:=by omega
    subst hn1;rcases hh with⟨_,h3,_⟩|⟨o',rs,fz,h3,h4,h5,h6,h7⟩
    ·omega
    ·rw[ho]at h3;cases h3;obtain⟨r,rfl⟩:∃r,rs=[r]:=by
      grind [MRs]
     cases h7 with
     |cons _ _ _ hr _=>
      have hl:=hr.len;have hfl:[r].flatten=r:=by simp
      rw[hfl]at h5;refine⟨rfl,r,?_,hr,by omega,.inr ⟨k,rfl⟩⟩
      simp only[ji,gY,h5]
      grind
   ·cases hs
  ·cases hs
 ·cases hs
def MRs.one{V:Val}{e:List Sh}{r:LA}(h:Ms V e r):MRs V e [r]:=.cons _ _ _ h (.nil _)
def Sb.here{V:Val}{F:Fs}(h0:V.ν[0]?=some 0)(hF:∀f∈F,nV V f):Sb F [] [] V V:=⟨h0,hF,fun j i c ho=>by simp[yX]at ho,fun k k' o ho=>by simp[eqO]at ho⟩
theorem Sb.into{V W:Val}{F:Fs}(h0:V.ν[0]?=some 0)(hF:∀f∈F,nV V f):Sb F [] [] V W:=⟨h0,hF,fun j i c ho=>by simp[yX]at ho,fun k k' o ho=>by simp[eqO]at ho⟩
def wrA(A:Ab)(l:List Nat):G PK O0 V A E Y->G PK O0 V {A with wr:=l} E Y:=fun h=>⟨h.env,h.lν,h.lρ,h.lo,h.zero,h.facts,h.heap,h.dis,h.rng,h.ρl,h.base,h.ok⟩
def afQ(h:G PK O0 V A E Y){sz bytes:Nat}{u:List Sh}{cs:LA}(hu:Ms V.toVal u cs)(hl:cs.length=sz)(hby:bytes<=8192){s:Sh}{v:AV}(hv:M V.toVal s v){s':Sh}{A':Ab}(hs:amc A sz u s=some (s',A')):Res PK O0 V A E Y (rO Y sz bytes none v 1 cs) s' A':=by
 have hb1:1*bytes<=70368744177664:=by omega
 have accs:∀(m:Bool) (k a:Nat) (e0:List Sh),(∃n,V.ν[a]?=some n/\(v=.nils/\n=0\/∃o,v=.msl o 0 n (wds e0)/\(m=false->0<n)/\V.ρ[k]?=some (some o)))->(match Pq m A.heap k a (wds e0)with
   |some e=>if leN A.facts a LB&&subs A.facts [] [] e u&&wds e==sz then some ((A.seth k .dead).grow e [(A.nx,-1,a),(a,1,A.nx)])else none
   |none=>none)=some (s',A')->Res PK O0 V A E Y (rO Y sz bytes none v 1 cs) s' A':=by
  rintro mm k a e0 ⟨n,hn,hv⟩ hs;split at hs
  ·rename_i e hk;split at hs
   ·rename_i hc;simp only[a01,beq_iff_eq]at hc;obtain⟨⟨hc1,hc2⟩,hc3⟩:=hc;cases hs;have hln:=Tc h.zero h.facts hc1 hn;simp only[LB]at hln;have hcs:Ms V.toVal e cs:=Dh (Sb.here h.zero h.facts) hu hc2;obtain⟨hw,n',hn',hh⟩:=V4 h hk;rw[hn]at hn';cases hn';have hbn:(n+1)*bytes<=70368744177664:=by
     have:=Nat.mul_le_mul (show n+1<=4294967297 by omega) hby
     omega
    refine Res.kill h (k:=k) fun V' hV' hfr h'=>?_;have hνa:V'.ν[a]?=some n:=by grind
    have hmono:∀{rs:List LA},MRs V.toVal e rs->MRs V'.toVal e rs:=fun hr=>hV'▸hr;have facts:∀m:Nat,m=n+1->∀f∈[(A.nx,-1,a),(a,1,A.nx)],∀W:Val,V'.toVal.le W->W.ν[A.nx]?=some m->nV W f:=fun m hm f hf W hle hW=>by
     have ha:=hle.ν _ _ hνa;simp only[au9,az4,or_false]at hf;rcases hf with rfl|rfl
     ·exact⟨m,n,hW,ha,by simp;omega⟩
     ·exact⟨n,m,ha,hW,by simp;omega⟩
    rcases hv with⟨rfl,rfl⟩|⟨o,rfl,hpos,ho⟩
    ·refine Res.grow (rs:=[cs]) (fz:=FZ) (sz:=sz) h' ?_ hc3 (hmono (MRs.one hcs)) (facts _ rfl);unfold rO
     grind
    ·rcases hh with⟨hm,rfl,hown⟩|⟨o',rs,fz,h3,h4,h5,h6,h7⟩
     ·exact absurd (hpos hm) (by omega)
     ·rw[ho]at h3;cases h3;have hfl:rs.flatten.length=n*sz:=by rw[h7.len,h6,hc3]
      have hrange:=h.rng k _ h4 o (by simp)
      refine Res.free h' (hfr _ h4 o (by simp)) hrange.1 (x:=.dead) rfl fun h''=>?_
      refine Res.grow (rs:=rs++[cs]) (fz:=⟨fz.b,if fz.t=none then none else none⟩) (sz:=sz) h'' ?_ hc3 (hmono (h7.app (MRs.one hcs))) (facts _ (by simp[h6]))
      unfold rO
      grind
   ·cases hs
  ·cases hs
 cases s with
 |nils=>
  cases ajO hv;simp only[amc]at hs;split at hs
  ·rename_i hc;simp only[a01,beq_iff_eq]at hc;cases hs;refine Res.grow (rs:=[cs]) (fz:=FZ) (sz:=sz) h ?_ hc.2 (MRs.one (Dh (Sb.here h.zero h.facts) hu hc.1)) ?_
   ·unfold rO
    grind
   ·intro f hf W hle hW;simp only[au9,az4,or_false]at hf;have h0:=hle.ν _ _ h.zero;rcases hf with rfl|rfl
    ·exact⟨_,_,hW,h0,by simp⟩
    ·exact⟨_,_,h0,hW,by simp⟩
  ·cases hs
 |acc k a e=>
  obtain⟨n,hn,hv⟩:=anX hv;exact accs false k a e ⟨n,hn,by
   grind⟩ hs
 |accm k a e=>
  obtain⟨n,o,hn,h1,h2⟩:=aeP hv;exact accs true k a e ⟨n,hn,.inr ⟨o,h1,(fun hf=>by cases hf),h2⟩⟩ hs
 |_=>simp[amc]at hs
end
def apM{ag:Bool}{sz:Nat}{a b:LA}{x:AV}(h:pt ag sz a=some x):pt ag sz (a++b)=some x:=by
 unfold pt at h⊢
 grind
def ad1:∀(is:List JV) (i:Nat),i<is.length->∃j,is[i]?=some j/\(aJ is).drop (i*5)=j.cs++aJ (is.drop (i+1))
 |[],i,h=>by simp at h
 |j::is,0,h=>⟨j,rfl,by simp[aJ]⟩
 |j::is,i+1,h=>by
  obtain⟨j',h1,h2⟩:=ad1 is i (by simpa using h)
  refine⟨j',by simpa using h1,?_⟩
  rw[aJ,show(i+1)*5=j.cs.length+i*5 by rw[j.len];omega,List.drop_append,aC3 (by omega)]
  simpa using h2
section
variable{C:Ctx}{X:Cfg}{PK:PkI}{O0:Frm}{V:Vo}{A:Ab}{E:As}{Y:St}
def Pn(C:Ctx)(X:Cfg):Prop:=∀t m f,X.mt t m=some f->∀v,methodOf C.P t v m=some (f,v)
def Ew(C:Ctx)(X:Cfg)(PK:PkI)(O0:Frm):Prop:=∀(V:Vo) (A:Ab) (E:As) (Y:St) (f:FuncId) (ss:List Sh) (azs:LA) (s:Sh) (A':Ab),G PK O0 V A E Y->Mt V.toVal ss azs->VY X A f ss=some (s,A')->Res PK O0 V A E Y (ai C f azs Y) s A'
def Res.val(h:G PK O0 V A E Y){r:Option (AV×St)}{s:Sh}(hr:OkB V.toVal s (r.map (·.1)))(hs:∀p,r=some p->p.2=Y):Res PK O0 V A E Y r s A:=by
 obtain⟨v,h1,h2⟩:=hr;cases r with
 |none=>cases h1
 |some p=>
  cases h1;exact Res.stay h (by rw[<-hs p rfl]) h2
def KA{V:Val}{s:Sh}{n:Nat×Int}{v:AV}(h0:V.ν[0]?=some 0)(hl:lin s=some n)(hv:M V s v):∃m:Nat,V.ν[n.1]?=some m/\(0<=(m:Int)+n.2->oI v=some ((m:Int)+n.2).toNat):=by
 obtain⟨m,h1,rfl⟩:=abn h0 hl hv;refine⟨m,h1,fun h=>?_⟩;simp only[oI,if_pos h]
def adI (h:G PK O0 V A E Y) {n c:Nat×Int} {e:List Sh} {s':Sh} {A':Ab} (hr:rowAt A n c e=some (s',A')) {m k:Nat} (hm:V.ν[n.1]?=some m) (hk:V.ν[c.1]?=some k):
  cls e=true/\0<=(m:Int)+n.2/\(m:Int)+n.2<k+c.2/\∀(w r:LA),Ms V.toVal e w->ae 0 r=true->∀q,q=some (AV.eptr (w++r),Y)->Res PK O0 V A E Y q s' A':=by
 unfold rowAt at hr;split at hr
 ·rename_i hc;simp only[a01]at hc;obtain⟨⟨hc0,hc1⟩,hc2⟩:=hc;have h1:=Ed h.zero h.facts hc1 h.zero hm;have h2:=Ed h.zero h.facts hc2 hm hk;refine⟨hc0,by omega,by omega,fun w r hw hb q hq=>?_⟩
  cases hr;refine Res.opened h hw fun V' hle h' hw'=>?_;exact Res.stay h' hq (by
   have:=M.eptr (V:=V'.toVal) 0 (Ev.opened A e).1 w r hw' (by omega) hb
   rwa[au0]at this)
 ·cases hr
def find_ok{V:Val}{w:Sh}(x:LU):∀(es:List (AV×AV)) (i:Nat),(∀p∈es,(∃s,p.1=.str s)/\M V w p.2)->nO (.str x) es i=some none\/∃j v,nO (.str x) es i=some (some (j,v))/\M V w v
 |[],i,_=>.inl rfl
 |(k',v)::es,i,h=>by
  obtain⟨⟨s,hs⟩,hv⟩:=h (k',v) (by simp)
  dsimp only at hs hv;subst hs;unfold nO ZI;dsimp only;cases hb:jU x s with
  |true=>exact .inr ⟨i,v,rfl,hv⟩
  |false=>exact find_ok x es (i+1) (fun p hp=>h p (by simp[hp]))
def ap5{V:Val}{w:Sh}{es:List (AV×AV)}(h:∀p∈es,(∃s,p.1=.str s)/\M V w p.2){i:Nat}{x:LU}{v:AV}(hv:M V w v):∀p∈es.set i (.str x,v),(∃s,p.1=.str s)/\M V w p.2:=fun p hp=>by
 grind
def ap4{V:Val}{w:Sh}{es:List (AV×AV)}(h:∀p∈es,(∃s,p.1=.str s)/\M V w p.2){x:LU}{v:AV}(hv:M V w v):∀p∈es++[(.str x,v)],(∃s,p.1=.str s)/\M V w p.2:=fun p hp=>by
 grind
theorem WG{N:Nat}:∀(es:List (AV×AV)),(∀p∈es,(∃s,p.1=.str s)/\below N p.2=true)->AO.below N (.map es)=true
 |[],_=>rfl
 |(k,v)::es,h=>by
  have h1:=WG es (fun p hp=>h p (by simp[hp]))
  obtain⟨⟨s,hs⟩,hv⟩:=h (k,v) (by simp)
  dsimp only at hs hv;subst hs;simp only[AO.below,a01]at h1⊢;simp only[av3,ae,h1.1,h1.2,hv,aw7];exact⟨rfl,trivial⟩
def Res.setmap(h:G PK O0 V A E Y){k o:Nat}{w:Sh}(hh:A.heap[k]?=some (.map w))(ho:V.ρ[k]?=some (some o)){es:List (AV×AV)}(hes:∀p∈es,(∃s,p.1=.str s)/\M V.toVal w p.2){q:Option (AV×St)}(hq:q=some (AV.undef,Y.set o (.map es))):Res PK O0 V A E Y q .undef (A.seth k (.map w)):=by
 obtain⟨o',es0,h1,h2,h3,h4⟩:=h.heap _ _ hh;rw[ho]at h1;cases h1;have hk:=(a00.mp hh).1;have hb:AO.below Y.length (.map es)=true:=WG es fun p hp=>⟨(hes p hp).1,M.bel h.ρl (hes p hp).2⟩;have hrange:=h.rng k _ h2 o (by simp)
 have h5:=h.set (y:=.map w) hk h2 hb ⟨o,es,ho,h2,by rw[aB2 hrange.2],hes⟩
 refine⟨.undef,_,V,hq,⟨.rfl,fun j hj=>by simp[Ab.seth,hj],rfl,rfl,fun j l hj hw=>?_⟩,wrA _ _ h5,.undef⟩
 simp only[Ab.seth,au9,not_or]at hw;refine⟨?_,rfl,fun _ o' _ ho'=>?_⟩
 ·simp only[Ab.seth]
  grind
 grind [G]
def Res.setcells(h:G PK O0 V A E Y){k o:Nat}{l l':List Sh}(hh:A.heap[k]?=some (.cells l))(ho:V.ρ[k]?=some (some o)){cs:LA}(hcs:Ms V.toVal l' cs){q:Option (AV×St)}(hq:q=some (AV.undef,Y.set o (.cells cs FZ))):Res PK O0 V A E Y q .undef (A.seth k (.cells l')):=by
 obtain⟨o',es0,h1,h2,h3,h4⟩:=h.heap _ _ hh;rw[ho]at h1;cases h1;have hk:=(a00.mp hh).1;have hrange:=h.rng k _ h2 o (by simp)
 have h5:=h.set (x:=.cells cs FZ) (y:=.cells l') hk h2 (Ms.bels h.ρl hcs) ⟨o,cs,ho,h2,by rw[aB2 hrange.2],hcs⟩
 refine⟨.undef,_,V,hq,⟨.rfl,fun j hj=>by simp[Ab.seth,hj],rfl,rfl,fun j l hj hw=>?_⟩,wrA _ _ h5,.undef⟩
 simp only[Ab.seth,au9,not_or]at hw;refine⟨?_,rfl,fun _ o' _ ho'=>?_⟩
 ·simp only[Ab.seth]
  grind
 grind [G]
end
section
variable{C:Ctx}{X:Cfg}{PK:PkI}{O0:Frm}{V:Vo}{A:Ab}{E:As}{Y:St}
def MRs.drop{V:Val}{e:List Sh}:∀{rs:List LA},MRs V e rs->∀d,MRs V e (rs.drop d)
 |_,h,0=>h
 |_,.nil _,_+1=>.nil _
 |_,.cons _ r rs x y,d+1=>y.drop d
def map_ok{α:Type}{o:Option α}{s':Sh}{A':Ab}{f:α->Sh×Ab}(h:o.map f=some (s',A')):∃a,o=some a/\f a=(s',A'):=by
 simp_all
def amw(h:G PK O0 V A E Y){op:BinOp}{x y:Sh}{p q:AV}(hx:M V.toVal x p)(hy:M V.toVal y q){np:Bool}{ek:Nat}{cst:Bool}{s:Sh}{A':Ab}(hd:ajk A op x y=some (s,A')){call:aZ}{r:Option (AV×St)}(hr:r=opR call ((xn np op ek cst p q).map (.val · Y))):Res PK O0 V A E Y r s A':=by
 unfold ajk at hd;split at hd
 ·rename_i i c j d;split at hd
  ·rename_i hq;simp only[small,a01,decide_eq_true_eq]at hq;obtain⟨⟨⟨q1,q2⟩,q3⟩,q4⟩:=hq;cases hd;cases hx with
   |sym _ _ m hm=>
    cases hy with
    |sym _ _ m' hm'=>
     have h1:=Tc h.zero h.facts q1 hm;have h2:=Ed h.zero h.facts q4 hm' hm;simp only[LB]at h1;obtain⟨V1,l1,e1,o1,g1⟩:=h.sym (((m:Int)+c-(m'+d)).toNat);have g2:=g1.fact (f:=(A.nx,d-c,i)) ⟨_,m,e1,l1.ν _ _ hm,by simp only;omega⟩
     refine⟨_,Y,V1,?_,Ch.open h l1 o1 rfl rfl rfl rfl,g2,.sym _ 0 _ e1⟩;rw[hr,aqA,KH,w64 (by omega) (by omega)]
     show some (AV.int .i64 _,Y)=_
     congr 3
     omega
  ·cases hd
 ·cases hd
def aoI(hg:F5 C X)(hmt:Pn C X)(hcall:Ew C X PK O0)(h:G PK O0 V A E Y){n:Nat}{i:XI}{s:Sh}{A':Ab}(hi:abI X n A i=some (s,A')):Res PK O0 V A E Y (opR (ai C) (aB C (avA C E) n Y i)) s A':=by
 cases i with
 |mv x=>
  obtain⟨s',hs',e⟩:=map_ok hi;cases e;exact .stay h rfl (bC hg h hs')
 |pick c x y=>
  simp only[abI]at hi;split at hi
  ·rename_i b hb;have hc:=aqN (bC hg h hb);obtain⟨s',hs',e⟩:=map_ok hi;cases e;rw[aB.eq_2,hc];cases b with
   |true=>exact .stay h rfl (bC hg h (by simpa using hs'))
   |false=>exact .stay h rfl (bC hg h (by simpa using hs'))
  ·cases hi
 |new z ty=>
  cases ty with
  |some _=>cases hi
  |none=>
   simp only[abI]at hi;split at hi
   ·rename_i l hl;split at hi
    ·rename_i hone;cases hi;exact .cells h rfl ((LY z hl).one_ms hone)
    ·cases hi
   ·cases hi
 |box x=>
  simp only[abI]at hi;split at hi
  ·rename_i s' hs';split at hi
   ·rename_i l hl;cases hi;exact .opened h (SG (bC hg h hs') hl) fun V' hle h' hw=>.cells h' rfl hw
   ·cases hi
  ·cases hi
 |fill k d sz x=>cases hi
 |pend=>cases hi
 |build z ps=>
  simp only[abI]at hi;split at hi
  ·rename_i l hl;split at hi
   ·rename_i hone;obtain⟨r,hr,e⟩:=map_ok hi;cases e;obtain⟨w,hw,hm⟩:=WV hg h ((LY z hl).one_ms hone) hr;rw[aB.eq_5,hw];exact .stay h rfl (OL hm)
   ·cases hi
  ·cases hi
 |buildSl z m sz ps=>
  simp only[abI]at hi;split at hi
  ·rename_i l hl;split at hi
   ·rename_i hone;split at hi
    ·rename_i u hu;obtain⟨w,hw,hm⟩:=WV hg h (agV ((LY z hl).one_ms hone) m) hu;split at hi
     ·rename_i hz;rw[beq_iff_eq]at hz;rw[aB.eq_6,hw];dsimp only;rw[if_pos (by rw[hm.len,hz])]
      split at hi
      ·rename_i ho;rw[ho];split at hi
       ·rename_i hc;simp only[a01,beq_iff_eq]at hc;obtain⟨⟨rfl,hc1⟩,hc2⟩:=hc;cases hi;refine .grow (rs:=[w]) (fz:=FZ) (sz:=sz) h ?_ hc2 (MRs.one (Dh (Sb.here h.zero h.facts) hm hc1)) ?_
        ·simp[Cj,opR]
        ·intro f hf W hle hW;simp only[au9,az4,or_false]at hf;have h0:=hle.ν _ _ h.zero;rcases hf with rfl|rfl
         ·exact⟨_,_,hW,h0,by simp⟩
         ·exact⟨_,_,h0,hW,by simp⟩
       ·cases hi
      ·rename_i ho;cases hi;rw[Bool.not_eq_true]at ho;rw[ho];exact .stay h rfl (.xsl _ _ _ hm)
     ·cases hi
    ·cases hi
   ·cases hi
  ·cases hi
 |load ag sz x=>
  simp only[abI]at hi;split at hi
  ·rename_i k off hx;obtain⟨o,ho,he⟩:=QJ (bC hg h hx);rw[aB.eq_7,he];dsimp only;split at hi
   ·rename_i l hl;obtain⟨s',hs',e⟩:=map_ok hi;cases e;obtain⟨o',cs,h1,h2,h3,h4⟩:=h.heap _ _ hl;rw[ho]at h1;cases h1;obtain⟨y,hy,hm⟩:=QR h4 hs';rw[h3];dsimp only;rw[hy];exact .stay h rfl hm
   ·rename_i l hl;obtain⟨s',hs',e⟩:=map_ok hi;cases e;obtain⟨o',cs,fz,h1,h2,hN,h3,h4⟩:=h.heap _ _ hl;rw[ho]at h1;cases h1;obtain⟨y,hy,hm⟩:=QR h4 hs';rw[h3];dsimp only;rw[hy];exact .stay h rfl hm
   ·cases hi
  ·rename_i off l hx;obtain⟨w,r,he,hm,hle,hb⟩:=abe (bC hg h hx);obtain⟨s',hs',e⟩:=map_ok hi;cases e;obtain⟨y,hy,hm'⟩:=QR hm hs';rw[aB.eq_7,he];dsimp only;rw[List.drop_append_of_le_length hle,apM hy];exact .stay h rfl hm'
  ·cases hi
 |store sz p x=>
  simp only[abI]at hi;split at hi
  ·rename_i k off s' hp hx;split at hi
   ·rename_i l u hl hu;obtain⟨o,ho,he⟩:=QJ (bC hg h hp);have hm:=SG (bC hg h hx) hu;obtain⟨⟨u',A1⟩,hop⟩:∃q,opened A u=q:=⟨_,rfl⟩;rw[hop]at hi;dsimp only at hi;split at hi
    ·rename_i l' hl';cases hi;refine .opened h hm fun V' hle h' hw=>?_;rw[hop]at h' hw⊢;have hl1:A1.heap[k]?=some (.cells l):=by
      grind [opened]
     obtain⟨o',cs,h1,h2,h3,h4⟩:=h'.heap _ _ hl1;have ho':=hle.ρ _ _ ho;rw[ho']at h1;cases h1;obtain⟨e1,e2,e3⟩:=X3 h4 hw hl';refine .setcells h' hl1 ho' e3 ?_;rw[aB.eq_8,he];dsimp only;rw[h3];dsimp only;rw[if_pos ⟨e1,e2,hw.flat⟩];rfl
    ·cases hi
   ·cases hi
  ·cases hi
 |nilck x=>
  simp only[abI]at hi;split at hi
  ·rename_i k o hx;cases hi;have hm:=bC hg h hx;obtain⟨o',ho,he⟩:=QJ hm;rw[aB.eq_9,he];exact .stay h rfl (he▸hm)
  ·rename_i k hx;cases hi;have hm:=bC hg h hx;obtain⟨o',ho,he⟩:=aqO hm;rw[aB.eq_9,he];exact .stay h rfl (he▸hm)
  ·rename_i o l hx;cases hi;have hm:=bC hg h hx;obtain⟨w,r,he,_⟩:=abe hm;rw[aB.eq_9,he];exact .stay h rfl (he▸hm)
  ·rename_i t v hx;cases hi;have hm:=bC hg h hx;obtain⟨w,he,_⟩:=ags hm;rw[aB.eq_9,he];exact .stay h rfl (he▸hm)
  ·rename_i f a b hx;cases hi;have hm:=bC hg h hx;obtain⟨w,r,he,_⟩:=ajM hm;rw[aB.eq_9,he];exact .stay h rfl (he▸hm)
  ·cases hi
 |bin op ek cst x y=>
  simp only[abI]at hi;split at hi
  ·rename_i a b ha hb;split at hi
   ·rename_i r hr;cases hi;exact amw h (bC hg h ha) (bC hg h hb) hr (by rw[aB.eq_10])
   obtain⟨u,hu,e⟩:=map_ok hi;cases e;obtain⟨v,hv,hm⟩:=amm h.zero h.facts C.np (bC hg h ha) (bC hg h hb) hu;rw[aB.eq_10,hv];exact .stay h rfl hm
  ·cases hi
 |un op x=>
  simp only[abI]at hi;split at hi
  ·rename_i a ha;obtain⟨u,hu,e⟩:=map_ok hi;cases e;obtain⟨v,hv,hm⟩:=aqi (bC hg h ha) hu;rw[aB.eq_11,hv];exact .stay h rfl hm
  ·cases hi
 |i2i k x=>
  simp only[abI]at hi;split at hi
  ·rename_i k' m hx;cases hi;have he:=amL (bC hg h hx);rw[aB.eq_12,he];exact .stay h rfl (.ic _ _)
  ·rename_i a _ ha;split at hi
   ·rename_i k' hk';cases hi;obtain⟨m,he⟩:=Jv hk' (bC hg h ha);rw[aB.eq_12,he];exact .stay h rfl (.int _ _)
   ·cases hi
  ·cases hi
 |s2s x=>cases hi
 |mkIface t x=>
  obtain⟨s',hs',e⟩:=map_ok hi;cases e;exact .stay h rfl (.iface _ _ _ (bC hg h hs'))
 |mkFunc fn x y=>
  simp only[abI]at hi;split at hi
  ·rename_i a b ha hb;cases hi;exact .stay h rfl (.func _ _ _ _ _ (KD hg h ha) (KD hg h hb))
  ·cases hi
 |mkMap=>
  cases hi;obtain⟨V2,hle2,hρ2,hν2,ho2,h2⟩:=h.new (x:=.map []) (y:=.map (.int .i64)) rfl (fun V' hle' hρ' hw'=>⟨Y.length,[],hρ',hw',by simp,fun p hp=>by simp at hp⟩)
  exact⟨_,_,V2,rfl,h.new_ch hle2 ho2,h2,.map _ _ hρ2⟩
 |mkSlice z sz bytes l c=>
  simp only[abI]at hi;split at hi
  ·rename_i k c' u hl hc hu;split at hi
   ·rename_i j d hjd;split at hi
    ·rename_i hq;simp only[a01,decide_eq_true_eq,beq_iff_eq]at hq;obtain⟨⟨⟨⟨q1,q2⟩,q3⟩,q4⟩,q5⟩:=hq;cases hi;have he:=amL (bC hg h hl);obtain⟨m,hm,he'⟩:=abn h.zero hjd (bC hg h hc);have h1:=Ed h.zero h.facts q1 h.zero hm;have h2:=Tc h.zero h.facts q2 hm;simp only[LB]at h2 q3;rw[aB.eq_21,he,he'];dsimp only;rw[if_pos ⟨by omega,by omega,by omega,by
      have:=Int.mul_le_mul (show(bytes:Int)<=8192 by omega) (show(m:Int)+d<=8589934592 by omega) (by omega) (by omega)
      omega⟩]
     refine .grow (rs:=[]) (fz:=FZ) (sz:=sz) h ?_ q5 (.nil _) ?_
     ·rfl
     ·intro f hf W hle hW;simp only[au9,az4,or_false]at hf;subst hf;exact⟨_,_,hW,hle.ν _ _ h.zero,by simp⟩
    ·cases hi
   ·cases hi
  ·cases hi
 |fieldAddr off x=>
  simp only[abI]at hi;split at hi
  ·rename_i k f hx;cases hi;obtain⟨o,ho,he⟩:=QJ (bC hg h hx);rw[aB.eq_26,he];exact .stay h rfl (.ref _ _ _ ho)
  ·rename_i f l hx;split at hi
   ·rename_i hf;cases hi;obtain⟨w,r,he,hm,hle,hb⟩:=abe (bC hg h hx);rw[aB.eq_26,he];dsimp only;have hl:=hm.len;rw[if_pos (by grind),aD0]
    exact .stay h rfl (.eptr _ _ _ _ hm (by omega) hb)
   ·cases hi
  ·cases hi
 |field ag off sz x=>cases hi
 |idxAddrArr len sz x i=>
  simp only[abI]at hi;split at hi
  ·rename_i k f k' m hx hm;split at hi
   ·rename_i hc;simp only[a01,decide_eq_true_eq]at hc;cases hi;obtain⟨o,ho,he⟩:=QJ (bC hg h hx);have he':=amL (bC hg h hm);rw[aB.eq_28,he,he'];simp only[oI,if_pos hc.1];rw[if_pos (by omega)]
    exact .stay h rfl (.ref _ _ _ ho)
   ·cases hi
  ·cases hi
 |idxAddrSl sz x i=>
  simp only[abI]at hi;split at hi
  ·rename_i q e j hx hj;split at hi
   ·rename_i m hm;split at hi
    ·rename_i hz;rw[beq_iff_eq]at hz;obtain⟨rs,he,hν,hrs⟩:=aqP (bC hg h hx);obtain⟨m',hm',hn⟩:=KA h.zero hm (bC hg h hj);obtain⟨hcl,h1,h2,h3⟩:=adI h hi hm' hν;obtain⟨r,g1,g2,pre,g3,g4⟩:=hrs.get (((m':Int)+m.2).toNat) (by omega)
     have hrest:ae 0 (rs.drop (((m':Int)+m.2).toNat+1)).flatten=true:=MRs.bel (hrs.drop _) hcl;refine h3 r _ g2 hrest _ ?_;rw[aB.eq_29,he,hn h1];dsimp only;rw[if_pos ⟨by omega,by rw[hrs.len,hz]⟩,g3,<-hz,<-g4,List.drop_left]
     rfl
    ·cases hi
   ·cases hi
  ·rename_i q j hx hj;split at hi
   ·rename_i m hm;split at hi
    ·rename_i hz;rw[beq_iff_eq]at hz;subst hz;obtain⟨is,he,hν⟩:=anZ (bC hg h hx);obtain⟨m',hm',hn⟩:=KA h.zero hm (bC hg h hj);obtain⟨hcl,h1,h2,h3⟩:=adI h hi hm' hν;obtain⟨j',g1,g2⟩:=ad1 is (((m':Int)+m.2).toNat) (by omega)
     refine h3 j'.cs _ (by have:=Ms.jv (V:=V.toVal) [] j' [] .nil;rwa[au6]at this) (iq (is.drop (((m':Int)+m.2).toNat+1))) _ ?_
     rw[aB.eq_29,he,hn h1];dsimp only;rw[if_pos ⟨by omega,jK is⟩,g2]
     rfl
    ·cases hi
   ·cases hi
  ·rename_i m e k j hx hj;split at hi
   ·rename_i hq;simp only[a01,decide_eq_true_eq,beq_iff_eq]at hq;cases hi;obtain⟨w,he,hw⟩:=ajP (bC hg h hx);have he':=amL (bC hg h hj);have hl:=hw.len;rw[aB.eq_29,he,he'];simp only[oI,if_pos hq.1.1];rw[if_pos ⟨by omega,by rw[hl,hq.2]⟩]
    refine .stay h rfl ?_;have hle:j.toNat*sz<=w.length:=by
     rw[hl,hq.2];exact aB5 _ (by omega)
    have:=M.eptr (V:=V.toVal) (j.toNat*sz) e w [] hw hle rfl;rwa[au6]at this
   ·cases hi
  ·cases hi
 |idxArr len ag sz x i=>
  simp only[abI]at hi;split at hi
  ·rename_i s0 l j hx hj;split at hi
   ·rename_i m hm;split at hi
    ·rename_i hq;simp only[a01,beq_iff_eq,aA8]at hq;obtain⟨⟨⟨⟨⟨⟨⟨q1,q2⟩,q3⟩,q4⟩,q5⟩,q6⟩,q7⟩,q8⟩:=hq;cases hi;subst q1 q2;obtain⟨w,he,hw⟩:=anY (bC hg h hx);obtain⟨m',hm',hn⟩:=KA h.zero hm (bC hg h hj);have h1:=Ed h.zero h.facts q7 h.zero hm';have h2:=Ed h.zero h.facts q8 hm' h.zero;have hlen:=hw.len;have hall:∀(l:List Sh) (w:LA),Ms V.toVal l w->l.all Sh.one=true->(∀t∈l,sub [] [] [] (gen s0) t=true)->∀i,i<w.length->∃y,w[i]?=some y/\M V.toVal (gen s0) y:=by
      intro l
      induction l with
      |nil=>grind [Ms]
      |cons t l ih=>
       intro w hw ho ht i hi;rw[a88,a01]at ho;obtain⟨y,w',rfl,hy,hw'⟩:=hw.inv ho.1;cases i with
       |zero=>exact⟨y,rfl,TG (Sb.nil h.zero) hy (ht t (by simp))⟩
       |succ i=>simp_all
     obtain⟨y,hy,hm2⟩:=hall _ w hw q3 (fun t ht=>by
      grind) (((m':Int)+m.2).toNat) (by omega)
     rw[aB.eq_30,he,hn (by omega)]
     dsimp only;rw[if_pos (by omega)]
     have:pt false 1 (w.drop (((m':Int)+m.2).toNat*1))=some y:=by
      simp only[pt,ay4,if_false,aw9];rw[aC7];exact hy
     rw[this];exact .stay h rfl hm2
    ·cases hi
   ·cases hi
  ·cases hi
 |idxStr x i=>
  simp only[abI]at hi;split at hi
  ·rename_i q j hx hj;split at hi
   ·rename_i m hm;split at hi
    ·rename_i hq;simp only[a01]at hq;cases hi;obtain⟨t,he,hν⟩:=ajQ (bC hg h hx);obtain⟨m',hm',hn⟩:=KA h.zero hm (bC hg h hj);have h1:=Ed h.zero h.facts hq.1 h.zero hm';have h2:=Ed h.zero h.facts hq.2 hm' hν;rw[aB.eq_31,he,hn (by omega)]
     dsimp only;rw[a02 (show((m':Int)+m.2).toNat<t.length by omega)]
     exact .stay h rfl (.int _ _)
    ·cases hi
   ·cases hi
  ·cases hi
 |sliceStr x lo hi'=>cases hi
 |lookup z m k ok=>
  simp only[abI]at hi;split at hi
  ·rename_i r s' t hm hk hz;split at hi
   ·rename_i v hv;split at hi
    ·rename_i hq;simp only[a01]at hq;cases hi;obtain⟨o,ho,he⟩:=ajN (bC hg h hm);obtain⟨x,hx⟩:=Eb hq.1.1 (bC hg h hk);obtain⟨o',es,h1,h2,h3,h4⟩:=h.heap _ _ hv;rw[ho]at h1;cases h1;have hzm:M V.toVal v z:=TG (Sb.nil h.zero) (afm (V:=V.toVal) z hz) hq.1.2;rw[aB.eq_32,he,hx];simp only[mapOf,h3];rcases find_ok x es 0 h4 with hf|⟨j,y,hf,hy⟩
     ·rw[hf];cases ok with
      |true=>exact .stay h rfl (.tup _ _ (.cons _ _ _ _ hzm (.cons _ _ _ _ (.bool _) .nil)))
      |false=>exact .stay h rfl hzm
     ·rw[hf];cases ok with
      |true=>exact .stay h rfl (.tup _ _ (.cons _ _ _ _ hy (.cons _ _ _ _ (.bool _) .nil)))
      |false=>exact .stay h rfl hy
    ·cases hi
   ·cases hi
  ·cases hi
 |mapUpd m k v=>
  simp only[abI]at hi;split at hi
  ·rename_i r s' t hm hk hv;split at hi
   ·rename_i w hw;split at hi
    ·rename_i hq;simp only[a01]at hq;cases hi;obtain⟨o,ho,he⟩:=ajN (bC hg h hm);obtain⟨x,hx⟩:=Eb hq.1 (bC hg h hk);obtain⟨o',es,h1,h2,h3,h4⟩:=h.heap _ _ hw;rw[ho]at h1;cases h1;have hvm:M V.toVal w (avA C E v):=TG (Sb.nil h.zero) (bC hg h hv) hq.2;rw[aB.eq_33,he,hx];dsimp only;rw[h3];dsimp only;rcases find_ok x es 0 h4 with hf|⟨j,y,hf,hy⟩
     ·rw[hf];exact .setmap h hw ho (ap4 h4 hvm) rfl
     ·rw[hf];exact .setmap h hw ho (ap5 h4 hvm) rfl
    ·cases hi
   ·cases hi
  ·cases hi
 |extract x i=>
  simp only[abI]at hi;split at hi
  ·rename_i l hx;obtain⟨w,he,hw⟩:=ajR (bC hg h hx);obtain⟨s',hs',e⟩:=map_ok hi;cases e;obtain⟨y,hy,hm⟩:=hw.get hs';rw[aB.eq_36,he];dsimp only;rw[hy];exact .stay h rfl hm
  ·cases hi
 |app str sz bytes ty s1 x=>
  cases str with
  |true=>cases hi
  |false=>
   cases ty with
   |some _=>cases hi
   |none=>
    simp only[abI]at hi;split at hi
    ·rename_i s' x' hs hx;split at hi
     ·rename_i u A1 hsrc;split at hi
      ·rename_i hq;simp only[a01,decide_eq_true_eq]at hq;have hxm:=bC hg h hx;have hsm:=bC hg h hs;obtain⟨e1,cs,e2,e3,e4,e5⟩:=anF h hxm hsrc;have hrun:opR (ai C) (aB C (avA C E) n Y (.app false sz bytes none s1 x))=rO Y sz bytes none (avA C E s1) 1 cs:=by
        rw[aB.eq_37,e2];dsimp only;rw[e1,e3.flat];simp only[bne_self_eq_false,aw4,Bool.or_self,ay4,if_false];cases rO Y sz bytes none (avA C E s1) 1 cs with
        |none=>rfl
        |some p=>rfl
       rw[hrun];rcases e5 with rfl|⟨k,rfl⟩
       ·exact afQ h e3 e4 hq.2 hsm hi
       ·exact .kill h fun V' hV' _ h'=>afQ h' (hV'▸e3) e4 hq.2 (hV'▸hsm) hi
      ·cases hi
     ·cases hi
    ·cases hi
 |len k x=>
  simp only[abI]at hi;split at hi
  ·rename_i q hx;cases hi;obtain⟨t,he,hν⟩:=ajQ (bC hg h hx);rw[uK,he];refine .stay h rfl ?_;have:=M.sym (V:=V.toVal) q 0 _ hν;rwa[Int.add_zero]at this
  ·rename_i t hx;cases hi;have he:avA C E x=.str t:=by
    have:=bC hg h hx
    grind [M]
   rw[uK,he];exact .stay h rfl (.ic _ _)
  ·rename_i hx;cases hi;obtain⟨t,he⟩:=Eb (s:=.str) rfl (bC hg h hx);rw[uK,he];exact .stay h rfl (.int _ _)
  ·rename_i q e hx;cases hi;obtain⟨rs,he,hν,hrs⟩:=aqP (bC hg h hx);rw[uK,he];refine .stay h rfl ?_;have:=M.sym (V:=V.toVal) q 0 _ hν;rwa[Int.add_zero]at this
  ·rename_i q hx;cases hi;obtain⟨is,he,hν⟩:=anZ (bC hg h hx);rw[uK,he];refine .stay h rfl ?_;have:=M.sym (V:=V.toVal) q 0 _ hν;rwa[Int.add_zero]at this
  ·rename_i k a e hx;cases hi;obtain⟨m,hν,hv⟩:=anX (bC hg h hx);have hs:=M.sym (V:=V.toVal) a 0 _ hν;rw[Int.add_zero]at hs;rcases hv with⟨he,rfl⟩|⟨o,he,_⟩
   ·rw[uK,he];exact .stay h rfl hs
   ·rw[uK,he];exact .stay h rfl hs
  ·rename_i k a e hx;cases hi;obtain⟨m,o,hν,he,_⟩:=aeP (bC hg h hx);have hs:=M.sym (V:=V.toVal) a 0 _ hν;rw[Int.add_zero]at hs;rw[uK,he];exact .stay h rfl hs
  ·rename_i hx;cases hi;have he:=ajO (bC hg h hx);rw[uK,he];exact .stay h rfl (.ic _ _)
  ·rename_i m e hx;cases hi;obtain⟨l,he,_⟩:=ajS (bC hg h hx);rw[uK,he];exact .stay h rfl (.ic _ _)
  ·rename_i m e hx;cases hi;obtain⟨l,he,_⟩:=ajP (bC hg h hx);rw[uK,he];exact .stay h rfl (.ic _ _)
  ·cases hi
 |lenC m=>cases hi
 |minmax mx x y=>cases hi
 |callF f l=>
  simp only[abI]at hi;split at hi
  ·rename_i ss hss;exact hcall V A E Y f ss _ s A' h (KD hg h hss) hi
  ·cases hi
 |callV f l=>
  simp only[abI]at hi;split at hi
  ·rename_i f' x y ss hf hss;obtain⟨a,b,he,h1,h2⟩:=ajM (bC hg h hf);have:=hcall V A E Y f' _ _ s A' h ((h1.app (KD hg h hss)).app h2) hi;rw[aB.eq_43,he];exact this
  ·cases hi
 |invoke x m l=>
  simp only[abI]at hi;split at hi
  ·rename_i t v ss hx hss;split at hi
   ·rename_i f hf;obtain⟨w,he,hw⟩:=ags (bC hg h hx);have:=hcall V A E Y f _ _ s A' h (.cons _ _ _ _ hw (KD hg h hss)) hi;rw[aB.eq_44,he];dsimp only;rw[hmt t m f hf w];exact this
   ·cases hi
  ·cases hi
 |_=>cases hi
end
def V0:Val:=⟨[0],[]⟩
def YR{V:Val}(h:V.ν[0]?=some 0):V0.le V:=⟨fun i a hi=>by
 grind [V0],fun i a hi=>by simp[V0]at hi⟩
def gu(C:Ctx)(PK:PkI)(f:FuncId):Sm->Prop
 |.pure args res=>∀(O:St) (azs as':LA) (O1:St),Ok O->hand false azs O=some (as',O1)->Ok O1->Mt V0 args as'->∃v,ai C f azs O=some (v,O1)/\M V0 res v
 |.ro l args res=>∀(O:St) (o:Nat) (azs as':LA) (O1:St) (cs:LA) (fz:Fz),Ok O->hand false (.ref o 0::azs) O=some (.ref o 0::as',O1)->Ok O1->O1[o]?=some (.cells cs fz)->Ms V0 l cs->Mt V0 args as'->∃v,ai C f (.ref o 0::azs) O=some (v,O1)/\M V0 res v
 |.pof args=>∀(O:St) (azs as':LA) (O1:St),Ok O->hand false azs O=some (as',O1)->Ok O1->Mt V0 args as'->∃(L:St) (o:Nat) (ms:List Nat),ai C f azs O=some (.ref o 0,O1++L)/\Ok (O1++L)/\(∀i∈o::ms,O1.length<=i/\i<(O1++L).length)/\PK.ok (O1++L) o ms
 |.pk args res=>∀(O:St) (o:Nat) (ms:List Nat) (azs as':LA) (O1:St),Ok O->hand false (.ref o 0::azs) O=some (.ref o 0::as',O1)->Ok O1->PK.ok O1 o ms->Mt V0 args as'->∃v O2,ai C f (.ref o 0::azs) O=some (v,O2)/\M V0 res v/\Ok O2/\O2.length=O1.length/\(∀i,i∉o::ms->O2[i]?=O1[i]?)/\PK.ok O2 o ms
 |.chg H args res=>∀(O:St) (azs as':LA) (O1:St),Ok O->hand false azs O=some (as',O1)->Ok O1->∀(F:Frm) (W:Vo) (E:As),G PK F W (Hab H) E O1->Mt W.toVal args as'->∃v O2,ai C f azs O=some (v,O2)/\M V0 res v/\Ok O2/\O2.length=O1.length/\(∀i,(∀(k:Nat) a,W.own[k]?=some a->i∉a)->O2[i]?=O1[i]?)/\∀(k:Nat) h,H[k]?=some h->HM PK W F O2 k h
theorem MRs.nvs{V:Val}{e:List Sh}(hc:cls e=true):∀{rs:List LA},MRs V e rs->NVs rs.flatten
 |_,.nil _=>.nil
 |_,.cons _ r rs x y=>by rw[ax3];exact(Ms.nvs x hc).app (MRs.nvs hc y)
def ah1{V:Val}:∀{rs:List LA},MRs V [.jv] rs->∃is:List JV,is.length=rs.length/\rs.flatten=aJ is
 |_,.nil _=>⟨[],rfl,rfl⟩
 |_,.cons _ r rs x y=>by
  obtain⟨is,h1,h2⟩:=ah1 y;cases x with
  |one _ _ _ _ h=>cases h
  |jv _ j b hb=>
   cases hb;exact⟨j::is,by simp[h1],by rw[ax3,h2,aJ,au6]⟩
def Eg {O:St} {r:LA->Option (LA×List Nat)}:∀{a:LA} (b:LA),NVs a->aT O r (a++b)=match aT O r b with
  |some (l,fs)=>some (a++l,fs)
  |none=>none
 |[],b,_=>by
  grind
 |v::a,b,h=>by
  show(match asb O r v,aT O r (a++b)with|some (v,fs),some (l,gs)=>some (v::l,fs++gs)|_,_=>none)=_
  rw[(h v (by simp)).nf,Eg b (fun x hx=>h x (by simp[hx]))]
  cases aT O r b<;>rfl
def akz{V:Val}(h0:V.ν[0]?=some 0){e:List Sh}(hj:jvN [] 3 e=true):∀{rs:List LA},MRs V e rs->MRs V [.jv] rs
 |_,.nil _=>.nil _
 |_,.cons _ r rs x y=>by
  obtain⟨j,rfl⟩:=aeU (Sb.nil (W:=V) h0) 3 hj x;refine .cons _ _ _ ?_ (akz h0 hj y);have:=Ms.jv (V:=V) [] j [] .nil;rwa[au6]at this
theorem agY{V:Val}(h0:V.ν[0]?=some 0){a:Nat}{e:List Sh}{rs:List LA}(h:V.ν[a]?=some rs.length)(hm:MRs V e rs):M V (apY a e) (.sl rs.length rs.flatten):=by
 unfold apY;split
 ·rename_i hj;obtain⟨is,h1,h2⟩:=ah1 (akz h0 hj hm)
  grind [M]
 ·exact .sl _ _ _ h hm
def ahK{V:Val}{O:St}{R:LA->Option (LA×List Nat)}{s s':Sh}{v:AV}(ho:s.one=true)(h:M V s v)(hs:aeM s=some s'):s'.one=true/\∃v',asb O R v=some (v',[])/\M V s' v':=by
 unfold aeM at hs;split at hs
 ·cases hs;cases h;exact⟨rfl,.sl 0 [],rfl,.slc _ _ _ .nil⟩
 ·rename_i n l;split at hs
  ·rename_i hc;cases hs;obtain⟨w,rfl,hw⟩:=ajS h;refine⟨rfl,.sl n w,?_,.slc _ _ _ hw⟩;unfold asb;rw[(Ms.nvs hw hc).nf]
  ·cases hs
 ·split at hs
  ·rename_i hc;cases hs;exact⟨ho,v,(M.nv h hc).nf _ _,h⟩
  ·cases hs
def QE{V:Val}{O:St}{R:LA->Option (LA×List Nat)}:∀{e:List Sh} {r:LA},Ms V e r->∀{e':List Sh},Un e=some e'->∃r',aT O R r=some (r',[])/\Ms V e' r'
 |_,_,.nil,e',hs=>by cases hs;exact⟨[],rfl,.nil⟩
 |_,_,.one s t v b a x y,e',hs=>by
  simp only[Un]at hs;split at hs
  ·rename_i s2 t2 h1 h2;cases hs;obtain⟨o1,v',e1,m1⟩:=ahK (O:=O) (R:=R) a x h1;obtain⟨r',e2,m2⟩:=QE (O:=O) (R:=R) y h2
   grind [aT,Ms]
  ·cases hs
 |_,_,.jv t j b x,e',hs=>by
  simp only[Un]at hs;split at hs
  ·rename_i s2 t2 h1 h2;cases hs;cases h1;obtain⟨r',e2,m2⟩:=QE (O:=O) (R:=R) x h2;exact⟨j.cs++r',by rw[Eg _ j.nvs,e2],.jv _ _ _ m2⟩
  ·cases hs
 |_,_,.jg a b t j r x y,e',hs=>by
  simp only[Un]at hs;split at hs
  ·rename_i s2 t2 h1 h2;cases hs;cases h1;obtain⟨r',e2,m2⟩:=QE (O:=O) (R:=R) y h2;exact⟨j.cs++r',by rw[Eg _ j.nvs,e2],.jg _ _ _ _ _ x m2⟩
  ·cases hs
def Xx{O:St}{R:LA->Option (LA×List Nat)}:∀{a b a' b':LA},aT O R a=some (a',[])->aT O R b=some (b',[])->aT O R (a++b)=some (a'++b',[])
 |[],b,a',b',h1,h2=>by cases h1;exact h2
 |v::a,b,a',b',h1,h2=>by
  unfold aT at h1;split at h1
  ·rename_i w fs l gs e1 e2;simp only[a05,av6,List.append_eq_nil_iff]at h1;obtain⟨rfl,rfl,rfl⟩:=h1;have:=Xx e2 h2
   grind [aT]
  ·cases h1
def ZB{V:Val}{O:St}{R:LA->Option (LA×List Nat)}{e e':List Sh}(hs:Un e=some e'):∀{rs:List LA},MRs V e rs->∃rs',aT O R rs.flatten=some (rs'.flatten,[])/\MRs V e' rs'/\rs'.length=rs.length
 |_,.nil _=>⟨[],rfl,.nil _,rfl⟩
 |_,.cons _ r rs x y=>by
  obtain⟨r',e1,m1⟩:=QE (O:=O) (R:=R) x hs;obtain⟨rs',e2,m2,l2⟩:=ZB (O:=O) (R:=R) hs y;exact⟨r'::rs',by rw[ax3,ax3];exact Xx e1 e2,.cons _ _ _ m1 m2,by simp[l2]⟩
section
variable{C:Ctx}{X:Cfg}{PK:PkI}{O0:Frm}{V:Vo}{A:Ab}{E:As}{Y:St}
def Fr(V:Vo)(A:Ab)(o:Nat):Prop:=∃k:Nat,V.own[k]?=some [o]/\∃y:HO,A.heap[k]?=some y/\((∃a e,y=HO.arr a e)\/(∃a e,y=HO.arrm a e))
theorem aiO{m:Bool}{k a w:Nat}{e:List Sh}(hk:Pq m A.heap k a w=some e){o:Nat}(ho:V.own[k]?=some [o]):Fr V A o:=by
 refine⟨k,ho,?_⟩;unfold Pq at hk
 grind
def ace(h:G PK O0 V A E Y){m:Bool}{k a w:Nat}{s':Sh}(hs:ZA A.heap m k a w=some s'){n o:Nat}(hn:V.ν[a]?=some n)(ho:V.ρ[k]?=some (some o))(hp:m=false->0<n):∃v' fs,asb Y (df Y 11) (.msl o 0 n w)=some (v',fs)/\M V.toVal s' v'/\∀o∈fs,Fr V A o:=by
 unfold ZA at hs;split at hs
 ·rename_i e hk;simp only[a97]at hs;obtain⟨e',he',rfl⟩:=hs;obtain⟨hw,n',hn',hh⟩:=V4 h hk;rw[hn]at hn';cases hn';rcases hh with⟨hm,rfl,_⟩|⟨o',rs,fz,h3,h4,h5,h6,h7⟩
  ·exact absurd (hp hm) (by omega)
  ·rw[ho]at h3;cases h3;have hlen:=h7.len;obtain⟨rs',e1,m1,l1⟩:=ZB (O:=Y) (R:=df Y 10) he' h7;refine⟨.sl n rs'.flatten,[o],?_,?_,fun q hq=>?_⟩
   ·unfold asb;rw[h5];dsimp only;rw[if_pos (by rw[hlen,h6,hw];omega),au0,a08 (by rw[hlen,h6,hw];omega)]
    show(match aT Y (df Y 10) rs.flatten with|some (l,fs)=>some (AV.sl n l,o::fs)|none=>none)=_
    rw[e1]
   ·grind [agY,h.zero]
   grind [aiO]
 ·cases hs
def ahg(h:G PK O0 V A E Y){m:Bool}{k a w:Nat}{s':Sh}(hs:ZA A.heap m k a w=some s')(hn:V.ν[a]?=some 0):∃v' fs,asb Y (df Y 11) .nils=some (v',fs)/\M V.toVal s' v'/\∀o∈fs,Fr V A o:=by
 unfold ZA at hs;split at hs
 ·rename_i e hk;simp only[a97]at hs;obtain⟨e',he',rfl⟩:=hs;exact⟨.sl 0 [],[],rfl,agY (rs:=[]) h.zero hn (.nil _),by simp⟩
 ·cases hs
mutual
def Xc(h:G PK O0 V A E Y):∀{s:Sh} {v:AV},M V.toVal s v->∀{s':Sh},EY A.heap s=some s'->∃v' fs,asb Y (df Y 11) v=some (v',fs)/\M V.toVal s' v'/\∀o∈fs,Fr V A o
 |_,_,.undef,s',hs=>by cases hs;exact⟨_,_,rfl,.undef,by simp⟩
 |_,_,.bool b,s',hs=>by cases hs;exact⟨_,_,rfl,.bool b,by simp⟩
 |_,_,.bc b,s',hs=>by cases hs;exact⟨_,_,rfl,.bc b,by simp⟩
 |_,_,.tst x c y a b e f,s',hs=>by cases hs;exact⟨_,_,rfl,.tst x c y a b e f,by simp⟩
 |_,_,.teq x c y a b e f g,s',hs=>by cases hs;exact⟨_,_,rfl,.teq x c y a b e f g,by simp⟩
 |_,_,.int k n,s',hs=>by cases hs;exact⟨_,_,rfl,.int k n,by simp⟩
 |_,_,.ic k n,s',hs=>by cases hs;exact⟨_,_,rfl,.ic k n,by simp⟩
 |_,_,.sym j c a e,s',hs=>by cases hs;exact⟨_,_,rfl,.sym j c a e,by simp⟩
 |_,_,.str x,s',hs=>by cases hs;exact⟨_,_,rfl,.str x,by simp⟩
 |_,_,.strb x e,s',hs=>by cases hs;exact⟨_,_,rfl,.strb x e,by simp⟩
 |_,_,.sc x,s',hs=>by cases hs;exact⟨_,_,rfl,.sc x,by simp⟩
 |_,_,.strl i x e,s',hs=>by cases hs;exact⟨_,_,rfl,.strl i x e,by simp⟩
 |_,_,.nilp,s',hs=>by cases hs;exact⟨_,_,rfl,.nilp,by simp⟩
 |_,_,.nils,s',hs=>by cases hs;exact⟨_,_,rfl,.slc 0 [] [] .nil,by simp⟩
 |_,_,.nilF,s',hs=>by cases hs;exact⟨_,_,rfl,.nilF,by simp⟩
 |_,_,.nilI,s',hs=>by cases hs;exact⟨_,_,rfl,.nilI,by simp⟩
 |_,_,.nilM,s',hs=>by cases hs;exact⟨_,_,rfl,.nilM,by simp⟩
 |_,_,.sl i e rs a b,s',hs=>by
  simp only[EY]at hs;split at hs
  ·cases hs;exact⟨_,_,rfl,.sl i e rs a b,by simp⟩
  ·cases hs
 |_,_,.slx e rs a b,s',hs=>by
  simp only[EY]at hs;split at hs
  ·cases hs;exact⟨_,_,rfl,.slx e rs a b,by simp⟩
  ·cases hs
 |_,_,.slj i is a,s',hs=>by cases hs;exact⟨_,_,rfl,.slj i is a,by simp⟩
 |_,_,.sljx is a,s',hs=>by cases hs;exact⟨_,_,rfl,.sljx is a,by simp⟩
 |_,_,.xsl n e l a,s',hs=>by
  simp only[EY]at hs;split at hs
  ·rename_i l' hl;cases hs;obtain⟨w,fs,h1,h2,h3⟩:=Ju h a hl;refine⟨.sl n w,fs,?_,.slc _ _ _ h2,h3⟩;unfold asb;rw[h1]
  ·cases hs
 |_,_,.slc n e l a,s',hs=>by
  simp only[EY]at hs;split at hs
  ·cases hs;exact⟨_,_,rfl,.slc n e l a,by simp⟩
  ·cases hs
 |_,_,.acc0 k a e x,s',hs=>ahg (m:=false) h hs x
 |_,_,.acc k a e o n x y z,s',hs=>ace (m:=false) h hs x z (fun _=>y)
 |_,_,.accm k a e o n x z,s',hs=>ace (m:=true) h hs x z (fun hf=>by cases hf)
 |_,_,.agg l v a,s',hs=>by
  simp only[EY]at hs;split at hs
  ·rename_i l' hl;cases hs;obtain⟨w,fs,h1,h2,h3⟩:=Ju h a hl;refine⟨.agg w,fs,?_,.agg _ _ h2,h3⟩;unfold asb;rw[h1]
  ·cases hs
 |_,_,.tup l v a,s',hs=>by
  simp only[EY]at hs;split at hs
  ·rename_i l' hl;cases hs;obtain⟨w,fs,h1,h2,h3⟩:=Jt h a hl;refine⟨.tup w,fs,?_,.tup _ _ h2,h3⟩;unfold asb;rw[h1]
  ·cases hs
 |_,_,.jv j,s',hs=>by cases hs;exact⟨_,_,j.nv.nf _ _,.jv j,by simp⟩
 |_,_,.jg a b j x,s',hs=>by cases hs;exact⟨_,_,j.nv.nf _ _,.jg a b j x,by simp⟩
 |_,_,.ref k off o a,s',hs=>by cases hs;exact⟨_,_,rfl,.ref k off o a,by simp⟩
 |_,_,.eptr off l v r a c b,s',hs=>by
  simp only[EY]at hs;split at hs
  ·cases hs;exact⟨_,_,rfl,.eptr off l v r a c b,by simp⟩
  ·cases hs
 |_,_,.map k o a,s',hs=>by cases hs;exact⟨_,_,rfl,.map k o a,by simp⟩
 |_,_,.pk k o a,s',hs=>by cases hs;exact⟨_,_,rfl,.pk k o a,by simp⟩
 |_,_,.func f x y u v a b,s',hs=>by
  simp only[EY]at hs;split at hs
  ·rename_i x' y' hx hy;cases hs;obtain⟨w,fs,h1,h2,h3⟩:=Jt h a hx;obtain⟨w',fs',h1',h2',h3'⟩:=Jt h b hy;refine⟨.func f w w',fs++fs',?_,.func _ _ _ _ _ h2 h2',fun o ho=>?_⟩
   ·unfold asb;rw[h1,h1']
   grind
  ·cases hs
 |_,_,.iface t s v a,s',hs=>by
  simp only[EY]at hs;split at hs
  ·rename_i s2 hs2;cases hs;obtain⟨w,fs,h1,h2,h3⟩:=Xc h a hs2
   grind [asb,M]
  ·cases hs
def Ju(h:G PK O0 V A E Y):∀{l:List Sh} {v:LA},Ms V.toVal l v->∀{l':List Sh},Nc A.heap l=some l'->∃v' fs,aT Y (df Y 11) v=some (v',fs)/\Ms V.toVal l' v'/\∀o∈fs,Fr V A o
 |_,_,.nil,l',hs=>by cases hs;exact⟨[],[],rfl,.nil,by simp⟩
 |_,_,.one s t v b a x y,l',hs=>by
  have hu:Nc A.heap (s::t)=if s.one then(match EY A.heap s,Nc A.heap t with
   |some s',some t=>if s'.one then some (s'::t)else none
   |_,_=>none)else none:=by cases s<;>first|rfl|cases a
  rw[hu,if_pos a]at hs;split at hs
  ·rename_i s2 t2 hs2 ht2;split at hs
   ·rename_i hone;cases hs;obtain⟨w,fs,h1,h2,h3⟩:=Xc h x hs2;obtain⟨w',fs',h1',h2',h3'⟩:=Ju h y ht2
    grind [aT,Ms]
   ·cases hs
  ·cases hs
 |_,_,.jv t j b x,l',hs=>by
  simp only[Nc]at hs;split at hs
  ·rename_i t2 ht2;cases hs;obtain⟨w,fs,h1,h2,h3⟩:=Ju h x ht2;refine⟨j.cs++w,fs,?_,.jv _ _ _ h2,h3⟩;rw[Eg _ j.nvs,h1]
  ·cases hs
 |_,_,.jg a b t j r x y,l',hs=>by
  simp only[Nc]at hs;split at hs
  ·rename_i t2 ht2;cases hs;obtain⟨w,fs,h1,h2,h3⟩:=Ju h y ht2;refine⟨j.cs++w,fs,?_,.jg _ _ _ _ _ x h2,h3⟩;rw[Eg _ j.nvs,h1]
  ·cases hs
def Jt(h:G PK O0 V A E Y):∀{l:List Sh} {v:LA},Mt V.toVal l v->∀{l':List Sh},IA A.heap l=some l'->∃v' fs,aT Y (df Y 11) v=some (v',fs)/\Mt V.toVal l' v'/\∀o∈fs,Fr V A o
 |_,_,.nil,l',hs=>by cases hs;exact⟨[],[],rfl,.nil,by simp⟩
 |_,_,.cons s t v b x y,l',hs=>by
  simp only[IA]at hs;split at hs
  ·rename_i s2 t2 hs2 ht2;cases hs;obtain⟨w,fs,h1,h2,h3⟩:=Xc h x hs2;obtain⟨w',fs',h1',h2',h3'⟩:=Jt h y ht2
   grind [aT,Mt]
  ·cases hs
end
def ai2{α:Type}{l:List α}{k:Nat}{y:α}(h:l[k]?=some y):l.set k y=l:=by
 apply aw5
 grind
def Zu:∀(fs:List Nat) {Y:St},G PK O0 V A E Y->(∀o∈fs,Fr V A o)->G PK O0 V A E (freeze Y fs)/\Ch V A Y V A (freeze Y fs)
 |[],Y,h,_=>⟨h,.refl⟩
 |o::fs,Y,h,hf=>by
  have ih:=fun{Y':St} (h':G PK O0 V A E Y')=>Zu fs h' (fun q hq=>hf q (by simp[hq]))
  unfold freeze;split
  ·rename_i l t hl;obtain⟨k,ho,y,hy,hya⟩:=hf o (by simp)
   have hrange:=h.rng k _ ho o (by simp)
   have hHM:=h.heap _ _ hy;have hset:=h.set (k:=k) (o:=o) (x:=.cells l ⟨true,t⟩) (y:=y) ((a00.mp hy).1) ho (by
     have:=a90.mp h.ok _ (a94 hl);exact this) (by
    rcases hya with⟨a,e,rfl⟩|⟨a,e,rfl⟩
    ·obtain⟨n,h1,h2⟩:=hHM;refine⟨n,h1,?_⟩
     grind
    ·obtain⟨n,h1,o',rs,fz,h3,h4,h5,h6,h7⟩:=hHM;rw[ho]at h4;cases h4;rw[hl]at h5;cases h5;exact⟨n,h1,o,rs,⟨true,t⟩,h3,ho,by rw[aB2 hrange.2],h6,h7⟩)
   have hset:G PK O0 V A E (Y.set o (.cells l ⟨true,t⟩)):=by
    rw[ai2 hy]at hset;exact hset
   obtain⟨g1,g2⟩:=ih hset;refine⟨g1,Ch.trans (.state fun k' l' o' hk' ho'=>?_) g2⟩;rw[aA5]
   grind [G]
  ·exact ih h
def agq(h:G PK O0 V A E Y){ss ss':List Sh}{azs:LA}(hm:Mt V.toVal ss azs)(hs:IA A.heap ss=some ss'):∃as' Y1,hand false azs Y=some (as',Y1)/\Mt V.toVal ss' as'/\G PK O0 V A E Y1/\Ch V A Y V A Y1:=by
 obtain⟨w,fs,h1,h2,h3⟩:=Jt h hm hs;obtain⟨g1,g2⟩:=Zu fs h h3;refine⟨w,freeze Y fs,?_,h2,g1,g2⟩;show(match df Y 12 azs with|some (l,fs)=>some (l,freeze Y fs)|none=>none)=_
 rw[show df Y 12 azs=aT Y (df Y 11) azs from rfl,h1]
end
end Go.Ev
