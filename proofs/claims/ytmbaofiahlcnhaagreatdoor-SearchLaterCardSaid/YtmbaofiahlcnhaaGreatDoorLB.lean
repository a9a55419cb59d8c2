/- What the law wants alone. No conditions. -/
import Derived.Test.YtmbaofiahlcnhaaGreatDoorCB
import Derived.Test.YtmbaofiahlcnhaaGreatDoorCE
import Derived.Test.YtmbaofiahlcnhaaGreatDoorCF
import Derived.Test.YtmbaofiahlcnhaaGreatDoorEC
import Derived.Test.YtmbaofiahlcnhaaGreatDoorProg
import Derived.Test.YtmbaofiahlcnhaaGreatDoorTI
set_option linter.unusedVariables false
set_option linter.unusedSimpArgs false
set_option linter.defProp false
namespace Go.Ev
open Bool renaming true→eT, false→eF
open Option renaming none→U, some→J
open List renaming length→z
open Go.IntKind renaming i64→r
set_option maxRecDepth 1000000
abbrev ry:FuncId:=4
noncomputable section
end
set_option maxRecDepth 100000
variable{C C1:Ctx}
def alU(K:Ht)(fs:List PS)(rc sc:Int)(rl:List UInt8)(a:lJ)(ks:List PS)(F:List bD):∃b,(dG K fs rc sc rl a ks F).2=(bg K fs sc F).2++b:=by
 unfold dG;dsimp only;split
 ·split;·exact⟨[],(ay5 _).symm⟩
  ·split;·exact ZP _ _ _ _
   ·split;·exact⟨[],(ay5 _).symm⟩
    ·exact ZP _ _ _ _
 ·exact⟨[],(ay5 _).symm⟩
end Go.Ev
namespace Go.Ev
open Bool renaming true→eT, false→eF
open Option renaming none→U, some→J
open List renaming length→z
open Go.IntKind renaming i64→r
set_option maxRecDepth 1000000
noncomputable section
def dQ:KF:=(.mk ?k:KsA 4 []).1
end
set_option maxRecDepth 100000
variable{C C1:Ctx}
def Am{c:Prop} [Decidable c](v:Int){x y:Int}(t:Lat x y):Lat (if c then v else x) (if c then v else y):=by
 by_cases k:c;·rw[if_pos k,if_pos k];exact .inl rfl
 ·rw[if_neg k,if_neg k];exact t
def ak1{e n t:Int}(h:n<=t):Lat (if decide (e<=n)=eT then 10 else 0) (if decide (e<=t)=eT then 10 else 0):=by
 by_cases c:e<=n;·have d:e<=t:=(by omega);simp only[c,d,decide_true,if_true];exact .inl rfl
 ·by_cases d:e<=t;·simp only[c,d,decide_true,decide_false,if_true];exact .inr ⟨rfl,rfl⟩
  ·simp only[c,d,decide_false];exact .inl rfl
def auf(a:CG){n t:Int}(h:n<=t)(d:List UInt8)(f:Int):Lat (a.sc n d f) (a.sc t d f):=
 Am _ (Am _ (Am _ (Am _ (Am _ (Am _ (ak1 h))))))
def aue(b:CG){n t:Int}(h:n<=t)(p:nI)(a:lJ)(ks:List PS)(d:List UInt8)(f:Int):Lat (b.rc n p a ks d f) (b.rc t p a ks d f):=
 Am _ (Am _ (Am _ (Am _ (Am _ (Am _ (Am _ (Am _ (Am _ (ak1 h)))))))))
def Lt (a:CG) {n t:Int} (h:n<=t) (fs:List PS) (sc:Int) (F:List bD):
  (bg (a.K t) fs sc F).2=(bg (a.K n) fs sc F).2/\Lat (bg (a.K n) fs sc F).1.2 (bg (a.K t) fs sc F).1.2/\((bg (a.K n) fs sc F).1.2=(bg (a.K t) fs sc F).1.2->(bg (a.K n) fs sc F).1.1=(bg (a.K t) fs sc F).1.1):=by
 refine⟨rfl,auf a h _ _,λe=>?_⟩;show aep _ _=aep _ _;have e:a.sc n (tH fs F (Hl++mg) sc).1.am (tH fs F (Hl++mg) sc).1.al=a.sc t (tH fs F (Hl++mg) sc).1.am (tH fs F (Hl++mg) sc).1.al:=e;rw[e]
def aiD (c:CG) {n t:Int} (h:n<=t) (fs:List PS) (rc sc:Int) (rl:List UInt8) (a:lJ) (ks:List PS) (F:List bD):
  let x:=dG (c.K n) fs rc sc rl a ks F
  let y:=dG (c.K t) fs rc sc rl a ks F
  let u:=bg (c.K t) fs sc F
  (u.1.2≠0->y.1.2=u.1.2)/\(u.1.2=0->Lat x.1.2 y.1.2/\(x.1.2=y.1.2->x.1.1=y.1.1)):=by
 intro x y u;obtain⟨k,h2,h3⟩:=Lt c h fs sc F;refine⟨λf=>?_,λf=>?_⟩;·show(dG (c.K t) fs rc sc rl a ks F).1.2=_;unfold dG;dsimp only;rw[if_neg f]
 ·have l:=h2.aa f;have hs:=h3 (l.trans f.symm);have ex:x=(match pM u.1.1 rl with
   |U=>((LJ,1),u.2)|J p=>if p.I<0 then xh (c.K n) fs rl a ks p rc u.2 else if rc<p.I then((LJ,3),u.2)else xh (c.K n) fs rl a ks p p.I u.2):=by
   show dG (c.K n) fs rc sc rl a ks F=_;unfold dG;dsimp only;rw[if_pos l,hs];rfl
  have d:y=(match pM u.1.1 rl with
   |U=>((LJ,1),u.2)|J p=>if p.I<0 then xh (c.K t) fs rl a ks p rc u.2 else if rc<p.I then((LJ,3),u.2)else xh (c.K t) fs rl a ks p p.I u.2):=by
   show dG (c.K t) fs rc sc rl a ks F=_;unfold dG;dsimp only;rw[if_pos f]<;>rfl
  have g:∀(p:nI) (b:Int),x=xh (c.K n) fs rl a ks p b u.2->y=xh (c.K t) fs rl a ks p b u.2->Lat x.1.2 y.1.2/\(x.1.2=y.1.2->x.1.1=y.1.1):=λp b k h2=>by rw[k,h2];refine⟨aue c h _ _ _ _ _,λe=>?_⟩;show aeq _ _=aeq _ _;have e:c.rc n p a ks (tH fs u.2 (rl++mg) b).1.am (tH fs u.2 (rl++mg) b).1.al=c.rc t p a ks (tH fs u.2 (rl++mg) b).1.am (tH fs u.2 (rl++mg) b).1.al:=e;rw[e]
  cases m:pM u.1.1 rl with
  |none=>rw[m]at ex d;rw[d,ex];exact⟨.inl rfl,λ_=>rfl⟩
  |some p=>
   rw[m]at ex d;dsimp only at ex d;by_cases i:p.I<0;·rw[if_pos i]at ex d;exact g p rc ex d
   ·rw[if_neg i]at ex d;by_cases j:rc<p.I;·rw[if_pos j]at ex d;rw[d,ex];exact⟨.inl rfl,λ_=>rfl⟩
    ·rw[if_neg j]at ex d;exact g p _ ex d
end Go.Ev
namespace Go.Ev
open Bool renaming true→eT, false→eF
open Option renaming none→U, some→J
open List renaming length→z
open Go.IntKind renaming i64→r
set_option maxRecDepth 100000
abbrev Nx:=(jY×List bD)⊕(List Wp×List (List UInt8)×List bD)
def Jm(f:Bo)(a:List Wp)(vs:List (List UInt8))(w:Wp)(t:(fB×Int)×List bD):Nx:=
 if t.1.2≠0 then
  if w.E≠yL/\skp t.1.2=eT then .inr (a,vs++[w.E],t.2)
  else .inl (⟨3,4,t.1.2,w.E,nN,vs++[w.E]⟩,t.2)
 else match f.fd t.1.1 with|J d=>.inl (⟨1,0,0,[],d,vs++[w.E]⟩,t.2)|U=>.inr (Vw a (f.go t.1.1) t.1.1.bj.ak (w.ad+1),vs++[w.E],t.2)
def G9(d:Bo)(vs:List (List UInt8))(F:List bD):List bD:=if vs=[]then(bg d.K d.fs d.sc F).2 else F
def aqG(d:Bo)(w:Wp)(F:List bD):(fB×Int)×List bD:=dG d.K d.fs d.rc d.sc w.E w.W w.ak F
def vH(d:Bo)(a:List Wp)(vs:List (List UInt8))(F:List bD):Nx:=
 match a.getLast? with
 |U=>.inl (⟨2,0,0,[],nN,vs⟩,F)
 |J w=>
  if w.E∈vs then .inr (a.dropLast,vs,F)
  else if d.ap<=z vs then .inl (⟨3,2,0,[],nN,vs⟩,F)
  else if d.ad<w.ad then .inl (⟨3,3,0,[],nN,vs⟩,F)
  else if vs=[]/\(bg d.K d.fs d.sc F).1.2≠0 then .inl (⟨3,4,(bg d.K d.fs d.sc F).1.2,Hl,nN,vs++[w.E]⟩,(bg d.K d.fs d.sc F).2)
  else Jm d a.dropLast vs w (aqG d w (G9 d vs F))
def aoN(f:Bo)(n:Nat):Nx->Option (jY×List bD)|.inl d=>J d|.inr s=>vK f n s.1 s.2.1 s.2.2
def aml(h:Bo)(n:Nat)(g:List Wp)(vs:List (List UInt8))(F:List bD):vK h (n+1) g vs F=if tooBig g vs F=eT then U else aoN h n (vH h g vs F):=by
 rw[vK];split;·rfl
 ·unfold vH;cases g.getLast? with
  |none=>rfl
  |some w=>
   dsimp only;by_cases a:w.E∈vs;·rw[if_pos a,if_pos a];rfl
   rw[if_neg a,if_neg a];by_cases b:h.ap<=z vs;·rw[if_pos b,if_pos b];rfl
   rw[if_neg b,if_neg b];by_cases c:h.ad<w.ad;·rw[if_pos c,if_pos c];rfl
   rw[if_neg c,if_neg c];by_cases d:vs=[]/\(bg h.K h.fs h.sc F).1.2≠0;·rw[if_pos d,if_pos d];rfl
   rw[if_neg d,if_neg d];unfold Jm aqG G9;generalize dG h.K h.fs h.rc h.sc w.E w.W w.ak (if vs=[]then(bg h.K h.fs h.sc F).2 else F)=t;by_cases e:t.1.2≠0
   ·rw[if_pos e,if_pos e];by_cases f:w.E≠yL/\skp t.1.2=eT;·rw[if_pos f,if_pos f];rfl
    ·rw[if_neg f,if_neg f];rfl
   ·rw[if_neg e,if_neg e];cases h.fd t.1.1<;>rfl
def adc{f:Bo}{n:Nat}{a:List Wp}{vs:List (List UInt8)}{F:List bD}{d:jY×List bD}(h:vK f n a vs F=J d):∃m,n=m+1/\tooBig a vs F=eF/\aoN f m (vH f a vs F)=J d:=by
 cases n with
 |zero=>cases h
 |succ m=>
  rw[aml]at h;split at h;·cases h
  ·next c=>exact⟨m,rfl,by simpa using c,h⟩
def ah9{x i:Bo}{rr:jY×List bD}{I:List Wp->List (List UInt8)->List bD->List bD->Prop}{Q:jY×List bD->Prop}(hs:∀n c vs F G,I c vs F G->aoN x n (vH x c vs F)=J rr->(∃f,vH i c vs G=.inl f/\Q f)\/∃a b F1 g,vH x c vs F=.inr (a,b,F1)/\vH i c vs G=.inr (a,b,g)/\I a b F1 g):∀(n j:Nat) (c:List Wp) (vs:List (List UInt8)) (F G:List bD) (f:jY×List bD),I c vs F G->vK x n c vs F=J rr->vK i j c vs G=J f->Q f
 |0,_,_,_,_,_,_,_,h,_=>by cases h
 |n+1,j,c,vs,F,G,f,hI,h,d=>by
  obtain⟨m,e,_,h⟩:=adc h;obtain rfl:n=m:=(by omega);obtain⟨l,_,_,d⟩:=adc d;rcases hs _ _ _ _ _ hI h with⟨q,e1,k⟩|⟨a,b,F1,g,e1,e2,k⟩;·rw[e1]at d;cases d;exact k
  ·rw[e1]at h;rw[e2]at d;exact ah9 hs n _ _ _ _ _ _ k h d
def ax4:Nx->List bD|.inl d=>d.2|.inr s=>s.2.2
def aip(d:Bo)(a:List Wp)(vs:List (List UInt8))(w:Wp)(t:(fB×Int)×List bD):ax4 (Jm d a vs w t)=t.2:=by
 unfold Jm;repeat' split
 all_goals rfl
def Late(d:jY×List bD):Prop:=d.1.fj=3/\d.1.jf=4/\d.1.e6=10
def alV (b:CG) {n t:Int} (h:n<=t) (fs:List PS) (rc sc:Int) (rl:List UInt8) (a:lJ) (ks:List PS) (F:List bD) (hs:(bg (b.K t) fs sc F).1.2=0):
  (dG (b.K t) fs rc sc rl a ks F).2=(dG (b.K n) fs rc sc rl a ks F).2/\((dG (b.K t) fs rc sc rl a ks F).1=(dG (b.K n) fs rc sc rl a ks F).1\/(dG (b.K n) fs rc sc rl a ks F).1.2=0/\(dG (b.K t) fs rc sc rl a ks F).1.2=10):=by
 obtain⟨l1,l2⟩:=(aiD b h fs rc sc rl a ks F).2 hs;refine⟨?_,?_⟩
 ·obtain⟨s1,s2,s3⟩:=Lt b h fs sc F;have c:=s2.aa hs;have e:=s3 (c.trans hs.symm);unfold dG;dsimp only;rw[if_pos hs,if_pos c,e];cases pM (bg (b.K t) fs sc F).1.1 rl with
  |none=>rfl
  |some p=>
   dsimp only;split;·rfl
   ·split<;>rfl
 ·rcases l1 with l|⟨l,d⟩;·exact .inl (Prod.ext (l2 l.symm).symm l)
  ·exact .inr ⟨l,d⟩
def aiZ(d:CG){now t:Int}(h:now<=t){du T:Bo}(D:du.K=d.K now)(E:T={du with K:=d.K t}){n O:Nat}{g:List Wp}{vs:List (List UInt8)}{F:List bD}{co i:jY×List bD}(hv:vs≠[]->(bg (d.K t) du.fs du.sc F).1.2=0)(W:vK du n g vs F=J co)(h2:vK T O g vs F=J i):i=co\/(Late i/\z i.1.b3<=z co.1.b3):=by
 subst E;refine ah9 (rr:=co) (I:=λ_ vs F G=>G=F/\(vs≠[]->(bg (d.K t) du.fs du.sc F).1.2=0)) (Q:=λi=>i=co\/(Late i/\z i.1.b3<=z co.1.b3)) (λn g vs F G hI m=>?_) n O g vs F F i ⟨rfl,hv⟩ W h2;obtain⟨rfl,hv⟩:=hI;have same:∀x:Nx,vH du g vs G=x->vH {du with K:=d.K t} g vs G=x->(∀a b F1,x=.inr (a,b,F1)->b≠[]->(bg (d.K t) du.fs du.sc F1).1.2=0)->(∃i,vH {du with K:=d.K t} g vs G=.inl i/\(i=co\/(Late i/\z i.1.b3<=z co.1.b3)))\/∃a b F1 o,vH du g vs G=.inr (a,b,F1)/\vH {du with K:=d.K t} g vs G=.inr (a,b,o)/\o=F1/\(b≠[]->(bg (d.K t) du.fs du.sc F1).1.2=0):=λx e1 e2 k=>by
  cases x with
  |inl q=>rw[e1]at m;cases m;exact .inl ⟨_,e2,.inl rfl⟩|inr s=>exact .inr ⟨_,_,_,_,e1,e2,rfl,k _ _ _ rfl⟩
 have j:∀(q:jY×List bD) (w:Wp),vH {du with K:=d.K t} g vs G=.inl q->Late q->q.1.b3=vs++[w.E]->(∀a,vH du g vs G=.inl a->a.1.b3=vs++[w.E])->(∀a b F1,vH du g vs G=.inr (a,b,F1)->b=vs++[w.E])->(∃i,vH {du with K:=d.K t} g vs G=.inl i/\(i=co\/(Late i/\z i.1.b3<=z co.1.b3)))\/∃a b F1 o,vH du g vs G=.inr (a,b,F1)/\vH {du with K:=d.K t} g vs G=.inr (a,b,o)/\o=F1/\(b≠[]->(bg (d.K t) du.fs du.sc F1).1.2=0):=λq w e1 lq e2 k1 k2=>by
  refine .inl ⟨q,e1,.inr ⟨lq,?_⟩⟩;rw[e2];cases e:vH du g vs G with
  |inl a=>rw[e]at m;cases m;rw[k1 _ e];exact a06 _|inr s=>rw[e]at m;obtain⟨L,X⟩:=ab6 du n s.1 s.2.1 s.2.2 co.1 co.2 m;rw[X,k2 _ _ _ e,@List.length_append _ (vs++[w.E])];exact aE9 _ _
 cases C:g.getLast? with
 |none=>exact same (.inl (⟨2,0,0,[],nN,vs⟩,G)) (by unfold vH;rw[C]) (by unfold vH;rw[C]) (λ_ _ _ e=>by cases e)
 |some w=>
  have st:∀K,vH {du with K:=K} g vs G=if w.E∈vs then .inr (g.dropLast,vs,G)else if du.ap<=z vs then .inl (⟨3,2,0,[],nN,vs⟩,G)else if du.ad<w.ad then .inl (⟨3,3,0,[],nN,vs⟩,G)else if vs=[]/\(bg K du.fs du.sc G).1.2≠0 then .inl (⟨3,4,(bg K du.fs du.sc G).1.2,Hl,nN,vs++[w.E]⟩,(bg K du.fs du.sc G).2)else Jm {du with K:=K} g.dropLast vs w (aqG {du with K:=K} w (G9 {du with K:=K} vs G)):=λK=>by unfold vH;rw[C]
  have st0:vH du g vs G=_:=st du.K;have c:=st (d.K t);by_cases H:w.E∈vs;·rw[if_pos H]at st0 c;exact same _ st0 c (λ_ _ _ e k=>by cases e;exact hv k)
  rw[if_neg H]at st0 c;by_cases M:du.ap<=z vs;·rw[if_pos M]at st0 c;exact same _ st0 c (λ_ _ _ e=>by cases e)
  rw[if_neg M]at st0 c;by_cases N:du.ad<w.ad;·rw[if_pos N]at st0 c;exact same _ st0 c (λ_ _ _ e=>by cases e)
  rw[if_neg N]at st0 c;have st0:vH du g vs G=if vs=[]/\(bg (d.K now) du.fs du.sc G).1.2≠0 then .inl (⟨3,4,(bg (d.K now) du.fs du.sc G).1.2,Hl,nN,vs++[w.E]⟩,(bg (d.K now) du.fs du.sc G).2)else Jm du g.dropLast vs w (dG (d.K now) du.fs du.rc du.sc w.E w.W w.ak (G9 du vs G)):=by rw[<-D];exact st0
  obtain⟨s1,s2,s3⟩:=Lt d h du.fs du.sc G;have vis:∀(u:(fB×Int)×List bD) (y:Bo),(∀a,Jm y g.dropLast vs w u=.inl a->a.1.b3=vs++[w.E])/\∀a b F1,Jm y g.dropLast vs w u=.inr (a,b,F1)->b=vs++[w.E]:=λu y=>by
   unfold Jm;refine⟨λa e=>?_,λa b F1 e=>?_⟩
   ·repeat' split at e
    all_goals first|(cases e;rfl)|cases e
   ·repeat' split at e
    all_goals first|(cases e;rfl)|cases e
  by_cases l:vs=[]/\(bg (d.K t) du.fs du.sc G).1.2≠0
  ·rw[if_pos l]at c;rcases s2 with e|⟨e,p⟩;·rw[if_pos ⟨l.1,by rw[<-e];exact l.2⟩]at st0;rw[e,s1]at c;exact same _ st0 c (λ_ _ _ e=>by cases e)
   ·rw[if_neg λk=>k.2 e]at st0;exact j _ w c ⟨rfl,rfl,p⟩ rfl (λa k=>(vis _ _).1 a (st0.symm.trans k)) (λa b F1 k=>(vis _ _).2 a b F1 (st0.symm.trans k))
  ·rw[if_neg l]at c;have B:¬(vs=[]/\(bg (d.K now) du.fs du.sc G).1.2≠0):=λk=>l ⟨k.1,λe=>k.2 (s2.aa e)⟩;rw[if_neg B]at st0;have P:(bg (d.K t) du.fs du.sc G).1.2=0:=by
    by_cases v:vs=[];·exact Decidable.byContradiction λk=>l ⟨v,k⟩
    ·exact hv v
   have oe:G9 {du with K:=d.K t} vs G=G9 du vs G:=by unfold G9;rw[D];split<;>rfl
   have R:(bg (d.K t) du.fs du.sc (G9 du vs G)).1=(bg (d.K t) du.fs du.sc G).1:=by
    unfold G9;split;·rw[D];have:=IU (d.K t) du.fs du.sc G [];rw[ay5,s1]at this;rw[this]
    ·rfl
   obtain⟨r1,r2⟩:=alV d h du.fs du.rc du.sc w.E w.W w.ak (G9 du vs G) (by rw[R];exact P);rw[oe]at c;unfold aqG at c;dsimp only at c;generalize Y:dG (d.K now) du.fs du.rc du.sc w.E w.W w.ak (G9 du vs G)=u at*;generalize Z:dG (d.K t) du.fs du.rc du.sc w.E w.W w.ak (G9 du vs G)=S at*;rcases r2 with e|⟨e,p⟩
   ·have e:S=u:=Prod.ext e r1;rw[e]at c;refine same _ st0 c (λa b F1 k _=>?_);have f:F1=u.2:=by have:=aip du g.dropLast vs w u;rw[k]at this;exact this
    obtain⟨V,y⟩:=alU (d.K now) du.fs du.rc du.sc w.E w.W w.ak (G9 du vs G);rw[Y]at y;have:=IU (d.K t) du.fs du.sc (G9 du vs G) V;obtain⟨o1,_,_⟩:=Lt d h du.fs du.sc (G9 du vs G);rw[o1,<-y]at this;rw[f,this,R];exact P
   ·have A:vH {du with K:=d.K t} g vs G=.inl (⟨3,4,10,w.E,nN,vs++[w.E]⟩,S.2):=by rw[c];unfold Jm;rw[if_pos (by rw[p];decide),if_neg (by rw[p];exactλk=>absurd k.2 (by decide)),p]
    exact j _ w A ⟨rfl,rfl,rfl⟩ rfl (λa k=>(vis _ _).1 a (st0.symm.trans k)) (λa b F1 k=>(vis _ _).2 a b F1 (st0.symm.trans k))
set_option maxHeartbeats 4000000
variable{C C1:Ctx}
def aiR(d:CG){now t:Int}(h:now<=t){zz j:Bo}(k:zz.K=d.K now)(e:j={zz with K:=d.K t}){b:Bool}{R:lN}{n l:Nat}{F:List bD}{q c:jY×List bD}(a:JQ b R now zz n F=J q)(h2:JQ b R t j l F=J c):c=q\/(Late c/\z c.1.b3<=z q.1.b3):=by
 unfold JQ at a h2;by_cases f:b=eF;·rw[if_pos f]at a h2;cases a;cases h2;exact .inl rfl
 rw[if_neg f]at a h2;by_cases g:R.bw<=now;·rw[if_pos g]at a;rw[if_pos (by omega)]at h2;cases a;cases h2;exact .inl rfl
 rw[if_neg g]at a;by_cases i:R.bw<=t;·rw[if_pos i]at h2;cases h2;exact .inr ⟨⟨rfl,rfl,rfl⟩,a99 _⟩
 ·rw[if_neg i]at h2;exact aiZ d h k e (λh=>absurd rfl h) a h2
def UQ (H:amu C C1) (hO:Has C ry dQ) (c:Bc) (al: -9223372036854775808<=c.bm) (path:List UInt8) (b:QH) (dl:Nat) (au:dl<4294967296) (O:St) (s:Ok O):
  ai C ry [.da c.B,.cV path,.da b.B,.cU .u32 dl] O=J (.cX eT,O):=by
 obtain⟨d,S⟩:∃d:Bc,d={c with bm:=c.bm+dl,fs:=c.fs}:=⟨_,rfl⟩;have cb:AO.below 0 (.cH c.B ⟨eF,U⟩)=eT:=c.af.cl;have db:AO.below 0 (.cH d.B ⟨eF,U⟩)=eT:=d.af.cl;have bb:AO.below 0 (.cH b.B ⟨eF,U⟩)=eT:=rfl;have ok0:Ok (O++[.cH c.B ⟨eF,U⟩,.cH b.B ⟨eF,U⟩]):=s.H (by simp only[a07,az6,cb,bb,az9]);have P:Ok (O++[.cH c.B ⟨eF,U⟩,.cH b.B ⟨eF,U⟩,.cH d.B ⟨eF,U⟩]):=s.H (by simp only[a07,az6,cb,bb,db,az9]);have ty:=λb=>bz s (vs:=[.cX b]) rfl;have f:=ak2 H.m5 c path _ ok0;have g:=H.nB _ ok0;have bc:b.B=[.cU r b.ap,.cU r b.ad,.cU r b.rc,.cU r b.sc]:=rfl;have K:c.B=[.cV c.nm,.cV c.am,.sl (z c.fs) (c.fs.flatMap pC),.cX c.h,.sl (z c.l) (c.l.flatMap iK.B),.cU r c.bm,.cU r c.b0,.cU r c.b1,.cU r c.rc,.cU r c.sc]:=rfl;have dc:d.B=[.cV c.nm,.cV c.am,.sl (z c.fs) (c.fs.flatMap pC),.cX c.h,.sl (z c.l) (c.l.flatMap iK.B),.cU r (c.bm+dl),.cU r c.b0,.cU r c.b1,.cU r c.rc,.cU r c.sc]:=by rw[S];rfl
 have hn:hand eF [.da c.B,.cV path,.da b.B,.cU .u32 dl] O=J ([.da c.B,.cV path,.da b.B,.cU .u32 dl],O):=NVs.e (.cW (.da c.af) (.cW (.cV _) (.cW (.da (ajm b)) (.cW (.cU _ _) .de)))) O;rw[hO.go hn];cases cl:Xp c path
 case true=>rw[cl]at f;rw[bc]at f g⊢;rw[K]at f g⊢;simp only[dQ,f,g,ty,aF,aN,AV.cH,AV.C,EVX,seval]
 rw[cl]at f;by_cases F:c.bm>1152921504606846976;·rw[bc]at f g⊢;rw[K]at f g⊢;simp only[dQ,f,g,F,ty,aF,aN,AV.cH,AV.C,EVX,seval]
 obtain⟨v1,v2,v3,v4,v5,v6⟩:=UU cl;obtain⟨R,e,bv,aL,hK,mk⟩:=ak7 H.eN cl;have af:=mk c.bm c.fs v3 v5;have w:=mk (c.bm+dl) c.fs v3 v5;rw[<-S]at w;have wd:IntKind.i64.wrap (dl:Int)=(dl:Int):=by rw[IntKind.wrap_i64];omega
 have wr:IntKind.i64.wrap (c.bm+(dl:Int))=c.bm+dl:=by rw[IntKind.wrap_i64];omega
 rcases af _ P with⟨u,j⟩|⟨u,p,T,j,m⟩
 ·rcases w _ P with⟨_,l⟩|⟨n1,_⟩;·have ad:(Es c.nm c.fs c.rc c.sc e !=0)=eT:=(by simpa using u);change ai C gX [.da c.B] _=_ at j;rw[bc]at f g j l⊢;rw[dc]at j l;rw[K]at f g j l⊢;simp only[dQ,f,g,F,ad,j,l,wd,wr,ty,aF,aN,fF,List.set,AV.cH,AV.C,splice,beq_self_eq_true,EVX,seval]
  ·exact absurd n1 u
 rcases w T m.ok with⟨n1,l⟩|⟨n1,q,a,l,ns⟩;·exact absurd u n1
 change ai C gX [.da c.B] _=_ at j;obtain⟨p1,p2,p3,p4,p5,p6,p7,p8⟩:=m.of;obtain⟨q1,q2,q3,q4,q5,q6,q7,q8⟩:=ns.of;have lT:=m.dt;have lU:=ns.dt;have l1:z (O++[AO.cH c.B ⟨eF,U⟩,.cH b.B ⟨eF,U⟩,.cH d.B ⟨eF,U⟩])=z O+3:=by simp
 rw[l1]at lT;have pl:∀i,p.dg i->z O+3<=i/\i<z T:=λi hi=>⟨by have:=m.ac i hi;rw[l1]at this;exact this,Rp.lt m.bh hi⟩;have ql:∀i,q.dg i->z T<=i/\i<z a:=λi hi=>⟨ns.ac i hi,Rp.lt ns.bh hi⟩;have TU:∀i x,T[i]?=J x->a[i]?=J x:=λi x e=>by rw[JR ns.b4 (a00.mp e).1];exact e
 have pU:p.bh a:=m.bh.bo λi x _ e=>TU i x e;have aa:ahg p q:=λi M h2=>by have:=(pl i M).2;have:=(ql i h2).1;omega
 have old:∀i x,i<z O+3->(O++[AO.cH c.B ⟨eF,U⟩,.cH b.B ⟨eF,U⟩,.cH d.B ⟨eF,U⟩])[i]?=J x->T[i]?=J x:=λi x hi h=>by rw[JR m.b4 (by rw[l1];exact hi)];exact h
 have D:T[z O+2]?=J (.cH d.B ⟨eF,U⟩):=old _ _ (by omega) (by rw[aN];rfl);have bT:T[z O+1]?=J (.cH b.B ⟨eF,U⟩):=old _ _ (by omega) (by rw[aN];rfl);obtain⟨aE,go,fd,step⟩:=XO H.oR path v6;obtain⟨x,F1,S1,ah,N,s1,t1,an,M,sm1⟩:=step m.c1 (by rw[m.F];decide) ns.ok pU b;obtain⟨ak,d1⟩:=t1.n8 ns.bh aa;obtain⟨y,F2,I,aD,V,s2,t2,aq,h2,B⟩:=step ns.c1 (by rw[ns.F];decide) t1.ok ak b
 have ax:=t1.dt;have ay:=t2.dt;have nx:=jY.af x sm1.du.af;have ny:=jY.af y B.du.af;have xb:AO.below 0 (.cH x.B ⟨eF,U⟩)=eT:=nx.cl;have yb:AO.below 0 (.cH y.B ⟨eF,U⟩)=eT:=ny.cl;rw[p3,p4,m.F]at M;rw[q3,q4,ns.F]at h2;have gr:=aiR bv (show c.bm<=d.bm by rw[S];show c.bm<=c.bm+dl;omega) (zz:=Vh (bv.K c.bm) p b go fd) rfl (by
  show Vh (bv.K d.bm) q b go fd=_;unfold Vh;rw[q8,q5,q6,p8,p5,p6,S]) M h2
 have A:Ok (I++[.cH x.B ⟨eF,U⟩,.cH y.B ⟨eF,U⟩]):=t2.ok.H (by rw[a07,a07,xb,yb];rfl);have v:=TU _ _ bT;have b1:S1[z O+1]?=J (.cH b.B ⟨eF,U⟩):=t1.bv _ _ (λh=>by have:=(pl _ h).1;omega) v;have az:∀i,(p.to F1 ah).dg i->z O+3<=i:=λi hi=>by
  rcases t1.eN i hi with h|h;·exact(pl i h).1
  ·omega
 have keep:∀L:St,(I++L).take (z O)=O:=λL=>by
  rw[oD _ _ _ (by omega)];apply aA9;intro i;by_cases h:i<z O;·rw[List.getElem?_take_of_lt h];have e0:O[i]?=J O[i]:=a02 h;have e1:=old i _ (by omega) (aj e0 _);have e2:=t1.bv i _ (λhh=>by have:=(pl _ hh).1;omega) (TU _ _ e1);have e3:=t2.bv i _ (λhh=>by have:=(ql _ hh).1;omega) e2;rw[e3,e0]
  ·rw[aA1 (by rw[aB1];omega),aA1 (by omega)]
 have t:∀L:St,tidy (z O) [.cX eT] (I++L)=O:=λL=>pG s rfl (keep L);have G:=λL=>aj b1 L;have Q:=λL=>bK (rfl:z I=_) L;have o:=λL k=>vY (rfl:z I=_) L k;obtain⟨a1,a2,a3,a4,a5,a6,a7,xc,W,X,Y,Z,z5,z6,z7⟩:=aau x sm1.du;obtain⟨w1,w2,w3,w4,w5,w6,w7,yc,u1,u2,u3,u4,u5,u6,u7⟩:=aau y B.du;by_cases la:Late (y,F2)
 ·have le:(z y.b3:Int)<=(z x.b3:Int):=by
   rcases gr with e|⟨_,e⟩;·have:y=x:=congrArg Prod.fst e;rw[this];exact aG1 _
   ·have:z y.b3<=z x.b3:=e;omega
  obtain⟨y1,y2,y3⟩:=la;change y.fj=3 at y1;change y.jf=4 at y2;change y.e6=10 at y3;rw[y1,y2,y3]at yc;rw[xc]at s1;rw[yc]at s2;rw[bc]at f g j s1 s2 G v b1⊢;rw[dc]at j l D;rw[K]at f g j⊢;simp only[dQ,f,g,F,u,j,l,wd,wr,D,v,b1,s1,s2,G,Q,o,le,W,X,Y,Z,z5,z6,z7,u1,u2,u3,u4,u5,u6,u7,t,aF,aN,fF,List.set,AV.cH,fl5,splice,yG,bP,EVX,seval]
 ·have e:(y,F2)=(x,F1):=gr.resolve_right λh=>la h.1;obtain rfl:y=x:=congrArg Prod.fst e;have f1:=akG H.told y sm1.du _ A;have E:=aas H.cE y sm1.du (by have:=sm1.b3;omega) _ A;clear sm1 B nx ny xb yb A gr e M h2;rw[xc]at s1 s2 f1 E;rw[bc]at f g j s1 s2 G v b1⊢;rw[dc]at j l D;rw[K]at f g j⊢;by_cases N:y.fj=3
  ·by_cases V:y.jf=4
   ·have k3:(y.e6==10)=eF:=by have:y.e6≠10:=λh=>la ⟨N,V,h⟩;simpa using this
    rw[N,V]at s1 s2 f1 E;simp only[dQ,f,g,F,u,j,l,wd,wr,D,v,b1,s1,s2,G,Q,o,k3,f1,E,W,X,Y,Z,z5,z6,z7,t,aF,aN,fF,List.set,AV.cH,fl5,splice,yG,bP,agB,afq,EVX,seval]
   ·have ac:(y.jf==4)=eF:=(by simpa using V);rw[N]at s1 s2 f1 E;simp only[dQ,f,g,F,u,j,l,wd,wr,D,v,b1,s1,s2,G,Q,o,ac,f1,E,W,X,Y,Z,z5,z6,z7,t,aF,aN,fF,List.set,AV.cH,fl5,splice,yG,bP,agB,afq,EVX,seval]
  ·have ab:(y.fj==3)=eF:=(by simpa using N);simp only[dQ,f,g,F,u,j,l,wd,wr,D,v,b1,s1,s2,G,Q,o,ab,f1,E,W,X,Y,Z,z5,z6,z7,t,aF,aN,fF,List.set,AV.cH,fl5,splice,yG,bP,agB,afq,EVX,seval]
end Go.Ev
namespace Go.Proofs.YtmbaofiahlcnhaaGreatDoor
open Bool renaming true→eT, false→eF
open Option renaming none→U, some→J
open List renaming length→z
open Go.IntKind renaming i64→r
open Go.Ev Go.RowKit
set_option maxRecDepth 1000000
noncomputable section
def aoi(u1 u2:TypeId)(c:Bc)(a: -9223372036854775808<=c.bm)(p:List UInt8)(b:QH)(w:Int)(d:0<=w/\w<=4294967295):ai (CL u1 u2) ry [.da c.B,.cV p,.da b.B,.cU .u32 w] []=J (.cX eT,[]):=by obtain⟨n,rfl⟩:∃n:Nat,w=n:=⟨w.toNat,by omega⟩;exact UQ law9 (pR (b:=eT)) c a p b n (by omega) [] ok0
end
end Go.Proofs.YtmbaofiahlcnhaaGreatDoor
