/- An evaluator. No conditions. -/
import Derived.Test.YtpikfmmkcckclaaGreatDoorEA
import Derived.ScopeJumps
import Derived.Lib.Bytealg
import Derived.LaidMore
import Derived.OpenShut
import Derived.ChangeArms
set_option linter.unusedVariables false
set_option linter.unusedSimpArgs false
set_option linter.defProp false
namespace Go.Ev
open Go.RowKit
section
variable{C:Ctx}{call:aZ}
def ahr{ops:Array Oper}{i:Nat}{o:Oper}{x:XOp}(h:cOp C.P false ops i o=some x):∃gd,FK ops o=some gd/\x={dst:=o.dst,i:=(cI C.P o).getD .fail,guard:=gd}:=by
 simp only[cOp,a96,a03]at h
 grind
def Z9 (hcall:dW C call) (ops:Array Oper) {Q:Exit->Act->World->Prop}:∀(l:List Oper) (k:Nat) (xs:List XOp),ops.toList.drop k=l->Yv C.P false ops k l=some xs->∀(e e':Env) (O O':St),qc C call xs e O=some (e',O')->
  ∀(g:Gh) (w:World) (a:Act),AR g e a->WR g w O->GL C g->(∀g' w' a',AR g' e' a'->a'.defers=a.defers->Goes g O w g' O' w'->Q .normal a' w')->wpOps C.P ops Q (List.range' k l.length) a w
 |[],k,xs,hk,hx,e,e',O,O',hev,g,w,a,ha,hw,hg,hQ=>by
  simp[Yv]at hx;subst hx;simp[qc]at hev;obtain⟨rfl,rfl⟩:=hev;simp only[a09,List.range'_zero,wpOps];exact hQ g w a ha rfl (.refl hw)
 |o::l,k,xs,hk,hx,e,e',O,O',hev,g,w,a,ha,hw,hg,hQ=>by
  simp only[Yv]at hx;split at hx
  ·rename_i x azs h1 h2;simp at hx;subst hx;obtain⟨gd,hgd,rfl⟩:=ahr h1;simp only[qc]at hev;have hok:ops[k]?=some o:=by
    have:=congrArg (fun z:List Oper=>z[0]?) hk;simpa using this
   have hk':ops.toList.drop (k+1)=l:=by rw[<-aD0,hk];rfl
   rw[a07,List.range'_succ];simp only[wpOps,hok];have hy:=Yp ha ops o hgd;cases hev1:zl C call {dst:=o.dst,i:=(cI C.P o).getD .fail,guard:=gd} e O with
   |none=>rw[hev1]at hev;cases hev
   |some p=>
    obtain⟨v,O1⟩:=p;rw[hev1]at hev;simp only at hev;have ih:=Z9 hcall ops (Q:=Q) l (k+1) azs hk' h2 (put e o.dst v) e' O1 O' hev;have rest:∀v' w1 g1,Goes g O w g1 O1 w1->VR g1 v v'->wpOps C.P ops Q (List.range' (k+1) l.length) (a.put o.dst v') w1:=fun v' w1 g1 hgo hv=>by
     refine ih g1 w1 (a.put o.dst v') ((ha.mono hgo.le).put hv o.dst) hgo.wr (hg.mono hgo.le) fun g' w' a' ha' hd hgo'=>hQ g' w' a' ha' ?_ (hgo.trans hgo');rw[hd];cases o.dst<;>rfl
    unfold zl at hev1;have hwant:mV {dst:=o.dst,i:=(cI C.P o).getD .fail,guard:=gd} e=Region.wanted o (yielded ops a.tmps):=by
     grind [mV]
    split at hev1
    ·rename_i hwt;rw[hwant]at hwt;rw[if_pos hwt];exact .inl (aoe hcall hw rfl (fun x b hb=>ha.eval hg x b hb) hg hev1 rest)
    ·rename_i hwt;rw[hwant]at hwt;rw[if_neg hwt];simp at hev1;obtain⟨rfl,rfl⟩:=hev1;exact rest undef w g (.refl hw) (vK g)
  ·cases hx
def UM{P:Program}{c:Code}{Q Q':Exit->Act->World->Prop}(h:∀e a w,Q e a w->Q' e a w):∀(n:Nat) (a:Act) (w:World),Code.rounds P c Q n a w->Code.rounds P c Q' n a w
 |0,_,_,hr=>hr
 |n+1,a,w,hr=>by
  rw[rounds_succ]at hr⊢;refine wp_mono hr fun e a' w' hq=>?_;cases e<;>first|exact h _ _ _ hq|exact UM h n a' w' hq
def XE.to:XE->Exit
 |.normal=>.normal
 |.exit id=>.exit id
 |.ret=>.ret
def Post(C:Ctx)(g:Gh)(O:St)(w:World)(a:Act)(x:XE)(e':Env)(O':St):Exit->Act->World->Prop:=
 fun ex a' w'=>ex=x.to/\a'.defers=a.defers/\∃g',AR g' e' a'/\Goes g O w g' O' w'
def ac9(C:Ctx)(call:aZ):Prop:=
 ∀(id:Nat) (ops:Array Oper) (l:List XOp),aaR C.P ops=some l->∀(e e':Env) (O O':St),qj C call l e O=some (e',O')->∀(g:Gh) (w:World) (a:Act),AR g e a->WR g w O->GL C g->
  (Code.region id ops true).wp C.P (Post C g O w a .normal e' O') a w
def Ey(C:Ctx)(call:aZ):Prop:=ac9 C call/\True
def nM (hcall:dW C call) (hdrawn:Ey C call) (n:Nat):∀(c:Code) (e e':Env) (O O':St) (x:XE),evC C call n (cC C.P c) e O=some (x,e',O')->∀(g:Gh) (w:World) (a:Act),AR g e a->WR g w O->GL C g->
  c.wp C.P (Post C g O w a x e' O') a w
 |.skip,e,e',O,O',x,hev,g,w,a,ha,hw,hg=>by
  simp[cC,evC]at hev;obtain⟨rfl,rfl,rfl⟩:=hev;exact wp_skip ⟨rfl,rfl,g,ha,.refl hw⟩
 |.label l,e,e',O,O',x,hev,g,w,a,ha,hw,hg=>by
  simp[cC,evC]at hev;obtain⟨rfl,rfl,rfl⟩:=hev;exact wp_label ⟨rfl,rfl,g,ha,.refl hw⟩
 |.exit id,e,e',O,O',x,hev,g,w,a,ha,hw,hg=>by
  simp[cC,evC]at hev;obtain⟨rfl,rfl,rfl⟩:=hev;exact wp_exit ⟨rfl,rfl,g,ha,.refl hw⟩
 |.ret,e,e',O,O',x,hev,g,w,a,ha,hw,hg=>by
  simp[cC,evC]at hev;obtain⟨rfl,rfl,rfl⟩:=hev;exact wp_ret ⟨rfl,rfl,g,ha,.refl hw⟩
 |.region id ops draw,e,e',O,O',x,hev,g,w,a,ha,hw,hg=>by
  simp only[cC]at hev;cases draw with
  |true=>
   simp only[if_true]at hev;split at hev
   ·rename_i l hl;simp only[evC]at hev;split at hev
    ·rename_i e1 O1 hd;simp at hev;obtain⟨rfl,rfl,rfl⟩:=hev;exact hdrawn.1 id ops l hl e e1 O O1 hd g w a ha hw hg
    ·cases hev
   ·simp[evC]at hev
  |false=>
   simp only[ay4,if_false]at hev;split at hev
   ·rename_i l hl;simp only[evC]at hev;split at hev
    ·rename_i e1 O1 hd;simp at hev;obtain⟨rfl,rfl,rfl⟩:=hev;refine wp_region ?_;have:=Z9 hcall ops (Q:=Post C g O w a .normal e1 O1) ops.toList 0 l rfl hl e e1 O O1 hd g w a ha hw hg (fun g' w' a' ha' hd' hgo=>⟨rfl,hd',g',ha',hgo⟩);rw[List.range_eq_range'];simpa using this
    ·cases hev
   ·simp[evC]at hev
 |.seq c1 c2,e,e',O,O',x,hev,g,w,a,ha,hw,hg=>by
  simp only[cC,evC]at hev;refine wp_seq ?_;cases h1:evC C call n (cC C.P c1) e O with
  |none=>rw[h1]at hev;cases hev
  |some p=>
   obtain⟨x1,e1,O1⟩:=p;rw[h1]at hev;refine wp_mono (nM hcall hdrawn n c1 e e1 O O1 x1 h1 g w a ha hw hg) fun ex a1 w1 ⟨hx,hd,g1,ha1,hgo⟩=>?_;subst hx;cases x1 with
   |normal=>
    simp only at hev;refine wp_mono (nM hcall hdrawn n c2 e1 e' O1 O' x hev g1 w1 a1 ha1 hgo.wr (hg.mono hgo.le)) fun ex a2 w2 ⟨hx,hd2,g2,ha2,hgo2⟩=>?_;exact⟨hx,hd2.trans hd,g2,ha2,hgo.trans hgo2⟩
   |exit id=>
    simp at hev;obtain⟨rfl,rfl,rfl⟩:=hev;exact⟨rfl,hd,g1,ha1,hgo⟩
   |ret=>
    simp at hev;obtain⟨rfl,rfl,rfl⟩:=hev;exact⟨rfl,hd,g1,ha1,hgo⟩
 |.cond c c1 c2,e,e',O,O',x,hev,g,w,a,ha,hw,hg=>by
  simp only[cC]at hev;cases hc:cA c with
  |none=>rw[hc]at hev;simp[evC]at hev
  |some b=>
   rw[hc]at hev;simp only[evC]at hev;have hv:=ha.eval hg c b hc;split at hev
   ·rename_i hb;rw[hb]at hv;generalize hcv:a.eval c=cv at hv;cases hv;exact wp_cond_true hcv (nM hcall hdrawn n c1 e e' O O' x hev g w a ha hw hg)
   ·rename_i hb;rw[hb]at hv;generalize hcv:a.eval c=cv at hv;cases hv;exact wp_cond_false hcv (nM hcall hdrawn n c2 e e' O O' x hev g w a ha hw hg)
   ·cases hev
 |.block id b,e,e',O,O',x,hev,g,w,a,ha,hw,hg=>by
  simp only[cC,evC]at hev;refine wp_block ?_;cases h1:evC C call n (cC C.P b) e O with
  |none=>rw[h1]at hev;cases hev
  |some p=>
   obtain⟨x1,e1,O1⟩:=p;rw[h1]at hev;refine wp_mono (nM hcall hdrawn n b e e1 O O1 x1 h1 g w a ha hw hg) fun ex a1 w1 ⟨hx,hd,g1,ha1,hgo⟩=>?_;subst hx;cases x1 with
   |normal=>
    simp at hev;obtain⟨rfl,rfl,rfl⟩:=hev;exact⟨rfl,hd,g1,ha1,hgo⟩
   |exit i=>
    simp at hev;obtain⟨hxe,rfl,rfl⟩:=hev;by_cases hi:i=id
    ·subst hi;rw[if_pos rfl]at hxe;subst hxe;simp only[XE.to,Exit.inBlock,if_true];exact⟨rfl,hd,g1,ha1,hgo⟩
    ·rw[if_neg hi]at hxe;subst hxe;simp only[XE.to,Exit.inBlock,if_neg hi];exact⟨rfl,hd,g1,ha1,hgo⟩
   |ret=>
    simp at hev;obtain⟨rfl,rfl,rfl⟩:=hev;exact⟨rfl,hd,g1,ha1,hgo⟩
 |.loop b,e,e',O,O',x,hev,g,w,a,ha,hw,hg=>by
  simp only[cC,evC]at hev;refine wp_loop_rounds n ?_;have key:∀(m:Nat) (e:Env) (O:St) (g0:Gh) (w0:World) (a0:Act),uG (evC C call n (cC C.P b)) m e O=some (x,e',O')->AR g0 e a0->WR g0 w0 O->GL C g0->Code.rounds C.P b (Post C g0 O w0 a0 x e' O') m a0 w0:=by
   intro m
   induction m with
   |zero=>intro e O g0 w0 a0 h;cases h
   |succ m ih=>
    intro e O g0 w0 a0 h ha0 hw0 hg0;rw[rounds_succ];simp only[uG]at h;cases h1:evC C call n (cC C.P b) e O with
    |none=>rw[h1]at h;cases h
    |some p=>
     obtain⟨x1,e1,O1⟩:=p;rw[h1]at h;refine wp_mono (nM hcall hdrawn n b e e1 O O1 x1 h1 g0 w0 a0 ha0 hw0 hg0) fun ex a1 w1 ⟨hx,hd,g1,ha1,hgo⟩=>?_;subst hx;cases x1 with
     |normal=>
      simp only at h;have:=ih e1 O1 g1 w1 a1 h ha1 hgo.wr (hg0.mono hgo.le);simp only[XE.to,Exit.then];exact UM (fun ex a2 w2 ⟨hx,hd2,g2,ha2,hgo2⟩=>⟨hx,hd2.trans hd,g2,ha2,hgo.trans hgo2⟩) m a1 w1 this
     |exit id=>
      simp at h;obtain⟨rfl,rfl,rfl⟩:=h;exact⟨rfl,hd,g1,ha1,hgo⟩
     |ret=>
      simp at h;obtain⟨rfl,rfl,rfl⟩:=h;exact⟨rfl,hd,g1,ha1,hgo⟩
  exact key n e O g w a hev ha hw hg
 |.scope b,e,e',O,O',x,hev,g,w,a,ha,hw,hg=>by
  simp only[cC,evC]at hev;refine wp_scope_straight ?_;refine wp_mono (nM hcall hdrawn n b e e' O O' x hev g w a ha hw hg) fun ex a1 w1 ⟨hx,hd,g1,ha1,hgo⟩=>?_;subst hx;cases x<;>exact⟨rfl,hd,g1,ha1,hgo⟩
 |.goto l,e,e',O,O',x,hev,g,w,a,ha,hw,hg=>by simp[cC,evC]at hev
 |.rangeFunc ..,e,e',O,O',x,hev,g,w,a,ha,hw,hg=>by simp[cC,evC]at hev
 |.refuse _,e,e',O,O',x,hev,g,w,a,ha,hw,hg=>by simp[cC,evC]at hev
end
section
variable{C:Ctx}{g:Gh}{w:World}{O:St}
def alu{O:St}{o:Nat}{x:AO}(h:O[o]?=some x):O.set o x=O:=by
 apply aw5
 grind
def Bi:∀(fs:List Nat) (O:St) (g:Gh),WR g w O->∃g',Goes g O w g' (freeze O fs) w/\∀o∈fs,∀l fz,O[o]?=some (.cells l fz)->CR g' l (g.ob o) 0
 |[],O,g,hw=>⟨g,.refl hw,by simp⟩
 |o::fs,O,g,hw=>by
  cases hx:O[o]? with
  |none=>
   obtain⟨g',h1,h2⟩:=Bi fs O g hw
   grind [freeze]
  |some x=>
   cases x with
   |dead=>
    obtain⟨g',h1,h2⟩:=Bi fs O g hw
    grind [freeze]
   |map es=>
    obtain⟨g',h1,h2⟩:=Bi fs O g hw
    grind [freeze]
   |cells l0 fz0=>
    obtain⟨g1,h1,hcr⟩:=acR hw hx;have hstep:freeze O (o::fs)=freeze (O.set o (.cells l0 ⟨true,fz0.t⟩)) fs:=by
     obtain⟨b0,t0⟩:=fz0;cases b0 with
     |false=>simp[freeze,hx]
     |true=>simp[freeze,hx,alu hx]
    obtain⟨g2,h2,h3⟩:=Bi fs (O.set o (.cells l0 ⟨true,fz0.t⟩)) g1 h1.wr;refine⟨g2,by rw[hstep];exact h1.trans h2,fun o' ho' l fz hl=>?_⟩
    have hlt:o'<g.n:=hw.lt hl;by_cases hoo:o'=o
    ·subst hoo;rw[hx]at hl;simp at hl;obtain⟨rfl,_⟩:=hl;exact hcr.mono h2.le
    ·rcases au9.1 ho' with rfl|ho'
     ·exact absurd rfl hoo
     ·have:=h3 o' ho' l fz (by grind)
      rwa[h1.le.ob o' hlt]at this
def aaq(g:Gh)(O:St)(fs:List Nat):Prop:=∀o∈fs,∀l fz,O[o]?=some (.cells l fz)->CR g l (g.ob o) 0
theorem aaq.left{fs gs:List Nat}(h:aaq g O (fs++gs)):aaq g O fs:=fun o ho=>h o (by simp[ho])
def aaq.right{fs gs:List Nat}(h:aaq g O (fs++gs)):aaq g O gs:=fun o ho=>h o (by simp[ho])
def aef(g:Gh)(O:St)(r:LA->Option (LA×List Nat)):Prop:=∀l l' fs,r l=some (l',fs)->aaq g O fs->(∀vs,VRs g l vs->VRs g l' vs)/\∀b off,CR g l b off->CR g l' b off
mutual
def ZY(r:LA->Option (LA×List Nat))(hr:aef g O r):∀(a:AV) (a':AV) (fs:List Nat),asb O r a=some (a',fs)->aaq g O fs->∀v,VR g a v->VR g a' v
 |.nils,a',fs,h,_,v,hv=>by grind [asb,VR]
 |.emp,a',fs,h,_,v,hv=>by grind [asb,VR]
 |.xsl n l,a',fs,h,hf,v,hv=>by
  simp only[asb]at h;split at h
  ·rename_i l' fs' hl;simp at h;obtain⟨rfl,rfl⟩:=h;cases hv with
   |xsl _ _ b off hc=>exact .sl _ _ _ _ _ ((xI r hr l l' fs' hl hf).2 b off hc) (a06 _)
  ·cases h
 |.msl o off m sz,a',fs,h,hf,v,hv=>by
  simp only[asb]at h;split at h
  ·rename_i l fz hl;split at h
   ·rename_i hlen;split at h
    ·rename_i l' fs' hr';simp at h;obtain⟨rfl,rfl⟩:=h;cases hv with
     |msl _ _ _ _ cap ho hn hb=>
      have hc:=hf o (by simp) l fz hl
      have hc2:=(hc.drop off).take (m*sz);simp only[av2]at hc2;exact .sl _ _ _ _ _ ((hr _ l' fs' hr' (fun o' ho'=>hf o' (by simp[ho']))).2 _ _ hc2) hn
    ·cases h
   ·cases h
  ·cases h
 |.func f x y,a',fs,h,hf,v,hv=>by
  simp only[asb]at h;split at h
  ·rename_i x' fs' y' gs h1 h2;simp at h;obtain⟨rfl,rfl⟩:=h;cases hv with
   |func _ _ _ vx vy hx hy=>exact .func _ _ _ _ _ ((xI r hr x x' fs' h1 hf.left).1 _ hx) ((xI r hr y y' gs h2 hf.right).1 _ hy)
  ·cases h
 |.iface t u,a',fs,h,hf,v,hv=>by
  simp only[asb]at h;split at h
  ·rename_i u' fs' h1;simp at h;obtain⟨rfl,rfl⟩:=h;cases hv with
   |iface _ _ v' hv=>exact .iface _ _ _ (ZY r hr u u' fs' h1 hf _ hv)
  ·cases h
 |.agg l,a',fs,h,hf,v,hv=>by
  simp only[asb]at h;split at h
  ·rename_i l' fs' h1;simp at h;obtain⟨rfl,rfl⟩:=h;cases hv with
   |agg _ vs hl=>exact .agg _ _ ((xI r hr l l' fs' h1 hf).1 _ hl)
  ·cases h
 |.tup l,a',fs,h,hf,v,hv=>by
  simp only[asb]at h;split at h
  ·rename_i l' fs' h1;simp at h;obtain⟨rfl,rfl⟩:=h;cases hv with
   |tup _ vs hl=>exact .tup _ _ ((xI r hr l l' fs' h1 hf).1 _ hl)
  ·cases h
 |.bool _,a',fs,h,_,v,hv=>by grind [asb]
 |.int _ _,a',fs,h,_,v,hv=>by grind [asb]
 |.str _,a',fs,h,_,v,hv=>by grind [asb]
 |.nilp,a',fs,h,_,v,hv=>by grind [asb]
 |.ref _ _,a',fs,h,_,v,hv=>by grind [asb]
 |.eptr _,a',fs,h,_,v,hv=>by grind [asb]
 |.sl _ _,a',fs,h,_,v,hv=>by grind [asb]
 |.map _,a',fs,h,_,v,hv=>by grind [asb]
 |.nilMap,a',fs,h,_,v,hv=>by grind [asb]
 |.nilFunc,a',fs,h,_,v,hv=>by grind [asb]
 |.nilIface,a',fs,h,_,v,hv=>by grind [asb]
def xI(r:LA->Option (LA×List Nat))(hr:aef g O r):∀(l l':LA) (fs:List Nat),aT O r l=some (l',fs)->aaq g O fs->(∀vs,VRs g l vs->VRs g l' vs)/\∀b off,CR g l b off->CR g l' b off
 |[],l',fs,h,_=>by grind [aT]
 |a::l,l',fs,h,hf=>by
  simp only[aT]at h;split at h
  ·rename_i a' fs' l'' gs h1 h2;simp at h;obtain⟨rfl,rfl⟩:=h;have ia:=ZY r hr a a' fs' h1 hf.left;have il:=xI r hr l l'' gs h2 hf.right;exact⟨fun vs hv=>by grind [VRs],
    fun b off hc=>by grind [CR]⟩
  ·cases h
end
def adi:∀n,aef g O (df O n)
 |0=>fun l l' fs h _=>by cases h
 |n+1=>fun l l' fs h hf=>xI (df O n) (adi n) l l' fs h hf
def pW(hw:WR g w O)(raw:Bool){l l':LA}{O':St}(h:hand raw l O=some (l',O')){vs:List Value}(hv:VRs g l vs):∃g',Goes g O w g' O' w/\VRs g' l' vs:=by
 unfold hand at h;split at h
 ·simp at h;obtain⟨rfl,rfl⟩:=h;exact⟨g,.refl hw,hv⟩
 ·split at h
  ·rename_i l1 fs h1;simp at h;obtain⟨rfl,rfl⟩:=h;obtain⟨g',h2,h3⟩:=Bi fs O g hw;refine⟨g',h2,(adi 12 l l1 fs h1 (fun o ho l0 fz hl=>?_)).1 _ (hv.mono h2.le)⟩;rw[h2.le.ob o (hw.lt hl)];exact h3 o ho l0 fz hl
  ·cases h
def Ik{g0:Gh}{O0:St}{w0:World}(hgo:Goes g0 O0 w0 g O w)(h0:WR g0 w0 O0){l:LA}{vs:List Value}(hv:VRs g l vs):∃g',Goes g0 O0 w0 g' (tidy O0.length l O) w/\VRs g' l vs:=by
 unfold tidy;split
 ·exact⟨g,hgo,hv⟩
 ·split
  ·rename_i hb;simp only[a01]at hb;exact⟨_,ajE hgo h0.n hb.2,hv.cut hb.1⟩
  ·exact⟨g,hgo,hv⟩
def GL.none{C:Ctx}{g:Gh}:GL {C with gl:=fun _=>none,np:=true} g:=⟨fun n l h=>(by cases h),Or.inl rfl⟩
def Gw (hw:WR g w O) {e:Env} {a:Act} (ha:AR g e a):∀(rs:List ResultVar) (xs:List XR),cR C.P rs=some xs->∀(vs:LA),Tv e O xs=some vs->
  ∃vs',(rs.mapM (m:=Sem) fun|.tmp t=>pure (a.tmps.getD t undef)|.cell ad t=>do loadVar t (<-asAddr (a.tmps.getD ad undef))).run C.P w=.ok vs' w/\VRs g vs vs'
 |[],xs,hx,vs,hv=>by
  simp[cR]at hx;subst hx;simp[Tv]at hv;subst hv;exact⟨[],rfl,.nil⟩
 |.tmp t::rs,xs,hx,vs,hv=>by
  simp only[cR,a97]at hx;obtain⟨xs',h1,rfl⟩:=hx;simp only[Tv]at hv;split at hv
  ·rename_i vs1 h2;simp at hv;subst hv;obtain⟨vs',h3,h4⟩:=Gw hw ha rs xs' h1 vs1 h2;refine⟨a.tmps.getD t undef::vs',?_,.cons _ _ _ _ ?_ h4⟩
   ·simp_all
   ·have:=AR.eval (C:={C with gl:=fun _=>none,np:=true}) ha GL.none (.tmp t) (.t t) rfl;exact this
  ·cases hv
 |.cell t ty::rs,xs,hx,vs,hv=>by
  simp only[cR,a96,a03,au4,a05]at hx;obtain⟨u,hu,i,hi,xs',h1,rfl⟩:=hx;simp only[Tv]at hv;split at hv
  ·rename_i o off vs1 h5 h2;split at hv
   ·rename_i c fz hc;split at hv
    ·rename_i v hpt;simp at hv;subst hv;obtain⟨vs',h3,h4⟩:=Gw hw ha rs xs' h1 vs1 h2;have hp:=AR.eval (C:={C with gl:=fun _=>none,np:=true}) ha GL.none (.tmp t) (.t t) rfl;simp only[av]at hp;rw[h5]at hp;generalize hq:a.eval (.tmp t)=q at hp;cases hp;have hcl:=(hw.obj o _ hc).cells.drop off;simp only[av2]at hcl;obtain⟨v',h6,h7⟩:=Xn (P:=C.P) hcl hu hi hpt;refine⟨v'::vs',?_,.cons _ _ _ _ h7 h4⟩;simp only[Act.eval]at hq;have hA:(asAddr (a.tmps.getD t undef)).run C.P w=.ok ⟨g.ob o,off,none⟩ w:=by rw[hq];rfl
     simp_all
    ·cases hv
   ·cases hv
  ·cases hv
def TK:∀(vs:LA) (vs':List Value),VRs g vs vs'->VR g (bD vs) (if h:(⟨vs'⟩:Array Value).size=1 then(⟨vs'⟩:Array Value)[0]else .tuple ⟨vs'⟩)
 |[],_,.nil=>by simp;exact .tup _ _ .nil
 |[a],_,.cons _ v _ _ x .nil=>by simpa[bD]using x
 |a::b::l,_,.cons _ v _ _ x (.cons _ u _ l' y z)=>by
  grind [bD,VR,VRs]
end
def aec(C:Ctx):Prop:=∀f x,C.fs f=some x->cF C.P f=some x/\(∃fn,C.P.funcs[f]?=some fn/\(fn.name== "runtime.NumGoroutine")=false)
def Sr(C:Ctx):Prop:=∀f h,C.prim f=some h->∀args O v O',h args O=some (v,O')->∀g w args',VRs g args args'->WR g w O->GL C g->Does C.P f args' w fun v' w'=>∃g',Goes g O w g' O' w'/\VR g' v v'
def VRs.replicate{g:Gh}(n:Nat){a:AV}{v:Value}(h:VR g a v):VRs g (List.replicate n a) (List.replicate n v):=by
 induction n with
 |zero=>exact .nil
 |succ n ih=>exact .cons _ _ _ _ h ih
def Fg {P:Program} (fn:Func) (tmps:Array Value) (w:World) {vs:List Value} (h:(fn.results.toList.mapM (m:=Sem) fun|.tmp t=>pure (tmps.getD t undef)|.cell ad t=>do loadVar t (<-asAddr (tmps.getD ad undef))).run P w=.ok vs w):
  (results fn tmps).run P w=.ok (if h:(⟨vs⟩:Array Value).size=1 then(⟨vs⟩:Array Value)[0]else .tuple ⟨vs⟩) w:=by
 have key:(fn.results.mapM (m:=Sem) fun|.tmp t=>pure (tmps.getD t undef)|.cell ad t=>do loadVar t (<-asAddr (tmps.getD ad undef))).run P w=.ok ⟨vs⟩ w:=by
  rw[<-Array.toArray_toList (xs:=fn.results),List.mapM_toArray,Sem.run_map,h];rfl
 unfold results;rw[Sem.run_bind];show Result.andThen ((fn.results.mapM (m:=Sem) fun|.tmp t=>pure (tmps.getD t undef)|.cell ad t=>do loadVar t (<-asAddr (tmps.getD ad undef))).run P w) _=_
 rw[key];rfl
def Zj{C:Ctx}(hfs:aec C)(hprim:Sr C)(hdrawn:∀call,dW C call->Ey C call):∀n,dW C (evF C n)
 |0=>fun f args O v O' h=>by cases h
 |n+1=>by
  have ih:=Zj hfs hprim hdrawn n;intro f args O v O' h g w args' ha hw hg;simp only[evF]at h;split at h
  ·rename_i p hp;exact hprim f p hp args O v O' h g w args' ha hw hg
  ·split at h
   ·cases h
   ·rename_i x hx;obtain⟨hcf,fn,hfn,hname⟩:=hfs f x hx;simp only[cF,a96,a03,au4,a05]at hcf;obtain⟨fn',hfn',body,hb,xrs,hxr,rfl⟩:=hcf;rw[hfn]at hfn';cases hfn';split at h
    ·cases h
    ·rename_i as1 O1 hh1;split at h
     ·cases h
     ·rename_i hlen;have hrun:(callFunc f ⟨args'⟩).run C.P w=.ok (.enter f ⟨args'⟩) w:=by
       have h1:fn.name≠ "runtime.NumGoroutine":=by simpa using hname
       simp[callFunc,hfn,h1,hb]
      unfold Does;rw[hrun];simp only;obtain⟨g1,hgo1,hv1⟩:=pW hw _ hh1 ha;split at h
      ·cases h
      ·cases h
      ·rename_i xe e1 O2 hne hev;refine calls_of_wp hfn hb ?_;have hl:=hv1.length;have har:AR g1 (as1++List.replicate (fn.ntmps-as1.length) .undef) {tmps:=(⟨args'⟩:Array Value)++Array.replicate (fn.ntmps-(⟨args'⟩:Array Value).size) undef,defers:=[]}:=by
        have h1:=hv1.append (VRs.replicate (fn.ntmps-as1.length) (vK g1));have:args'.length=as1.length:=hl;simpa[AR,this]using h1
       refine wp_mono (nM ih (hdrawn _ ih) n body _ e1 O1 O2 xe hev g1 w _ har hgo1.wr (hg.mono hgo1.le)) fun ex a2 w2 ⟨hex,hd,g2,ha2,hgo2⟩=>?_;split at h
       ·cases h
       ·rename_i vs hres;split at h
        ·cases h
        ·rename_i vs2 O3 hh2;simp at h;obtain⟨rfl,rfl⟩:=h;obtain⟨vs',hr1,hr2⟩:=Gw (C:=C) hgo2.wr ha2 _ xrs hxr vs hres;obtain⟨g3,hgo3,hv3⟩:=pW hgo2.wr _ hh2 hr2;obtain⟨g4,hgo4,hv4⟩:=Ik ((hgo1.trans hgo2).trans hgo3) hw hv3;have hfin:a2.defers=[]/\∃v,(results fn a2.tmps).run C.P w2=.ok v w2/\∃v_1,Ending.returned v=.returned v_1/\∃g',Goes g O w g' (tidy O.length vs2 O3) w2/\VR g' (bD vs2) v_1:=
          ⟨hd,_,Fg fn a2.tmps w2 hr1,_,rfl,g4,hgo4,TK vs2 vs' hv4⟩
         subst hex;cases xe with
         |normal=>exact hfin
         |ret=>exact hfin
         |exit id=>exact(hne id rfl).elim
mutual
theorem same_eq:∀a b:AV,same a b=true->a=b
 |.bool a,b,h=>by cases b<;>simp[same]at h;rw[h]
 |.int k a,b,h=>by cases b<;>simp[same]at h;rw[h.1,h.2]
 |.str a,b,h=>by cases b<;>simp[same,rD]at h;rw[h]
 |.nilp,b,h=>by cases b<;>simp[same]at h;rfl
 |.ref _ _,b,h=>by cases b<;>simp[same]at h;rw[h.1,h.2]
 |.eptr a,b,h=>by cases b<;>simp[same]at h;rw[wP _ _ h]
 |.nils,b,h=>by cases b<;>simp[same]at h;rfl
 |.emp,b,h=>by cases b<;>simp[same]at h;rfl
 |.sl n a,b,h=>by cases b<;>simp[same]at h;rw[h.1,wP _ _ h.2]
 |.xsl n a,b,h=>by cases b<;>simp[same]at h;rw[h.1,wP _ _ h.2]
 |.msl _ _ _ _,b,h=>by cases b<;>simp[same]at h;rw[h.1.1.1,h.1.1.2,h.1.2,h.2]
 |.map _,b,h=>by cases b<;>simp[same]at h;rw[h]
 |.nilMap,b,h=>by cases b<;>simp[same]at h;rfl
 |.func f x y,b,h=>by cases b<;>simp[same]at h;rw[h.1.1,wP _ _ h.1.2,wP _ _ h.2]
 |.nilFunc,b,h=>by cases b<;>simp[same]at h;rfl
 |.iface t a,b,h=>by cases b<;>simp[same]at h;rw[h.1,same_eq _ _ h.2]
 |.nilIface,b,h=>by cases b<;>simp[same]at h;rfl
 |.agg a,b,h=>by cases b<;>simp[same]at h;rw[wP _ _ h]
 |.tup a,b,h=>by cases b<;>simp[same]at h;rw[wP _ _ h]
theorem wP:∀a b:LA,vO a b=true->a=b
 |[],b,h=>by cases b<;>simp[vO]at h;rfl
 |a::x,b,h=>by
  cases b<;>simp[vO]at h;rw[same_eq _ _ h.1,wP _ _ h.2]
end
section
variable{C:Ctx}
def Agree(e e':Env)(l:List Nat):Prop:=∀t∈l,e.getD t .undef=e'.getD t .undef
def Jd{e e':Env}(x:XA)(h:Agree e e' x.reads):av C e x=av C e' x:=by
 cases x<;>simp only[av];exact h _ (by simp[XA.reads])
def Dk{e e':Env}:∀(l:List XA),Agree e e' (uO l)->l.map (av C e)=l.map (av C e')
 |[],_=>rfl
 |x::l,h=>by
  simp only[av3];rw[Jd x (fun t ht=>h t (by simp[uO,ht])),Dk l (fun t ht=>h t (by simp[uO,ht]))]
def Dj{e e':Env}(x:Option XA)(h:Agree e e' (OU x)):x.map (av C e)=x.map (av C e'):=by
 cases x with
 |none=>rfl
 |some x=>simp only[au8];rw[Jd x h]
def YY{e e':Env}:∀(l:List (Nat×Nat×XA)),Agree e e' (JQ l)->(l.map fun(o,s,x)=>(o,s,av C e x))=(l.map fun(o,s,x)=>(o,s,av C e' x))
 |[],_=>rfl
 |(o,s,x)::l,h=>by
  simp only[av3];rw[Jd x (fun t ht=>h t (by simp[JQ,ht])),YY l (fun t ht=>h t (by simp[JQ,ht]))]
def ahz{e e':Env}(hl:e.length=e'.length)(O:St)(xi:XI)(h:Agree e e' xi.reads):evI C e O xi=evI C e' O xi:=by
 by_cases hfill:∃k d sz x,xi=.fill k d sz x
 ·obtain⟨k,d,sz,x,rfl⟩:=hfill;simp only[evI,aB];rw[Jd x h,hl]
 have mem:∀{x:XA},(∀t∈x.reads,t∈xi.reads)->av C e x=av C e' x:=fun{x} hx=>Jd x (fun t ht=>h t (hx t ht));cases xi<;>simp only[XI.reads]at h mem<;>simp only[evI,aB]<;>first
  |(exact absurd ⟨_,_,_,_,rfl⟩ hfill)
  |rfl
  |(rw[mem (fun t ht=>ht)])
  |(rename_i a b;rw[mem (x:=a) (fun t ht=>by simp[ht]),mem (x:=b) (fun t ht=>by simp[ht])])
  |(rename_i a b c;rw[mem (x:=a) (fun t ht=>by simp[ht]),mem (x:=b) (fun t ht=>by simp[ht]),mem (x:=c) (fun t ht=>by simp[ht])])
  |(rw[YY _ h])
  |skip
 case mkFunc fn x y=>rw[Dk x (fun t ht=>h t (by simp[ht])),Dk y (fun t ht=>h t (by simp[ht]))]
 case sliceStr x a b=>rw[mem (x:=x) (fun t ht=>by simp[ht]),Dj a (fun t ht=>h t (by simp[ht])),Dj b (fun t ht=>h t (by simp[ht]))]
 case sliceSl sz x a b c=>rw[mem (x:=x) (fun t ht=>by simp[ht]),Dj a (fun t ht=>h t (by simp[ht])),Dj b (fun t ht=>h t (by simp[ht]))]
 case sliceArr n sz x a b c=>rw[mem (x:=x) (fun t ht=>by simp[ht]),Dj a (fun t ht=>h t (by simp[ht])),Dj b (fun t ht=>h t (by simp[ht]))]
 case lookup z m k ok=>grind
 all_goals first
  |(rw[Dk _ h])
  |(rename_i f l;rw[mem (x:=f) (fun t ht=>by simp[ht]),Dk l (fun t ht=>h t (by simp[ht]))])
  |(rename_i f m l;rw[mem (x:=f) (fun t ht=>by simp[ht]),Dk l (fun t ht=>h t (by simp[ht]))])
  |(rename_i q;rw[mem (x:=q) (fun t ht=>by simp[ht])])
theorem SK{e:Env}{O:St}{xi:XI}{out:Out}(hch:xi.changes=false)(h:evI C e O xi=some out):∃v,out=.val v O:=by
 cases xi<;>simp[XI.changes]at hch<;>simp only[evI,aB]at h<;>
  (repeat' (first|(cases h;exact⟨_,rfl⟩)|(cases h;done)|(simp only[a97]at h;obtain⟨_,_,rfl⟩:=h;exact⟨_,rfl⟩)|(rw[hch]at h;cases h;exact⟨_,rfl⟩)|split at h))
def ahA{e:Env}{O:St}{xi:XI}{v:AV}(hch:xi.changes=false)(hlk:xi.looks=false)(h:evI C e O xi=some (.val v O))(O':St):evI C e O' xi=some (.val v O'):=by
 cases xi<;>simp[XI.changes]at hch<;>simp[XI.looks]at hlk<;>simp only[evI,aB]at h⊢<;>
  (repeat' (first|(cases h;rfl)|(cases h;done)|(simp only[a97]at h⊢;obtain⟨u,hu,hv⟩:=h;cases hv;exact⟨_,hu,rfl⟩)|(split at h<;>simp_all [Cj])))
end
mutual
theorem yj:∀a:AV,same a a=true
 |.bool a=>by simp[same]
 |.int k a=>by simp[same]
 |.str a=>by simp[same,rD]
 |.nilp=>by simp[same]
 |.ref o f=>by simp[same]
 |.eptr a=>by rw[same];exact sK a
 |.nils=>by simp[same]
 |.emp=>by simp[same]
 |.sl n l=>by rw[same,sK l];simp
 |.xsl n l=>by rw[same,sK l];simp
 |.msl o f n z=>by simp[same]
 |.map m=>by simp[same]
 |.nilMap=>by simp[same]
 |.func f x y=>by rw[same,sK x,sK y];simp
 |.nilFunc=>by simp[same]
 |.iface t v=>by rw[same,yj v];simp
 |.nilIface=>by simp[same]
 |.agg l=>by rw[same];exact sK l
 |.tup l=>by rw[same];exact sK l
theorem sK:∀l:LA,vO l l=true
 |[]=>by simp[vO]
 |a::l=>by rw[vO,yj a,sK l];rfl
end
def direct(o:Oper):List Nat:=(o.after.toList.filter (Region.binds .any)).map (·.on)
structure Anc(ops:List Oper)(an:List (List Nat)):Prop where
 len:an.length=ops.length
 lt:∀(i:Nat) (o:Oper),ops[i]?=some o->∀j∈direct o,j<i
 mem:∀(i:Nat) (o:Oper),ops[i]?=some o->∀k,k∈an.getD i []->k∈direct o\/∃j∈direct o,k∈an.getD j []
def YS:∀(l done:List Oper) (acc an:List (List Nat)),Anc done acc->ahh acc l=some an->Anc (done++l) an
 |[],done,acc,an,h,he=>by grind [ahh]
 |o::l,done,acc,an,h,he=>by
  simp only[ahh]at he;split at he
  ·rename_i hall;have h2:Anc (done++[o]) (acc++[((o.after.toList.filter (Region.binds .any)).map (·.on)++((o.after.toList.filter (Region.binds .any)).map (·.on)).flatMap fun j=>acc.getD j []).eraseDups]):=by
    have hall':∀j∈direct o,j<acc.length:=fun j hj=>by simpa using a90.1 hall j hj
    refine⟨by simp[h.len],fun i o' ho' j hj=>?_,fun i o' ho' k hk=>?_⟩
    ·grind [Anc]
    ·rw[ax2]at ho';split at ho'
     ·rename_i hlt;have e1:(acc++[((o.after.toList.filter (Region.binds .any)).map (·.on)++((o.after.toList.filter (Region.binds .any)).map (·.on)).flatMap fun j=>acc.getD j []).eraseDups]).getD i []=acc.getD i []:=by
       grind [Anc]
      grind [Anc]
     ·rename_i hge;have hi:i-done.length=0:=by
       grind
      rw[hi]at ho';simp at ho';subst ho';have hi':i=acc.length:=by rw[h.len];omega
      subst hi';rw[av4,ay8 (a06 _)]at hk;simp only[Nat.sub_self,aA7,az2,List.mem_eraseDups,az8,aD3]at hk;rcases hk with hk|⟨j,hj,hk⟩
      ·exact .inl hk
      ·refine .inr ⟨j,hj,?_⟩
       grind
   have:=YS l (done++[o]) _ an h2 he;simpa using this
  ·cases he
def amb{ops:List Oper}{an:List (List Nat)}(h:ahh [] ops=some an):Anc ops an:=by
 have:=YS ops [] [] an ⟨rfl,by simp,by simp⟩ h
 simpa using this
section
variable{ops:Array Oper}{an:List (List Nat)}
def Closed(ops:Array Oper)(L:Nat->Bool):Prop:=∀(i:Nat) (o:Oper),ops[i]?=some o->L i=true->∀j∈direct o,L j=true
theorem acf(ha:Anc ops.toList an){L:Nat->Bool}(hc:Closed ops L):∀(i:Nat) (o:Oper),ops[i]?=some o->(∀j∈direct o,L j=true)->∀k∈an.getD i [],L k=true:=by
 intro i
 induction i using Nat.strongRecOn with
 |_ i ih=>
  intro o ho hd k hk;rcases ha.mem i o (by simpa using ho) k hk with h|⟨j,h1,h2⟩
  ·exact hd k h
  ·have hj:=ha.lt i o (by simpa using ho) j h1
   have hjlt:j<ops.size:=by
    grind
   have hoj:ops[j]?=some ops[j]:=aw0 hjlt;exact ih j hj _ hoj (fun q hq=>hc j _ hoj (hd j h1) q hq) k h2
theorem aiQ(ha:Anc ops.toList an):∀(i:Nat) (o:Oper),ops[i]?=some o->∀k∈an.getD i [],k<i:=by
 intro i
 induction i using Nat.strongRecOn with
 |_ i ih=>
  intro o ho k hk;rcases ha.mem i o (by simpa using ho) k hk with h|⟨j,h1,h2⟩
  ·exact ha.lt i o (by simpa using ho) k h
  grind [Anc]
end
structure Run(C:Ctx)(call:aZ)(l:List XOp)(E:Nat->Env)(S:Nat->St)(V:Nat->AV):Prop where
 op:∀(i:Nat) (o:XOp),l[i]?=some o->zl C call o (E i) (S i)=some (V i,S (i+1))
 env:∀(i:Nat) (o:XOp),l[i]?=some o->E (i+1)=put (E i) o.dst (V i)
def WL {C:Ctx} {call:aZ}:∀(l:List XOp) (e e':Env) (O O':St) (rs:List (Env×AV)) (ss:List St),uH C call l e O=some (e',O',rs,ss)->
  ∃E S V,E 0=e/\S 0=O/\E l.length=e'/\S l.length=O'/\Run C call l E S V/\(∀i,i<l.length->rs[i]?=some (E i,V i))/\(∀i,i<=l.length->ss[i]?=some (S i))
 |[],e,e',O,O',rs,ss,h=>by
  simp[uH]at h;obtain⟨rfl,rfl,rfl,rfl⟩:=h;exact⟨fun _=>e,fun _=>O,fun _=>.undef,rfl,rfl,rfl,rfl,⟨by simp,by simp⟩,by simp,fun i hi=>by simp at hi;subst hi;rfl⟩
 |o::l,e,e',O,O',rs,ss,h=>by
  simp only[uH]at h;split at h
  ·rename_i v O1 h1;split at h
   ·rename_i e2 O2 rs2 ss2 h2;simp at h;obtain⟨rfl,rfl,rfl,rfl⟩:=h;obtain⟨E,S,V,hE,hS,hE',hS',hR,hrs,hss⟩:=WL l _ e2 O1 O2 rs2 ss2 h2;refine⟨fun i=>match i with|0=>e|i+1=>E i,fun i=>match i with|0=>O|i+1=>S i,fun i=>match i with|0=>v|i+1=>V i,rfl,rfl,hE',hS',⟨fun i o' ho'=>?_,fun i o' ho'=>?_⟩,fun i hi=>?_,fun i hi=>?_⟩
    ·grind [Run]
    ·grind [Run]
    ·grind
    grind
   ·cases h
  ·cases h
def Nz {C:Ctx} {ss:List St}:∀(l:List XOp) (rs:List (Env×AV)),wM C ss l rs=true->∀(i:Nat) (o:XOp) (e:Env) (v:AV),l[i]?=some o->rs[i]?=some (e,v)->mV o e=true->∀c∈o.loose,
  ∃s s' v1 v2 s1 s2,ss[c]?=some s/\ss[c+1]?=some s'/\evI C e s o.i=some (.val v1 s1)/\evI C e s' o.i=some (.val v2 s2)/\v1=v/\v2=v
 |[],rs,h,i,o,e,v,ho,hr,hw,c,hc=>by simp at ho
 |o0::l,[],h,i,o,e,v,ho,hr,hw,c,hc=>by simp at hr
 |o0::l,(e0,v0)::rs,h,i,o,e,v,ho,hr,hw,c,hc=>by
  simp only[wM,a01,az0,aA8]at h;cases i with
  |succ i=>exact Nz l rs h.2 i o e v (by simpa using ho) (by simpa using hr) hw c hc
  |zero=>
   simp at ho hr;obtain⟨rfl⟩:=ho;obtain⟨rfl,rfl⟩:=hr;rcases h.1 with h1|h1
   ·rw[hw]at h1;cases h1
   ·have key:∀q:List Nat,Ic C o0 e0 v0 ss q=true->c∈q->∃s s' v1 v2 s1 s2,ss[c]?=some s/\ss[c+1]?=some s'/\evI C e0 s o0.i=some (.val v1 s1)/\evI C e0 s' o0.i=some (.val v2 s2)/\v1=v0/\v2=v0:=by
     intro q
     induction q with
     |nil=>intro _ hm;simp at hm
     |cons q0 q ih=>
      intro hq hm;simp only[Ic,a01]at hq;rcases au9.1 hm with rfl|hm
      ·have hq1:=hq.1;split at hq1
       ·rename_i s s' h2 h3;split at hq1
        ·rename_i v1 s1 v2 s2 h4 h5;simp only[a01]at hq1
         grind [same_eq]
        ·cases hq1
       ·cases hq1
      ·exact ih hq.2 hm
    exact key _ h1 hc
section
variable{C:Ctx}{call:aZ}{ops:Array Oper}{an:List (List Nat)}{l:List XOp}{E:Nat->Env}{S:Nat->St}{V:Nat->AV}
theorem LH(hok:EN an l=true){i j:Nat}(hij:i<j){x y:XOp}(hx:l[i]?=some x)(hy:l[j]?=some y)(h:clash x y=true\/(x.i.changes=true/\y.i.changes=true)):i∈an.getD j []:=by
 unfold EN at hok;have hj:j<l.length:=(a00.1 hy).1;have h1:=a90.1 hok j (ay9.2 hj);simp only[a01]at h1;have h2:=a90.1 h1.2 i (ay9.2 hij);unfold afa at h2
 grind
theorem agk(hok:EN an l=true){j:Nat}{y:XOp}(hy:l[j]?=some y){k d sz:Nat}{x:XA}(hf:y.i=.fill k d sz x):k∈an.getD j []:=by
 unfold EN at hok;have hj:j<l.length:=(a00.1 hy).1;have h1:=a90.1 hok j (ay9.2 hj);simp only[a01]at h1;have h2:=h1.1;unfold aeC at h2;obtain⟨dd,i,g,lo⟩:=y
 grind
structure Std(ops:Array Oper)(l:List XOp)(E:Nat->Env)(S:Nat->St)(V:Nat->AV)(L:Nat->Bool)(e:Env)(k:Nat):Prop where
 closed:Closed ops L
 len:e.length=(E 0).length
 env:∀t,t<(E 0).length->(∃j o,l[j]?=some o/\L j=true/\o.dst=some t/\e[t]?=some (V j)/\∀j' o',l[j']?=some o'->L j'=true->o'.dst=some t->j'<=j)\/((∀j o,l[j]?=some o->L j=true->o.dst≠some t)/\e[t]?=(E 0)[t]?)
 kle:k<=l.length
 low:∀c o,l[c]?=some o->o.i.changes=true->c<k->L c=true
 high:∀c o,l[c]?=some o->o.i.changes=true->k<=c->L c=false
theorem Ia(e:Env)(d:Option Nat)(v:AV):(put e d v).length=e.length:=by cases d<;>simp[put]
theorem agS(e:Env)(d:Option Nat)(v:AV)(t:Nat):(put e d v)[t]?=if d=some t/\t<e.length then some v else e[t]?:=by
 cases d with
 |none=>simp[put]
 |some d=>
  simp only[put,List.getElem?_set]
  grind
theorem Run.elen(hR:Run C call l E S V):∀i,i<=l.length->(E i).length=(E 0).length
 |0,_=>rfl
 |i+1,h=>by
  have hi:i<l.length:=by omega
  rw[hR.env i _ (a02 hi),Ia];exact hR.elen i (by omega)
theorem Run.eget(hR:Run C call l E S V):∀i,i<=l.length->∀t,t<(E 0).length->(∃j o,j<i/\l[j]?=some o/\o.dst=some t/\(E i)[t]?=some (V j)/\∀j' o',j'<i->l[j']?=some o'->o'.dst=some t->j'<=j)\/((∀j o,j<i->l[j]?=some o->o.dst≠some t)/\(E i)[t]?=(E 0)[t]?)
 |0,_,t,ht=>.inr ⟨fun j o hj=>by omega,rfl⟩
 |i+1,h,t,ht=>by
  have hi:i<l.length:=by omega
  have hoi:=a02 hi;rw[hR.env i _ hoi,agS,hR.elen i (by omega)]
  by_cases hd:l[i].dst=some t
  ·grind
  ·rw[if_neg (fun h=>hd h.1)];rcases hR.eget i (by omega) t ht with⟨j,o,h1,h2,h3,h4,h5⟩|⟨h1,h2⟩
   ·grind
   grind
theorem Run.still(hR:Run C call l E S V){a b:Nat}(hab:a<=b)(hb:b<=l.length)(hno:∀c o,a<=c->c<b->l[c]?=some o->o.i.changes=false):S a=S b:=by
 induction b with
 |zero=>grind
 |succ b ih=>
  rcases aD2 a (b+1)with h|h
  ·rw[ih (by omega) (by omega) (fun c o h1 h2=>hno c o h1 (by omega))]
   have hb':b<l.length:=by omega
   have hob:=a02 hb';have hop:=hR.op b _ hob;have hch:=hno b _ (by omega) (by omega) hob
   unfold zl at hop;split at hop
   ·cases hei:evI C (E b) (S b) l[b].i with
    |none=>rw[hei]at hop;cases hop
    |some out=>
     grind [SK]
   ·simp at hop;exact hop.2
  grind
end
set_option linter.unusedSectionVars false
section
variable{C:Ctx}{call:aZ}{ops:Array Oper}{an:List (List Nat)}{l:List XOp}{E:Nat->Env}{S:Nat->St}{V:Nat->AV}{L:Nat->Bool}{e:Env}{k:Nat}
structure Rdy(ops:Array Oper)(L:Nat->Bool)(i:Nat):Prop where
 un:L i=false
 dir:∀o,ops[i]?=some o->∀j∈direct o,L j=true
variable(hlen:l.length=ops.size)(ha:Anc ops.toList an)(hok:EN an l=true)
 include hlen ha hok
theorem Std.before(hs:Std ops l E S V L e k){i:Nat}(hr:Rdy ops L i)(hi:i<l.length){j:Nat}(hj:j∈an.getD i []):L j=true:=by
 have hoi:ops[i]?=some (ops[i]'(by omega)):=aw0 (by omega)
 exact acf ha hs.closed i _ hoi (hr.dir _ hoi) j hj
theorem Std.behind(hs:Std ops l E S V L e k){i:Nat}(hr:Rdy ops L i){j:Nat}(hj:j<l.length)(hij:i∈an.getD j []):L j=false:=by
 cases hL:L j with
 |false=>rfl
 |true=>
  have hoj:ops[j]?=some (ops[j]'(by omega)):=aw0 (by omega)
  have:=acf ha hs.closed j _ hoj (hs.closed j _ hoj hL) i hij;rw[hr.un]at this;cases this
theorem Std.agree(hs:Std ops l E S V L e k)(hR:Run C call l E S V){i:Nat}(hr:Rdy ops L i){x:XOp}(hx:l[i]?=some x):Agree (E i) e x.reads:=by
 have hi:i<l.length:=(a00.1 hx).1;intro t ht;rw[av4,av4];have he0:=hR.elen i (by omega)
 rcases aD2 t (E 0).length with htl|htl
 ·congr 1
  have hw1:∀j o,l[j]?=some o->L j=true->o.dst=some t->j<i:=fun j o ho hL hd=>by
   rcases Nat.lt_trichotomy j i with h|h|h
   ·exact h
   ·subst h;rw[hr.un]at hL;cases hL
   ·have hc:clash x o=true:=by
     unfold clash;simp[hd,ht]
    have:=LH hok h hx ho (.inl hc);rw[hs.behind hlen ha hok hr (a00.1 ho).1 this]at hL;cases hL
  have hw2:∀j o,l[j]?=some o->j<i->o.dst=some t->L j=true:=fun j o ho hji hd=>by
   have hc:clash o x=true:=by
    unfold clash;simp[hd,ht]
   exact hs.before hlen ha hok hr hi (LH hok hji ho hx (.inl hc))
  rcases hs.env t htl with⟨j,o,h1,h2,h3,h4,h5⟩|⟨h1,h2⟩
  ·rcases hR.eget i (by omega) t htl with⟨j2,o2,g1,g2,g3,g4,g5⟩|⟨g1,g2⟩
   ·grind
   grind
  ·rcases hR.eget i (by omega) t htl with⟨j2,o2,g1,g2,g3,g4,g5⟩|⟨g1,g2⟩
   ·grind
   ·rw[g2,h2]
 grind [hs.len]
def qY(L:Nat->Bool)(i:Nat):Nat->Bool:=fun j=>if j=i then true else L j
theorem Std.put (hs:Std ops l E S V L e k) {i:Nat} (hr:Rdy ops L i) {x:XOp} (hx:l[i]?=some x) {k':Nat} (hk:k'<=l.length) (hlow:∀c o,l[c]?=some o->o.i.changes=true->c<k'->qY L i c=true) (hhigh:∀c o,l[c]?=some o->o.i.changes=true->k'<=c->qY L i c=false):
  Std ops l E S V (qY L i) (Ev.put e x.dst (V i)) k':=by
 have hi:i<l.length:=(a00.1 hx).1;refine⟨fun j o ho hL q hq=>?_,by rw[Ia];exact hs.len,fun t ht=>?_,hk,hlow,hhigh⟩
 ·simp only[qY]at hL⊢;split
  ·rfl
  ·by_cases hji:j=i
   ·subst hji;exact hr.dir o ho q hq
   ·rw[if_neg hji]at hL;exact hs.closed j o ho hL q hq
 ·rw[agS,hs.len];by_cases hd:x.dst=some t
  ·rw[if_pos ⟨hd,ht⟩];refine .inl ⟨i,x,hx,by simp[qY],hd,rfl,fun j' o' ho' hL' hd'=>?_⟩
   rcases aD2 i j' with h|h
   ·exfalso;have hc:clash x o'=true:=by unfold clash;simp[hd,hd']
    have:=hs.behind hlen ha hok hr (a00.1 ho').1 (LH hok h hx ho' (.inl hc));simp only[qY]at hL'
    grind
   ·exact h
  ·rw[if_neg (fun h=>hd h.1)];have hL:∀j o,l[j]?=some o->o.dst=some t->qY L i j=L j:=fun j o ho hdo=>by
    simp only[qY]
    grind
   grind [Std]
theorem Std.step (hs:Std ops l E S V L e k) (hR:Run C call l E S V) (hrc:∀(i:Nat) (o:XOp),l[i]?=some o->mV o (E i)=true->∀c∈o.loose,∃v1 v2 s1 s2,evI C (E i) (S c) o.i=some (.val v1 s1)/\evI C (E i) (S (c+1)) o.i=some (.val v2 s2)/\v1=V i/\v2=V i)
  (hloose:∀(i:Nat) (o:XOp),l[i]?=some o->o.i.looks=true->∀(c:Nat) (o':XOp),l[c]?=some o'->o'.i.changes=true->c≠i->c∉an.getD i []->i∉an.getD c []->c∈o.loose) {i:Nat} (hr:Rdy ops L i) {x:XOp} (hx:l[i]?=some x):
  ∃k',zl C call x e (S k)=some (V i,S k')/\Std ops l E S V (qY L i) (Ev.put e x.dst (V i)) k':=by
 have hi:i<l.length:=(a00.1 hx).1;have hag:=hs.agree hlen ha hok hR hr hx;have hcongr:∀s,zl C call x e s=zl C call x (E i) s:=fun s=>by
  have h1:mV x e=mV x (E i):=by
   unfold mV;cases hg:x.guard with
   |none=>rfl
   |some p=>
    obtain⟨t,b⟩:=p;have ht:t∈x.reads:=by simp[XOp.reads,hg]
    have:=hag t ht;rw[av4,av4]at this;simp only;have el:=hR.elen i (by omega)
    grind [Std]
  have h2:evI C e s x.i=evI C (E i) s x.i:=(ahz (by rw[hs.len];exact hR.elen i (by omega)) s x.i (fun t ht=>hag t (by simp[XOp.reads,ht]))).symm
  unfold zl;rw[h1,h2]
 have hchange:x.i.changes=true->S k=S i:=fun hc=>by
  rcases Nat.le_total k i with h|h
  ·refine hR.still h (by omega) fun c o h1 h2 ho=>?_
   cases hco:o.i.changes with
   |false=>rfl
   |true=>
    have:=hs.before hlen ha hok hr hi (LH hok h2 ho hx (.inr ⟨hco,hc⟩));rw[hs.high c o ho hco h1]at this;cases this
  grind [Std,Rdy]
 cases hc:x.i.changes with
 |true=>
  refine⟨i+1,by rw[hcongr,hchange hc];exact hR.op i x hx,hs.put hlen ha hok hr hx (by omega) (fun c o ho hco h=>?_) (fun c o ho hco h=>?_)⟩
  ·simp only[qY];split
   ·rfl
   ·exact hs.before hlen ha hok hr hi (LH hok (by omega) ho hx (.inr ⟨hco,hc⟩))
  ·simp only[qY];rw[if_neg (by omega)]
   exact hs.behind hlen ha hok hr (a00.1 ho).1 (LH hok (by omega) hx ho (.inr ⟨hc,hco⟩))
 |false=>
  refine⟨k,?_,hs.put hlen ha hok hr hx hs.kle (fun c o ho hco h=>?_) (fun c o ho hco h=>?_)⟩
  ·rw[hcongr];have hop:=hR.op i x hx;unfold zl at hop⊢;split
   ·rename_i hw;rw[if_pos hw]at hop;cases hei:evI C (E i) (S i) x.i with
    |none=>rw[hei]at hop;cases hop
    |some out=>
     rw[hei]at hop;obtain⟨v,rfl⟩:=SK hc hei;simp at hop;obtain⟨rfl,_⟩:=hop;cases hlk:x.i.looks with
     |false=>rw[ahA hc hlk hei (S k)]
     |true=>
      by_cases hsk:S k=S i
      ·rw[hsk,hei]
      ·
       have hex:∃c∈x.loose,S k=S c\/S k=S (c+1):=by
        rcases aD2 k i with hki|hki
        ·
         have hex:∃c,k<=c/\c<i/\∃o,l[c]?=some o/\o.i.changes=true:=by
          refine Classical.byContradiction fun hno=>hsk (hR.still (by omega) (by omega) fun c o h1 h2 ho=>?_)
          grind
         have hmin:∃c,(k<=c/\c<i/\∃o,l[c]?=some o/\o.i.changes=true)/\∀c',c'<c->¬(k<=c'/\c'<i/\∃o,l[c']?=some o/\o.i.changes=true):=by
          obtain⟨c0,hc0⟩:=hex
          induction c0 using Nat.strongRecOn with
          |_ c0 ih=>
           by_cases hlt:∃c',c'<c0/\(k<=c'/\c'<i/\∃o,l[c']?=some o/\o.i.changes=true)
           ·obtain⟨c',h1,h2⟩:=hlt;exact ih c' h1 h2
           grind
         obtain⟨c,⟨h1,h2,o,ho,hco⟩,hm⟩:=hmin;refine⟨c,hloose i x hx hlk c o ho hco (by omega) (fun hin=>?_) (fun hin=>?_),.inl (hR.still h1 (by omega) fun c' o' h3 h4 ho'=>?_)⟩
         ·have:=hs.before hlen ha hok hr hi hin;rw[hs.high c o ho hco h1]at this;cases this
         ·have hoc:ops[c]?=some (ops[c]'(by omega)):=aw0 (by omega)
          have:=aiQ ha c _ hoc i hin;omega
         grind
        ·have hex:∃c,i<=c/\c<k/\∃o,l[c]?=some o/\o.i.changes=true:=by
          refine Classical.byContradiction fun hno=>hsk (hR.still hki hs.kle fun c o h1 h2 ho=>?_).symm
          grind
         have hmax:∃c,(i<=c/\c<k/\∃o,l[c]?=some o/\o.i.changes=true)/\∀c',c<c'->¬(i<=c'/\c'<k/\∃o,l[c']?=some o/\o.i.changes=true):=by
          obtain⟨c0,hc0⟩:=hex;have key:∀m c0,k-c0=m->(i<=c0/\c0<k/\∃o,l[c0]?=some o/\o.i.changes=true)->∃c,(i<=c/\c<k/\∃o,l[c]?=some o/\o.i.changes=true)/\∀c',c<c'->¬(i<=c'/\c'<k/\∃o,l[c']?=some o/\o.i.changes=true):=by
           intro m
           induction m using Nat.strongRecOn with
           |_ m ih=>
            intro c0 hm hc0;by_cases hgt:∃c',c0<c'/\(i<=c'/\c'<k/\∃o,l[c']?=some o/\o.i.changes=true)
            ·obtain⟨c',h1,h2⟩:=hgt;exact ih (k-c') (by omega) c' rfl h2
            grind
          exact key _ c0 rfl hc0
         obtain⟨c,⟨h1,h2,o,ho,hco⟩,hm⟩:=hmax;have hci:c≠i:=fun h=>by grind
         refine⟨c,hloose i x hx hlk c o ho hco hci (fun hin=>?_) (fun hin=>?_),.inr (hR.still (by omega) hs.kle fun c' o' h3 h4 ho'=>?_).symm⟩
         ·have hoi:ops[i]?=some (ops[i]'(by omega)):=aw0 (by omega)
          have:=aiQ ha i _ hoi c hin;omega
         ·have:=hs.behind hlen ha hok hr (a00.1 ho).1 hin;rw[hs.low c o ho hco h2]at this;cases this
         grind
       grind [SK]
   grind
  ·simp only[qY];split
   ·rfl
   ·exact hs.low c o ho hco h
  ·simp only[qY];rw[if_neg (fun hci=>by grind)]
   exact hs.high c o ho hco h
end
structure mJ(ops:Array Oper)(k j d:Nat)(t:TypeId)(x:Operand):Prop where
 lt:k<j
 made:∃o,ops[k]?=some o/\o.dst=some d/\o.op=.alloc t/\o.guard=none
 st:∃o,ops[j]?=some o/\o.dst=none/\o.op=.store t (.tmp d) x/\o.guard=none
 nx:x≠ .tmp d
 alone:∀(q:Nat) (o:Oper),ops[q]?=some o->q≠k->q≠j->o.dst≠some d/\∀y∈o.op.operands,y≠ .tmp d
 gd:∀(q:Nat) (o:Oper) (r:Nat) (b:Bool),ops[q]?=some o->o.guard=some (r,b)->r≠k
def aem{o:Oper}{d:Nat}{t:TypeId}(h:Ky o=some (d,t)):o.dst=some d/\o.op=.alloc t/\o.guard=none:=by
 grind [Ky]
def afw{o:Oper}{d:Nat}{t:TypeId}{x:Operand}(h:L8 o=some (t,d,x)):o.dst=none/\o.op=.store t (.tmp d) x/\o.guard=none:=by
 grind [L8]
def acZ{d:Nat}{x:Operand}:agw d x=true↔x=.tmp d:=by
 cases x<;>simp[agw]
def Gf{ops:Array Oper}{k j:Nat}(h:nZ ops k=some j):∃d t x,mJ ops k j d t x:=by
 unfold nZ at h;split at h
 ·rename_i d e hk;obtain⟨ok,hok,hal⟩:=a03.1 hk;obtain⟨a1,a2,a3⟩:=aem hal;split at h
  ·cases h
  ·rename_i hg;split at h
   ·rename_i j' hf;split at h
    ·rename_i t d' x hj;obtain⟨oj,hoj,hst⟩:=a03.1 hj;obtain⟨b1,b2,b3⟩:=afw hst;split at h
     ·rename_i hc;simp at h;subst h;simp only[a01,decide_eq_true_eq,beq_iff_eq,aA8]at hc;obtain⟨⟨⟨h1,rfl⟩,rfl⟩,h4⟩:=hc;refine⟨d',t,x,h1,⟨_,hok,a1,a2,a3⟩,⟨_,hoj,b1,b2,b3⟩,fun hx=>?_,fun q o ho hqk hqj=>?_,fun q o r b ho hgo=>?_⟩
      ·rw[acZ.2 hx]at h4;cases h4
      ·have hq:q∉[j']:=by simp;exact hqj
       rw[<-hf,List.mem_filter,ay9,not_and]at hq;have hlt:=(ay0.1 ho).1;have:=hq hlt;simp only[adh,ho,a01,bne_iff_ne,ne_eq,az0,beq_iff_eq,not_and,not_or]at this;obtain⟨q1,q2⟩:=this hqk;refine⟨q1,fun y hy hyd=>q2 ?_⟩;rw[aC1];exact⟨_,Array.mem_toList_iff.2 hy,acZ.2 hyd⟩
      grind [Zz]
     ·cases h
    ·cases h
   ·cases h
 ·cases h
def tH{ops:Array Oper}{k j d:Nat}{t:TypeId}{x:Operand}(h:mJ ops k j d t x):(ops[k]?).bind Ky=some (d,t):=by
 grind [h.made,Ky]
def U4{ops:Array Oper}{k j d:Nat}{t:TypeId}{x:Operand}(h:mJ ops k j d t x):(ops[j]?).bind L8=some (t,d,x):=by
 grind [h.st,L8]
theorem Ov{ops:Array Oper}{k k' j d d':Nat}{t t':TypeId}{x x':Operand}(h:mJ ops k j d t x)(h':mJ ops k' j d' t' x'):k=k':=by
 grind [mJ]
def aeD{ops:Array Oper}{k k' j j' d d':Nat}{t t':TypeId}{x x':Operand}(h:mJ ops k j d t x)(h':mJ ops k' j' d' t' x')(hne:k≠k'):d≠d':=by
 grind [mJ]
section
variable{C:Ctx}{ops:Array Oper}
inductive Cls(C:Ctx)(ops:Array Oper)(i:Nat)(o:Oper)(x:XOp):Prop
 |plain (h0:∀k,nZ ops k≠some i) (h1:nZ ops i=none) (gd:Option (Nat×Bool)) (hg:FK ops o=some gd) (hx:x.dst=o.dst/\x.i=(cI C.P o).getD .fail/\x.guard=gd)
 |pend (j d:Nat) (t:TypeId) (y:Operand) (h:nZ ops i=some j) (hf:mJ ops i j d t y) (z:AV) (hz:Es C.P t=some z) (hx:x.dst=none/\x.i=.pend/\x.guard=none)
 |fill (k d:Nat) (t:TypeId) (y:Operand) (h:nZ ops k=some i) (hf:mJ ops k i d t y) (z:AV) (hz:Es C.P t=some z) (inf:TypeInfo) (hi:C.P.info? t=some inf) (hzs:z.cells.length=inf.size) (a:XA) (ha:cA y=some a) (hx:x.dst=some d/\x.i=.fill k d inf.size a/\x.guard=none)
def ajg{i:Nat}{o:Oper}{x:XOp}(ho:ops[i]?=some o)(h:cOp C.P true ops i o=some x):Cls C ops i o x:=by
 simp only[cOp,a96,a03,aw6,if_true]at h;obtain⟨gd,hg,h⟩:=h;split at h
 ·rename_i hf;obtain⟨j,hj⟩:=aw3.1 hf;obtain⟨d,t,y,hF⟩:=Gf hj;obtain⟨o',h1,h2,h3,h4⟩:=hF.made;rw[ho]at h1;cases h1;rw[h3]at h;simp only at h;split at h
  ·rename_i z hz;simp at h;subst h;have hgd:gd=none:=by simp[FK,h4]at hg;exact hg.symm
   exact .pend j d t y hj hF z hz ⟨rfl,rfl,hgd⟩
  ·cases h
 ·rename_i hf;split at h
  ·rename_i k hk;have hk':=List.find?_some hk;simp only[beq_iff_eq]at hk';obtain⟨d,t,y,hF⟩:=Gf hk';have e1:=tH hF;have e2:=U4 hF;rw[ho]at e2;simp only[Option.bind_some]at e2;rw[e1,e2]at h;simp only at h;split at h
   ·rename_i z inf a hz hi ha;split at h
    ·rename_i hzs;simp at h;subst h;obtain⟨o',h1,h2,h3,h4⟩:=hF.st;rw[ho]at h1;cases h1;have hgd:gd=none:=by simp[FK,h4]at hg;exact hg.symm
     exact .fill k d t y hk' hF z hz inf hi hzs a ha ⟨rfl,rfl,hgd⟩
    ·cases h
   ·cases h
  ·rename_i hk;simp at h;subst h;refine .plain (fun k hF=>?_) (by simpa using hf) gd hg ⟨rfl,rfl,rfl⟩
   obtain⟨d,t,y,hFl⟩:=Gf hF
   grind [mJ]
end
section
variable{C:Ctx}{call:aZ}{ops:Array Oper}
def ab8{g:Gh}{w:World}{O:St}(h:WR g w O)(o:Obj):Goes g O w g O (xH w o):=by
 refine⟨.refl g,⟨h.n,fun b i v hv=>?_,fun b i v hv=>by grind [lZ,WR],fun k y hy=>?_,h.inj⟩,rfl,rfl,rfl,by simp[xH],fun b hb hu=>⟨hu,lZ w o hb,fun _=>rfl⟩⟩
 ·rw[uV (lZ w o (h.im_lt hv))];exact h.im b i v hv
 ·exact OR.mono (h.obj k y hy) (.refl g) (h.lt hy) (fun hl=>lZ w o (h.ob_lt hy hl)) (fun _ _ _ hv=>hv)
def aeH{g:Gh}{w:World}{O:St}(h:WR g w O):aaC g O w.heap.size:=fun o x hx hl he=>by
 have:=h.ob_lt hx hl;omega
def aeJ {g:Gh} {w w':World} {O:St} (h:WR g w O) {b:Nat} (hu:aaC g O b) (him:∀i,g.im b i=none) (hb:b<w.heap.size) (hos:w'.os=w.os) (htape:w'.tape=w.tape) (hout:w'.output=w.output) (hsz:w'.heap.size=w.heap.size)
  (hne:∀k,k≠b->w'.heap[k]?=w.heap[k]?) (x:AO) (s:Nat) (hx:OR (g.more b s) w' g.n x):WR (g.more b s) w' (O++[x]):=by
 have hle:=g.more_le b s;refine⟨by simp[Gh.more,h.n],fun b' i v hv=>?_,fun b' i v hv=>?_,fun k y hy=>?_,fun k k' y y' hy hy' hl hl' he=>?_⟩
 ·by_cases hbb:b'=b
  ·subst hbb;have:g.im b' i=some v:=hv;rw[him i]at this;cases this
  ·rw[uV (hne b' hbb)];exact h.im b' i v hv
 ·by_cases hbb:b'=b
  ·subst hbb;have:g.im b' i=some v:=hv;rw[him i]at this;cases this
  ·rw[hne b' hbb];exact h.uf b' i v hv
 ·rcases iH hy with⟨_,hz⟩|⟨hk,rfl⟩
  ·exact OR.mono (h.obj k y hz) hle (h.lt hz) (fun hl=>hne _ (fun e=>hu k y hz hl e)) (fun _ _ _ hv=>hv)
  grind [h.n]
 ·rcases iH hy with⟨a,hz⟩|⟨a,ha⟩<;>rcases iH hy' with⟨a',hz'⟩|⟨a',ha'⟩
  ·grind [WR,Gh.le]
  ·exfalso;rw[hle.ob k (h.lt hz)]at he;rw[<-h.n]at a';subst a';simp[Gh.more]at he;exact hu k y hz hl he
  ·exfalso;rw[hle.ob k' (h.lt hz')]at he;rw[<-h.n]at a;subst a;simp[Gh.more]at he;exact hu k' y' hz' hl' he.symm
  ·omega
structure Sim(C:Ctx)(ops:Array Oper)(L:Nat->Bool)(g0:Gh)(O0:St)(w0:World)(d0:List Deferred)(e:Env)(s:St)(a:Act)(w:World)(g:Gh)(a':Act)(B:Nat->Nat):Prop where
 le:g0.le g
 wr:WR g w s
 os:w.os=w0.os
 tape:w.tape=w0.tape
 output:w.output=w0.output
 size:w0.heap.size<=w.heap.size
 fr:∀b,b<w0.heap.size->aaC g0 O0 b->aaC g s b/\w.heap[b]?=w0.heap[b]? /\∀i,g.im b i=g0.im b i
 ar:AR g e a'
 defers:a.defers=d0
 tsize:a.tmps.size=a'.tmps.size
 tmps:∀t,(∀k j d ty y,nZ ops k=some j->mJ ops k j d ty y->L k=true->L j=false->t≠d)->a.tmps[t]?=a'.tmps[t]?
 pend:∀k j d ty y,nZ ops k=some j->mJ ops k j d ty y->L k=true->L j=false->w0.heap.size<=B k/\B k<w.heap.size/\aaC g s (B k)/\(∀i,g.im (B k) i=none)/\(d<a.tmps.size->a.tmps[d]?=some (.pointer (some ⟨B k,0,none⟩)))/\∃c i z,w.heap[B k]?=some (.cells c ty)/\C.P.info? ty=some i/\Es C.P ty=some z/\c.size=z.cells.length
 apart:∀k k' j j' d d' ty ty' y y',nZ ops k=some j->mJ ops k j d ty y->L k=true->L j=false->nZ ops k'=some j'->mJ ops k' j' d' ty' y'->L k'=true->L j'=false->k≠k'->B k≠B k'
def Sim.goes{L:Nat->Bool}{g0:Gh}{O0:St}{w0:World}{d0:List Deferred}{e:Env}{s:St}{a:Act}{w:World}{g:Gh}{a':Act}{B:Nat->Nat}(h:Sim C ops L g0 O0 w0 d0 e s a w g a' B):Goes g0 O0 w0 g s w:=
 ⟨h.le,h.wr,h.os,h.tape,h.output,h.size,h.fr⟩
end
section
variable{C:Ctx}{call:aZ}{ops:Array Oper}{L:Nat->Bool}{g0:Gh}{O0:St}{w0:World}{d0:List Deferred}{e:Env}{s:St}{a:Act}{w:World}{g:Gh}{a':Act}{B:Nat->Nat}{Q:Exit->Act->World->Prop}
theorem Gu(a:Act)(d:Option Nat)(v:Value)(t:Nat):(a.put d v).tmps[t]?=if d=some t/\t<a.tmps.size then some v else a.tmps[t]?:=by
 cases d with
 |none=>simp[Act.put]
 |some d=>
  simp only[Act.put,Array.getElem?_setIfInBounds]
  grind
def zV(a:Act)(d:Option Nat)(v:Value):(a.put d v).tmps.size=a.tmps.size:=by cases d<;>simp[Act.put]
def put_defers(a:Act)(d:Option Nat)(v:Value):(a.put d v).defers=a.defers:=by cases d<;>rfl
def Zn{x:Operand}(h:∀t,x=.tmp t->a.tmps[t]?=a'.tmps[t]?):a.eval x=a'.eval x:=by
 cases x with
 |tmp t=>simp only[Act.eval];have:=h t rfl;simp[this]
 |_=>rfl
theorem ain (hcall:dW C call) (hS:Sim C ops L g0 O0 w0 d0 e s a w g a' B) (hg:GL C g) {i:Nat} {o:Oper} (ho:ops[i]?=some o) {x:XOp} (h0:∀k,nZ ops k≠some i) (h1:nZ ops i=none) {gd:Option (Nat×Bool)} (hgd:FK ops o=some gd)
  (hx:x.dst=o.dst/\x.i=(cI C.P o).getD .fail/\x.guard=gd) {v:AV} {s':St} (hev:zl C call x e s=some (v,s')) {K:Act->World->Prop} (hK:∀a1 w1 g1 a1' B1,Sim C ops (qY L i) g0 O0 w0 d0 (Ev.put e x.dst v) s' a1 w1 g1 a1' B1->K a1 w1):wpOp C.P ops Q i K a w:=by
 have hLk:∀k j,nZ ops k=some j->qY L i k=L k/\qY L i j=L j:=fun k j hf=>by
  simp only[qY]
  grind
 have hnot:∀k j d ty y,nZ ops k=some j->mJ ops k j d ty y->o.dst≠some d/\∀z∈o.op.operands,z≠ .tmp d:=fun k j d ty y hf hF=>
  hF.alone i o ho (fun h=>by subst h;rw[h1]at hf;cases hf) (fun h=>by subst h;exact h0 k hf)
 have hev':∀z∈o.op.operands,a.eval z=a'.eval z:=fun z hz=>Zn fun t ht=>hS.tmps t fun k j d ty y hf hF _ _ htd=>(hnot k j d ty y hf hF).2 z hz (by rw[ht,htd])
 have hyl:Region.wanted o (yielded ops a.tmps)=Region.wanted o (yielded ops a'.tmps):=by
  unfold Region.wanted;cases hgo:o.guard with
  |none=>rfl
  |some p=>
   obtain⟨r,b⟩:=p;simp only;have:yielded ops a.tmps r=yielded ops a'.tmps r:=by
    unfold yielded;cases hdr:(ops[r]?).bind (·.dst)with
    |none=>rfl
    |some t=>
     simp only[Option.bind_some];have ht:a.tmps[t]?=a'.tmps[t]?:=hS.tmps t fun k j d ty y hf hF _ _ htd=>by
      grind [mJ]
     rw[ht]
   rw[this]
 have hwant:mV x e=Region.wanted o (yielded ops a.tmps):=by
  rw[hyl,Yp hS.ar ops o hgd]
  grind [mV]
 have rest:∀v' w' g',Goes g s w g' s' w'->VR g' v v'->K (a.put o.dst v') w':=fun v' w' g' hgo hv=>by
  have hgg:=hS.goes.trans hgo;refine hK _ _ g' (a'.put o.dst v') B ⟨hgg.le,hgg.wr,hgg.os,hgg.tape,hgg.output,hgg.size,hgg.fr,by rw[hx.1];exact(hS.ar.mono hgo.le).put hv o.dst,by rw[put_defers];exact hS.defers,by rw[zV,zV];exact hS.tsize,fun t ht=>?_,fun k j d ty y hf hF hk hj=>?_,fun k k' j j' d d' ty ty' y y' q1 q2 q3 q4 q5 q6 q7 q8 q9=>?_⟩
  ·grind [Gu,Sim]
  ·rw[(hLk k j hf).1]at hk;rw[(hLk k j hf).2]at hj;obtain⟨b0,b1,b2,b3,b4,c,inf,z,b5,b6,b7,b8⟩:=hS.pend k j d ty y hf hF hk hj;obtain⟨f1,f2,f3⟩:=hgo.fr (B k) b1 b2;refine⟨b0,ax8 b1 hgo.size,f1,fun i=>by rw[f3,b3],fun hd=>?_,c,inf,z,by rw[f2];exact b5,b6,b7,b8⟩
   rw[Gu,if_neg (fun h=>(hnot k j d ty y hf hF).1 h.1)];exact b4 (by rwa[zV]at hd)
  grind [Sim]
 unfold wpOp;simp only[ho];unfold zl at hev;split at hev
 ·rename_i hwt;rw[hwant]at hwt;rw[if_pos hwt];have hsel:∀cs b,o.op≠ .select cs b:=fun cs b hsb=>by
   have:cI C.P o=none:=by
    obtain⟨_,op,_,_,_,_⟩:=o;simp only at hsb;subst hsb;rfl
   grind [evI,aB]
  refine .inl (aoe hcall hS.wr (execOp_congr o hsel hev') (fun z b hb=>hS.ar.eval hg z b hb) hg ?_ rest);rw[<-hx.2.1];exact hev
 ·rename_i hwt;rw[hwant]at hwt;rw[if_neg hwt];simp at hev;obtain⟨rfl,rfl⟩:=hev;exact rest undef w g (.refl hS.wr) (vK g)
def aly (hS:Sim C ops L g0 O0 w0 d0 e s a w g a' B) {i:Nat} {o:Oper} (ho:ops[i]?=some o) {j d:Nat} {t:TypeId} {y:Operand} (hf:nZ ops i=some j) (hF:mJ ops i j d t y) {z:AV} (hz:Es C.P t=some z) (hi:L i=false) (hj:L j=false)
  {K:Act->World->Prop} (hK:∀a1 w1 g1 a1' B1,Sim C ops (qY L i) g0 O0 w0 d0 e s a1 w1 g1 a1' B1->K a1 w1):wpOp C.P ops Q i K a w:=by
 obtain⟨o',h1,h2,h3,h4⟩:=hF.made;rw[ho]at h1;cases h1;obtain⟨inf,zv,k1,k2,k3⟩:=Et hz;have hrun:(execOp a.eval o).run C.P w=.ok (.value (.pointer (some ⟨w.heap.size,0,none⟩))) (xH w (.cells zv.cells t)):=by
  obtain⟨dst,op,ty,pos,af,gd⟩:=o;simp only at h3;subst h3;simp[execOp,Instr.alloc,Ej k1 k2,newVar,newRow];rfl
 unfold wpOp;simp only[ho];have hwt:Region.wanted o (yielded ops a.tmps)=true:=by unfold Region.wanted;rw[h4]
 rw[if_pos hwt];refine .inl ?_;unfold Oper.wp;rw[hrun,Oper.upon_value,h2];have hgo:=ab8 hS.wr (.cells zv.cells t);have hgg:=hS.goes.trans hgo;have hLk:∀k j',nZ ops k=some j'->k≠i->qY L i k=L k/\qY L i j'=L j':=fun k j' hf' hne=>by
  simp only[qY];refine⟨if_neg hne,if_neg (fun h=>?_)⟩;subst h;obtain⟨d',t',y',hF'⟩:=Gf hf'
  grind [hF'.st]
 refine hK _ _ g a' (fun q=>if q=i then w.heap.size else B q) ⟨hgg.le,hgg.wr,hgg.os,hgg.tape,hgg.output,hgg.size,hgg.fr,hS.ar,by rw[put_defers];exact hS.defers,by rw[zV];exact hS.tsize,fun t' ht=>?_,fun k j' d' ty y' hf' hF' hk hj'=>?_,fun k k' j1 j2 d1 d2 ty ty' y1 y2 q1 q2 q3 q4 q5 q6 q7 q8 q9=>?_⟩
 ·have htd:t'≠d:=ht i j d t y hf hF (by simp[qY]) (by simp only[qY];rw[if_neg (by have:=hF.lt;omega)];exact hj)
  rw[Gu,if_neg (fun h=>htd (by simpa using h.1.symm))]
  grind [Sim]
 ·by_cases hki:k=i
  ·subst hki;rw[hf]at hf';cases hf';obtain⟨rfl,rfl⟩:d'=d/\ty=t:=by
    grind [mJ]
   simp only[if_true];refine⟨hS.size,by simp[xH],aeH hS.wr,fun i=>?_,fun hd=>?_,zv.cells,inf,z,Ef w _,k1,hz,(o7 g zv z k3).cells_size⟩
   ·cases hv:g.im w.heap.size i with
    |none=>rfl
    |some v=>exact absurd (hS.wr.im_lt hv) (Nat.lt_irrefl _)
   ·rw[Gu,if_pos ⟨rfl,by rwa[zV]at hd⟩]
  ·rw[(hLk k j' hf' hki).1]at hk;rw[(hLk k j' hf' hki).2]at hj';simp only[if_neg hki];obtain⟨b0,b1,b2,b3,b4,c,inf',z',b5,b6,b7,b8⟩:=hS.pend k j' d' ty y' hf' hF' hk hj';obtain⟨f1,f2,f3⟩:=hgo.fr (B k) b1 b2;refine⟨b0,ax8 b1 hgo.size,f1,b3,fun hd=>?_,c,inf',z',by rw[f2];exact b5,b6,b7,b8⟩
   rw[Gu,if_neg (fun h=>aeD hF' hF hki (by simpa using h.1.symm))]
   exact b4 (by rwa[zV]at hd)
 ·have hlt:∀k j' d' ty y',nZ ops k=some j'->mJ ops k j' d' ty y'->k≠i->qY L i k=true->qY L i j'=false->B k<w.heap.size:=fun k j' d' ty y' hf' hF' hki hk hj'=>by
   rw[(hLk k j' hf' hki).1]at hk;rw[(hLk k j' hf' hki).2]at hj';exact(hS.pend k j' d' ty y' hf' hF' hk hj').2.1
  by_cases hki:k=i
  ·grind
  ·by_cases hki':k'=i
   ·grind
   ·simp only[if_neg hki,if_neg hki'];rw[(hLk k j1 q1 hki).1]at q3;rw[(hLk k j1 q1 hki).2]at q4;rw[(hLk k' j2 q5 hki').1]at q7;rw[(hLk k' j2 q5 hki').2]at q8;exact hS.apart k k' j1 j2 d1 d2 ty ty' y1 y2 q1 q2 q3 q4 q5 q6 q7 q8 q9
end
section
variable{C:Ctx}{call:aZ}{ops:Array Oper}{L:Nat->Bool}{g0:Gh}{O0:St}{w0:World}{d0:List Deferred}{e:Env}{s:St}{a:Act}{w:World}{g:Gh}{a':Act}{B:Nat->Nat}{Q:Exit->Act->World->Prop}
theorem alx (hS:Sim C ops L g0 O0 w0 d0 e s a w g a' B) (hg:GL C g) {i:Nat} {o:Oper} (ho:ops[i]?=some o) {k d:Nat} {t:TypeId} {y:Operand} (hf:nZ ops k=some i) (hF:mJ ops k i d t y) {z:AV} (hz:Es C.P t=some z) {inf:TypeInfo} (hinf:C.P.info? t=some inf) (hzs:z.cells.length=inf.size)
  {b:XA} (hb:cA y=some b) (hi:L i=false) (hk:L k=true) {v:AV} {s':St} (hev:evI C e s (.fill k d inf.size b)=some (.val v s')) {K:Act->World->Prop} (hK:∀a1 w1 g1 a1' B1,Sim C ops (qY L i) g0 O0 w0 d0 (Ev.put e (some d) v) s' a1 w1 g1 a1' B1->K a1 w1):wpOp C.P ops Q i K a w:=by
 obtain⟨o',h1,h2,h3,h4⟩:=hF.st;rw[ho]at h1;cases h1;simp only[evI,aB]at hev;split at hev
 ·rename_i hc;cases hev;obtain⟨hd,hlen,hflat⟩:=hc;obtain⟨b0,b1,b2,b3,b4,c,inf',z',b5,b6,b7,b8⟩:=hS.pend k i d t y hf hF hk hi;rw[hinf]at b6;cases b6;rw[hz]at b7;cases b7;have hal:=hS.ar.length;simp only[aC0]at hal;have hda:d<a.tmps.size:=by rw[hS.tsize];omega
  have hptr:a.tmps[d]?=some (.pointer (some ⟨B k,0,none⟩)):=b4 hda;have hey:a.eval y=a'.eval y:=Zn fun t' ht=>hS.tmps t' fun k' j' d' ty' y' hf' hF' hk' hj' htd=>by
   subst htd;by_cases hkk:k'=k
   ·grind [mJ]
   ·have hij:i≠j':=fun h=>by subst h;exact hkk (Ov hF' hF)
    grind [Op.operands,mJ]
  have hvy:=hS.ar.eval hg y b hb;have hcs:=hvy.cells;have hcl:(a'.eval y).cells.toList.length=inf.size:=by rw[hcs.length];exact hlen
  have hst:=run_storeCells_cells (P:=C.P) (B k) 0 (a'.eval y).cells.toList 0 w (fun j hj=>by
   rw[cell_of_heap b5,aw0 (by omega)];rfl) (fun j hj=>by simp[World.frozen?,b5]) (hcs.one hflat)
  have hrun:(execOp a.eval o).run C.P w=.ok .skip (w.setCells (B k) (0+0) (a'.eval y).cells.toList):=by
   obtain⟨dst,op,ty,pos,af,gd⟩:=o;simp only at h3;subst h3;have hpe:a.eval (.tmp d)=.pointer (some ⟨B k,0,none⟩):=by simp[Act.eval,hptr]
   have hsz:(a'.eval y).cells.size=inf.size:=by simpa using hcl
   simp[execOp,Instr.storeAt,Instr.sureAddr,hpe,hey,storeVar,run_sizeOf hinf,hsz,hst]
  unfold wpOp;simp only[ho];have hwt:Region.wanted o (yielded ops a.tmps)=true:=by unfold Region.wanted;rw[h4]
  rw[if_pos hwt];refine .inl ?_;unfold Oper.wp;rw[hrun,Oper.upon_skip,h2];obtain⟨r1,r2,r3,r4⟩:=wS (B k) (a'.eval y).cells.toList (0+0) w;have hh:=wI (B k) (a'.eval y).cells.toList (0+0) w c t (0,0) b5;have hne:∀q,q≠B k->(w.setCells (B k) (0+0) (a'.eval y).cells.toList).heap[q]?=w.heap[q]?:=fun q hq=>qN _ _ _ w q hq;have hle:=g.more_le (B k) inf.size;have hwr:WR (g.more (B k) inf.size) (w.setCells (B k) (0+0) (a'.eval y).cells.toList) (s++[.cells (av C e b).cells FZ]):=by
   refine aeJ hS.wr b2 b3 b1 r1 r2 r3 r4 hne _ _ ⟨JM c (0+0) (a'.eval y).cells.toList,t,(0,0),?_,?_,?_,fun q x hx=>?_,⟨rfl,fun _ _ ht=>nomatch ht⟩,fun q v hv=>?_⟩
   ·simp only[Gh.more,if_true];exact hh
   ·rw[qR];simp[Gh.more];omega
   ·rw[qR];omega
   ·rw[Gt _ _ _ (by omega)]
    have hq:=(a00.1 hx).1;obtain⟨u,u1,u2⟩:=hcs.get hx;rw[if_pos (by omega)]
    exact⟨u,by simpa using u1,u2.mono hle⟩
   ·exfalso;simp only[Gh.more,if_true]at hv;rw[b3]at hv;cases hv
  have hLk:∀k' j',nZ ops k'=some j'->k'≠k->qY L i k'=L k'/\qY L i j'=L j':=fun k' j' hf' hne'=>by
   obtain⟨d',t',y',hF'⟩:=Gf hf';simp only[qY];refine⟨if_neg (fun h=>?_),if_neg (fun h=>?_)⟩
   ·grind [hF'.made]
   grind [Ov]
  have hLi:qY L i i=true:=by simp[qY]
  have hnk:∀k' j' (hf':nZ ops k'=some j'),qY L i k'=true->qY L i j'=false->k'≠k:=fun k' j' hf' _ hj' h=>by
   grind
  refine hK _ _ (g.more (B k) inf.size) (a'.put (some d) (.pointer (some ⟨B k,0,none⟩))) B ⟨hS.le.trans hle,hwr,r1.trans hS.os,r2.trans hS.tape,r3.trans hS.output,by rw[r4];exact hS.size,fun q hq hu=>?_,?_,hS.defers,hS.tsize.trans (zV a' _ _).symm,fun t' ht=>?_,fun k' j' d' ty y' hf' hF' hk' hj'=>?_,fun k1 k2 j1 j2 d1 d2 ty ty' y1 y2 q1 q2 q3 q4 q5 q6 q7 q8 q9=>?_⟩
  ·obtain⟨u1,u2,u3⟩:=hS.fr q hq hu;refine⟨fun o2 x2 hx2 hl2=>?_,by rw[hne q (by omega)];exact u2,u3⟩
   rcases iH hx2 with⟨_,hz2⟩|⟨hk2,rfl⟩
   ·rw[hle.ob o2 (hS.wr.lt hz2)];exact u1 o2 x2 hz2 hl2
   grind [hS.wr.n,Gh.more]
  ·have hvr:VR (g.more (B k) inf.size) (.ref s.length 0) (.pointer (some ⟨B k,0,none⟩)):=by
    have:=VR.ref (g:=g.more (B k) inf.size) s.length 0 (by simp[Gh.more,hS.wr.n])
    simpa[Gh.more,hS.wr.n]using this
   exact(hS.ar.mono hle).put hvr (some d)
  ·show a.tmps[t']?=_;rw[Gu];by_cases htd:d=t'
   ·grind
   ·rw[if_neg (fun h=>htd (by simpa using h.1))]
    refine hS.tmps t' fun k' j' d' ty y' hf' hF' hk' hj'=>?_;by_cases hkk:k'=k
    ·subst hkk;have e1:=tH hF;rw[tH hF']at e1
     grind
    grind
  ·have hkk:=hnk k' j' hf' hk' hj';rw[(hLk k' j' hf' hkk).1]at hk';rw[(hLk k' j' hf' hkk).2]at hj';obtain⟨e0,e1,e2,e3,e4,c2,inf2,z2,e5,e6,e7,e8⟩:=hS.pend k' j' d' ty y' hf' hF' hk' hj';have hBB:=hS.apart k' k j' i d' d ty t y' y hf' hF' hk' hj' hf hF hk hi hkk;refine⟨e0,by rw[r4];exact e1,fun o2 x2 hx2 hl2=>?_,e3,e4,c2,inf2,z2,by rw[hne _ hBB];exact e5,e6,e7,e8⟩
   rcases iH hx2 with⟨_,hz2⟩|⟨hk2,rfl⟩
   ·rw[hle.ob o2 (hS.wr.lt hz2)];exact e2 o2 x2 hz2 hl2
   ·rw[<-hS.wr.n]at hk2;subst hk2;simp[Gh.more];exact fun h=>hBB h.symm
  ·have n1:=hnk k1 j1 q1 q3 q4;have n2:=hnk k2 j2 q5 q7 q8;rw[(hLk k1 j1 q1 n1).1]at q3;rw[(hLk k1 j1 q1 n1).2]at q4;rw[(hLk k2 j2 q5 n2).1]at q7;rw[(hLk k2 j2 q5 n2).2]at q8;exact hS.apart k1 k2 j1 j2 d1 d2 ty ty' y1 y2 q1 q2 q3 q4 q5 q6 q7 q8 q9
 ·cases hev
end
section
variable{C:Ctx}{call:aZ}
def acl(draw:Bool)(ops:Array Oper):∀(l:List Oper) (k:Nat) (xs:List XOp),Yv C.P draw ops k l=some xs->xs.length=l.length/\∀(i:Nat) (o:Oper),l[i]?=some o->∃x,xs[i]?=some x/\cOp C.P draw ops (k+i) o=some x
 |[],k,xs,h=>by simp[Yv]at h;subst h;simp
 |o::l,k,xs,h=>by
  simp only[Yv]at h;split at h
  ·rename_i x azs h1 h2;simp at h;subst h;obtain⟨i1,i2⟩:=acl draw ops l (k+1) azs h2
   grind
  ·cases h
def ahq{draw:Bool}{ops:Array Oper}{i:Nat}{o:Oper}{x:XOp}(h:cOp C.P draw ops i o=some x):x.loose=[]:=by
 simp only[cOp,a96,a03]at h
 grind
def cnt(L:Nat->Bool)(n:Nat):Nat:=((List.range n).filter L).length
theorem ams(L:Nat->Bool)(n i:Nat)(hi:i<n)(hL:L i=false):cnt (qY L i) n=cnt L n+1:=by
 unfold cnt
 induction n with
 |zero=>omega
 |succ n ih=>
  rw[List.range_succ,List.filter_append,List.filter_append,a04,a04];by_cases hin:i=n
  ·grind [qY,List.filter_congr]
  ·have:=ih (by omega)
   have hn:qY L i n=L n:=by simp only[qY];rw[if_neg (fun h=>hin h.symm)]
   grind
def ajh(L:Nat->Bool)(n:Nat)(h:cnt L n=n):∀i,i<n->L i=true:=by
 grind [cnt,List.length_filter_eq_length_iff]
def F8(hm:C.P.follows .mixedOrders=true)(hcall:dW C call):ac9 C call:=by
 intro id ops l hc e0 e1 O0 O1 hev g0 w00 a0 ha0 hw0 hg0;simp only[aaR,a96,a03]at hc;obtain⟨l0,hl0,an,han,hc⟩:=hc;split at hc
 ·rename_i hok0;simp at hc;subst hc;have hAnc:=amb han;obtain⟨hlen0,hget0⟩:=acl (C:=C) true ops ops.toList 0 l0 hl0;have hlen:(nS an l0).length=ops.size:=by simp[nS,hlen0]
  have hmark:∀(i:Nat) (x:XOp),(nS an l0)[i]?=some x->∃x0,l0[i]?=some x0/\x.dst=x0.dst/\x.i=x0.i/\x.guard=x0.guard/\(x0.i.looks=true->x.loose=VC an l0 i):=fun i x hx=>by
   simp only[nS,ax5,List.getElem?_zipIdx,a97]at hx
   grind
  have hback:∀(i:Nat) (x0:XOp),l0[i]?=some x0->∃x,(nS an l0)[i]?=some x/\x.dst=x0.dst/\x.i=x0.i/\x.guard=x0.guard:=fun i x0 hx=>by
   grind
  have hok:EN an (nS an l0)=true:=by
   unfold EN at hok0⊢;rw[a90]at hok0⊢;intro j hj;rw[ay9,hlen]at hj;have h1:=hok0 j (by grind)
   simp only[a01]at h1⊢;obtain⟨xj,hxj,d1,d2,d3⟩:=hback j _ (a02 (show j<l0.length by rw[hlen0];simpa using hj))
   refine⟨?_,?_⟩
   ·have h2:=h1.1;unfold aeC at h2⊢;rw[a02 (show j<l0.length by rw[hlen0];simpa using hj)]at h2
    rw[hxj];obtain⟨a1,a2,a3,a4⟩:=xj;simp only at d2;generalize l0[j]'(by rw[hlen0];simpa using hj)=xq at h2 d2
    obtain⟨c1,c2,c3,c4⟩:=xq
    grind
   ·rw[a90];intro i hi;have h3:=a90.1 h1.2 i hi;have hi':=ay9.1 hi;obtain⟨xi,hxi,f1,f2,f3⟩:=hback i _ (a02 (show i<l0.length by rw[hlen0];simp;omega))
    unfold afa at h3⊢;rw[a02 (show j<l0.length by rw[hlen0];simpa using hj),a02 (show i<l0.length by rw[hlen0];simp;omega)]at h3
    rw[hxi,hxj];have hil:i<l0.length:=by rw[hlen0];simp;omega
    have hjl:j<l0.length:=by rw[hlen0];simpa using hj
    have e1:clash xi xj=clash l0[i] l0[j]:=by
     unfold clash XOp.reads;rw[d1,d2,d3,f1,f2,f3]
    simp only[e1,d2,f2];exact h3
  unfold qj at hev;split at hev
  ·rename_i e2 O2 rs ss hrun;split at hev
   ·rename_i hrc0;simp at hev;obtain⟨rfl,rfl⟩:=hev;obtain⟨E,S,V,hE0,hS0,hEn,hSn,hR,hrs,hss⟩:=WL _ _ _ _ _ _ _ hrun;have hrc:∀(i:Nat) (o:XOp),(nS an l0)[i]?=some o->mV o (E i)=true->∀c∈o.loose,∃v1 v2 s1 s2,evI C (E i) (S c) o.i=some (.val v1 s1)/\evI C (E i) (S (c+1)) o.i=some (.val v2 s2)/\v1=V i/\v2=V i:=fun i o ho hw c hcl=>by
     have hi:=(a00.1 ho).1;obtain⟨s,s',v1,v2,s1,s2,q1,q2,q3,q4,q5,q6⟩:=Nz _ _ hrc0 i o (E i) (V i) ho (hrs i hi) hw c hcl;have hc1:c<(nS an l0).length:=by
      obtain⟨x0,h1,h2,h3,h4,h5⟩:=hmark i o ho;by_cases hlk:x0.i.looks=true
      ·grind [VC]
      ·exfalso;simp only[nS,ax5,List.getElem?_zipIdx,a97]at ho;obtain⟨p,⟨x1,g1,rfl⟩,rfl⟩:=ho;rw[h1]at g1;cases g1;simp only[if_neg hlk]at hcl;obtain⟨o',ho'⟩:∃o',ops.toList[i]?=some o':=⟨_,a02 (by rw[hlen]at hi;simpa using hi)⟩
       obtain⟨x2,g2,g3⟩:=hget0 i o' ho';rw[h1]at g2;cases g2;have hnl:x0.loose=[]:=ahq g3;rw[hnl]at hcl;cases hcl
     grind
    have hloose:∀(i:Nat) (o:XOp),(nS an l0)[i]?=some o->o.i.looks=true->∀(c:Nat) (o':XOp),(nS an l0)[c]?=some o'->o'.i.changes=true->c≠i->c∉an.getD i []->i∉an.getD c []->c∈o.loose:=fun i o ho hlk c o' ho' hch hne hn1 hn2=>by
     obtain⟨x0,h1,h2,h3,h4,h5⟩:=hmark i o ho;obtain⟨y0,k1,k2,k3,k4,k5⟩:=hmark c o' ho';rw[h5 (by rw[<-h3];exact hlk)]
     unfold VC
     grind
    refine wp_region_any hm ?_;have hd0:=Goes.drew hw0 (w00.drawn+1);have key:∀(fuel:Nat) (listed:Array Bool) (e:Env) (k:Nat) (a:Act) (w:World) (g:Gh) (a':Act) (B:Nat->Nat),listed.size=ops.size->cnt (fun j=>listed.getD j false) ops.size+fuel=ops.size->
      Std ops (nS an l0) E S V (fun j=>listed.getD j false) e k->Sim C ops (fun j=>listed.getD j false) g0 O0 {w00 with drawn:=w00.drawn+1} a0.defers e (S k) a w g a' B->
      wpAny C.P .any ops (Post C g0 O0 w00 a0 .normal e2 O2) fuel listed a w:=by
     have hdone:∀(listed:Array Bool) (e:Env) (k:Nat) (a:Act) (w:World) (g:Gh) (a':Act) (B:Nat->Nat),(∀i,i<ops.size->listed.getD i false=true)->Std ops (nS an l0) E S V (fun j=>listed.getD j false) e k->Sim C ops (fun j=>listed.getD j false) g0 O0 {w00 with drawn:=w00.drawn+1} a0.defers e (S k) a w g a' B->Post C g0 O0 w00 a0 .normal e2 O2 .normal a w:=by
      intro listed e k a w g a' B hall hstd hsim;have hSk:S k=O2:=by
       rw[<-hSn];refine hR.still hstd.kle (a06 _) fun c o h1 h2 ho=>?_;cases hco:o.i.changes with
       |false=>rfl
       |true=>
        have:=hstd.high c o ho hco h1
        grind
      have hee:e=e2:=by
       rw[<-hEn];apply aw5;intro t;rcases aD2 t (E 0).length with ht|ht
       ·rcases hstd.env t ht with⟨j,o,h1,h2,h3,h4,h5⟩|⟨h1,h2⟩
        ·rcases hR.eget _ (a06 _) t ht with⟨j2,o2,q1,q2,q3,q4,q5⟩|⟨q1,q2⟩
         ·grind
         grind
        ·rcases hR.eget _ (a06 _) t ht with⟨j2,o2,q1,q2,q3,q4,q5⟩|⟨q1,q2⟩
         ·grind
         ·rw[h2,q2]
       ·rw[aw2 (by rw[hstd.len];exact ht),aw2 (by rw[hR.elen _ (a06 _)];exact ht)]
      have hta:a.tmps=a'.tmps:=by
       apply Array.ext_getElem?;intro t;refine hsim.tmps t fun k j d ty y hf hF hk hj=>?_
       grind [hF.st]
      refine⟨rfl,hsim.defers,g,?_,?_⟩
      ·grind [hsim.ar,AR]
      ·have:=hsim.goes;rw[hSk]at this;exact hd0.trans ⟨this.le,this.wr,this.os,this.tape,this.output,this.size,this.fr⟩
     intro fuel
     induction fuel with
     |zero=>
      intro listed e k a w g a' B hsz hcnt hstd hsim;have hall:=ajh _ _ (show cnt (fun j=>listed.getD j false) ops.size=ops.size by omega)
      refine⟨?_,hdone listed e k a w g a' B hall hstd hsim⟩;refine List.eq_nil_iff_forall_not_mem.2 fun i hi=>?_;obtain⟨h1,o,h2,_⟩:=mem_ready.1 hi
      grind
     |succ fuel ih=>
      intro listed e k a w g a' B hsz hcnt hstd hsim;refine⟨fun hnil=>?_,fun i hi=>?_⟩
      ·exfalso;have hex:∃i,i<ops.size/\listed.getD i false=false:=by
        refine Classical.byContradiction fun hno=>?_;have hall:∀i,i<ops.size->listed.getD i false=true:=fun i hi=>by
         grind
        have:cnt (fun j=>listed.getD j false) ops.size=ops.size:=by
         grind [cnt,List.filter_eq_self]
        omega
       have hmin:∃i,(i<ops.size/\listed.getD i false=false)/\∀j,j<i->¬(j<ops.size/\listed.getD j false=false):=by
        obtain⟨i0,hi0⟩:=hex
        induction i0 using Nat.strongRecOn with
        |_ i0 ih2=>
         grind
       obtain⟨i,⟨h1,h2⟩,h3⟩:=hmin;have:i∈Region.ready .any ops listed:=by
        rw[mem_ready];have hli:i<listed.size:=by omega
        refine⟨by simp[hli]at h2⊢;exact h2,ops[i],aw0 h1,fun ed hed hbd=>?_⟩
        have hdir:ed.on∈direct ops[i]:=by
         unfold direct
         grind
        have hlt:=hAnc.lt i ops[i] (by simp) ed.on hdir
        grind
       rw[hnil]at this;cases this
      ·obtain⟨h1,o,ho,h3⟩:=mem_ready.1 hi;have hlt:=(ay0.1 ho).1;have hli:i<listed.size:=by omega
       have hun:listed.getD i false=false:=by simp[hli]at h1⊢;exact h1
       have hr:Rdy ops (fun j=>listed.getD j false) i:=⟨hun,fun o' ho' j hj=>by
        grind [direct]⟩
       have hLput:(fun j=>(listed.setIfInBounds i true).getD j false)=qY (fun j=>listed.getD j false) i:=by
        funext j
        simp only[qY];by_cases hji:j=i
        ·subst hji;simp[hli]
        ·rw[if_neg hji,getD_set_ne false (fun h=>hji h.symm)]
       obtain⟨x0,hx0,hcop⟩:=hget0 i o (by simpa using ho)
       simp only[av2]at hcop;obtain⟨x,hx,d1,d2,d3⟩:=hback i x0 hx0;obtain⟨k',hev1,hstd'⟩:=hstd.step hlen hAnc hok hR hrc hloose hr hx;have hnext:∀a1 w1 g1 a1' B1,Sim C ops (qY (fun j=>listed.getD j false) i) g0 O0 {w00 with drawn:=w00.drawn+1} a0.defers (Ev.put e x.dst (V i)) (S k') a1 w1 g1 a1' B1->wpAny C.P .any ops (Post C g0 O0 w00 a0 .normal e2 O2) fuel (listed.setIfInBounds i true) a1 w1:=fun a1 w1 g1 a1' B1 hs1=>by
        refine ih (listed.setIfInBounds i true) (Ev.put e x.dst (V i)) k' a1 w1 g1 a1' B1 (by simpa using hsz) ?_ (by rw[hLput];exact hstd') (by rw[hLput];exact hs1)
        grind [ams]
       have hgl:GL C g:=hg0.mono hsim.le;cases ajg (C:=C) ho hcop with
       |plain p0 p1 gd hgd hxx=>grind [ain]
       |pend j d t y hf hF z hz hxx=>
        have hfl:∃oj xj,ops[j]?=some oj/\(nS an l0)[j]?=some xj/\∃sz q,xj.i=.fill i d sz q:=by
         obtain⟨oj,q1,q2,q3,q4⟩:=hF.st;obtain⟨xj0,g1,g2⟩:=hget0 j oj (by simpa using q1)
         simp only[av2]at g2;obtain⟨xj,g3,g4,g5,g6⟩:=hback j xj0 g1;cases ajg (C:=C) q1 g2 with
         |plain p0 p1 gd hgd hxx=>exact absurd hf (p0 i)
         |pend j' d' t' y' hf' hF' z' hz' hxx'=>
          grind [hF'.made]
         |fill k2 d2' t2 y2 hf2 hF2 z2 hz2 inf2 hi2 hzs2 a2 ha2 hxx2=>
          obtain rfl:=Ov hF2 hF;have e1:=tH hF;rw[tH hF2]at e1
          grind
        obtain⟨oj,xj,q1,q2,sz,q,q3⟩:=hfl;have hLj:listed.getD j false=false:=hstd.behind hlen hAnc hok hr (a00.1 q2).1 (agk hok q2 q3);have hVi:V i=.undef/\S k'=S k:=by
         unfold zl at hev1
         grind [evI,aB]
        refine aly hsim ho hf hF hz hun hLj fun a1 w1 g1 a1' B1 hs1=>hnext a1 w1 g1 a1' B1 ?_;rw[d1,hxx.1,hVi.2];exact hs1
       |fill k2 d t y hf hF z hz inf hinf hzs b hb hxx=>
        have hLk:listed.getD k2 false=true:=hstd.before hlen hAnc hok hr (by rw[hlen];exact hlt) (agk hok hx (by rw[d2];exact hxx.2.1))
        have hev2:evI C e (S k) (.fill k2 d inf.size b)=some (.val (V i) (S k')):=by
         unfold zl at hev1;have hw1:mV x e=true:=by unfold mV;rw[d3,hxx.2.2]
         rw[if_pos hw1,d2,hxx.2.1]at hev1
         grind [evI,aB]
        grind [alx]
    refine key ops.size (Array.replicate ops.size false) e0 0 a0 _ g0 a0 (fun _=>0) (by simp) ?_ ?_ ?_
    ·have:(fun j=>(Array.replicate ops.size false).getD j false)=fun _=>false:=by
      funext j
      simp[Array.getElem?_replicate];split<;>rfl
     rw[this];simp[cnt]
    ·have hF:∀j,(Array.replicate ops.size false).getD j false=false:=fun j=>by
      simp[Array.getElem?_replicate];split<;>rfl
     refine⟨fun i o _ hL=>(by rw[hF]at hL;cases hL),by rw[hE0],fun t ht=>.inr ⟨fun j o _ hL=>(by rw[hF]at hL;cases hL),by rw[hE0]⟩,a98 _,fun c o _ _ h=>by omega,fun c o _ _ _=>hF c⟩
    ·have hF:∀j,(Array.replicate ops.size false).getD j false=false:=fun j=>by
      simp[Array.getElem?_replicate];split<;>rfl
     rw[hS0];exact⟨.refl g0,hd0.wr,rfl,rfl,rfl,a06 _,fun b _ hu=>⟨hu,rfl,fun _=>rfl⟩,ha0,rfl,rfl,fun t _=>rfl,fun k j d ty y _ _ hk=>(by rw[hF]at hk;cases hk),fun k k' j j' d d' ty ty' y y' _ _ hk=>(by rw[hF]at hk;cases hk)⟩
   ·cases hev
  ·cases hev
 ·simp at hc
end
section
variable{C:Ctx}{call:aZ}
def Gg(hm:C.P.follows .mixedOrders=true)(hcall:dW C call):True:=trivial
def Jm{C:Ctx}(hm:C.P.follows .mixedOrders=true)(hfs:aec C)(hprim:Sr C)(n:Nat):dW C (evF C n):=Zj hfs hprim (fun call h=>⟨F8 hm h,Gg hm h⟩) n
end
def Le{α:Type}(x y:Option α):Prop:=∀a,x=some a->y=some a
def Le.rfl{α:Type}{x:Option α}:Le x x:=fun _ h=>h
def Le.trans{α:Type}{x y z:Option α}(h:Le x y)(g:Le y z):Le x z:=fun a e=>g a (h a e)
def Le.none{α:Type}{y:Option α}:Le Option.none y:=fun _ h=>nomatch h
def Le.bind{α β:Type}{x y:Option α}{f g:α->Option β}(h:Le x y)(hg:∀a,Le (f a) (g a)):Le (x.bind f) (y.bind g):=by
 intro b hb;cases x with
 |none=>cases hb
 |some a=>rw[h a (by rfl)];exact hg a b hb
def Le.antisymm{α:Type}{x y:Option α}(h:Le x y)(g:Le y x):x=y:=by
 cases x with
 |none=>cases y with
  |none=>rfl
  |some b=>exact(g b (by rfl)).trans (by rfl)
 |some a=>exact(h a (by rfl)).symm
open Classical in
noncomputable def lim{α:Type}(f:Nat->Option α):Option α:=
 if h:∃n,(f n).isSome then f (Classical.choose h)else none
def arO{α:Type}(f:Nat->Option α):Prop:=∀n m,n<=m->Le (f n) (f m)
def Xl{α:Type}{f:Nat->Option α}(hf:arO f){a:α}:lim f=some a↔∃n,f n=some a:=by
 unfold lim;constructor
 ·intro h;split at h
  ·exact⟨_,h⟩
  ·cases h
 ·rintro⟨n,h⟩;have he:∃n,(f n).isSome:=⟨n,by rw[h];rfl⟩
  rw[dif_pos he];have hc:=Classical.choose_spec he;obtain⟨b,hb⟩:=aw3.mp hc;rw[hb];have h1:=hf _ _ (Nat.le_max_left n (Classical.choose he)) a h;have h2:=hf _ _ (Nat.le_max_right n (Classical.choose he)) b hb;rw[<-h2,h1]
abbrev Body:=Env->St->Option (XE×Env×St)
def AX{b b':Body}(h:∀e O,Le (b e O) (b' e O)):∀(n m:Nat),n<=m->∀e O,Le (uG b n e O) (uG b' m e O)
 |0,_,_,_,_=>Le.none
 |n+1,0,hn,_,_=>absurd hn (by omega)
 |n+1,m+1,hn,e,O=>by
  intro a ha;unfold uG at ha⊢;cases hb:b e O with
  |none=>rw[hb]at ha;cases ha
  |some r=>
   rw[h e O r hb];rw[hb]at ha;obtain⟨k,e',O'⟩:=r;cases k with
   |normal=>exact AX h n m (by omega) e' O' a ha
   |exit i=>exact ha
   |ret=>exact ha
noncomputable def abL(b:Body):Body:=fun e O=>lim fun n=>uG b n e O
theorem Df{b:Body}{e O r}:abL b e O=some r↔∃n,uG b n e O=some r:=
 Xl (fun n m h=>AX (fun _ _=>Le.rfl) n m h e O)
noncomputable def kL(C:Ctx)(call:aZ):XC->Body
 |.skip,e,O=>some (.normal,e,O)
 |.ops l,e,O=>match qc C call l e O with
  |some (e',O')=>some (.normal,e',O')
  |none=>none
 |.drawn l,e,O=>match qj C call l e O with
  |some (e',O')=>some (.normal,e',O')
  |none=>none
 |.seq a b,e,O=>match kL C call a e O with
  |some (.normal,e',O')=>kL C call b e' O'
  |r=>r
 |.cond c a b,e,O=>match av C e c with
  |.bool true=>kL C call a e O
  |.bool false=>kL C call b e O
  |_=>none
 |.block id b,e,O=>match kL C call b e O with
  |some (.exit i,e',O')=>some (if i=id then .normal else .exit i,e',O')
  |r=>r
 |.loop b,e,O=>abL (kL C call b) e O
 |.exit id,e,O=>some (.exit id,e,O)
 |.ret,e,O=>some (.ret,e,O)
 |.scope b,e,O=>kL C call b e O
 |.fail,_,_=>none
def zB(c d:aZ):Prop:=∀f a O,Le (c f a O) (d f a O)
def KW{C:Ctx}{c d:aZ}(h:zB c d)(o:XOp)(e:Env)(O:St):Le (zl C c o e O) (zl C d o e O):=by
 intro r hr;unfold zl at hr⊢;split at hr
 ·rw[if_pos (by assumption)]
  split at hr
  ·exact hr
  ·exact h _ _ _ _ hr
  ·cases hr
 grind
def Hf{C:Ctx}{c d:aZ}(h:zB c d):∀(l:List XOp) (e:Env) (O:St),Le (qc C c l e O) (qc C d l e O)
 |[],_,_=>Le.rfl
 |o::l,e,O=>by
  intro r hr;unfold qc at hr⊢;cases ho:zl C c o e O with
  |none=>rw[ho]at hr;cases hr
  |some v=>
   rw[KW h o e O v ho];rw[ho]at hr;exact Hf h l _ _ r hr
def Oc{C:Ctx}{c d:aZ}(h:zB c d):∀(l:List XOp) (e:Env) (O:St),Le (uH C c l e O) (uH C d l e O)
 |[],_,_=>Le.rfl
 |o::l,e,O=>by
  intro r hr;unfold uH at hr⊢;cases ho:zl C c o e O with
  |none=>rw[ho]at hr;cases hr
  |some v=>
   rw[KW h o e O v ho];rw[ho]at hr;dsimp only at hr⊢;cases hl:uH C c l (put e o.dst v.1) v.2 with
   |none=>rw[hl]at hr;cases hr
   |some q=>
    rw[Oc h l _ _ q hl];rw[hl]at hr;exact hr
def Qh{C:Ctx}{c d:aZ}(h:zB c d)(l:List XOp)(e:Env)(O:St):Le (qj C c l e O) (qj C d l e O):=by
 intro r hr;unfold qj at hr⊢;cases hl:uH C c l e O with
 |none=>rw[hl]at hr;cases hr
 |some q=>
  rw[Oc h l _ _ q hl];rw[hl]at hr;exact hr
def oL{C:Ctx}{c d:aZ}(h:zB c d){n m:Nat}(hn:n<=m):∀(x:XC) (e:Env) (O:St),Le (evC C c n x e O) (evC C d m x e O)
 |.skip,_,_=>Le.rfl
 |.ops l,e,O=>by
  intro r hr;unfold evC at hr⊢;cases hl:qc C c l e O with
  |none=>rw[hl]at hr;cases hr
  |some q=>rw[Hf h l _ _ q hl];rw[hl]at hr;exact hr
 |.drawn l,e,O=>by
  intro r hr;unfold evC at hr⊢;cases hl:qj C c l e O with
  |none=>rw[hl]at hr;cases hr
  |some q=>rw[Qh h l _ _ q hl];rw[hl]at hr;exact hr
 |.seq a b,e,O=>by
  intro r hr;unfold evC at hr⊢;cases hl:evC C c n a e O with
  |none=>rw[hl]at hr;cases hr
  |some q=>
   rw[oL h hn a _ _ q hl];rw[hl]at hr;obtain⟨k,e',O'⟩:=q;cases k with
   |normal=>exact oL h hn b _ _ r hr
   |exit i=>exact hr
   |ret=>exact hr
 |.cond q a b,e,O=>by
  intro r hr;unfold evC at hr⊢;split at hr
  ·exact oL h hn a _ _ r hr
  ·exact oL h hn b _ _ r hr
  ·cases hr
 |.block id b,e,O=>by
  intro r hr;unfold evC at hr⊢;cases hl:evC C c n b e O with
  |none=>rw[hl]at hr;cases hr
  |some q=>rw[oL h hn b _ _ q hl];rw[hl]at hr;exact hr
 |.loop b,e,O=>AX (fun e O=>oL h hn b e O) n m hn e O
 |.exit _,_,_=>Le.rfl
 |.ret,_,_=>Le.rfl
 |.scope b,e,O=>oL h hn b e O
 |.fail,_,_=>Le.none
def WZ(C:Ctx)(run:XC->Body):aZ:=fun f args O=>
 match C.prim f with
 |some h=>h args O
 |none=>
 match C.fs f with
 |none=>none
 |some x=>
  match hand (C.raw f) args O with
  |none=>none
  |some (args,O1)=>
   if args.length>x.ntmps then none else
   match run x.body (args++List.replicate (x.ntmps-args.length) .undef) O1 with
   |some (.exit _,_,_)=>none
   |none=>none
   |some (_,e,O2)=>
    match Tv e O2 x.results with
    |none=>none
    |some vs=>match hand (C.raw f) vs O2 with
     |none=>none
     |some (vs,O3)=>some (bD vs,tidy O.length vs O3)
def Jl(C:Ctx)(n:Nat):evF C (n+1)=WZ C (evC C (evF C n) n):=by
 funext f args O
 rfl
def Zv{C:Ctx}{r s:XC->Body}(h:∀x e O,Le (r x e O) (s x e O)):zB (WZ C r) (WZ C s):=by
 intro f args O a ha;unfold WZ at ha⊢;cases hp:C.prim f with
 |some q=>rw[hp]at ha;exact ha
 |none=>
  rw[hp]at ha;dsimp only at ha⊢;cases hx:C.fs f with
  |none=>rw[hx]at ha;cases ha
  |some x=>
   rw[hx]at ha;dsimp only at ha⊢;cases hh:hand (C.raw f) args O with
   |none=>rw[hh]at ha;cases ha
   |some q=>
    rw[hh]at ha;dsimp only at ha⊢;split at ha
    ·cases ha
    ·rw[if_neg (by assumption)]
     cases hr:r x.body (q.1++List.replicate (x.ntmps-q.1.length) .undef) q.2 with
     |none=>rw[hr]at ha;cases ha
     |some t=>rw[h _ _ _ t hr];rw[hr]at ha;exact ha
def WH{C:Ctx}:∀(n m:Nat),n<=m->zB (evF C n) (evF C m)
 |0,_,_=>fun _ _ _=>Le.none
 |n+1,0,h=>absurd h (by omega)
 |n+1,m+1,h=>by
  rw[Jl,Jl];exact Zv fun x e O=>oL (WH n m (by omega)) (by omega) x e O
noncomputable def ai(C:Ctx):aZ:=fun f args O=>lim fun n=>evF C n f args O
def Gx{C:Ctx}{f args O r}:ai C f args O=some r↔∃n,evF C n f args O=some r:=
 Xl (fun n m h=>WH n m h f args O)
def EP{C:Ctx}{c d:aZ}(h:zB c d){n:Nat}:∀(x:XC) (e:Env) (O:St),Le (evC C c n x e O) (kL C d x e O)
 |.skip,_,_=>Le.rfl
 |.ops l,e,O=>by
  intro r hr;unfold evC at hr;unfold kL;cases hl:qc C c l e O with
  |none=>rw[hl]at hr;cases hr
  |some q=>rw[Hf h l _ _ q hl];rw[hl]at hr;exact hr
 |.drawn l,e,O=>by
  intro r hr;unfold evC at hr;unfold kL;cases hl:qj C c l e O with
  |none=>rw[hl]at hr;cases hr
  |some q=>rw[Qh h l _ _ q hl];rw[hl]at hr;exact hr
 |.seq a b,e,O=>by
  intro r hr;unfold evC at hr;unfold kL;cases hl:evC C c n a e O with
  |none=>rw[hl]at hr;cases hr
  |some q=>
   rw[EP h a _ _ q hl];rw[hl]at hr;obtain⟨k,e',O'⟩:=q;cases k with
   |normal=>exact EP h b _ _ r hr
   |exit i=>exact hr
   |ret=>exact hr
 |.cond q a b,e,O=>by
  intro r hr;unfold evC at hr;unfold kL;split at hr
  ·rename_i hq;rw[hq];exact EP h a _ _ r hr
  ·rename_i hq;rw[hq];exact EP h b _ _ r hr
  ·cases hr
 |.block id b,e,O=>by
  intro r hr;unfold evC at hr;unfold kL;cases hl:evC C c n b e O with
  |none=>rw[hl]at hr;cases hr
  |some q=>rw[EP h b _ _ q hl];rw[hl]at hr;exact hr
 |.loop b,e,O=>by
  intro r hr;unfold evC at hr;unfold kL;exact Df.mpr ⟨n,AX (fun e O=>EP h b e O) n n (a06 n) e O r hr⟩
 |.exit _,_,_=>Le.rfl
 |.ret,_,_=>Le.rfl
 |.scope b,e,O=>by
  intro r hr;unfold evC at hr;unfold kL;exact EP h b e O r hr
 |.fail,_,_=>Le.none
section
variable {C:Ctx} {cs:Nat->aZ} {L:aZ}
  (hm:∀n m,n<=m->zB (cs n) (cs m)) (hL:∀f a O r,L f a O=some r->∃k,cs k f a O=some r)
 include hL in
def ajw {o e O r} (h:zl C L o e O=some r):∃k,zl C (cs k) o e O=some r:=by
  unfold zl at h⊢;split at h
  ·rename_i hw;simp only[if_pos hw];cases hi:evI C e O o.i with
   |none=>rw[hi]at h;cases h
   |some out=>
    rw[hi]at h;cases out with
    |val v O'=>exact⟨0,h⟩
    |call f args O'=>exact hL _ _ _ _ h
  simp_all
 include hm hL
def agl:∀{l e O r},qc C L l e O=some r->∃k,qc C (cs k) l e O=some r
 |[],_,_,_,h=>⟨0,h⟩
 |o::l,e,O,r,h=>by
  unfold qc at h;cases ho:zl C L o e O with
  |none=>rw[ho]at h;cases h
  |some q=>
   rw[ho]at h;obtain⟨k,hk⟩:=ajw hL ho;obtain⟨j,hj⟩:=agl h;refine⟨max k j,?_⟩;unfold qc;rw[KW (hm k _ (Nat.le_max_left k j)) o e O q hk];exact Hf (hm j _ (Nat.le_max_right k j)) l _ _ r hj
def agm:∀{l e O r},uH C L l e O=some r->∃k,uH C (cs k) l e O=some r
 |[],_,_,_,h=>⟨0,h⟩
 |o::l,e,O,r,h=>by
  unfold uH at h;cases ho:zl C L o e O with
  |none=>rw[ho]at h;cases h
  |some q=>
   rw[ho]at h;dsimp only at h;cases hl:uH C L l (put e o.dst q.1) q.2 with
   |none=>rw[hl]at h;cases h
   |some t=>
    obtain⟨k,hk⟩:=ajw hL ho;obtain⟨j,hj⟩:=agm hl;refine⟨max k j,?_⟩;unfold uH;rw[KW (hm k _ (Nat.le_max_left k j)) o e O q hk];dsimp only;rw[Oc (hm j _ (Nat.le_max_right k j)) l _ _ t hj];rw[hl]at h;exact h
def Qs:∀(x:XC) {e O r},kL C L x e O=some r->∃k,evC C (cs k) k x e O=some r
 |.skip,_,_,_,h=>⟨0,h⟩
 |.ops l,e,O,r,h=>by
  unfold kL at h;cases hl:qc C L l e O with
  |none=>rw[hl]at h;cases h
  |some q=>
   obtain⟨k,hk⟩:=agl hm hL hl
   grind [evC]
 |.drawn l,e,O,r,h=>by
  unfold kL qj at h;cases hl:uH C L l e O with
  |none=>rw[hl]at h;cases h
  |some q=>
   obtain⟨k,hk⟩:=agm hm hL hl
   grind [evC,qj]
 |.seq a b,e,O,r,h=>by
  unfold kL at h;cases hl:kL C L a e O with
  |none=>rw[hl]at h;cases h
  |some q=>
   rw[hl]at h;obtain⟨k,hk⟩:=Qs a hl;obtain⟨x,e',O'⟩:=q;cases x with
   |normal=>
    obtain⟨j,hj⟩:=Qs b h;refine⟨max k j,?_⟩;unfold evC;rw[oL (hm k _ (Nat.le_max_left k j)) (Nat.le_max_left k j) a e O _ hk];exact oL (hm j _ (Nat.le_max_right k j)) (Nat.le_max_right k j) b _ _ r hj
   |exit i=>grind [evC]
   |ret=>grind [evC]
 |.cond q a b,e,O,r,h=>by
  unfold kL at h;split at h
  ·rename_i hq;obtain⟨k,hk⟩:=Qs a h
   grind [evC]
  ·rename_i hq;obtain⟨k,hk⟩:=Qs b h
   grind [evC]
  ·cases h
 |.block id b,e,O,r,h=>by
  unfold kL at h;cases hl:kL C L b e O with
  |none=>rw[hl]at h;cases h
  |some q=>
   obtain⟨k,hk⟩:=Qs b hl
   grind [evC]
 |.loop b,e,O,r,h=>by
  unfold kL at h;obtain⟨n,hn⟩:=Df.mp h;have:∀(n:Nat) (e:Env) (O:St) (r:XE×Env×St),uG (kL C L b) n e O=some r->∃k,evC C (cs k) k (.loop b) e O=some r:=by
   intro n
   induction n with
   |zero=>intro e O r h;cases h
   |succ n ih=>
    intro e O r h;unfold uG at h;cases hb:kL C L b e O with
    |none=>rw[hb]at h;cases h
    |some q=>
     rw[hb]at h;obtain⟨k,hk⟩:=Qs b hb;obtain⟨x,e',O'⟩:=q;cases x with
     |normal=>
      obtain⟨j,hj⟩:=ih _ _ _ h;refine⟨max k j+1,?_⟩;unfold evC at hj⊢;unfold uG;rw[oL (hm k _ (by omega)) (by omega:k<=max k j+1) b e O _ hk]
      exact AX (fun e O=>oL (hm j _ (by omega)) (by omega:j<=max k j+1) b e O) j (max k j) (by omega) _ _ r hj
     |exit i=>
      refine⟨k+1,?_⟩;unfold evC uG;rw[oL (hm k _ (by omega)) (by omega:k<=k+1) b e O _ hk]
      exact h
     |ret=>
      refine⟨k+1,?_⟩;unfold evC uG;rw[oL (hm k _ (by omega)) (by omega:k<=k+1) b e O _ hk]
      exact h
  exact this n e O r hn
 |.exit _,_,_,_,h=>⟨0,h⟩
 |.ret,_,_,_,h=>⟨0,h⟩
 |.scope b,e,O,r,h=>by
  unfold kL at h;obtain⟨k,hk⟩:=Qs b h;exact⟨k,by unfold evC;exact hk⟩
 |.fail,_,_,_,h=>by unfold kL at h;cases h
end
def abJ(C:Ctx):ai C=WZ C (kL C (ai C)):=by
 funext f args O
 refine Le.antisymm ?_ ?_
 ·intro a h;obtain⟨n,h⟩:=Gx.mp h;cases n with
  |zero=>cases h
  |succ n=>
   rw[Jl]at h;exact Zv (fun x e O=>EP (fun f a O r h=>Gx.mpr ⟨n,h⟩) x e O) f args O a h
 ·intro a h;have hm:∀n m,n<=m->zB (evF C n) (evF C m):=WH;have hL:∀f a O r,ai C f a O=some r->∃k,evF C k f a O=some r:=fun f a O r h=>Gx.mp h;refine Gx.mpr ?_;unfold WZ at h;cases hp:C.prim f with
  |some q=>rw[hp]at h;exact⟨1,by rw[Jl];unfold WZ;rw[hp];exact h⟩
  |none=>
   rw[hp]at h;dsimp only at h;cases hx:C.fs f with
   |none=>rw[hx]at h;cases h
   |some x=>
    rw[hx]at h;dsimp only at h;cases hh:hand (C.raw f) args O with
    |none=>rw[hh]at h;cases h
    |some q=>
     rw[hh]at h;dsimp only at h;split at h
     ·cases h
     ·rename_i hlen;cases hr:kL C (ai C) x.body (q.1++List.replicate (x.ntmps-q.1.length) .undef) q.2 with
      |none=>rw[hr]at h;cases h
      |some t=>
       obtain⟨k,hk⟩:=Qs hm hL x.body hr;refine⟨k+1,?_⟩;rw[Jl];unfold WZ
       grind
def LX{C:Ctx}(hm:C.P.follows .mixedOrders=true)(hfs:aec C)(hprim:Sr C):dW C (ai C):=by
 intro f args O v O' h;obtain⟨n,h⟩:=Gx.mp h;exact Jm hm hfs hprim n f args O v O' h
inductive KC where
 |skip
 |ops (l:List XOp)
 |plain (l:List XOp)
 |drawn (l:List XOp)
 |seq (a b:KC)
 |cond (c:XA) (a b:KC)
 |block (id:Nat) (b:KC)
 |loop (keep:List Nat) (b:KC)
 |exit (keep:List Nat) (id:Nat)
 |ret (keep:List Nat)
 |scope (b:KC)
 |fail
def KC.forget:KC->XC
 |.skip=>.skip
 |.ops l=>.ops l
 |.plain l=>.drawn l
 |.drawn l=>.drawn l
 |.seq a b=>.seq a.forget b.forget
 |.cond c a b=>.cond c a.forget b.forget
 |.block id b=>.block id b.forget
 |.loop _ b=>.loop b.forget
 |.exit _ id=>.exit id
 |.ret _=>.ret
 |.scope b=>.scope b.forget
 |.fail=>.fail
structure KF where
 nargs:Nat
 ntmps:Nat
 results:List XR
 body:KC
def KF.forget(k:KF):XF:=⟨k.nargs,k.ntmps,k.results,k.body.forget⟩
def aqE(C:Ctx)(e:Env)(O:St)(i:XI):evI C e O i=aB C (av C e) e.length O i:=rfl
abbrev As:=List (Nat×AV)
def look:As->Nat->AV
 |[],_=>.undef
 |(k,v)::A,t=>if k=t then v else look A t
def avA(C:Ctx)(A:As):XA->AV
 |.t n=>look A n
 |.c v=>v
 |.g n=>.eptr ((C.gl n).getD [])
def rU(b:Bool):AV->Bool
 |.bool c=>c==b
 |_=>false
def kw(o:XOp)(A:As):Bool:=
 match o.guard with
 |none=>true
 |some (t,b)=>rU b (look A t)
def yA(A:As)(d:Option Nat)(v:AV):As:=
 match d with
 |some d=>(d,v)::A
 |none=>A
def keepA(k:List Nat)(A:As):As:=k.map fun t=>(t,look A t)
def sZ(C:Ctx)(call:aZ)(n:Nat)(o:XOp)(A:As)(O:St):Option (AV×St):=
 if kw o A then
  match aB C (avA C A) n O o.i with
  |some (.val v O')=>some (v,O')
  |some (.call f args O')=>call f args O'
  |none=>none
 else some (.undef,O)
def ase(C:Ctx)(call:aZ)(n:Nat):List XOp->As->St->Option (As×St)
 |[],A,O=>some (A,O)
 |o::l,A,O=>match sZ C call n o A O with
  |some (v,O')=>ase C call n l (yA A o.dst v) O'
  |none=>none
def qH(C:Ctx)(call:aZ)(n:Nat):List XOp->As->St->Option (As×St×List (As×AV)×List St)
 |[],A,O=>some (A,O,[],[O])
 |o::l,A,O=>match sZ C call n o A O with
  |some (v,O')=>match qH C call n l (yA A o.dst v) O' with
   |some (A',O'',rs,ss)=>some (A',O'',(A,v)::rs,O::ss)
   |none=>none
  |none=>none
def mG(C:Ctx)(n:Nat)(o:XOp)(A:As)(v:AV)(ss:List St):List Nat->Bool
 |[]=>true
 |c::l=>(match ss[c]?,ss[c+1]? with
  |some s,some s'=>(match aB C (avA C A) n s o.i,aB C (avA C A) n s' o.i with
   |some (.val v1 _),some (.val v2 _)=>same v1 v&&same v2 v
   |_,_=>false)
  |_,_=>false)&&mG C n o A v ss l
def gB(C:Ctx)(n:Nat)(ss:List St):List XOp->List (As×AV)->Bool
 |o::l,(A,v)::rs=>(!kw o A||mG C n o A v ss o.loose)&&gB C n ss l rs
 |_,_=>true
def sW(C:Ctx)(call:aZ)(n:Nat)(l:List XOp)(A:As)(O:St):Option (As×St):=
 match qH C call n l A O with
 |some (A',O',rs,ss)=>if gB C n ss l rs then some (A',O')else none
 |none=>none
abbrev Dq:=As->St->Option (XE×As×St)
def loopA(b:Dq):Nat->As->St->Option (XE×As×St)
 |0,_,_=>none
 |n+1,e,O=>match b e O with
  |some (.normal,e',O')=>loopA b n e' O'
  |r=>r
def Xr{b:Dq}:∀(n m:Nat),n<=m->∀e O,Le (loopA b n e O) (loopA b m e O)
 |0,_,_,_,_=>Le.none
 |n+1,0,hn,_,_=>absurd hn (by omega)
 |n+1,m+1,hn,e,O=>by
  intro a ha;unfold loopA at ha⊢;cases hb:b e O with
  |none=>rw[hb]at ha;cases ha
  |some r=>
   rw[hb]at ha;obtain⟨k,e',O'⟩:=r;cases k with
   |normal=>exact Xr n m (by omega) e' O' a ha
   |exit i=>exact ha
   |ret=>exact ha
noncomputable def zg(b:Dq):Dq:=fun e O=>lim fun n=>loopA b n e O
theorem pX{b:Dq}{e O r}:zg b e O=some r↔∃n,loopA b n e O=some r:=
 Xl (fun n m h=>Xr n m h e O)
theorem Bv (b:Dq) (e:As) (O:St):zg b e O=
  match b e O with
  |some (.normal,e',O')=>zg b e' O'
  |r=>r:=by
 refine Le.antisymm ?_ ?_
 ·intro a h;obtain⟨n,h⟩:=pX.mp h;cases n with
  |zero=>cases h
  |succ n=>
   grind [loopA,pX]
 ·intro a h;refine pX.mpr ?_;cases hb:b e O with
  |none=>rw[hb]at h;cases h
  |some r=>
   rw[hb]at h;obtain⟨k,e',O'⟩:=r;cases k with
   |normal=>
    obtain⟨n,h⟩:=pX.mp h;exact⟨n+1,by unfold loopA;rw[hb];exact h⟩
   |exit i=>exact⟨1,by unfold loopA;rw[hb];exact h⟩
   |ret=>exact⟨1,by unfold loopA;rw[hb];exact h⟩
noncomputable def dL(C:Ctx)(call:aZ)(n:Nat):KC->Dq
 |.skip,e,O=>some (.normal,e,O)
 |.ops l,e,O|.plain l,e,O=>match ase C call n l e O with
  |some (e',O')=>some (.normal,e',O')
  |none=>none
 |.drawn l,e,O=>match sW C call n l e O with
  |some (e',O')=>some (.normal,e',O')
  |none=>none
 |.seq a b,e,O=>match dL C call n a e O with
  |some (.normal,e',O')=>dL C call n b e' O'
  |r=>r
 |.cond c a b,e,O=>match avA C e c with
  |.bool true=>dL C call n a e O
  |.bool false=>dL C call n b e O
  |_=>none
 |.block id b,e,O=>match dL C call n b e O with
  |some (.exit i,e',O')=>some (if i=id then .normal else .exit i,e',O')
  |r=>r
 |.loop m b,e,O=>zg (fun e O=>dL C call n b (keepA m e) O) e O
 |.exit m id,e,O=>some (.exit id,keepA m e,O)
 |.ret m,e,O=>some (.ret,keepA m e,O)
 |.scope b,e,O=>dL C call n b e O
 |.fail,_,_=>none
def bit(t:Nat):Nat:=1<<<t
def bits:List Nat->Nat
 |[]=>0
 |t::l=>bit t|||bits l
def without(m:Nat):Option Nat->Nat
 |none=>m
 |some d=>(m|||bit d)^^^bit d
def E5:List XOp->Nat->Nat
 |[],N=>N
 |o::l,N=>bits o.reads|||without (E5 l N) o.dst
def LD(l:List XOp):Bool:=l.all fun o=>o.loose.isEmpty
def Qc(n:Nat):Option Nat->Bool
 |none=>true
 |some d=>decide (d<n)
def aaX(n:Nat)(l:List XOp):Bool:=l.all fun o=>Qc n o.dst
def live(n R:Nat):KC->Nat->(Nat->Nat)->Option Nat
 |.skip,N,_=>some N
 |.ops l,N,_=>if aaX n l then some (E5 l N)else none
 |.plain l,N,_=>if aaX n l&&LD l then some (E5 l N)else none
 |.drawn l,N,_=>if aaX n l then some (E5 l N)else none
 |.seq a b,N,X=>match live n R b N X with
  |some M=>live n R a M X
  |none=>none
 |.cond c a b,N,X=>match live n R a N X,live n R b N X with
  |some A,some B=>some (bits c.reads|||(A|||B))
  |_,_=>none
 |.block id b,N,X=>live n R b N fun i=>if i=id then N else X i
 |.loop k b,_,X=>match live n R b (bits k) X with
  |some A=>if A|||bits k=bits k then some (bits k)else none
  |none=>none
 |.exit k id,_,X=>if X id|||bits k=bits k then some (bits k)else none
 |.ret k,_,_=>if R|||bits k=bits k then some (bits k)else none
 |.scope b,N,X=>live n R b N X
 |.fail,_,_=>some 0
def Dc:List XR->Nat
 |[]=>0
 |.tmp t::l=>bit t|||Dc l
 |.cell t _ _::l=>bit t|||Dc l
def KF.ok(k:KF):Bool:=(live k.ntmps (Dc k.results) k.body (Dc k.results) fun _=>Dc k.results).isSome
structure Ag(n m:Nat)(e:Env)(A:As):Prop where
 len:e.length=n
 at':∀t,m.testBit t=true->e.getD t .undef=look A t
theorem Ag.left{n m k:Nat}{e A}(h:Ag n (m|||k) e A):Ag n m e A:=⟨h.len,fun t ht=>h.at' t (by rw[Nat.testBit_or,ht];rfl)⟩
def Ag.right{n m k:Nat}{e A}(h:Ag n (m|||k) e A):Ag n k e A:=⟨h.len,fun t ht=>h.at' t (by rw[Nat.testBit_or,ht,aB1])⟩
def yu(d t:Nat):(bit d).testBit t=decide (d=t):=by
 unfold bit;rw[Nat.one_shiftLeft,Nat.testBit_two_pow]
def adg:∀(l:List Nat) (t:Nat),t∈l->(bits l).testBit t=true
 |a::l,t,h=>by
  unfold bits;rw[Nat.testBit_or,yu];rcases au9.mp h with h|h
  ·subst h;simp
  ·rw[adg l t h,aB1]
def acj:∀(l:List Nat) (t:Nat),(bits l).testBit t=true->t∈l
 |[],t,h=>by unfold bits at h;simp at h
 |a::l,t,h=>by
  unfold bits at h;rw[Nat.testBit_or,yu,az0]at h;rcases h with h|h
  ·grind
  ·exact aB6 _ (acj l t h)
def AgL(l:List Nat)(e:Env)(A:As):Prop:=∀t∈l,e.getD t .undef=look A t
def Ag.agree{n:Nat}{l:List Nat}{e A}(h:Ag n (bits l) e A):AgL l e A:=fun t ht=>h.at' t (adg l t ht)
def Ve(m d t:Nat):(without m (some d)).testBit t=(m.testBit t&& !decide (d=t)):=by
 unfold without;rw[Nat.testBit_xor,Nat.testBit_or,yu]
 grind
def ajC(e:Env)(d t:Nat)(v:AV):(e.set d v).getD t .undef=if d=t/\t<e.length then v else e.getD t .undef:=by
 grind
def Ag.put{n m:Nat}{d:Option Nat}{e A}(h:Ag n (without m d) e A)(hd:Qc n d=true)(v:AV):Ag n m (put e d v) (yA A d v):=by
 refine⟨by rw[Ia,h.len],?_⟩
 intro t ht;cases d with
 |none=>exact h.at' t ht
 |some d=>
  have hd:d<n:=by simpa[Qc]using hd
  unfold Go.Ev.put yA;dsimp only;rw[ajC,h.len];unfold look;by_cases hdt:d=t
  ·grind
  ·rw[if_neg (fun h=>hdt h.1),if_neg hdt];exact h.at' t (by rw[Ve,ht];simp[hdt])
def Ls:∀(k:List Nat) (A:As) (t:Nat),t∈k->look (keepA k A) t=look A t
 |a::k,A,t,h=>by
  show(if a=t then look A a else look (keepA k A) t)=_;by_cases hat:a=t
  ·rw[if_pos hat,hat]
  ·rw[if_neg hat];exact Ls k A t ((au9.mp h).resolve_left fun h=>hat h.symm)
theorem Ag.keep{n:Nat}{k:List Nat}{e A}(h:Ag n (bits k) e A):Ag n (bits k) e (keepA k A):=
 ⟨h.len,fun t ht=>by rw[Ls k A t (acj k t ht),h.at' t ht]⟩
def ahm{C:Ctx}{e:Env}{A:As}(x:XA)(h:AgL x.reads e A):av C e x=avA C A x:=by
 cases x with
 |t n=>exact h n (aA2.mpr rfl)
 |c v=>rfl
 |g n=>rfl
section
variable{a a':XA->AV}
def AgX(l:List Nat)(a a':XA->AV):Prop:=∀x:XA,(∀t∈x.reads,t∈l)->a x=a' x
theorem AgX.sub{l k:List Nat}(h:AgX l a a')(hk:∀t∈k,t∈l):AgX k a a':=fun x hx=>h x fun t ht=>hk t (hx t ht)
def YZ:∀(l:List XA),AgX (uO l) a a'->l.map a=l.map a'
 |[],_=>rfl
 |x::l,h=>by
  simp only[av3];rw[h x (fun t ht=>by simp[uO,ht]),YZ l (h.sub fun t ht=>by simp[uO,ht])]
def YX(x:Option XA)(h:AgX (OU x) a a'):x.map a=x.map a':=by
 cases x with
 |none=>rfl
 |some x=>simp only[au8];rw[h x (fun t ht=>ht)]
def anR:∀(l:List (Nat×Nat×XA)),AgX (JQ l) a a'->(l.map fun(o,s,x)=>(o,s,a x))=(l.map fun(o,s,x)=>(o,s,a' x))
 |[],_=>rfl
 |(o,s,x)::l,h=>by
  simp only[av3];rw[h x (fun t ht=>by simp[JQ,ht]),anR l (h.sub fun t ht=>by simp[JQ,ht])]
def aex(C:Ctx)(n:Nat)(O:St)(xi:XI)(h:AgX xi.reads a a'):aB C a n O xi=aB C a' n O xi:=by
 have mem:∀{x:XA},(∀t∈x.reads,t∈xi.reads)->a x=a' x:=fun{x} hx=>h x hx;cases xi<;>simp only[XI.reads]at h mem<;>simp only[aB]<;>first
  |rfl
  |(rw[mem (fun t ht=>ht)])
  |(rename_i a b;rw[mem (x:=a) (fun t ht=>by simp[ht]),mem (x:=b) (fun t ht=>by simp[ht])])
  |(rename_i a b c;rw[mem (x:=a) (fun t ht=>by simp[ht]),mem (x:=b) (fun t ht=>by simp[ht]),mem (x:=c) (fun t ht=>by simp[ht])])
  |(rw[anR _ h])
  |skip
 case mkFunc fn x y=>rw[YZ x (h.sub fun t ht=>by simp[ht]),YZ y (h.sub fun t ht=>by simp[ht])]
 case sliceStr x a b=>rw[mem (x:=x) (fun t ht=>by simp[ht]),YX a (h.sub fun t ht=>by simp[ht]),YX b (h.sub fun t ht=>by simp[ht])]
 case sliceSl sz x a b c=>rw[mem (x:=x) (fun t ht=>by simp[ht]),YX a (h.sub fun t ht=>by simp[ht]),YX b (h.sub fun t ht=>by simp[ht])]
 case sliceArr n sz x a b c=>rw[mem (x:=x) (fun t ht=>by simp[ht]),YX a (h.sub fun t ht=>by simp[ht]),YX b (h.sub fun t ht=>by simp[ht])]
 case lookup z m k ok=>grind
 all_goals first
  |(rw[YZ _ h])
  |(rename_i f l;rw[mem (x:=f) (fun t ht=>by simp[ht]),YZ l (h.sub fun t ht=>by simp[ht])])
  |(rename_i f m l;rw[mem (x:=f) (fun t ht=>by simp[ht]),YZ l (h.sub fun t ht=>by simp[ht])])
  |(rename_i q;rw[mem (x:=q) (fun t ht=>by simp[ht])])
end
theorem Ag.wanted{n:Nat}{o:XOp}{e A}(h:Ag n (bits o.reads) e A):mV o e=kw o A:=by
 unfold mV kw;cases hg:o.guard with
 |none=>rfl
 |some q=>
  obtain⟨t,b⟩:=q;dsimp only;have ht:=h.agree t (by unfold XOp.reads;rw[hg];simp)
  rw[<-ht,av4];unfold rU;cases e[t]? with
  |none=>rfl
  |some v=>cases v<;>rfl
theorem Ag.evI{C:Ctx}{n:Nat}{o:XOp}{e A}(h:Ag n (bits o.reads) e A)(O:St):Go.Ev.evI C e O o.i=aB C (avA C A) n O o.i:=by
 rw[aqE,h.len];exact aex C n O o.i fun x hx=>ahm x fun t ht=>h.agree t (by unfold XOp.reads;exact ax6 _ (hx t ht))
def Ag.op{C:Ctx}{call:aZ}{n:Nat}{o:XOp}{e A}(h:Ag n (bits o.reads) e A)(O:St):zl C call o e O=sZ C call n o A O:=by
 unfold zl sZ;rw[h.wanted,h.evI]
 grind
def Rel(n:Nat)(N:XE->Nat):Option (XE×Env×St)->Option (XE×As×St)->Prop
 |none,none=>True
 |some (k,e,O),some (k',e',O')=>k=k'/\O=O'/\Ag n (N k) e e'
 |_,_=>False
def VF {C:Ctx} {call:aZ} {n N:Nat}:∀(l:List XOp) (e:Env) (A:As) (O:St),aaX n l=true->Ag n (E5 l N) e A->
  match qc C call l e O,ase C call n l A O with
  |some (f,Y),some (f',Y')=>Y=Y'/\Ag n N f f'
  |none,none=>True
  |_,_=>False
 |[],e,A,O,_,h=>⟨rfl,h⟩
 |o::l,e,A,O,hd,h=>by
  unfold aaX at hd;rw[a88,a01]at hd;unfold qc ase;rw[Ag.op h.left O];cases sZ C call n o A O with
  |none=>trivial
  |some q=>exact VF l _ _ q.2 hd.2 (h.right.put hd.1 q.1)
theorem UK{C:Ctx}{n:Nat}{o:XOp}{e A}(h:Ag n (bits o.reads) e A)(v:AV)(ss:List St):∀l,Ic C o e v ss l=mG C n o A v ss l
 |[]=>rfl
 |c::l=>by
  unfold Ic mG;rw[UK h v ss l];simp only[h.evI,aB];cases ss[c]? with
  |none=>rfl
  |some s=>cases ss[c+1]? with
   |none=>rfl
   |some s'=>
    dsimp only;cases aB C (avA C A) n s o.i with
    |none=>rfl
    |some x=>cases aB C (avA C A) n s' o.i with
     |none=>cases x<;>rfl
     |some y=>cases x<;>cases y<;>rfl
def abE {C:Ctx} {call:aZ} {n N:Nat}:∀(l:List XOp) (e:Env) (A:As) (O:St),aaX n l=true->Ag n (E5 l N) e A->
  match uH C call l e O,qH C call n l A O with
  |some (f,Y,rs,ss),some (f',Y',rs',ss')=>Y=Y'/\ss=ss'/\Ag n N f f'/\∀zs,wM C zs l rs=gB C n zs l rs'
  |none,none=>True
  |_,_=>False
 |[],e,A,O,_,h=>⟨rfl,rfl,h,fun _=>rfl⟩
 |o::l,e,A,O,hd,h=>by
  unfold aaX at hd;rw[a88,a01]at hd;unfold uH qH;rw[Ag.op h.left O];cases sZ C call n o A O with
  |none=>trivial
  |some q=>
   dsimp only;have:=abE (C:=C) (call:=call) (N:=N) l _ _ q.2 hd.2 (h.right.put hd.1 q.1);revert this;cases uH C call l (put e o.dst q.1) q.2 with
   |none=>grind
   |some r=>cases qH C call n l (yA A o.dst q.1) q.2 with
    |none=>intro h;exact h.elim
    |some r'=>
     grind [wM,gB,h.left.wanted,UK,h.left]
theorem Ny{C:Ctx}{zs:List St}:∀(l:List XOp) (rs:List (Env×AV)),LD l=true->wM C zs l rs=true
 |[],_,_=>by unfold wM;rfl
 |_::_,[],_=>by unfold wM;rfl
 |o::l,(e,v)::rs,h=>by
  unfold LD at h;rw[a88,a01]at h;unfold wM;rw[Ny l rs h.2];have:o.loose=[]:=by simpa using h.1
  rw[this];unfold Ic;simp
theorem ah4{C:Ctx}{call:aZ}:∀(l:List XOp) (e:Env) (O:St),(uH C call l e O).map (fun r=>(r.1,r.2.1))=qc C call l e O
 |[],_,_=>rfl
 |o::l,e,O=>by
  unfold uH qc;cases zl C call o e O with
  |none=>rfl
  |some q=>
   dsimp only;rw[<-ah4 l]
   grind
def acz{C:Ctx}{call:aZ}{l:List XOp}(h:LD l=true)(e:Env)(O:St):qj C call l e O=qc C call l e O:=by
 grind [qj,ah4,Ny]
def outs(N R:Nat)(X:Nat->Nat):XE->Nat
 |.normal=>N
 |.exit i=>X i
 |.ret=>R
def wJ{C:Ctx}{call:aZ}{n R:Nat}:∀(k:KC) (N M:Nat) (X:Nat->Nat),live n R k N X=some M->∀(e:Env) (e':As) (O:St),Ag n M e e'->Rel n (outs N R X) (kL C call k.forget e O) (dL C call n k e' O)
 |.skip,N,M,X,h,e,e',O,ha=>by cases h;exact⟨rfl,rfl,ha⟩
 |.ops l,N,M,X,h,e,e',O,ha=>by
  unfold live at h;split at h
  ·rename_i hd;cases h;unfold KC.forget kL dL;have:=VF (C:=C) (call:=call) l e e' O hd ha;revert this;cases qc C call l e O<;>cases ase C call n l e' O
   ·intro _;trivial
   ·intro h;exact h.elim
   ·intro h;exact h.elim
   ·rintro⟨h1,h2⟩;exact⟨rfl,h1,h2⟩
  ·cases h
 |.plain l,N,M,X,h,e,e',O,ha=>by
  unfold live at h;split at h
  ·rename_i hl;cases h;rw[a01]at hl;unfold KC.forget kL dL;rw[acz hl.2];have:=VF (C:=C) (call:=call) l e e' O hl.1 ha;revert this;cases qc C call l e O<;>cases ase C call n l e' O
   ·intro _;trivial
   ·intro h;exact h.elim
   ·intro h;exact h.elim
   ·rintro⟨h1,h2⟩;exact⟨rfl,h1,h2⟩
  ·cases h
 |.drawn l,N,M,X,h,e,e',O,ha=>by
  unfold live at h;split at h
  case isFalse=>cases h
  rename_i hd;cases h;unfold KC.forget kL dL qj sW;have:=abE (C:=C) (call:=call) l e e' O hd ha;revert this;cases uH C call l e O<;>cases qH C call n l e' O
  ·intro _;trivial
  ·intro h;exact h.elim
  ·intro h;exact h.elim
  ·rename_i r r';obtain⟨f,Y,rs,ss⟩:=r;obtain⟨f',Y',rs',ss'⟩:=r';rintro⟨h1,h2,h3,h4⟩;subst h2;dsimp only;rw[h4];cases gB C n ss l rs'
   ·trivial
   ·exact⟨rfl,h1,h3⟩
 |.seq a b,N,M,X,h,e,e',O,ha=>by
  unfold live at h;cases hb:live n R b N X with
  |none=>rw[hb]at h;cases h
  |some B=>
   rw[hb]at h;have:=wJ (C:=C) (call:=call) a B M X h e e' O ha;unfold KC.forget kL dL;revert this;cases kL C call a.forget e O<;>cases dL C call n a e' O
   ·intro _;trivial
   ·intro h;exact h.elim
   ·intro h;exact h.elim
   ·rename_i r r';obtain⟨x,f,Y⟩:=r;obtain⟨x',f',Y'⟩:=r';rintro⟨h1,h2,h3⟩;subst h1 h2;cases x with
    |normal=>exact wJ b N B X hb _ _ _ h3
    |exit i=>exact⟨rfl,rfl,h3⟩
    |ret=>exact⟨rfl,rfl,h3⟩
 |.cond c a b,N,M,X,h,e,e',O,ha=>by
  unfold live at h;cases hA:live n R a N X with
  |none=>rw[hA]at h;cases h
  |some A=>cases hB:live n R b N X with
   |none=>rw[hA,hB]at h;cases h
   |some B=>
    rw[hA,hB]at h;cases h;unfold KC.forget kL dL;rw[ahm c (ha.left.agree)];cases avA C e' c with
    |bool q=>cases q with
     |true=>exact wJ a N A X hA e e' O ha.right.left
     |false=>exact wJ b N B X hB e e' O ha.right.right
    |_=>trivial
 |.block id b,N,M,X,h,e,e',O,ha=>by
  unfold live at h;have:=wJ (C:=C) (call:=call) b N M _ h e e' O ha;unfold KC.forget kL dL;revert this;cases kL C call b.forget e O<;>cases dL C call n b e' O
  ·intro _;trivial
  ·intro h;exact h.elim
  ·intro h;exact h.elim
  ·rename_i r r';obtain⟨x,f,Y⟩:=r;obtain⟨x',f',Y'⟩:=r';rintro⟨h1,h2,h3⟩;subst h1 h2;cases x with
   |normal=>exact⟨rfl,rfl,h3⟩
   |exit i=>
    refine⟨rfl,rfl,?_⟩;unfold outs at h3;dsimp only at h3;split
    ·rename_i hi;rw[if_pos hi]at h3;exact h3
    ·rename_i hi;rw[if_neg hi]at h3;exact h3
   |ret=>exact⟨rfl,rfl,h3⟩
 |.loop m b,N,M,X,h,e,e',O,ha=>by
  unfold live at h;cases hA:live n R b (bits m) X with
  |none=>rw[hA]at h;cases h
  |some A=>
   rw[hA]at h;dsimp only at h;split at h
   ·rename_i hm;cases h;have hsub:∀{f:Env} {f':As},Ag n (bits m) f f'->Ag n A f f':=fun{f f'} g=>by rw[<-hm]at g;exact g.left
    have step:∀(p:Nat) (e:Env) (e':As) (O:St),Ag n (bits m) e e'->Rel n (outs N R X) (uG (kL C call b.forget) p e O) (loopA (fun e O=>dL C call n b (keepA m e) O) p e' O):=by
     intro p
     induction p with
     |zero=>intro e e' O _;trivial
     |succ p ih=>
      intro e e' O ha;unfold uG loopA;have:=wJ (C:=C) (call:=call) b (bits m) A X hA e (keepA m e') O (hsub ha.keep);revert this;cases kL C call b.forget e O<;>cases dL C call n b (keepA m e') O
      ·intro _;trivial
      ·intro h;exact h.elim
      ·intro h;exact h.elim
      ·rename_i r r';obtain⟨x,f,Y⟩:=r;obtain⟨x',f',Y'⟩:=r';rintro⟨h1,h2,h3⟩;subst h1 h2;cases x with
       |normal=>exact ih _ _ _ h3
       |exit i=>exact⟨rfl,rfl,h3⟩
       |ret=>exact⟨rfl,rfl,h3⟩
    unfold KC.forget kL dL;cases h1:abL (kL C call b.forget) e O with
    |some r=>
     obtain⟨p,hn⟩:=Df.mp h1;have:=step p e e' O ha;rw[hn]at this;cases h2:loopA (fun e O=>dL C call n b (keepA m e) O) p e' O with
     |none=>rw[h2]at this;exact this.elim
     |some r'=>
      grind [pX]
    |none=>
     cases h2:zg (fun e O=>dL C call n b (keepA m e) O) e' O with
     |none=>trivial
     |some r'=>
      obtain⟨p,hn⟩:=pX.mp h2;have:=step p e e' O ha;rw[hn]at this;cases h3:uG (kL C call b.forget) p e O with
      |none=>rw[h3]at this;exact this.elim
      |some r=>grind [Df]
   ·cases h
 |.exit m i,N,M,X,h,e,e',O,ha=>by
  unfold live at h;split at h
  ·rename_i hm;cases h;have g:=ha.keep;rw[<-hm]at g;refine⟨rfl,rfl,?_⟩;exact g.left
  ·cases h
 |.ret m,N,M,X,h,e,e',O,ha=>by
  unfold live at h;split at h
  ·rename_i hm;cases h;have g:=ha.keep;rw[<-hm]at g;refine⟨rfl,rfl,?_⟩;exact g.left
  ·cases h
 |.scope b,N,M,X,h,e,e',O,ha=>by
  unfold live at h;unfold KC.forget kL dL;exact wJ b N M X h e e' O ha
 |.fail,N,M,X,h,e,e',O,ha=>by unfold KC.forget kL dL;trivial
def aY(A:As)(O:St):List XR->Option LA
 |[]=>some []
 |.tmp t::l=>match aY A O l with
  |some vs=>some (look A t::vs)
  |none=>none
 |.cell t ag sz::l=>match look A t,aY A O l with
  |.ref o off,some vs=>match O[o]? with
   |some (.cells c _)=>match pt ag sz (c.drop off)with
    |some v=>some (v::vs)
    |none=>none
   |_=>none
  |_,_=>none
def Tz{n:Nat}{O:St}{e:Env}{A:As}:∀(l:List XR),Ag n (Dc l) e A->Tv e O l=aY A O l
 |[],_=>rfl
 |.tmp t::l,h=>by
  unfold Tv aY;rw[Tz l h.right,h.left.at' t (by rw[yu];simp)]
  cases aY A O l<;>rfl
 |.cell t ag sz::l,h=>by
  unfold Tv aY;rw[Tz l h.right,h.left.at' t (by rw[yu];simp)]
  cases look A t<;>rfl
def jF:Nat->LA->As
 |_,[]=>[]
 |i,v::l=>(i,v)::jF (i+1) l
def ZN:∀(l:LA) (i t:Nat),look (jF i l) t=if t<i then .undef else l.getD (t-i) .undef
 |[],i,t=>by unfold jF look;split<;>simp
 |v::l,i,t=>by
  unfold jF look;rw[ZN l (i+1) t]
  grind
def aaH(m:Nat)(n:Nat)(args:LA)(h:args.length<=n):Ag n m (args++List.replicate (n-args.length) .undef) (jF 0 args):=by
 refine⟨by simp;omega,?_⟩
 intro t _;rw[ZN,if_neg (by omega),Nat.sub_zero]
 grind
noncomputable def BG(C:Ctx)(K:KF)(raw:Bool)(args:LA)(O:St):Option (AV×St):=
 match hand raw args O with
 |none=>none
 |some (args,O1)=>
  if args.length>K.ntmps then none else
  match dL C (ai C) K.ntmps K.body (jF 0 args) O1 with
  |some (.exit _,_,_)=>none
  |none=>none
  |some (_,e,O2)=>
   match aY e O2 K.results with
   |none=>none
   |some vs=>match hand raw vs O2 with
    |none=>none
    |some (vs,O3)=>some (bD vs,tidy O.length vs O3)
structure Has(C:Ctx)(f:FuncId)(K:KF):Prop where
 fs:C.fs f=some K.forget
 prim:C.prim f=none
 raw:C.raw f=false
 ok:K.ok=true
def aln {C:Ctx} {f:FuncId} {K:KF} {raw:Bool} (hfs:C.fs f=some K.forget) (hp:C.prim f=none) (hr:C.raw f=raw) (hok:K.ok=true) (args:LA) (O:St):
  ai C f args O=BG C K raw args O:=by
 rw[abJ];unfold WZ BG;rw[hp,hfs,hr];dsimp only[KF.forget];cases hand raw args O with
 |none=>rfl
 |some q=>
  obtain⟨args,O1⟩:=q;dsimp only;split
  ·rfl
  ·rename_i hlen;unfold KF.ok at hok;obtain⟨M,hM⟩:=aw3.mp hok;have:=wJ (C:=C) (call:=ai C) K.body _ M _ hM (args++List.replicate (K.ntmps-args.length) .undef) _ O1 (aaH M K.ntmps args (by omega))
   revert this;cases kL C (ai C) K.body.forget (args++List.replicate (K.ntmps-args.length) .undef) O1<;>cases dL C (ai C) K.ntmps K.body (jF 0 args) O1
   ·intro _;rfl
   ·intro h;exact h.elim
   ·intro h;exact h.elim
   ·rename_i r r';obtain⟨x,e,Y⟩:=r;obtain⟨x',e',Y'⟩:=r';rintro⟨h1,h2,h3⟩;subst h1 h2;cases x with
    |exit i=>rfl
    |normal=>
     dsimp only;rw[Tz (O:=Y) K.results h3];all_goals grind
    |ret=>
     dsimp only;rw[Tz (O:=Y) K.results h3];all_goals grind
def Has.run{C:Ctx}{f:FuncId}{K:KF}(h:Has C f K)(args:LA)(O:St):ai C f args O=BG C K false args O:=
 aln h.fs h.prim h.raw h.ok args O
def o(d:Nat)(i:XI):XOp:=⟨some d,i,none,[]⟩
def u(i:XI):XOp:=⟨none,i,none,[]⟩
def og(d:Nat)(t:Nat)(b:Bool)(i:XI):XOp:=⟨some d,i,some (t,b),[]⟩
def ug(t:Nat)(b:Bool)(i:XI):XOp:=⟨none,i,some (t,b),[]⟩
def m(d s:Nat):XOp:=⟨some d,.mv (.t s),none,[]⟩
def out(call:aZ)(d:Option Nat)(e:As)(x:Option Out)(k:As->St->Option (As×St)):Option (As×St):=
 match x with
 |some (.val v O')=>k (yA e d v) O'
 |some (.call f args O')=>match call f args O' with
  |some (v,O'')=>k (yA e d v) O''
  |none=>none
 |none=>none
def look_nil(t:Nat):look [] t=.undef:=rfl
def Lr(k:Nat)(v:AV)(A:As)(t:Nat):look ((k,v)::A) t=if k=t then v else look A t:=rfl
def QO(A:As):keepA [] A=[]:=rfl
def Lp(t:Nat)(k:List Nat)(A:As):keepA (t::k) A=(t,look A t)::keepA k A:=rfl
def Pv(i:Nat):jF i []=[]:=rfl
def Kz(i:Nat)(v:AV)(l:LA):jF i (v::l)=(i,v)::jF (i+1) l:=rfl
def apd(k:IntKind)(v:AV)(O:St):Option Out:=
 match v with
 |.int _ n=>some (.val (.int k (k.wrap n)) O)
 |_=>none
def QI(k j:IntKind)(n:Int)(O:St):apd k (.int j n) O=some (.val (.int k (k.wrap n)) O):=rfl
def Vq(np:Bool)(op:BinOp)(ek:Nat)(c:Bool)(b:Bool)(y:AV):xn np op ek c (.bool b) y=binOp op ek c (.bool b) y:=by cases np<;>rfl
def V9(np:Bool)(op:BinOp)(ek:Nat)(c:Bool)(k:IntKind)(b:Int)(y:AV):xn np op ek c (.int k b) y=binOp op ek c (.int k b) y:=by cases np<;>rfl
def We(np:Bool)(op:BinOp)(ek:Nat)(c:Bool)(s:LU)(y:AV):xn np op ek c (.str s) y=binOp op ek c (.str s) y:=by cases np<;>rfl
def Py(np:Bool)(op:BinOp)(ek:Nat)(c:Bool)(y:AV):xn np op ek c .nilp y=binOp op ek c .nilp y:=by cases np<;>rfl
def SB(np:Bool)(op:BinOp)(ek:Nat)(c:Bool)(a b:Nat)(y:AV):xn np op ek c (.ref a b) y=binOp op ek c (.ref a b) y:=by cases np<;>rfl
def Px(np:Bool)(op:BinOp)(ek:Nat)(c:Bool)(l:LA):xn np op ek c (.eptr l) .nilp=binOp op ek c (.eptr l) .nilp:=by cases np<;>rfl
def Pz(np:Bool)(op:BinOp)(ek:Nat)(c:Bool)(y:AV):xn np op ek c .nils y=binOp op ek c .nils y:=by cases np<;>rfl
def aaK(np:Bool)(op:BinOp)(ek:Nat)(c:Bool)(y:AV):xn np op ek c .emp y=binOp op ek c .emp y:=by cases np<;>rfl
def afV(np:Bool)(op:BinOp)(ek:Nat)(c:Bool)(i:Nat)(l:LA)(y:AV):xn np op ek c (.sl i l) y=binOp op ek c (.sl i l) y:=by cases np<;>rfl
def aaN(np:Bool)(op:BinOp)(ek:Nat)(c:Bool)(i:Nat)(l:LA)(y:AV):xn np op ek c (.xsl i l) y=binOp op ek c (.xsl i l) y:=by cases np<;>rfl
def aaM(np:Bool)(op:BinOp)(ek:Nat)(c:Bool)(i j p q:Nat)(y:AV):xn np op ek c (.msl i j p q) y=binOp op ek c (.msl i j p q) y:=by cases np<;>rfl
def aaL(np:Bool)(op:BinOp)(ek:Nat)(c:Bool)(i:Nat)(y:AV):xn np op ek c (.map i) y=binOp op ek c (.map i) y:=by cases np<;>rfl
def KE(np:Bool)(op:BinOp)(ek:Nat)(c:Bool)(y:AV):xn np op ek c .nilMap y=binOp op ek c .nilMap y:=by cases np<;>rfl
def Vr(np:Bool)(op:BinOp)(ek:Nat)(c:Bool)(f:Fn)(l r:LA)(y:AV):xn np op ek c (.func f l r) y=binOp op ek c (.func f l r) y:=by cases np<;>rfl
def GX(np:Bool)(op:BinOp)(ek:Nat)(c:Bool)(y:AV):xn np op ek c .nilFunc y=binOp op ek c .nilFunc y:=by cases np<;>rfl
def Je(np:Bool)(op:BinOp)(ek:Nat)(c:Bool)(t:TypeId)(v:AV)(y:AV):xn np op ek c (.iface t v) y=binOp op ek c (.iface t v) y:=by cases np<;>rfl
def AC(np:Bool)(op:BinOp)(ek:Nat)(c:Bool)(y:AV):xn np op ek c .nilIface y=binOp op ek c .nilIface y:=by cases np<;>rfl
def V8(np:Bool)(op:BinOp)(ek:Nat)(c:Bool)(l:LA)(y:AV):xn np op ek c (.agg l) y=binOp op ek c (.agg l) y:=by cases np<;>rfl
def abh(C:Ctx)(a:XA->AV)(n0:Nat)(O:St)(k:IntKind)(x:XA):aB C a n0 O (.i2i k x)=apd k (a x) O:=rfl
def uK (C:Ctx) (a:XA->AV) (n0:Nat) (O:St) (k:Nat) (x:XA):aB C a n0 O (.len k x)=match bU O k (a x)with
  |some n=>some (.val (.int .i64 (n:Int)) O)
  |none=>none:=by
 show Option.map _ _=_;cases bU O k (a x)<;>rfl
variable(C:Ctx)(call:aZ)(n:Nat)
theorem amj(e:As)(t:Nat):avA C e (.t t)=look e t:=rfl
theorem amh(e:As)(v:AV):avA C e (.c v)=v:=rfl
theorem ami(e:As)(n:Nat):avA C e (.g n)=.eptr ((C.gl n).getD []):=rfl
theorem VG(d:Nat)(e:As)(v:AV)(O:St)(k):out call (some d) e (some (.val v O)) k=k ((d,v)::e) O:=rfl
theorem Rf(e:As)(v:AV)(O:St)(k):out call none e (some (.val v O)) k=k e O:=rfl
theorem ads(d:Nat)(e:As)(f:FuncId)(args:LA)(O:St)(k):out call (some d) e (some (.call f args O)) k=match call f args O with
 |some (v,O')=>k ((d,v)::e) O'
 |none=>none:=rfl
theorem aa1(e:As)(f:FuncId)(args:LA)(O:St)(k):out call none e (some (.call f args O)) k=match call f args O with
 |some (_,O')=>k e O'
 |none=>none:=rfl
theorem QZ(d:Option Nat)(e:As)(k):out call d e none k=none:=rfl
theorem KX(e:As)(O:St):ase C call n [] e O=some (e,O):=rfl
theorem Vx(d:Nat)(i:XI)(l:List XOp)(e:As)(O:St):ase C call n (o d i::l) e O=out call (some d) e (aB C (avA C e) n O i) (ase C call n l):=by
 grind [sZ,o,ase,kw,out]
theorem Vy(i:XI)(l:List XOp)(e:As)(O:St):ase C call n (u i::l) e O=out call none e (aB C (avA C e) n O i) (ase C call n l):=by
 grind [sZ,u,ase,kw,out]
theorem Vw(d s:Nat)(l:List XOp)(e:As)(O:St):ase C call n (m d s::l) e O=ase C call n l ((d,look e s)::e) O:=rfl
theorem EI(c:Bool):rU true (.bool c)=c:=by cases c<;>rfl
theorem CO(c:Bool):rU false (.bool c)= !c:=by cases c<;>rfl
theorem WI(d t:Nat)(b:Bool)(i:XI)(l:List XOp)(e:As)(O:St):ase C call n (og d t b i::l) e O=if rU b (look e t)then out call (some d) e (aB C (avA C e) n O i) (ase C call n l)else ase C call n l ((d,.undef)::e) O:=by
 show(match sZ C call n (og d t b i) e O with|some (v,O')=>ase C call n l (yA e (some d) v) O'|none=>none)=_
 unfold sZ kw out og;dsimp only;by_cases hb:rU b (look e t)=true
 ·grind
 ·rw[if_neg hb,if_neg hb];rfl
theorem WJ(t:Nat)(b:Bool)(i:XI)(l:List XOp)(e:As)(O:St):ase C call n (ug t b i::l) e O=if rU b (look e t)then out call none e (aB C (avA C e) n O i) (ase C call n l)else ase C call n l e O:=by
 show(match sZ C call n (ug t b i) e O with|some (v,O')=>ase C call n l (yA e none v) O'|none=>none)=_
 unfold sZ kw out ug;dsimp only;by_cases hb:rU b (look e t)=true
 ·grind
 ·rw[if_neg hb,if_neg hb];rfl
theorem Rq(e:As)(O:St)(t:Nat)(l:List XR):aY e O (.tmp t::l)=match aY e O l with
 |some vs=>some (look e t::vs)
 |none=>none:=rfl
theorem Ro(e:As)(O:St):aY e O []=some []:=rfl
theorem ahS(k:List Nat)(e:As):keepA k (keepA k e)=keepA k e:=by
 unfold keepA;apply List.map_congr_left;intro t ht;exact congrArg (Prod.mk t) (Ls k e t ht)
noncomputable def aH(k:List Nat)(b:KC)(e:As)(O:St):Option (XE×As×St):=zg (fun e O=>dL C call n b (keepA k e) O) e O
theorem Xt(k:List Nat)(b:KC)(e:As)(O:St):aH C call n k b (keepA k e) O=aH C call n k b e O:=by
 unfold aH;rw[Bv,Bv _ e,ahS]
theorem LV(k:List Nat)(b:KC)(e:As)(O:St):dL C call n (.loop k b) e O=aH C call n k b (keepA k e) O:=(Xt C call n k b e O).symm
theorem jh {k:List Nat} {b:KC} {e:As} (he:keepA k e=e) (O:St):aH C call n k b e O=match dL C call n b e O with
  |some (.normal,e',O')=>aH C call n k b (keepA k e') O'
  |r=>r:=by
 grind [aH,Bv,Xt]
theorem LW(e:As)(O:St):dL C call n .skip e O=some (.normal,e,O):=rfl
theorem adM(l:List XOp)(e:As)(O:St):dL C call n (.ops l) e O=match ase C call n l e O with
 |some (e',O')=>some (.normal,e',O')
 |none=>none:=rfl
theorem XY(l:List XOp)(e:As)(O:St):dL C call n (.plain l) e O=match ase C call n l e O with
 |some (e',O')=>some (.normal,e',O')
 |none=>none:=rfl
theorem adN(a b:KC)(e:As)(O:St):dL C call n (.seq a b) e O=match dL C call n a e O with
 |some (.normal,e',O')=>dL C call n b e' O'
 |r=>r:=rfl
theorem aa9(c:XA)(a b:KC)(e:As)(O:St):dL C call n (.cond c a b) e O=match avA C e c with
 |.bool true=>dL C call n a e O
 |.bool false=>dL C call n b e O
 |_=>none:=rfl
theorem XX(id:Nat)(b:KC)(e:As)(O:St):dL C call n (.block id b) e O=match dL C call n b e O with
 |some (.exit i,e',O')=>some (if i=id then .normal else .exit i,e',O')
 |r=>r:=rfl
theorem LQ(k:List Nat)(id:Nat)(e:As)(O:St):dL C call n (.exit k id) e O=some (.exit id,keepA k e,O):=rfl
theorem Rw(k:List Nat)(e:As)(O:St):dL C call n (.ret k) e O=some (.ret,keepA k e,O):=rfl
theorem Ih(b:KC)(e:As)(O:St):dL C call n (.scope b) e O=dL C call n b e O:=rfl
theorem w64{n:Int}(h: -9223372036854775808<=n)(h':n<=9223372036854775807):IntKind.i64.wrap n=n:=by rw[IntKind.wrap_i64];omega
theorem wrE{a b:Int}(h:a=b/\ -9223372036854775808<=a/\a<=9223372036854775807):IntKind.i64.wrap a=b:=by rw[w64 h.2.1 h.2.2,h.1]
theorem wrS(n:Nat)(h:n<9223372036854775807):IntKind.i64.wrap ((n:Int)+1)=((n+1:Nat):Int):=wrE (by omega)
theorem wu8{n:Int}(h:0<=n)(h':n<=255):IntKind.u8.wrap n=n:=by rw[IntKind.wrap_u8];omega
theorem as4{n:Int}(h:0<=n)(h':n<=4294967295):IntKind.u32.wrap n=n:=by rw[IntKind.wrap_u32];omega
theorem wu64{n:Int}(h:0<=n)(h':n<=18446744073709551615):IntKind.u64.wrap n=n:=by unfold IntKind.wrap;simp[IntKind.bits,IntKind.signed];omega
theorem zW(O:St)(vs:LA):tidy O.length vs O=O:=by simp[tidy]
end Go.Ev
namespace Go.Ev
section
variable(ek:Nat)(c:Bool)(k k':IntKind)(a b:Int)
theorem PH:binOp .add ek c (.int k a) (.int k b)=some (.int k (k.wrap (a+b))):=by simp[binOp,asj]
theorem KH:binOp .sub ek c (.int k a) (.int k b)=some (.int k (k.wrap (a-b))):=by simp[binOp,asj]
theorem PQ:binOp .mul ek c (.int k a) (.int k b)=some (.int k (k.wrap (a*b))):=by simp[binOp,asj]
theorem PI:binOp .and ek c (.int k a) (.int k b)=some (.int k (k.wrap (BitVec.ofInt k.bits a&&&BitVec.ofInt k.bits b).toNat)):=by simp[binOp,asj]
theorem Wi:binOp .or ek c (.int k a) (.int k b)=some (.int k (k.wrap (BitVec.ofInt k.bits a|||BitVec.ofInt k.bits b).toNat)):=by simp[binOp,asj]
theorem PY:binOp .xor ek c (.int k a) (.int k b)=some (.int k (k.wrap (BitVec.ofInt k.bits a^^^BitVec.ofInt k.bits b).toNat)):=by simp[binOp,asj]
theorem DN:binOp .andNot ek c (.int k a) (.int k b)=some (.int k (k.wrap (BitVec.ofInt k.bits a&&& ~~~(BitVec.ofInt k.bits b)).toNat)):=by simp[binOp,asj]
theorem PL:binOp .eql ek c (.int k a) (.int k b)=some (.bool (a==b)):=by simp[binOp,asj]
theorem PR:binOp .neq ek c (.int k a) (.int k b)=some (.bool (a !=b)):=by simp[binOp,asj]
theorem PP:binOp .lss ek c (.int k a) (.int k b)=some (.bool (a<b)):=by simp[binOp,asj]
theorem PO:binOp .leq ek c (.int k a) (.int k b)=some (.bool (a<=b)):=by simp[binOp,asj]
theorem PN:binOp .gtr ek c (.int k a) (.int k b)=some (.bool (a>b)):=by simp[binOp,asj]
theorem PM:binOp .geq ek c (.int k a) (.int k b)=some (.bool (a>=b)):=by simp[binOp,asj]
theorem PT:binOp .quo ek c (.int k a) (.int k b)=if b=0 then none else some (.int k (k.wrap (a.tdiv b))):=by simp[binOp,asj]
theorem PU:binOp .rem ek c (.int k a) (.int k b)=if b=0 then none else some (.int k (a.tmod b)):=by simp[binOp,asj]
theorem PV:binOp .shl ek c (.int k a) (.int k' b)=if b<0 then none else some (.int k (k.wrap (a*2^min b.toNat k.bits))):=by simp[binOp,zh]
theorem PW:binOp .shr ek c (.int k a) (.int k' b)=if b<0 then none else some (.int k (a.fdiv (2^min b.toNat k.bits))):=by simp[binOp,zh]
theorem PX(op:BinOp)(x y:LU):binOp op ek c (.str x) (.str y)=rQ op x y:=rfl
theorem EG(op:BinOp)(q:Bool)(y:AV):binOp op ek c (.bool q) y=uF op (eqA ek c (.bool q) y):=rfl
theorem AQ(op:BinOp)(y:AV):binOp op ek c .nilp y=uF op (eqA ek c .nilp y):=rfl
theorem zI(op:BinOp)(i j:Nat)(y:AV):binOp op ek c (.ref i j) y=uF op (eqA ek c (.ref i j) y):=rfl
theorem AP(op:BinOp)(l:LA)(y:AV):binOp op ek c (.eptr l) y=uF op (eqA ek c (.eptr l) y):=rfl
theorem AU(op:BinOp)(y:AV):binOp op ek c .nils y=uF op (eqA ek c .nils y):=rfl
theorem GY(op:BinOp)(y:AV):binOp op ek c .emp y=uF op (eqA ek c .emp y):=rfl
theorem KG(op:BinOp)(i:Nat)(l:LA)(y:AV):binOp op ek c (.sl i l) y=uF op (eqA ek c (.sl i l) y):=rfl
theorem G6(op:BinOp)(i:Nat)(l:LA)(y:AV):binOp op ek c (.xsl i l) y=uF op (eqA ek c (.xsl i l) y):=rfl
theorem G5(op:BinOp)(i j p q:Nat)(y:AV):binOp op ek c (.msl i j p q) y=uF op (eqA ek c (.msl i j p q) y):=rfl
theorem GZ(op:BinOp)(i:Nat)(y:AV):binOp op ek c (.map i) y=uF op (eqA ek c (.map i) y):=rfl
theorem Ad(op:BinOp)(y:AV):binOp op ek c .nilMap y=uF op (eqA ek c .nilMap y):=rfl
theorem EH(op:BinOp)(f:Fn)(l r:LA)(y:AV):binOp op ek c (.func f l r) y=uF op (eqA ek c (.func f l r) y):=rfl
theorem yJ(op:BinOp)(y:AV):binOp op ek c .nilFunc y=uF op (eqA ek c .nilFunc y):=rfl
theorem yI(op:BinOp)(t:TypeId)(v:AV)(y:AV):binOp op ek c (.iface t v) y=uF op (eqA ek c (.iface t v) y):=rfl
theorem sU(op:BinOp)(y:AV):binOp op ek c .nilIface y=uF op (eqA ek c .nilIface y):=rfl
theorem DR(op:BinOp)(l:LA)(y:AV):binOp op ek c (.agg l) y=uF op (eqA ek c (.agg l) y):=rfl
end
def ac4(q:Bool):unOp .not (.bool q)=some (.bool !q):=rfl
def ac3(k:IntKind)(n:Int):unOp .neg (.int k n)=some (.int k (k.wrap (0-n))):=rfl
def G8(q:Bool):(AV.bool q).cells=[(AV.bool q)]:=rfl
def KZ(q:Bool):(AV.bool q).flat=true:=rfl
def KN(k:IntKind)(n:Int):(AV.int k n).cells=[(AV.int k n)]:=rfl
def Qv(k:IntKind)(n:Int):(AV.int k n).flat=true:=rfl
def KR(s:LU):(AV.str s).cells=[(AV.str s)]:=rfl
def Qz(s:LU):(AV.str s).flat=true:=rfl
def Ha:AV.nilp.cells=[AV.nilp]:=rfl
def Ld:AV.nilp.flat=true:=rfl
def KQ(i j:Nat):(AV.ref i j).cells=[(AV.ref i j)]:=rfl
def Qy(i j:Nat):(AV.ref i j).flat=true:=rfl
def G9(l:LA):(AV.eptr l).cells=[(AV.eptr l)]:=rfl
def La(l:LA):(AV.eptr l).flat=true:=rfl
def He:AV.nils.cells=[AV.nils]:=rfl
def Lh:AV.nils.flat=true:=rfl
def KL:AV.emp.cells=[AV.emp]:=rfl
def Qu:AV.emp.flat=true:=rfl
def P7(i:Nat)(l:LA):(AV.sl i l).cells=[(AV.sl i l)]:=rfl
def EX(i:Nat)(l:LA):(AV.sl i l).flat=true:=rfl
def KT(i:Nat)(l:LA):(AV.xsl i l).cells=[(AV.xsl i l)]:=rfl
def QA(i:Nat)(l:LA):(AV.xsl i l).flat=true:=rfl
def KP(i j p q:Nat):(AV.msl i j p q).cells=[(AV.msl i j p q)]:=rfl
def Qx(i j p q:Nat):(AV.msl i j p q).flat=true:=rfl
def KO(i:Nat):(AV.map i).cells=[(AV.map i)]:=rfl
def Qw(i:Nat):(AV.map i).flat=true:=rfl
def CP:AV.nilMap.cells=[AV.nilMap]:=rfl
def EW:AV.nilMap.flat=true:=rfl
def cells_func(f:Fn)(l r:LA):(AV.func f l r).cells=[(AV.func f l r)]:=rfl
def Lc(f:Fn)(l r:LA):(AV.func f l r).flat=true:=rfl
def Ae:AV.nilFunc.cells=[AV.nilFunc]:=rfl
def CW:AV.nilFunc.flat=true:=rfl
def EK(t:TypeId)(v:AV):(AV.iface t v).cells=[(AV.iface t v)]:=rfl
def Hz(t:TypeId)(v:AV):(AV.iface t v).flat=true:=rfl
def yM:AV.nilIface.cells=[AV.nilIface]:=rfl
def Ai:AV.nilIface.flat=true:=rfl
def KJ(l:LA):(AV.agg l).cells=l:=rfl
def Fp(a x:AV)(l:LA):splice (a::l) 0 [x]=x::l:=rfl
def Fj(a:AV)(l v:LA)(n:Nat):splice (a::l) (n+1) v=a::splice l n v:=by
 unfold splice
 grind
def Ok(O:St):Prop:=O.all (AO.below O.length)=true
def BA{O:St}(hσ:Ok O){vs:LA}(hv:ae O.length vs=true)(l:St):tidy O.length vs (O++l)=O:=by
 unfold tidy;split
 ·simp_all
 ·have ht:(O++l).take O.length=O:=by simp
  rw[ht,hv,hσ];rfl
def qX{n:Nat}{vs:LA}(hv:ae n vs=false)(O:St):tidy n vs O=O:=by
 unfold tidy;rw[hv];split<;>rfl
mutual
theorem below_mono{n k:Nat}(h:n<=k):∀v:AV,below n v=true->below k v=true
 |.ref o _,hv=>by simp[below]at hv⊢;omega
 |.msl o _ _ _,hv=>by simp[below]at hv⊢;omega
 |.map o,hv=>by simp[below]at hv⊢;omega
 |.func _ x y,hv=>by simp only[below,a01]at hv⊢;exact⟨aO h x hv.1,aO h y hv.2⟩
 |.iface _ v,hv=>by simp only[below]at hv⊢;exact below_mono h v hv
 |.agg l,hv=>by simp only[below]at hv⊢;exact aO h l hv
 |.tup l,hv=>by simp only[below]at hv⊢;exact aO h l hv
 |.eptr l,hv=>by simp only[below]at hv⊢;exact aO h l hv
 |.sl _ l,hv=>by simp only[below]at hv⊢;exact aO h l hv
 |.xsl _ l,hv=>by simp only[below]at hv⊢;exact aO h l hv
 |.bool _,_|.int _ _,_|.str _,_|.nilp,_|.nils,_|.emp,_|.nilMap,_|.nilFunc,_|.nilIface,_=>by simp[below]
theorem aO{n k:Nat}(h:n<=k):∀l:LA,ae n l=true->ae k l=true
 |[],_=>by simp[ae]
 |v::l,hv=>by simp only[ae,a01]at hv⊢;exact⟨below_mono h v hv.1,aO h l hv.2⟩
end
def AO.below_mono{n k:Nat}(h:n<=k):∀x:AO,AO.below n x=true->AO.below k x=true
 |.cells l _,hx=>aO h l hx
 |.map es,hx=>by
  simp only[AO.below,a01]at hx⊢
  grind [aO]
 |.dead,_=>rfl
def Ok.app{O:St}(h:Ok O){l:St}(hl:l.all (AO.below (O.length+l.length))=true):Ok (O++l):=by
 unfold Ok;rw[aC6,a04,a01];refine⟨?_,hl⟩;rw[a90];intro x hx;exact AO.below_mono (by omega) x (a90.mp h x hx)
def Ok.nil:Ok []:=rfl
def pile(O:St)(k:Nat)(x:AO):St:=O++(List.replicate k .dead++[x])
def UH(O:St)(k:Nat)(x:AO):(pile O k x).length=O.length+(k+1):=by simp[pile]
def JH(O:St)(k:Nat)(x:AO):(pile O k x)[O.length+k]?=some x:=by
 grind [pile]
def adv(O:St)(k:Nat)(x y:AO):(pile O k x).set (O.length+k) .dead++[y]=pile O (k+1) y:=by
 unfold pile;rw[List.set_append_right _ _ (by omega),List.set_append_right _ _ (by simp)]
 simp[List.replicate_succ',au2]
def aai{O:St}(hσ:Ok O){vs:LA}(hv:ae O.length vs=true)(k:Nat)(x:AO):tidy O.length vs (pile O k x)=O:=BA hσ hv _
def aI(l:LU):(ofBytes l).length=l.length:=by simp[ofBytes]
def JD(l r:LU):ofBytes l++ofBytes r=ofBytes (l++r):=by simp[ofBytes]
def uC:∀l:LU,bytesOf (ofBytes l)=some l
 |[]=>rfl
 |b::l=>by
  have:=uC l;unfold ofBytes at this⊢;rw[av3];unfold bytesOf aaP;rw[this];simp
def vH(l:LU):(ofBytes l).all AV.flat=true:=by
 rw[a90];intro v hv;unfold ofBytes at hv;obtain⟨b,_,rfl⟩:=ax1.mp hv;rfl
def jG(n:Nat):∀l:LU,ae n (ofBytes l)=true
 |[]=>rfl
 |b::l=>by
  have:=jG n l;unfold ofBytes at this⊢;simp[ae,below,this]
def alZ(k:IntKind)(hk:k.signed=false)(a:Nat)(ha:a<2^k.bits):k.wrap (a:Int)=(a:Int):=by
 unfold IntKind.wrap;rw[hk];have:((a:Int)%(2^k.bits:Int))=(a:Int):=Int.emod_eq_of_lt (by omega) (by exact_mod_cast ha)
 simp[this]
def aj6(w a:Nat)(ha:a<2^w):(BitVec.ofInt w (a:Int)).toNat=a:=by
 grind
def aoK (k:IntKind) (hk:k.signed=false) (a b:Nat) (ha:a<2^k.bits) (hb:b<2^k.bits):
  k.wrap ((BitVec.ofInt k.bits (a:Int)&&&BitVec.ofInt k.bits (b:Int)).toNat:Int)=((a&&&b:Nat):Int):=by
 rw[BitVec.toNat_and,aj6 _ _ ha,aj6 _ _ hb];exact alZ k hk _ (Nat.and_lt_two_pow a hb)
def aqm (k:IntKind) (hk:k.signed=false) (a b:Nat) (ha:a<2^k.bits) (hb:b<2^k.bits):
  k.wrap ((BitVec.ofInt k.bits (a:Int)^^^BitVec.ofInt k.bits (b:Int)).toNat:Int)=((a^^^b:Nat):Int):=by
 rw[BitVec.toNat_xor,aj6 _ _ ha,aj6 _ _ hb];exact alZ k hk _ (Nat.xor_lt_two_pow ha hb)
def Vb:AV->Bool
 |.bool _|.int _ _|.str _=>true
 |_=>false
def iI(o:Nat)(O:St):hand false [.ref o 0] O=some ([.ref o 0],O):=rfl
def Gi(o p:Nat)(O:St):hand false [.ref o 0,.ref p 0] O=some ([.ref o 0,.ref p 0],O):=rfl
noncomputable section
def Vz{ρ:Type}(v:AV):(AV->ρ)->ρ:=
 AV.rec (motive_1:=fun _=>(AV->ρ)->ρ) (motive_2:=fun _=>Unit)
  (fun b k=>k (.bool b)) (fun a b k=>k (.int a b)) (fun s k=>k (.str s)) (fun k=>k .nilp) (fun a b k=>k (.ref a b)) (fun a _ k=>k (.eptr a)) (fun k=>k .nils) (fun k=>k .emp) (fun a b _ k=>k (.sl a b)) (fun a b _ k=>k (.xsl a b))
  (fun a b c d k=>k (.msl a b c d)) (fun a k=>k (.map a)) (fun k=>k .nilMap) (fun a b c _ _ k=>k (.func a b c)) (fun k=>k .nilFunc) (fun a b _ k=>k (.iface a b)) (fun k=>k .nilIface) (fun a _ k=>k (.agg a)) (fun a _ k=>k (.tup a)) () (fun _ _ _ _=>()) v
def WY{ρ:Type}(v:AV)(k:AV->ρ):Vz v k=k v:=by cases v<;>rfl
def lkR(A:As)(t:Nat):AV:=List.rec (motive:=fun _=>AV) .undef (fun p _ ih=>Prod.rec (fun k v=>Bool.rec ih v (Nat.beq k t)) p) A
def abo:∀(A:As) (t:Nat),lkR A t=look A t
 |[],_=>rfl
 |(k,v)::r,t=>by
  show(Bool.rec (lkR r t) v (Nat.beq k t):AV)=if k=t then v else look r t;rw[abo r t];by_cases h:k=t
  ·subst h;simp
  ·cases hb:Nat.beq k t
   ·rw[if_neg h]
   simp_all
def avR(C:Ctx)(A:As)(x:XA):AV:=XA.rec (fun n=>lkR A n) (fun v=>v) (fun n=>.eptr ((C.gl n).getD [])) x
def aiU(C:Ctx)(A:As):avR C A=avA C A:=funext fun x=>by
 cases x
 case t n=>exact abo A n
 all_goals rfl
def apN{ρ:Type}(d:Option Nat)(A:As)(k:As->ρ)(v:AV):ρ:=Option.rec (motive:=fun _=>ρ) (k A) (fun d=>Vz v fun v=>k ((d,v)::A)) d
def ane{ρ:Type}(d:Option Nat)(A:As)(k:As->ρ)(v:AV):apN d A k v=k (yA A d v):=by
 cases d
 ·rfl
 ·exact WY v _
abbrev I8:=Ctx->(XA->AV)->Nat->St->Option Out
def sG(i:XI):I8:=fun C a n O=>aB C a n O i
def qMv(x:XA):I8:=fun C a n O=>some (.val (a x) O)
def ark(ag:Bool)(sz:Nat)(x:XA):I8:=fun C a n O=>match a x with
 |.eptr l=>(pt ag sz l).map (.val · O)
 |.ref o off=>match O[o]? with
  |some (.cells l _)=>(pt ag sz (l.drop off)).map (.val · O)
  |_=>none
 |_=>none
def arW(op:BinOp)(ek:Nat)(cst:Bool)(x y:XA):I8:=fun C a n O=>(xn C.np op ek cst (a x) (a y)).map (.val · O)
def arX(k:IntKind)(x:XA):I8:=fun C a n O=>match a x with
 |.int _ n=>some (.val (.int k (k.wrap n)) O)
 |_=>none
def anf(x i:XA):I8:=fun C a n O=>match oI (a i),a x with
 |some i,.str s=>match s[i]? with
  |some b=>some (.val (.int .u8 b.toNat) O)
  |none=>none
 |_,_=>none
def al0(x:XA)(i:Nat):I8:=fun C a n O=>match a x with
 |.tup l=>match l[i]? with
  |some v=>some (.val v O)
  |none=>none
 |_=>none
def arY(k:Nat)(x:XA):I8:=fun C a n O=>(bU O k (a x)).map fun n=>.val (.int .i64 n) O
def apO(f:FuncId)(l:List XA):I8:=fun C a n O=>some (.call f (l.map a) O)
def evQ(i:XI):I8:=XI.rec (motive:=fun _=>I8) qMv (fun a b c=>sG (.pick a b c)) (fun a b=>sG (.new a b)) (fun a=>sG (.box a)) (fun a b=>sG (.build a b)) (fun a b c d=>sG (.buildSl a b c d)) ark (fun a b c=>sG (.store a b c)) (fun a=>sG (.nilck a)) arW (fun a b=>sG (.un a b)) arX (fun a=>sG (.s2s a)) (fun a=>sG (.i2s a)) (fun a=>sG (.b2s a)) (fun a=>sG (.s2b a)) (fun a=>sG (.s2r a)) (fun a b=>sG (.mkIface a b)) (fun a b c=>sG (.mkFunc a b c)) (sG .mkMap) (fun a b c d e=>sG (.mkSlice a b c d e)) (fun a b c=>sG (.sliceStr a b c)) (fun a b c d e=>sG (.sliceSl a b c d e)) (fun a b c d e f=>sG (.sliceArr a b c d e f)) (fun a b=>sG (.fieldAddr a b)) (fun a b c d=>sG (.field a b c d)) (fun a b c d=>sG (.idxAddrArr a b c d)) (fun a b c=>sG (.idxAddrSl a b c)) (fun a b c d e=>sG (.idxArr a b c d e)) anf (fun a b c d=>sG (.lookup a b c d)) (fun a b c=>sG (.mapUpd a b c)) (fun a b c=>sG (.mapEntry a b c)) (fun a b c=>sG (.entryStore a b c)) al0 (fun a b c d e f=>sG (.app a b c d e f)) arY (fun a=>sG (.lenC a)) (fun a b c=>sG (.cpy a b c)) (fun a b c=>sG (.minmax a b c)) apO (fun a b=>sG (.callV a b)) (fun a b c=>sG (.invoke a b c)) (sG .pend) (fun a b c d=>sG (.fill a b c d)) (sG .fail) i
def ap6(i:XI)(C:Ctx)(a:XA->AV)(n:Nat)(O:St):evQ i C a n O=aB C a n O i:=by cases i<;>rfl
def ard(call:aZ)(r:Option Out):Option (AV×St):=Option.rec (motive:=fun _=>Option (AV×St)) none (fun o=>Out.rec (motive:=fun _=>Option (AV×St)) (fun v O=>some (v,O)) (fun f a O=>call f a O) o) r
def am1(g:Option (Nat×Bool))(A:As):Bool:=Option.rec (motive:=fun _=>Bool) true (fun p=>Prod.rec (motive:=fun _=>Bool) (fun t b=>rU b (lkR A t)) p) g
def am2(o:XOp)(A:As):am1 o.guard A=kw o A:=by
 unfold am1 kw;cases o.guard with
 |none=>rfl
 |some p=>exact congrArg (rU p.2) (abo A p.1)
def an4(C:Ctx)(call:aZ)(n:Nat)(o:XOp)(A:As)(O:St):Option (AV×St):=Bool.rec (motive:=fun _=>Option (AV×St)) (some (.undef,O)) (ard call (evQ o.i C (avR C A) n O)) (am1 o.guard A)
def an5(C:Ctx)(call:aZ)(n:Nat)(o:XOp)(A:As)(O:St):an4 C call n o A O=sZ C call n o A O:=by
 unfold an4 sZ ard;rw[ap6,am2,aiU];cases kw o A
 ·rfl
 ·simp only[if_true];cases aB C (avA C A) n O o.i with
  |none=>rfl
  |some x=>cases x<;>rfl
abbrev RO:=Option (As×St)
def aoc(d:Option Nat)(A:As)(ih:As->St->RO)(r:Option (AV×St)):RO:=Option.rec (motive:=fun _=>RO) none (fun p=>Prod.rec (motive:=fun _=>RO) (fun v O=>apN d A (fun A=>ih A O) v) p) r
def ai9(C:Ctx)(call:aZ)(n:Nat)(l:List XOp):As->St->RO:=
 List.rec (motive:=fun _=>As->St->RO) (fun A O=>some (A,O)) (fun o _ ih A O=>aoc o.dst A ih (an4 C call n o A O)) l
def agL(C:Ctx)(call:aZ)(n:Nat):∀(l:List XOp) (A:As) (O:St),ai9 C call n l A O=ase C call n l A O
 |[],_,_=>rfl
 |o::l,A,O=>by
  show aoc o.dst A (ai9 C call n l) (an4 C call n o A O)=(match sZ C call n o A O with
   |some (v,O')=>ase C call n l (yA A o.dst v) O'
   |none=>none)
  rw[an5];cases sZ C call n o A O with
  |none=>rfl
  |some p=>
   obtain⟨v,Y⟩:=p;show apN o.dst A (fun A=>ai9 C call n l A Y) v=_;rw[ane,agL C call n l]
def keepR{ρ:Type}(k:List Nat)(A:As):(As->ρ)->ρ:=List.rec (motive:=fun _=>(As->ρ)->ρ) (fun f=>f []) (fun t _ ih f=>Vz (lkR A t) fun v=>ih fun E=>f ((t,v)::E)) k
def QN{ρ:Type}:∀(k:List Nat) (A:As) (f:As->ρ),keepR k A f=f (keepA k A)
 |[],_,_=>rfl
 |t::k,A,f=>by
  show Vz (lkR A t) (fun v=>keepR k A fun E=>f ((t,v)::E))=_;rw[WY,QN k A,abo];rfl
abbrev RR1:=Option (XE×As×St)
def xeR(r:RO):RR1:=Option.rec (motive:=fun _=>RR1) none (fun p=>Prod.rec (motive:=fun _=>RR1) (fun A O=>some (.normal,A,O)) p) r
def onR(r:RR1)(f:As->St->RR1)(g:Nat->As->St->RR1):RR1:=Option.rec (motive:=fun _=>RR1) none (fun q=>Prod.rec (motive:=fun _=>RR1) (fun x p=>Prod.rec (motive:=fun _=>RR1) (fun A O=>XE.rec (motive:=fun _=>RR1) (f A O) (fun i=>g i A O) (some (.ret,A,O)) x) p) q) r
def exR(i:Nat)(A:As)(O:St):RR1:=some (.exit i,A,O)
def noR(A:As)(O:St):RR1:=some (.normal,A,O)
def aiZ(v:AV):Option Bool:=match v with
 |.bool b=>some b
 |_=>none
def ifR(q:Option Bool)(a b:RR1):RR1:=Option.rec (motive:=fun _=>RR1) none (fun q=>Bool.rec (motive:=fun _=>RR1) b a q) q
def akn(b:Dq)(k:List Nat)(m:Nat):Dq:=Nat.rec (motive:=fun _=>Dq) (fun _ _=>none) (fun _ ih A O=>keepR k A fun A=>onR (b A O) ih exR) m
def kkR(C:Ctx)(call:aZ)(n m:Nat)(c:KC):Dq:=KC.rec (motive:=fun _=>Dq)
 noR (fun l A O=>xeR (ai9 C call n l A O)) (fun l A O=>xeR (ai9 C call n l A O)) (fun l A O=>xeR (sW C call n l A O))
 (fun _ _ a b A O=>onR (a A O) b exR)
 (fun c _ _ a b A O=>ifR (aiZ (avR C A c)) (a A O) (b A O))
 (fun id _ b A O=>onR (b A O) noR fun i A O=>Bool.rec (motive:=fun _=>RR1) (exR i A O) (noR A O) (Nat.beq i id))
 (fun k _ b=>akn b k m) (fun k id A O=>keepR k A fun A=>exR id A O) (fun k A O=>keepR k A fun A=>some (.ret,A,O)) (fun _ b=>b) (fun _ _=>none) c
def adb(k:List Nat)(b b':Dq)(h:∀A O,Le (b A O) (b' A O)):∀(m:Nat) (A:As) (O:St),Le (akn b k m A O) (loopA (fun e O=>b' (keepA k e) O) m A O)
 |0,_,_=>Le.none
 |m+1,A,O=>by
  intro r hr;change keepR k A (fun A=>onR (b A O) (akn b k m) exR)=some r at hr;rw[QN]at hr;unfold loopA;cases hb:b (keepA k A) O with
  |none=>rw[hb]at hr;cases hr
  |some q=>
   obtain⟨x,A',O'⟩:=q;rw[h _ _ _ hb];rw[hb]at hr;cases x with
   |normal=>exact adb k b b' h m A' O' r hr
   |exit i=>exact hr
   |ret=>exact hr
def Jy(C:Ctx)(call:aZ)(n m:Nat):∀(c:KC) (A:As) (O:St),Le (kkR C call n m c A O) (dL C call n c A O)
 |.skip,_,_=>Le.rfl
 |.ops l,A,O|.plain l,A,O=>by
  intro r hr;change xeR (ai9 C call n l A O)=some r at hr;rw[agL]at hr;unfold dL;cases ho:ase C call n l A O<;>rw[ho]at hr<;>exact hr
 |.drawn l,A,O=>by
  intro r hr;change xeR (sW C call n l A O)=some r at hr;unfold dL;cases ho:sW C call n l A O<;>rw[ho]at hr<;>exact hr
 |.seq a b,A,O=>by
  intro r hr;change onR (kkR C call n m a A O) (kkR C call n m b) exR=some r at hr;unfold dL;cases ha:kkR C call n m a A O with
  |none=>rw[ha]at hr;cases hr
  |some q=>
   obtain⟨x,A',O'⟩:=q;rw[Jy C call n m a A O _ ha];rw[ha]at hr;cases x with
   |normal=>exact Jy C call n m b A' O' r hr
   |exit i=>exact hr
   |ret=>exact hr
 |.cond c a b,A,O=>by
  intro r hr;change ifR (aiZ (avR C A c)) (kkR C call n m a A O) (kkR C call n m b A O)=some r at hr;rw[aiU]at hr;unfold dL;cases hc:avA C A c<;>rw[hc]at hr
  case bool q=>
   cases q
   ·exact Jy C call n m b A O r hr
   ·exact Jy C call n m a A O r hr
  all_goals cases hr
 |.block id b,A,O=>by
  intro r hr;change onR (kkR C call n m b A O) noR (fun i A O=>Bool.rec (motive:=fun _=>RR1) (exR i A O) (noR A O) (Nat.beq i id))=some r at hr;unfold dL;cases ha:kkR C call n m b A O with
  |none=>rw[ha]at hr;cases hr
  |some q=>
   obtain⟨x,A',O'⟩:=q;rw[Jy C call n m b A O _ ha];rw[ha]at hr;cases x with
   |normal=>exact hr
   |exit i=>
    change(Bool.rec (motive:=fun _=>RR1) (exR i A' O') (noR A' O') (Nat.beq i id))=some r at hr;cases hb:Nat.beq i id<;>rw[hb]at hr
    ·grind [Nat.beq_refl,exR]
    ·rw[<-hr,at7 hb];simp[noR]
   |ret=>exact hr
 |.loop k b,A,O=>fun r hr=>pX.mpr ⟨m,adb k _ _ (Jy C call n m b) m A O r hr⟩
 |.exit k id,A,O=>by
  intro r hr;change keepR k A (fun A=>exR id A O)=some r at hr;rw[QN]at hr;exact hr
 |.ret k,A,O=>by
  intro r hr;change keepR k A (fun A=>some (.ret,A,O))=some r at hr;rw[QN]at hr;exact hr
 |.scope b,A,O=>Jy C call n m b A O
 |.fail,_,_=>Le.none
end
open Go.RowKit
noncomputable section
def I9(a b:Bool):Bool:=Bool.rec false b a
def clo(v:AV):Bool:=
 AV.rec (motive_1:=fun _=>Bool) (motive_2:=fun _=>Bool)
  (fun _=>true) (fun _ _=>true) (fun _=>true) true (fun _ _=>false) (fun _ ih=>ih) true true (fun _ _ ih=>ih) (fun _ _ ih=>ih)
  (fun _ _ _ _=>false) (fun _=>false) true (fun _ _ _ a b=>I9 a b) true (fun _ _ ih=>ih) true (fun _ ih=>ih) (fun _ ih=>ih) true (fun _ _ a b=>I9 a b) v
def ajf(l:LA):Bool:=List.rec (motive:=fun _=>Bool) true (fun v _ ih=>I9 (clo v) ih) l
def qi(a b:Bool):I9 a b=(a&&b):=by cases a<;>rfl
mutual
def aes:∀v:AV,clo v=below 0 v
 |.bool _=>rfl
 |.int _ _=>rfl
 |.str _=>rfl
 |.nilp=>rfl
 |.ref _ _=>by simp[below];rfl
 |.eptr l=>by rw[below];exact EM l
 |.nils=>rfl
 |.emp=>rfl
 |.sl _ l=>by rw[below];exact EM l
 |.xsl _ l=>by rw[below];exact EM l
 |.msl _ _ _ _=>by simp[below];rfl
 |.map _=>by simp[below];rfl
 |.nilMap=>rfl
 |.func _ x y=>by
  rw[below,<-EM x,<-EM y,<-qi];rfl
 |.nilFunc=>rfl
 |.iface _ v=>by rw[below];exact aes v
 |.nilIface=>rfl
 |.agg l=>by rw[below];exact EM l
 |.tup l=>by rw[below];exact EM l
def EM:∀l:LA,(AV.rec_1 (motive_1:=fun _=>Bool) (motive_2:=fun _=>Bool)
  (fun _=>true) (fun _ _=>true) (fun _=>true) true (fun _ _=>false) (fun _ ih=>ih) true true (fun _ _ ih=>ih) (fun _ _ ih=>ih)
  (fun _ _ _ _=>false) (fun _=>false) true (fun _ _ _ a b=>I9 a b) true (fun _ _ ih=>ih) true (fun _ ih=>ih) (fun _ ih=>ih) true (fun _ _ a b=>I9 a b) l:Bool)=ae 0 l
 |[]=>rfl
 |v::l=>by
  rw[ae,<-aes v,<-EM l,<-qi];rfl
end
def ag5:∀l:LA,ajf l=ae 0 l
 |[]=>rfl
 |v::l=>by
  show I9 (clo v) (ajf l)=_;rw[qi,aes,ag5 l,ae]
inductive aap where
 |prim (h:LA->St->Option (AV×St))
 |code (K:KF) (raw pure:Bool)
 |both (h:LA->St->Option (AV×St)) (K:KF) (raw pure:Bool)
 |rel (h:aZ->LA->St->Option (AV×St))
abbrev Tr2:=FuncId->Option aap
def ag0(C:Ctx)(call:aZ)(m:Nat)(K:KF)(raw:Bool)(args:LA)(n:Nat)(O1:St):Option (AV×St):=
 match Nat.ble args.length K.ntmps with
 |false=>none
 |true=>match kkR C call K.ntmps m K.body (jF 0 args) O1 with
  |none=>none
  |some q=>match q with
   |(x,e,O2)=>match x with
    |.exit _=>none
    |.normal=>match aY e O2 K.results with
     |none=>none
     |some vs=>match hand raw vs O2 with
      |none=>none
      |some p=>match p with
       |(vs,O3)=>some (bD vs,tidy n vs O3)
    |.ret=>match aY e O2 K.results with
     |none=>none
     |some vs=>match hand raw vs O2 with
      |none=>none
      |some p=>match p with
       |(vs,O3)=>some (bD vs,tidy n vs O3)
def aka(O1:St)(r:Option (AV×St)):Option (AV×St):=
 match r with
 |none=>none
 |some p=>match p with
  |(v,O')=>match O' with
   |[]=>some (v,O1)
   |_::_=>none
def anr(C:Ctx)(call:aZ)(m:Nat)(K:KF)(raw pure:Bool)(args:LA)(O:St):Option (AV×St):=
 match hand raw args O with
 |none=>none
 |some p=>match p with
  |(args1,O1)=>match I9 pure (ajf args1)with
   |true=>aka O1 (ag0 C call m K raw args1 0 [])
   |false=>ag0 C call m K raw args1 O.length O1
def ap3(e:Option aap)(C:Ctx)(call:aZ)(m:Nat)(args:LA)(O:St):Option (AV×St):=
 match e with
 |none=>none
 |some t=>match t with
  |.prim h=>h args O
  |.code K raw pure=>anr C call m K raw pure args O
  |.both h K raw pure=>match h args O with
   |some r=>some r
   |none=>anr C call m K raw pure args O
  |.rel h=>h call args O
def iC(C:Ctx)(T:Tr2)(n:Nat):aZ:=Nat.rec (motive:=fun _=>aZ) (fun _ _ _=>none) (fun m ih f args O=>ap3 (T f) C ih m args O) n
end
def POK(C:Ctx)(f:FuncId)(h:LA->St->Option (AV×St)):Prop:=
 ∀args O v O',h args O=some (v,O')->∀g w args',VRs g args args'->WR g w O->GL C g->Does C.P f args' w fun v' w'=>∃g',Goes g O w g' O' w'/\VR g' v v'
def KOK(C:Ctx)(f:FuncId)(K:KF):Prop:=cF C.P f=some K.forget/\(∃fn,C.P.funcs[f]?=some fn/\(fn.name== "runtime.NumGoroutine")=false)/\K.ok=true
def EOK(C:Ctx)(f:FuncId):aap->Prop
 |.prim h=>POK C f h
 |.code K _ _=>KOK C f K
 |.both h K _ _=>POK C f h/\KOK C f K
 |.rel h=>∀call,dW C call->POK C f (h call)
structure anQ(C:Ctx)(T:Tr2):Prop where
 ent:∀f e,T f=some e->EOK C f e
 gl:∀n l,C.gl n=some l->ae 0 l=true
def zB.refl(c:aZ):zB c c:=fun _ _ _=>Le.rfl
def Wp {C:Ctx} {call:aZ} (hcall:dW C call) (hdrawn:Ey C call) {f:FuncId} {K:KF} {raw:Bool} (hcf:cF C.P f=some K.forget) (hnm:∃fn,C.P.funcs[f]?=some fn/\(fn.name== "runtime.NumGoroutine")=false) (hok:K.ok=true)
  {m:Nat} {args:LA} {O1:St} {v:AV} {O':St} {O0:St} (h:ag0 C call m K raw args O0.length O1=some (v,O')) {g0 g1:Gh} {w0:World} {args':List Value} (hgo:Goes g0 O0 w0 g1 O1 w0) (hw0:WR g0 w0 O0) (hv:VRs g1 args args') (hg:GL C g1):
  Does C.P f args' w0 fun v' w'=>∃g',Goes g0 O0 w0 g' O' w'/\VR g' v v':=by
 obtain⟨fn,hfn,hname⟩:=hnm;simp only[cF,a96,a03,au4,a05]at hcf;obtain⟨fn',hfn',body,hb,xrs,hxr,hK⟩:=hcf;rw[hfn]at hfn';cases hfn';obtain⟨nargs,ntmps,results,kbody⟩:=K;simp only[KF.forget,XF.mk.injEq]at hK;obtain⟨hn1,hn2,hn3,hn4⟩:=hK;subst hn3;unfold ag0 at h;split at h
 ·cases h
 ·rename_i hle;have hlen:=av8 hle;dsimp only at hlen h;split at h
  ·cases h
  ·rename_i q hkc;obtain⟨x,E,O2⟩:=q;dsimp only at h;have h2:dL C call ntmps kbody (jF 0 args) O1=some (x,E,O2):=Jy C call ntmps m kbody _ O1 _ hkc;unfold KF.ok at hok;obtain⟨M,hM⟩:=aw3.mp hok;have h3:=wJ (C:=C) (call:=call) kbody _ M _ hM (args++List.replicate (ntmps-args.length) .undef) _ O1 (aaH M ntmps args hlen);rw[h2]at h3;cases hs:kL C call kbody.forget (args++List.replicate (ntmps-args.length) .undef) O1 with
   |none=>rw[hs]at h3;exact h3.elim
   |some r=>
    obtain⟨x',e,Y⟩:=r;rw[hs]at h3;obtain⟨hx,hτ,hAg⟩:=h3;subst hx hτ;obtain⟨k,hev⟩:=Qs (C:=C) (cs:=fun _=>call) (L:=call) (fun _ _ _=>zB.refl call) (fun f a O r h=>⟨0,h⟩) kbody.forget hs;have hend:∀vs vs2 O3,aY E Y xrs=some vs->hand raw vs Y=some (vs2,O3)->v=bD vs2->O'=tidy O0.length vs2 O3->(x'=.normal\/x'=.ret)->Does C.P f args' w0 fun v' w'=>∃g',Goes g0 O0 w0 g' O' w'/\VR g' v v':=by
     intro vs vs2 O3 hres hh2 hv' hσ' hx;have hres':Tv e Y xrs=some vs:=by
      have:=Tz (n:=ntmps) (O:=Y) (e:=e) (A:=E) xrs (by rcases hx with rfl|rfl<;>exact hAg)
      rw[this];exact hres
     have hrun:(callFunc f ⟨args'⟩).run C.P w0=.ok (.enter f ⟨args'⟩) w0:=by
      have h1:fn.name≠ "runtime.NumGoroutine":=by simpa using hname
      simp[callFunc,hfn,h1,hb]
     unfold Does;rw[hrun];simp only;refine calls_of_wp hfn hb ?_;have hl:=hv.length;have har:AR g1 (args++List.replicate (ntmps-args.length) .undef) {tmps:=(⟨args'⟩:Array Value)++Array.replicate (fn.ntmps-(⟨args'⟩:Array Value).size) undef,defers:=[]}:=by
      have h1:=hv.append (VRs.replicate (ntmps-args.length) (vK g1));have:args'.length=args.length:=hl;simpa[AR,this,<-hn2]using h1
     rw[<-hn4]at hev;refine wp_mono (nM hcall hdrawn k body _ e O1 Y x' hev g1 w0 _ har hgo.wr hg) fun ex a2 w2 ⟨hex,hd,g2,ha2,hgo2⟩=>?_;obtain⟨vs',hr1,hr2⟩:=Gw (C:=C) hgo2.wr ha2 _ xrs hxr vs hres';obtain⟨g3,hgo3,hv3⟩:=pW hgo2.wr _ hh2 hr2;obtain⟨g4,hgo4,hv4⟩:=Ik ((hgo.trans hgo2).trans hgo3) hw0 hv3;have hfin:a2.defers=[]/\∃v1,(Go.results fn a2.tmps).run C.P w2=.ok v1 w2/\∃v_1,Ending.returned v1=.returned v_1/\∃g',Goes g0 O0 w0 g' O' w2/\VR g' v v_1:=
      ⟨hd,_,Fg fn a2.tmps w2 hr1,_,rfl,g4,by rw[hσ'];exact hgo4,by rw[hv'];exact TK vs2 vs' hv4⟩
     subst hex;rcases hx with rfl|rfl
     ·exact hfin
     ·exact hfin
    grind
def HY{g:Gh}{w w':World}{O:St}(hw:WR g w O){g':Gh}(hgo:Goes (g.cut 0) [] w g' [] w'):Goes g O w {g with im:=g'.im} O w'/\g'.le {g with im:=g'.im}:=by
 have hn:g'.n=0:=hgo.wr.n;have hp:g'.pl=g.pl:=hgo.le.pl;have hle:g'.le {g with im:=g'.im}:=⟨hp.symm,by simp[hn],fun o ho=>by omega,fun o ho=>by omega,fun _ _ _ h=>h⟩
 have hle':g.le {g with im:=g'.im}:=⟨rfl,a06 _,fun _ _=>rfl,fun _ _=>rfl,fun b i v h=>hgo.le.im b i v h⟩;have hun:∀b,aaC (g.cut 0) [] b:=fun b o x h=>by simp at h
 refine⟨⟨hle',⟨hw.n,hgo.wr.im,fun b i v hv=>(hgo.wr.uf b i v hv).imp (fun e=>⟨(congrFun hp b).symm.trans e.1,e.2⟩) id,fun o x hx=>?_,hw.inj⟩,hgo.os,hgo.tape,hgo.output,hgo.size,fun b hb hu=>⟨hu,(hgo.fr b hb (hun b)).2.1,fun i=>(hgo.fr b hb (hun b)).2.2 i⟩⟩,hle⟩;have ho:=hw.obj o x hx;cases x with
 |dead=>trivial
 |cells l fz=>
  obtain⟨c,e,fr,h1,h2,h3,h4,h5,h6⟩:=ho;have hb:g.ob o<w.heap.size:=(ay0.mp h1).1;obtain⟨_,f2,f3⟩:=hgo.fr (g.ob o) hb (hun _);refine⟨c,e,fr,f2.trans h1,h2,h3,fun i y hy=>?_,h5,fun i v hv=>h6 i v ?_⟩
  ·obtain⟨v,hv,hr⟩:=h4 i y hy;exact⟨v,hv,hr.mono hle'⟩
  ·have:=f3 i;exact this.symm.trans hv
 |map es=>
  obtain⟨ents,clock,h1,h2⟩:=ho;have hb:g.ob o<w.heap.size:=(ay0.mp h1).1;obtain⟨_,f2,f3⟩:=hgo.fr (g.ob o) hb (hun _);exact⟨ents,clock,f2.trans h1,h2.size,h2.clk,fun i k v hkv=>by
   obtain⟨e,he,hk,hv,hborn⟩:=h2.at_ i k v hkv;exact⟨e,he,hk.mono hle',hv.mono hle',hborn⟩⟩
theorem Does.mono{P:Program}{f:FuncId}{args:List Value}{w:World}{R R':Value->World->Prop}(h:Does P f args w R)(hr:∀v w',R v w'->R' v w'):Does P f args w R':=by
 unfold Does at h⊢;split at h
 ·exact h.mono fun e w'' ⟨v,he,hR⟩=>⟨v,he,hr _ _ hR⟩
 ·exact hr _ _ h
 ·exact h
def XW {C:Ctx} {call:aZ} (hm:C.P.follows .mixedOrders=true) (ih:dW C call) (hgl:∀n l,C.gl n=some l->ae 0 l=true) {f:FuncId} {K:KF} (hK:KOK C f K) {n:Nat} {raw pure:Bool} {args:LA} {O:St} {v:AV} {O':St}
  (h:anr C call n K raw pure args O=some (v,O')) {g:Gh} {w:World} {args':List Value} (ha:VRs g args args') (hw:WR g w O) (hg:GL C g):Does C.P f args' w fun v' w'=>∃g',Goes g O w g' O' w'/\VR g' v v':=by
 obtain⟨h1,h2,h3⟩:=hK;unfold anr at h;split at h
 ·cases h
 ·rename_i p hh;obtain⟨args1,O1⟩:=p;dsimp only at h;obtain⟨g1,hgo1,hv1⟩:=pW hw raw hh ha;split at h
  ·rename_i hc;rw[qi,a01,ag5]at hc;unfold aka at h;split at h
   ·cases h
   ·rename_i p hb;obtain⟨v1,Y⟩:=p;dsimp only at h;split at h
    ·simp at h;obtain⟨rfl,rfl⟩:=h;have hw1:=hgo1.wr;have hw0:WR (g1.cut 0) w []:=⟨rfl,hw1.im,hw1.uf,fun o x hx=>by simp at hx,fun o o' x x' hx=>by simp at hx⟩
     have hg1:=hg.mono hgo1.le;have:=Wp (O0:=[]) ih ⟨F8 hm ih,Gg hm ih⟩ h1 h2 h3 hb (Goes.refl hw0) hw0 (hv1.cut hc.2) ⟨fun n l hl=>⟨(hg1.1 n l hl).1.cut (hgl n l hl),(hg1.1 n l hl).2⟩,hg1.2⟩;refine this.mono fun v' w' ⟨g',hgo',hr'⟩=>?_;obtain⟨hf,hle⟩:=HY hw1 hgo';exact⟨_,hgo1.trans hf,hr'.mono hle⟩
    ·cases h
  ·exact Wp ih ⟨F8 hm ih,Gg hm ih⟩ h1 h2 h3 h hgo1 hw hv1 (hg.mono hgo1.le)
def EJ{C:Ctx}{T:Tr2}(hm:C.P.follows .mixedOrders=true)(hT:anQ C T):∀n,dW C (iC C T n)
 |0=>fun f args O v O' h=>by cases h
 |n+1=>by
  have ih:=EJ hm hT n;intro f args O v O' h g w args' ha hw hg;change ap3 (T f) C (iC C T n) n args O=some (v,O')at h;unfold ap3 at h;split at h
  ·cases h
  ·rename_i t ht;have hE:=hT.ent f t ht;split at h
   ·exact hE args O v O' h g w args' ha hw hg
   ·exact XW hm ih hT.gl hE h ha hw hg
   ·split at h
    ·rename_i r hr;cases h;exact hE.1 args O v O' hr g w args' ha hw hg
    ·exact XW hm ih hT.gl hE.2 h ha hw hg
   ·exact hE _ ih args O v O' h g w args' ha hw hg
def uJ{g:Gh}{w w':World}{O:St}(h:WR g w O)(hb:Below w.heap.size w w'):Goes g O w g O w':=by
 refine⟨.refl g,⟨h.n,fun b i v hv=>?_,fun b i v hv=>?_,fun k y hy=>?_,h.inj⟩,hb.os,hb.tape,hb.output,hb.size,fun b hlt hu=>⟨hu,hb.block b hlt,fun _=>rfl⟩⟩
 ·rw[uV (hb.block b (h.im_lt hv))];exact h.im b i v hv
 ·rw[hb.block b (h.im_lt hv)];exact h.uf b i v hv
 ·exact OR.mono (h.obj k y hy) (.refl g) (h.lt hy) (fun hl=>hb.block _ (h.ob_lt hy hl)) (fun _ _ _ hv=>hv)
structure IV(P:Program)(f:FuncId):Prop where
 is:∃fn,P.funcs[f]?=some fn/\fn.name≠ "runtime.NumGoroutine"/\fn.body.isSome=true
def IV.enter{P:Program}{f:FuncId}(h:IV P f)(args:List Value)(w:World):(callFunc f ⟨args⟩).run P w=.ok (.enter f ⟨args⟩) w:=by
 obtain⟨fn,h1,h2,h3⟩:=h.is;obtain⟨b,hb⟩:=aw3.mp h3;simp[callFunc,h1,h2,hb]
def CQ{P:Program}{f:FuncId}(hf:IV P f){args:List Value}{w:World}{R:Value->World->Prop}(h:Calls P f ⟨args⟩ w fun e w'=>∃v,e=.returned v/\R v w'):Does P f args w R:=by
 unfold Does;rw[hf.enter];exact h
def aev {P:Program} {f:FuncId} (hf:IV P f) {args:List Value} {w:World} {g:Gh} {O:St} (hw:WR g w O) {v:AV} {v':Value} (hv:VR g v v') (h:Calls P f ⟨args⟩ w fun e w'=>e=.returned v'/\Below w.heap.size w w'):
  Does P f args w fun v' w'=>∃g',Goes g O w g' O w'/\VR g' v v':=
 CQ hf (h.mono fun e w' ⟨he,hb⟩=>⟨v',he,g,uJ hw hb,hv⟩)
def Rj(F:LU->AV)(args:LA)(O:St):Option (AV×St):=
 match args with
 |[.str s]=>if Nat.ble s.length 1099511627776 then some (F s,O)else none
 |_=>none
def anc {C:Ctx} {f:FuncId} (hf:IV C.P f) (F:LU->AV) (F':LU->Value) (hF:∀g s,VR g (F s) (F' s)) (hc:∀(s:ByteArray) (w:World),s.size<=1099511627776->Calls C.P f #[.string s] w fun e w'=>e=.returned (F' s.data.toList)/\Below w.heap.size w w'):
  POK C f (Rj F):=by
 intro args O v O' h g w args' ha hw hg;unfold Rj at h;split at h
 ·rename_i s;split at h
  ·rename_i hle;simp at h;obtain⟨rfl,rfl⟩:=h;cases ha with
   |cons _ v1 _ l1 x y=>
    cases y;cases x;exact aev hf hw (hF g s) (hc ⟨⟨s⟩⟩ w (av8 hle))
  ·cases h
 ·cases h
def ahJ {g:Gh} {w w':World} {O:St} (h:WR g w O) {o:Nat} {l:LA} {tg:Option (TypeId×Bool)} (hx0:O[o]?=some (.cells l ⟨false,tg⟩)) (hos:w'.os=w.os) (htape:w'.tape=w.tape) (hout:w'.output=w.output) (hsz:w'.heap.size=w.heap.size)
  (hne:∀k,k≠g.ob o->w'.heap[k]?=w.heap[k]?):Goes g O w g (O.set o .dead) w':=by
 obtain⟨c,e,fr,h1,h2,h3,h4,h5,h6⟩:=h.obj o _ hx0;have him:∀i v,g.im (g.ob o) i≠some v:=fun i v hv=>absurd (h6 i v hv).1 (by simp)
 refine⟨.refl g,⟨by simp[h.n],fun b i v hv=>?_,fun b i v hv=>?_,fun k y hy=>?_,fun k k' y y' hy hy' hl hl' he=>?_⟩,hos,htape,hout,by omega,fun b hb hu=>⟨fun k y hy hl=>?_,hne b (fun e=>hu o _ hx0 rfl e.symm),fun _=>rfl⟩⟩
 ·grind [uV,WR]
 ·grind [WR]
 ·rcases mP hy with⟨hk,hz⟩|⟨rfl,_,rfl⟩
  ·exact OR.mono (h.obj k y hz) (.refl g) (h.lt hz) (fun hl=>hne _ fun e=>hk (h.inj k o y _ hz hx0 hl rfl e)) (fun _ _ _ hv=>hv)
  ·trivial
 ·rcases mP hy with⟨hk,hz⟩|⟨hk,_,rfl⟩
  ·rcases mP hy' with⟨hk',hz'⟩|⟨hk',_,rfl⟩
   ·exact h.inj k k' y y' hz hz' hl hl' he
   ·cases hl'
  ·cases hl
 ·rcases mP hy with⟨hk,hz⟩|⟨hk,_,rfl⟩
  ·exact hu k y hz hl
  ·cases hl
def ahI {P:Program} {g:Gh} {w:World} {O:St} (h:WR g w O) {o:Nat} {l:LA} {tg:Option (TypeId×Bool)} (hl:O[o]?=some (.cells l ⟨false,tg⟩)) {off:Nat} {c:AV} {v:Value} (hc:VR g c v) (hb:off<l.length) (hf:c.flat=true):
  Goes g O w g (O.set o (.cells (splice l off [c]) ⟨false,tg⟩)) (w.setCell ⟨g.ob o,off,none⟩ v):=by
 obtain⟨c0,e0,fr,h1,h2,h3,h4,h5,h6⟩:=h.obj o _ hl;obtain⟨w',hrun,hgo⟩:=Kr (P:=P) h hl (off:=off) (cs:=[c]) (vs:=[v]) (.cons _ _ _ _ hc .nil) (by simp;omega) (by simpa using hf)
 have hrun2:=run_storeCells_cells (P:=P) (g.ob o) off [v] 0 w (fun j hj=>by rw[cell_of_heap h1,aw0 (by simp at hj;omega)];rfl) (fun j hj=>by
  have:=anI h5.1 c0.size (off+0+j) (by simp at hj;omega)
  simpa[World.frozen?,h1]using this) (VRs.one (.cons _ _ _ _ hc .nil) (by simpa using hf))
 rw[hrun]at hrun2;simp only[Result.ok.injEq,true_and]at hrun2;subst hrun2;exact hgo
def acP(w:World)(b n:Nat):(w.freeze ⟨b,0,none⟩ n).os=w.os/\(w.freeze ⟨b,0,none⟩ n).tape=w.tape/\(w.freeze ⟨b,0,none⟩ n).output=w.output/\(w.freeze ⟨b,0,none⟩ n).heap.size=w.heap.size/\∀k,k≠b->(w.freeze ⟨b,0,none⟩ n).heap[k]?=w.heap[k]?:=by
 unfold World.freeze
 grind
def Jf:LA->Option LU
 |[]=>some []
 |v::l=>match v with
  |.int .u8 (.ofNat n)=>match Nat.ble n 255 with
   |true=>match Jf l with
    |some bs=>some (UInt8.ofNat n::bs)
    |none=>none
   |false=>none
  |_=>none
def Wq:∀{l:LA} {s:LU},Jf l=some s->s.length=l.length/\∀(j:Nat) (x:UInt8),s[j]?=some x->l[j]?=some (.int .u8 x.toNat)
 |[],s,h=>by
  simp[Jf]at h;subst h;simp
 |v::l,s,h=>by
  unfold Jf at h;split at h
  ·rename_i n;split at h
   ·rename_i hn;have hn:=av8 hn;split at h
    ·rename_i bs hbs;simp at h;subst h;obtain⟨e1,e2⟩:=Wq hbs;refine⟨by simp[e1],fun j x hx=>?_⟩
     cases j with
     |zero=>
      simp at hx;subst hx;simp;omega
     |succ j=>simpa using e2 j x (by simpa using hx)
    ·cases h
   ·cases h
  ·cases h
def QB(P:Program)(f:FuncId):Bool:=
 match P.funcs[f]? with
 |some fn=>!(fn.name== "runtime.NumGoroutine")
 |none=>false
def iy(P:Program)(gl:Nat->Option LA)(raw:FuncId->Bool)(prim:FuncId->Option (LA->St->Option (AV×St))):Ctx:=
 {P,gl,raw,fs:=fun f=>match QB P f with|true=>cF P f|false=>none,prim}
def yg(P:Program)(gl raw prim):aec (iy P gl raw prim):=by
 intro f x h
 grind [iy,QB]
def acr {P:Program} (hm:P.follows .mixedOrders=true) {f:FuncId} (hf:IV P f) {n:Nat} {args:LA} {v:AV} (h:evF (iy P (fun _=>none) (fun _=>false) (fun _=>none)) n f args []=some (v,[])) (w:World) (args':List Value) (v':Value)
  (ha:∀g,VRs g args args') (hv:∀g v2,VR g v v2->v2=v'):Calls P f ⟨args'⟩ w fun e w'=>e=.returned v'/\Below w.heap.size w w':=by
 have hs:=Jm (C:=iy P (fun _=>none) (fun _=>false) (fun _=>none)) hm (yg _ _ _ _) (fun f h hh=>by simp[iy]at hh) n f args [] v [] h
 have hw:WR ⟨fun _=>true,0,fun _=>0,fun _=>0,fun _ _=>none⟩ w []:=⟨rfl,fun b i v hv=>by simp at hv,fun b i v hv=>by simp at hv,fun o x hx=>by simp at hx,fun o o' x x' hx=>by simp at hx⟩
 have hd:=hs _ w args' (ha _) hw ⟨fun n l hl=>by simp[iy]at hl,.inr fun _=>rfl⟩
 unfold Does at hd;change(match(callFunc f ⟨args'⟩).run P w with|.ok (.enter f' azs) w'=>_|.ok (.value v) w'=>_|_=>False)at hd
 rw[hf.enter]at hd;refine Calls.mono hd fun e w' ⟨v2,he,g',hgo,hr⟩=>?_;have:=hv _ _ hr;subst this;refine⟨he,?_⟩;exact⟨hgo.os,hgo.tape,hgo.output,hgo.size,fun k hk=>(hgo.fr k hk (fun o x hx=>by simp at hx)).2.1⟩
noncomputable section
def lI(r:Option (AV×St))(v:AV):Bool:=
 match r with
 |none=>false
 |some p=>match p with
  |(v',O)=>match O with
   |[]=>same v' v
   |_::_=>false
def Ie{r:Option (AV×St)}{v:AV}(h:lI r v=true):r=some (v,[]):=by
 unfold lI at h
 grind [same_eq]
def afF(C:Ctx)(f:FuncId)(args:LA)(v:AV):Prop:=POK C f fun azs O=>match vO azs args with|true=>some (v,O)|false=>none
def ad4{C:Ctx}{call:aZ}(hc:dW C call){f:FuncId}{args:LA}{v:AV}(hgl:∀n l,C.gl n=some l->ae 0 l=true)(hcl:ae 0 args=true)(h:lI (call f args []) v=true):afF C f args v:=by
 intro azs O v1 O' h1 g w args' ha hw hg;dsimp only at h1;split at h1
 ·rename_i he;have:=wP _ _ he;subst this;cases h1;have h2:=Ie h;have hw0:WR (g.cut 0) w []:=⟨rfl,hw.im,hw.uf,fun o x hx=>by simp at hx,fun o o' x x' hx=>by simp at hx⟩
  refine(hc _ _ _ _ _ h2 (g.cut 0) w args' (ha.cut hcl) hw0 ⟨fun n l hl=>⟨(hg.1 n l hl).1.cut (hgl n l hl),(hg.1 n l hl).2⟩,hg.2⟩).mono fun v' w' ⟨g',hgo',hr'⟩=>?_;obtain⟨hf,hle⟩:=HY hw hgo';exact⟨_,hf,hr'.mono hle⟩
 ·cases h1
def memo(l:List (LA×AV))(azs:LA)(O:St):Option (AV×St):=
 match l with
 |[]=>none
 |p::l=>match p with
  |(args,v)=>match vO azs.reverse args.reverse with
   |true=>some (v,O)
   |false=>memo l azs O
def akx{C:Ctx}{f:FuncId}:POK C f (memo []):=fun args O v O' h=>by cases h
def ai5{C:Ctx}{f:FuncId}{args:LA}{v:AV}{l:List (LA×AV)}(h:afF C f args v)(hl:POK C f (memo l)):POK C f (memo ((args,v)::l)):=by
 intro azs O v1 O' h1 g w args' ha hw hg;unfold memo at h1;dsimp only at h1;cases he:vO azs.reverse args.reverse with
 |true=>
  refine h azs O v1 O' ?_ g w args' ha hw hg
  grind [List.reverse_inj,wP,sK]
 |false=>
  rw[he]at h1;exact hl azs O v1 O' h1 g w args' ha hw hg
def orP(h k:LA->St->Option (AV×St))(azs:LA)(O:St):Option (AV×St):=match h azs O with
 |some r=>some r
 |none=>k azs O
def akO{C:Ctx}{f:FuncId}{h k:LA->St->Option (AV×St)}(hh:POK C f h)(hk:POK C f k):POK C f (orP h k):=by
 intro azs O v1 O' h1 g w args' ha hw hg;unfold orP at h1;split at h1
 ·rename_i r hr;cases h1;exact hh azs O v1 O' hr g w args' ha hw hg
 ·exact hk azs O v1 O' h1 g w args' ha hw hg
end
def tq:same (.agg [.str [1,2,3],.int .i64 5,.sl 1 [.str []]]) (.agg [.str [1,2,3],.int .i64 5,.sl 1 [.str []]])=true:=by decide
noncomputable section
def oK {C:Ctx} {call:aZ} (hc:dW C call) (hgl:∀n l,C.gl n=some l->ae 0 l=true) {f:FuncId} {args:LA} {v:AV} (hcl:ae 0 args=true) (h:call f args []=some (v,[])) {g:Gh} {w:World} {O:St} {args':List Value} (ha:VRs g args args') (hw:WR g w O) (hg:GL C g):
  Does C.P f args' w fun v' w'=>∃g',Goes g O w g' O w'/\VR g' v v':=by
 have hw0:WR (g.cut 0) w []:=⟨rfl,hw.im,hw.uf,fun o x hx=>by simp at hx,fun o o' x x' hx=>by simp at hx⟩
 refine(hc _ _ _ _ _ h (g.cut 0) w args' (ha.cut hcl) hw0 ⟨fun n l hl=>⟨(hg.1 n l hl).1.cut (hgl n l hl),(hg.1 n l hl).2⟩,hg.2⟩).mono fun v' w' ⟨g',hgo',hr'⟩=>?_;obtain⟨hf,hle⟩:=HY hw hgo';exact⟨_,hf,hr'.mono hle⟩
def H9(args:LA)(O:St):Option (AV×St):=
 match args with
 |[.sl 0 []]=>some (.sl 0 [],O)
 |_=>none
def OO{C:Ctx}{call:aZ}(hc:dW C call)(hgl:∀n l,C.gl n=some l->ae 0 l=true){f:FuncId}(h1:lI (call f [.nils] []) .nils=true)(h2:lI (call f [.emp] []) (.xsl 0 [])=true):POK C f H9:=by
 intro args O v O' h g w args' ha hw hg;unfold H9 at h;split at h
 ·simp only[a05,av6]at h;obtain⟨rfl,rfl⟩:=h;cases ha with
  |cons _ v1 _ l1 x y=>
   cases y;cases x with
   |slNil=>
    refine(oK hc hgl (by rfl) (Ie h1) (.cons _ _ _ _ .nils .nil) hw hg).mono fun v' w' ⟨g',hgo,hr⟩=>⟨g',hgo,?_⟩
    cases hr;exact .slNil
   |slEmp a cap=>
    refine(oK hc hgl (by rfl) (Ie h2) (.cons _ _ _ _ (.emp a cap) .nil) hw hg).mono fun v' w' ⟨g',hgo,hr⟩=>⟨g',hgo,?_⟩
    cases hr;exact .slEmp _ _
   |sl _ _ b off cap hcr hle=>
    refine(oK hc hgl (by rfl) (Ie h2) (.cons _ _ _ _ (.emp ⟨b,off,none⟩ cap) .nil) hw hg).mono fun v' w' ⟨g',hgo,hr⟩=>⟨g',hgo,?_⟩
    cases hr;exact .slEmp _ _
 ·cases h
def an6(args:LA)(O:St):Option (AV×St):=
 match args with
 |[.str a,.str b]=>some (.int .i64 (Lib.compareBytes a b),O)
 |_=>none
def anb{C:Ctx}{f:FuncId}(he:∀args w,(callFunc f args).run C.P w=((Extern.BytealgCompare.compare args).run C.P w).andThen fun v w=>.ok (.value v) w):POK C f an6:=by
 intro args O v O' h g w args' ha hw hg;unfold an6 at h;split at h
 ·rename_i a b;simp only[a05,av6]at h;obtain⟨rfl,rfl⟩:=h;cases ha with
  |cons _ v1 _ l1 x y=>
   cases y with
   |cons _ v2 _ l2 x2 y2=>
    cases y2;cases x;cases x2;unfold Does;have:(callFunc f ⟨[.string ⟨⟨a⟩⟩,.string ⟨⟨b⟩⟩]⟩).run C.P w=.ok (.value (.int .i64 (Lib.compareBytes a b))) w:=by
     rw[he];have:=Lib.run_compareString (P:=C.P) ⟨⟨a⟩⟩ ⟨⟨b⟩⟩ w;simp_all
    rw[this];exact⟨g,.refl hw,.int _ _⟩
 ·cases h
def XH{C:Ctx}{call:aZ}(hc:dW C call)(hgl:∀n l,C.gl n=some l->ae 0 l=true){f:FuncId}(F:LU->AV)(h:∀s:LU,s.length<=1099511627776->call f [.str s] []=some (F s,[])):POK C f (Rj F):=by
 intro args O v O' h1 g w args' ha hw hg;unfold Rj at h1;split at h1
 ·rename_i s;split at h1
  ·rename_i hle;simp only[a05,av6]at h1;obtain⟨rfl,rfl⟩:=h1;exact oK hc hgl (by rfl) (h s (av8 hle)) ha hw hg
  ·cases h1
 ·cases h1
def agN(F:LU->LU->AV)(args:LA)(O:St):Option (AV×St):=
 match args with
 |[.str s,.str t]=>match I9 (Nat.ble s.length 1099511627000) (Nat.ble t.length 1099511627000)with
  |true=>some (F s t,O)
  |false=>none
 |_=>none
def akZ{C:Ctx}{call:aZ}(hc:dW C call)(hgl:∀n l,C.gl n=some l->ae 0 l=true){f:FuncId}(F:LU->LU->AV)(h:∀s t:LU,s.length<=1099511627000->t.length<=1099511627000->call f [.str s,.str t] []=some (F s t,[])):POK C f (agN F):=by
 intro args O v O' h1 g w args' ha hw hg;unfold agN at h1;split at h1
 ·rename_i s t;split at h1
  ·rename_i hle;rw[qi,a01]at hle;simp only[a05,av6]at h1;obtain⟨rfl,rfl⟩:=h1;exact oK hc hgl (by rfl) (h s t (av8 hle.1) (av8 hle.2)) ha hw hg
  ·cases h1
 ·cases h1
theorem apl{P:Program}{gl raw prim}{f:FuncId}{K:KF}(h1:cF P f=some K.forget)(h2:QB P f=true)(h3:K.ok=true):KOK (iy P gl raw prim) f K:=by
 refine⟨h1,?_,h3⟩;unfold QB at h2;split at h2
 ·rename_i fn hfn;exact⟨fn,hfn,by simpa using h2⟩
 ·cases h2
theorem abb{P:Program}{gl raw prim}{f:FuncId}{K:KF}(h1:cF P f=some K.forget)(h2:QB P f=true)(h3:K.ok=true)(hp:prim f=none)(hr:raw f=false):Has (iy P gl raw prim) f K:=by
 refine⟨?_,hp,hr,h3⟩;simp only[iy,h2,h1]
end
noncomputable section
abbrev MM:=FuncId->List (LA×AV)
def MOK(C:Ctx)(M:MM):Prop:=∀f,POK C f (memo (M f))
def M0:MM:=fun _=>[]
def aqr(C:Ctx):MOK C M0:=fun f=>akx
def asl(M:MM)(f:FuncId)(a:LA)(v:AV):MM:=fun g=>match Nat.beq g f with
 |true=>(a,v)::M f
 |false=>M g
def anK{C:Ctx}{M:MM}(h:MOK C M){f:FuncId}{a:LA}{v:AV}(hk:afF C f a v):MOK C (asl M f a v):=by
 intro g;unfold asl;cases hb:Nat.beq g f with
 |true=>
  have:=at7 hb;subst this;exact ai5 hk (h g)
 |false=>exact h g
def akv(l:List (LA×AV))(azs:LA)(O:St):Option (AV×St):=match l with
 |[]=>none
 |_::_=>match hand false azs O with
  |none=>none
  |some p=>match p with
   |(a,Y)=>memo l a Y
def akw{C:Ctx}{M:MM}(h:MOK C M)(f:FuncId):POK C f (akv (M f)):=by
 intro azs O v1 O' h1 g w args' ha hw hg;unfold akv at h1;split at h1
 ·cases h1
 ·rename_i hM;split at h1
  ·cases h1
  ·rename_i p hh;obtain⟨a,Y⟩:=p;obtain⟨g1,hgo,hv⟩:=pW hw false hh ha;exact(h f a Y v1 O' h1 g1 w args' hv hgo.wr (hg.mono hgo.le)).mono fun v' w' ⟨g2,hgo2,hr⟩=>⟨g2,hgo.trans hgo2,hr⟩
end
instance:Inhabited (DataW Unit):=⟨.nil⟩
def Tab(W:World)(g:Nat)(l:LA):Prop:=
 ∃c e,W.heap[g]?=some (.cells c e (0,0))/\∀(i:Nat) (a:AV),l[i]?=some a->∃v,c[i]?=some v/\∀γ:Gh,VR γ a v
def abl {P:Program} {W:World}:∀{laid:List (String×DataW Unit)} {ps:List MemPlace},DataW.LaidVars P W laid ps->∀{n:String} {d:DataW Unit},(n,d)∈laid->
  ∃g t cs fuel p,P.globalNamed n=some g/\(P.globals[g]?).map (·.type)=some t/\W.var? P n=some cs/\DataW.trod (fun _=>()) P W 0 (fun _=>true) false fuel t cs.toList=some (d,p)/\∀x∈MemPlace.row ⟨g,0,none⟩ cs.size,x∈ps
 |[],_,_,_,_,hm=>by cases hm
 |(m,d')::r,ps,h,n,d,hm=>by
  obtain⟨g,t,cs,fuel,p,q,h1,h2,h3,h4,h5,rfl⟩:=h;rcases au9.mp hm with he|hm
  ·grind
  ·obtain⟨g',t',cs',fuel',p',k1,k2,k3,k4,k5⟩:=abl h5 hm
   grind
def ad6 {P:Program} {W:World} {laid:List (String×DataW Unit)} (h:laidMet P laid W) {n:String} {t e:TypeId} {N g:Nat} {l:List (DataW Unit)} {la:LA} (hm:(n,.agg l)∈laid)
  (h1:P.globalNamed n=some g) (h2:(P.globals[g]?).map (·.type)=some t) (h3:P.underlying t=some (.array (N+1) e)) (h4:P.cellsOf e=1) (h5:P.cellsOf t=N+1) (hl:la.length=N+1)
  (hv:∀(i:Nat) (a:AV) fuel (x:Value) p d,la[i]?=some a->l[i]?=some d->DataW.trod (fun _=>()) P W 0 (fun _=>true) false fuel e [x]=some (d,p)->∀γ:Gh,VR γ a x):Tab W g la:=by
 obtain⟨ps,hL,_,hc⟩:=h;obtain⟨g',t',cs,fuel,p,k1,k2,k3,k4,k5⟩:=abl hL hm;obtain rfl:=aA9 (h1.symm.trans k1);obtain rfl:=aA9 (h2.symm.trans k2);obtain⟨xs,m,_,ex,hlen,hxl,hel⟩:=DataW.trod_array h3 k4;have el:l=xs.map (·.1):=by
  grind
 have hsz:cs.size=N+1:=by rw[<-h5,<-hlen];simp
 have h0:MemPlace.cell g 0∈ps:=k5 _ (by simp[MemPlace.row,hsz])
 obtain⟨⟨c,e',hh⟩,_⟩:=hc g 0 h0;have hcs:c=cs:=by
  grind [World.var?]
 subst hcs;refine⟨c,e',hh,fun i a ha=>?_⟩;have hi:i<N+1:=by grind
 have hE:=hel i hi;rw[h4,aw9]at hE;have hi2:i<c.size:=by omega
 have hd:((c.toList.drop i).take 1)=[c[i]]:=by
  apply aw5
  grind
 rw[hd]at hE;have hx:i<xs.length:=by omega
 rw[a02 hx]at hE;refine⟨c[i],aw0 hi2,?_⟩;exact hv i a m c[i] xs[i].2 xs[i].1 ha (by rw[el];simp[hx]) hE
def Gj {P:Program} {W:World} {laid:List (String×DataW Unit)} (h:laidMet P laid W) {n:String} {t e:TypeId} {N g:Nat} {k:IntKind} {l:List Int} (hm:(n,.agg (l.map fun i=>.lit (.int k i)))∈laid)
  (h1:P.globalNamed n=some g) (h2:(P.globals[g]?).map (·.type)=some t) (h3:P.underlying t=some (.array (N+1) e)) (h4:P.cellsOf e=1) (h5:P.cellsOf t=N+1) (hl:l.length=N+1) (h6:P.underlying e=some (.int k)):Tab W g (l.map fun i=>.int k i):=by
 refine ad6 h hm h1 h2 h3 h4 h5 (by simp[hl]) fun i a fuel x p d ha hd ht γ=>?_
 obtain⟨z,e1,e2,_⟩:=DataW.trod_int h6 ht
 grind [VR]
def ahT {P:Program} {W:World} {laid:List (String×DataW Unit)} (h:laidMet P laid W) {n:String} {t e:TypeId} {N g:Nat} {l:List LU} (hm:(n,.agg (l.map fun i=>.lit (.string i)))∈laid)
  (h1:P.globalNamed n=some g) (h2:(P.globals[g]?).map (·.type)=some t) (h3:P.underlying t=some (.array (N+1) e)) (h4:P.cellsOf e=1) (h5:P.cellsOf t=N+1) (hl:l.length=N+1) (h6:P.underlying e=some .string):Tab W g (l.map .str):=by
 refine ad6 h hm h1 h2 h3 h4 h5 (by simp[hl]) fun i a fuel x p d ha hd ht γ=>?_
 obtain⟨z,e1,e2,_⟩:=DataW.trod_string h6 ht;rw[ax5]at ha hd;cases hli:l[i]? with
 |none=>rw[hli]at ha;cases ha
 |some y=>
  rw[hli]at ha hd;simp only[au8,a05]at ha hd;subst ha hd;simp only[List.cons.injEq,and_true]at e1;simp only[av6,DataW.lit.injEq,Lit.string.injEq]at e2;rw[e1,e2.1];exact .str _
def J7{W:World}{g:Nat}{k:IntKind}{l:List Int}{la:LA}(h:Tab W g (l.map fun i=>.int k i))(e:la=l.map fun i=>.int k i):Tab W g la:=e▸h
def alN{W:World}{g:Nat}{l:List LU}{la:LA}(h:Tab W g (l.map .str))(e:la=l.map .str):Tab W g la:=e▸h
end Go.Ev
