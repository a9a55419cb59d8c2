/- An evaluator of the model, proved sound. No conditions. -/
import Derived.Test.YtpphohnabmlhpaaGreatDoorEB
import Derived.Lib.Bytealg
import Derived.LaidMore
import Derived.OpenShut
import Derived.ChangeArms
import Derived.ChangeShapes
import Derived.Carry
set_option linter.unusedVariables false
set_option linter.unusedSimpArgs false
namespace Go.Ev
def Le{α:Type}(x y:Option α):Prop:=∀a,x=some a->y=some a
theorem Le.rfl{α:Type}{x:Option α}:Le x x:=fun _ h=>h
theorem Le.trans{α:Type}{x y z:Option α}(h:Le x y)(g:Le y z):Le x z:=fun a e=>g a (h a e)
theorem Le.none{α:Type}{y:Option α}:Le Option.none y:=fun _ h=>nomatch h
theorem Le.bind{α β:Type}{x y:Option α}{f g:α->Option β}(h:Le x y)(hg:∀a,Le (f a) (g a)):Le (x.bind f) (y.bind g):=by
 intro b hb;cases x with
 |none=>cases hb
 |some a=>rw[h a (by rfl)];exact hg a b hb
theorem Le.antisymm{α:Type}{x y:Option α}(h:Le x y)(g:Le y x):x=y:=by
 cases x with
 |none=>cases y with
  |none=>rfl
  |some b=>exact(g b (by rfl)).trans (by rfl)
 |some a=>exact(h a (by rfl)).symm
open Classical in
noncomputable def lim{α:Type}(f:Nat->Option α):Option α:=
 if h:∃n,(f n).isSome then f (Classical.choose h)else none
def ap3{α:Type}(f:Nat->Option α):Prop:=∀n m,n<=m->Le (f n) (f m)
theorem QH{α:Type}{f:Nat->Option α}(hf:ap3 f){a:α}:lim f=some a↔∃n,f n=some a:=by
 unfold lim;constructor
 ·intro h;split at h
  ·exact⟨_,h⟩
  ·cases h
 ·rintro⟨n,h⟩;have he:∃n,(f n).isSome:=⟨n,by rw[h];rfl⟩
  rw[dif_pos he];have hc:=Classical.choose_spec he;obtain⟨b,hb⟩:=Option.isSome_iff_exists.mp hc;rw[hb];have h1:=hf _ _ (Nat.le_max_left n (Classical.choose he)) a h;have h2:=hf _ _ (Nat.le_max_right n (Classical.choose he)) b hb;rw[<-h2,h1]
abbrev Body:=Env->St->Option (XE×Env×St)
theorem wY{b b':Body}(h:∀e O,Le (b e O) (b' e O)):∀(n m:Nat),n<=m->∀e O,Le (mV b n e O) (mV b' m e O)
 |0,_,_,_,_=>Le.none
 |n+1,0,hn,_,_=>absurd hn (by omega)
 |n+1,m+1,hn,e,O=>by
  intro a ha;unfold mV at ha⊢;cases hb:b e O with
  |none=>rw[hb]at ha;cases ha
  |some r=>
   rw[h e O r hb];rw[hb]at ha;obtain⟨k,e',O'⟩:=r;cases k with
   |normal=>exact wY h n m (by omega) e' O' a ha
   |exit i=>exact ha
   |ret=>exact ha
noncomputable def Xd(b:Body):Body:=fun e O=>lim fun n=>mV b n e O
theorem yD{b:Body}{e O r}:Xd b e O=some r↔∃n,mV b n e O=some r:=
 QH (fun n m h=>wY (fun _ _=>Le.rfl) n m h e O)
noncomputable def kQ(C:Ctx)(call:bC):XC->Body
 |.skip,e,O=>some (.normal,e,O)
 |.ops l,e,O=>match ni C call l e O with
  |some (e',O')=>some (.normal,e',O')
  |none=>none
 |.drawn l,e,O=>match kZ C call l e O with
  |some (e',O')=>some (.normal,e',O')
  |none=>none
 |.seq a b,e,O=>match kQ C call a e O with
  |some (.normal,e',O')=>kQ C call b e' O'
  |r=>r
 |.cond c a b,e,O=>match av C e c with
  |.bool true=>kQ C call a e O
  |.bool false=>kQ C call b e O
  |_=>none
 |.block id b,e,O=>match kQ C call b e O with
  |some (.exit i,e',O')=>some (if i=id then .normal else .exit i,e',O')
  |r=>r
 |.loop b,e,O=>Xd (kQ C call b) e O
 |.exit id,e,O=>some (.exit id,e,O)
 |.ret,e,O=>some (.ret,e,O)
 |.scope b,e,O=>kQ C call b e O
 |.fail,_,_=>none
def vI(c d:bC):Prop:=∀f a O,Le (c f a O) (d f a O)
theorem Fj{C:Ctx}{c d:bC}(h:vI c d)(o:XOp)(e:Env)(O:St):Le (rE C c o e O) (rE C d o e O):=by
 intro r hr;unfold rE at hr⊢;split at hr
 ·rw[if_pos (by assumption)]
  split at hr
  ·exact hr
  ·exact h _ _ _ _ hr
  ·cases hr
 ·rw[if_neg (by assumption)];exact hr
theorem BL{C:Ctx}{c d:bC}(h:vI c d):∀(l:List XOp) (e:Env) (O:St),Le (ni C c l e O) (ni C d l e O)
 |[],_,_=>Le.rfl
 |o::l,e,O=>by
  intro r hr;unfold ni at hr⊢;cases ho:rE C c o e O with
  |none=>rw[ho]at hr;cases hr
  |some v=>
   rw[Fj h o e O v ho];rw[ho]at hr;exact BL h l _ _ r hr
theorem H6{C:Ctx}{c d:bC}(h:vI c d):∀(l:List XOp) (e:Env) (O:St),Le (qx C c l e O) (qx C d l e O)
 |[],_,_=>Le.rfl
 |o::l,e,O=>by
  intro r hr;unfold qx at hr⊢;cases ho:rE C c o e O with
  |none=>rw[ho]at hr;cases hr
  |some v=>
   rw[Fj h o e O v ho];rw[ho]at hr;dsimp only at hr⊢;cases hl:qx C c l (put e o.dst v.1) v.2 with
   |none=>rw[hl]at hr;cases hr
   |some q=>
    rw[H6 h l _ _ q hl];rw[hl]at hr;exact hr
theorem Jw{C:Ctx}{c d:bC}(h:vI c d)(l:List XOp)(e:Env)(O:St):Le (kZ C c l e O) (kZ C d l e O):=by
 intro r hr;unfold kZ at hr⊢;cases hl:qx C c l e O with
 |none=>rw[hl]at hr;cases hr
 |some q=>
  rw[H6 h l _ _ q hl];rw[hl]at hr;exact hr
theorem lU{C:Ctx}{c d:bC}(h:vI c d){n m:Nat}(hn:n<=m):∀(x:XC) (e:Env) (O:St),Le (evC C c n x e O) (evC C d m x e O)
 |.skip,_,_=>Le.rfl
 |.ops l,e,O=>by
  intro r hr;unfold evC at hr⊢;cases hl:ni C c l e O with
  |none=>rw[hl]at hr;cases hr
  |some q=>rw[BL h l _ _ q hl];rw[hl]at hr;exact hr
 |.drawn l,e,O=>by
  intro r hr;unfold evC at hr⊢;cases hl:kZ C c l e O with
  |none=>rw[hl]at hr;cases hr
  |some q=>rw[Jw h l _ _ q hl];rw[hl]at hr;exact hr
 |.seq a b,e,O=>by
  intro r hr;unfold evC at hr⊢;cases hl:evC C c n a e O with
  |none=>rw[hl]at hr;cases hr
  |some q=>
   rw[lU h hn a _ _ q hl];rw[hl]at hr;obtain⟨k,e',O'⟩:=q;cases k with
   |normal=>exact lU h hn b _ _ r hr
   |exit i=>exact hr
   |ret=>exact hr
 |.cond q a b,e,O=>by
  intro r hr;unfold evC at hr⊢;split at hr
  ·exact lU h hn a _ _ r hr
  ·exact lU h hn b _ _ r hr
  ·cases hr
 |.block id b,e,O=>by
  intro r hr;unfold evC at hr⊢;cases hl:evC C c n b e O with
  |none=>rw[hl]at hr;cases hr
  |some q=>rw[lU h hn b _ _ q hl];rw[hl]at hr;exact hr
 |.loop b,e,O=>wY (fun e O=>lU h hn b e O) n m hn e O
 |.exit _,_,_=>Le.rfl
 |.ret,_,_=>Le.rfl
 |.scope b,e,O=>lU h hn b e O
 |.fail,_,_=>Le.none
def Qn(C:Ctx)(run:XC->Body):bC:=fun f args O=>
 match C.prim f with
 |some h=>h args O
 |none=>
 match C.fs f with
 |none=>none
 |some x=>
  match hand (C.raw f) args O with
  |none=>none
  |some (args,O1)=>
   if args.length>x.ntmps then none else
   match run x.body (args++List.replicate (x.ntmps-args.length) .undef) O1 with
   |some (.exit _,_,_)=>none
   |none=>none
   |some (_,e,O2)=>
    match Og e O2 x.results with
    |none=>none
    |some vs=>match hand (C.raw f) vs O2 with
     |none=>none
     |some (vs,O3)=>some (bD vs,tidy O.length vs O3)
theorem DR(C:Ctx)(n:Nat):evF C (n+1)=Qn C (evC C (evF C n) n):=by
 funext f args O
 rfl
theorem Ui{C:Ctx}{r s:XC->Body}(h:∀x e O,Le (r x e O) (s x e O)):vI (Qn C r) (Qn C s):=by
 intro f args O a ha;unfold Qn at ha⊢;cases hp:C.prim f with
 |some q=>rw[hp]at ha;exact ha
 |none=>
  rw[hp]at ha;dsimp only at ha⊢;cases hx:C.fs f with
  |none=>rw[hx]at ha;cases ha
  |some x=>
   rw[hx]at ha;dsimp only at ha⊢;cases hh:hand (C.raw f) args O with
   |none=>rw[hh]at ha;cases ha
   |some q=>
    rw[hh]at ha;dsimp only at ha⊢;split at ha
    ·cases ha
    ·rw[if_neg (by assumption)]
     cases hr:r x.body (q.1++List.replicate (x.ntmps-q.1.length) .undef) q.2 with
     |none=>rw[hr]at ha;cases ha
     |some t=>rw[h _ _ _ t hr];rw[hr]at ha;exact ha
theorem P5{C:Ctx}:∀(n m:Nat),n<=m->vI (evF C n) (evF C m)
 |0,_,_=>fun _ _ _=>Le.none
 |n+1,0,h=>absurd h (by omega)
 |n+1,m+1,h=>by
  rw[DR,DR];exact Ui fun x e O=>lU (P5 n m (by omega)) (by omega) x e O
noncomputable def ai(C:Ctx):bC:=fun f args O=>lim fun n=>evF C n f args O
theorem Be{C:Ctx}{f args O r}:ai C f args O=some r↔∃n,evF C n f args O=some r:=
 QH (fun n m h=>P5 n m h f args O)
theorem zL{C:Ctx}{c d:bC}(h:vI c d){n:Nat}:∀(x:XC) (e:Env) (O:St),Le (evC C c n x e O) (kQ C d x e O)
 |.skip,_,_=>Le.rfl
 |.ops l,e,O=>by
  intro r hr;unfold evC at hr;unfold kQ;cases hl:ni C c l e O with
  |none=>rw[hl]at hr;cases hr
  |some q=>rw[BL h l _ _ q hl];rw[hl]at hr;exact hr
 |.drawn l,e,O=>by
  intro r hr;unfold evC at hr;unfold kQ;cases hl:kZ C c l e O with
  |none=>rw[hl]at hr;cases hr
  |some q=>rw[Jw h l _ _ q hl];rw[hl]at hr;exact hr
 |.seq a b,e,O=>by
  intro r hr;unfold evC at hr;unfold kQ;cases hl:evC C c n a e O with
  |none=>rw[hl]at hr;cases hr
  |some q=>
   rw[zL h a _ _ q hl];rw[hl]at hr;obtain⟨k,e',O'⟩:=q;cases k with
   |normal=>exact zL h b _ _ r hr
   |exit i=>exact hr
   |ret=>exact hr
 |.cond q a b,e,O=>by
  intro r hr;unfold evC at hr;unfold kQ;split at hr
  ·rename_i hq;rw[hq];exact zL h a _ _ r hr
  ·rename_i hq;rw[hq];exact zL h b _ _ r hr
  ·cases hr
 |.block id b,e,O=>by
  intro r hr;unfold evC at hr;unfold kQ;cases hl:evC C c n b e O with
  |none=>rw[hl]at hr;cases hr
  |some q=>rw[zL h b _ _ q hl];rw[hl]at hr;exact hr
 |.loop b,e,O=>by
  intro r hr;unfold evC at hr;unfold kQ;exact yD.mpr ⟨n,wY (fun e O=>zL h b e O) n n (Nat.le_refl n) e O r hr⟩
 |.exit _,_,_=>Le.rfl
 |.ret,_,_=>Le.rfl
 |.scope b,e,O=>by
  intro r hr;unfold evC at hr;unfold kQ;exact zL h b e O r hr
 |.fail,_,_=>Le.none
section
variable {C:Ctx} {cs:Nat->bC} {L:bC}
  (hm:∀n m,n<=m->vI (cs n) (cs m)) (hL:∀f a O r,L f a O=some r->∃k,cs k f a O=some r)
 include hL in
theorem ag5 {o e O r} (h:rE C L o e O=some r):∃k,rE C (cs k) o e O=some r:=by
  unfold rE at h⊢;split at h
  ·rename_i hw;simp only[if_pos hw];cases hi:evI C e O o.i with
   |none=>rw[hi]at h;cases h
   |some out=>
    rw[hi]at h;cases out with
    |val v O'=>exact⟨0,h⟩
    |call f args O'=>exact hL _ _ _ _ h
  ·rename_i hw;simp only[if_neg hw];exact⟨0,h⟩
 include hm hL
theorem acn:∀{l e O r},ni C L l e O=some r->∃k,ni C (cs k) l e O=some r
 |[],_,_,_,h=>⟨0,h⟩
 |o::l,e,O,r,h=>by
  unfold ni at h;cases ho:rE C L o e O with
  |none=>rw[ho]at h;cases h
  |some q=>
   rw[ho]at h;obtain⟨k,hk⟩:=ag5 hL ho;obtain⟨j,hj⟩:=acn h;refine⟨max k j,?_⟩;unfold ni;rw[Fj (hm k _ (Nat.le_max_left k j)) o e O q hk];exact BL (hm j _ (Nat.le_max_right k j)) l _ _ r hj
theorem aco:∀{l e O r},qx C L l e O=some r->∃k,qx C (cs k) l e O=some r
 |[],_,_,_,h=>⟨0,h⟩
 |o::l,e,O,r,h=>by
  unfold qx at h;cases ho:rE C L o e O with
  |none=>rw[ho]at h;cases h
  |some q=>
   rw[ho]at h;dsimp only at h;cases hl:qx C L l (put e o.dst q.1) q.2 with
   |none=>rw[hl]at h;cases h
   |some t=>
    obtain⟨k,hk⟩:=ag5 hL ho;obtain⟨j,hj⟩:=aco hl;refine⟨max k j,?_⟩;unfold qx;rw[Fj (hm k _ (Nat.le_max_left k j)) o e O q hk];dsimp only;rw[H6 (hm j _ (Nat.le_max_right k j)) l _ _ t hj];rw[hl]at h;exact h
theorem JG:∀(x:XC) {e O r},kQ C L x e O=some r->∃k,evC C (cs k) k x e O=some r
 |.skip,_,_,_,h=>⟨0,h⟩
 |.ops l,e,O,r,h=>by
  unfold kQ at h;cases hl:ni C L l e O with
  |none=>rw[hl]at h;cases h
  |some q=>
   obtain⟨k,hk⟩:=acn hm hL hl;exact⟨k,by unfold evC;rw[hk];rw[hl]at h;exact h⟩
 |.drawn l,e,O,r,h=>by
  unfold kQ kZ at h;cases hl:qx C L l e O with
  |none=>rw[hl]at h;cases h
  |some q=>
   obtain⟨k,hk⟩:=aco hm hL hl;exact⟨k,by unfold evC kZ;rw[hk];rw[hl]at h;exact h⟩
 |.seq a b,e,O,r,h=>by
  unfold kQ at h;cases hl:kQ C L a e O with
  |none=>rw[hl]at h;cases h
  |some q=>
   rw[hl]at h;obtain⟨k,hk⟩:=JG a hl;obtain⟨x,e',O'⟩:=q;cases x with
   |normal=>
    obtain⟨j,hj⟩:=JG b h;refine⟨max k j,?_⟩;unfold evC;rw[lU (hm k _ (Nat.le_max_left k j)) (Nat.le_max_left k j) a e O _ hk];exact lU (hm j _ (Nat.le_max_right k j)) (Nat.le_max_right k j) b _ _ r hj
   |exit i=>exact⟨k,by unfold evC;rw[hk];exact h⟩
   |ret=>exact⟨k,by unfold evC;rw[hk];exact h⟩
 |.cond q a b,e,O,r,h=>by
  unfold kQ at h;split at h
  ·rename_i hq;obtain⟨k,hk⟩:=JG a h;exact⟨k,by unfold evC;rw[hq];exact hk⟩
  ·rename_i hq;obtain⟨k,hk⟩:=JG b h;exact⟨k,by unfold evC;rw[hq];exact hk⟩
  ·cases h
 |.block id b,e,O,r,h=>by
  unfold kQ at h;cases hl:kQ C L b e O with
  |none=>rw[hl]at h;cases h
  |some q=>
   obtain⟨k,hk⟩:=JG b hl;exact⟨k,by unfold evC;rw[hk];rw[hl]at h;exact h⟩
 |.loop b,e,O,r,h=>by
  unfold kQ at h;obtain⟨n,hn⟩:=yD.mp h;have:∀(n:Nat) (e:Env) (O:St) (r:XE×Env×St),mV (kQ C L b) n e O=some r->∃k,evC C (cs k) k (.loop b) e O=some r:=by
   intro n
   induction n with
   |zero=>intro e O r h;cases h
   |succ n ih=>
    intro e O r h;unfold mV at h;cases hb:kQ C L b e O with
    |none=>rw[hb]at h;cases h
    |some q=>
     rw[hb]at h;obtain⟨k,hk⟩:=JG b hb;obtain⟨x,e',O'⟩:=q;cases x with
     |normal=>
      obtain⟨j,hj⟩:=ih _ _ _ h;refine⟨max k j+1,?_⟩;unfold evC at hj⊢;unfold mV;rw[lU (hm k _ (by omega)) (by omega:k<=max k j+1) b e O _ hk]
      exact wY (fun e O=>lU (hm j _ (by omega)) (by omega:j<=max k j+1) b e O) j (max k j) (by omega) _ _ r hj
     |exit i=>
      refine⟨k+1,?_⟩;unfold evC mV;rw[lU (hm k _ (by omega)) (by omega:k<=k+1) b e O _ hk]
      exact h
     |ret=>
      refine⟨k+1,?_⟩;unfold evC mV;rw[lU (hm k _ (by omega)) (by omega:k<=k+1) b e O _ hk]
      exact h
  exact this n e O r hn
 |.exit _,_,_,_,h=>⟨0,h⟩
 |.ret,_,_,_,h=>⟨0,h⟩
 |.scope b,e,O,r,h=>by
  unfold kQ at h;obtain⟨k,hk⟩:=JG b h;exact⟨k,by unfold evC;exact hk⟩
 |.fail,_,_,_,h=>by unfold kQ at h;cases h
end
theorem Xc(C:Ctx):ai C=Qn C (kQ C (ai C)):=by
 funext f args O
 refine Le.antisymm ?_ ?_
 ·intro a h;obtain⟨n,h⟩:=Be.mp h;cases n with
  |zero=>cases h
  |succ n=>
   rw[DR]at h;exact Ui (fun x e O=>zL (fun f a O r h=>Be.mpr ⟨n,h⟩) x e O) f args O a h
 ·intro a h;have hm:∀n m,n<=m->vI (evF C n) (evF C m):=P5;have hL:∀f a O r,ai C f a O=some r->∃k,evF C k f a O=some r:=fun f a O r h=>Be.mp h;refine Be.mpr ?_;unfold Qn at h;cases hp:C.prim f with
  |some q=>rw[hp]at h;exact⟨1,by rw[DR];unfold Qn;rw[hp];exact h⟩
  |none=>
   rw[hp]at h;dsimp only at h;cases hx:C.fs f with
   |none=>rw[hx]at h;cases h
   |some x=>
    rw[hx]at h;dsimp only at h;cases hh:hand (C.raw f) args O with
    |none=>rw[hh]at h;cases h
    |some q=>
     rw[hh]at h;dsimp only at h;split at h
     ·cases h
     ·rename_i hlen;cases hr:kQ C (ai C) x.body (q.1++List.replicate (x.ntmps-q.1.length) .undef) q.2 with
      |none=>rw[hr]at h;cases h
      |some t=>
       obtain⟨k,hk⟩:=JG hm hL x.body hr;refine⟨k+1,?_⟩;rw[DR];unfold Qn;rw[hp,hx];dsimp only;rw[hh];dsimp only;rw[if_neg hlen,hk];rw[hr]at h;exact h
theorem F8{C:Ctx}(hm:C.P.follows .mixedOrders=true)(hfs:ZW C)(hprim:Ht C):fK C (ai C):=by
 intro f args O v O' h;obtain⟨n,h⟩:=Be.mp h;exact DT hm hfs hprim n f args O v O' h
inductive KC where
 |skip
 |ops (l:List XOp)
 |plain (l:List XOp)
 |drawn (l:List XOp)
 |seq (a b:KC)
 |cond (c:XA) (a b:KC)
 |block (id:Nat) (b:KC)
 |loop (keep:List Nat) (b:KC)
 |exit (keep:List Nat) (id:Nat)
 |ret (keep:List Nat)
 |scope (b:KC)
 |fail
def KC.forget:KC->XC
 |.skip=>.skip
 |.ops l=>.ops l
 |.plain l=>.drawn l
 |.drawn l=>.drawn l
 |.seq a b=>.seq a.forget b.forget
 |.cond c a b=>.cond c a.forget b.forget
 |.block id b=>.block id b.forget
 |.loop _ b=>.loop b.forget
 |.exit _ id=>.exit id
 |.ret _=>.ret
 |.scope b=>.scope b.forget
 |.fail=>.fail
structure KF where
 nargs:Nat
 ntmps:Nat
 results:List XR
 body:KC
def KF.forget(k:KF):XF:=⟨k.nargs,k.ntmps,k.results,k.body.forget⟩
theorem anH(C:Ctx)(e:Env)(O:St)(i:XI):evI C e O i=aj C (av C e) e.length O i:=rfl
abbrev As:=List (Nat×AV)
def look:As->Nat->AV
 |[],_=>.undef
 |(k,v)::A,t=>if k=t then v else look A t
def avA(C:Ctx)(A:As):XA->AV
 |.t n=>look A n
 |.c v=>v
 |.g n=>.eptr ((C.gl n).getD [])
def mQ(b:Bool):AV->Bool
 |.bool c=>c==b
 |_=>false
def jc(o:XOp)(A:As):Bool:=
 match o.guard with
 |none=>true
 |some (t,b)=>mQ b (look A t)
def xy(A:As)(d:Option Nat)(v:AV):As:=
 match d with
 |some d=>(d,v)::A
 |none=>A
def keepA(k:List Nat)(A:As):As:=k.map fun t=>(t,look A t)
def lV(C:Ctx)(call:bC)(n:Nat)(o:XOp)(A:As)(O:St):Option (AV×St):=
 if jc o A then
  match aj C (avA C A) n O o.i with
  |some (.val v O')=>some (v,O')
  |some (.call f args O')=>call f args O'
  |none=>none
 else some (.undef,O)
def dm(C:Ctx)(call:bC)(n:Nat):List XOp->As->St->Option (As×St)
 |[],A,O=>some (A,O)
 |o::l,A,O=>match lV C call n o A O with
  |some (v,O')=>dm C call n l (xy A o.dst v) O'
  |none=>none
def kV(C:Ctx)(call:bC)(n:Nat):List XOp->As->St->Option (As×St×List (As×AV)×List St)
 |[],A,O=>some (A,O,[],[O])
 |o::l,A,O=>match lV C call n o A O with
  |some (v,O')=>match kV C call n l (xy A o.dst v) O' with
   |some (A',O'',rs,ss)=>some (A',O'',(A,v)::rs,O::ss)
   |none=>none
  |none=>none
def iy(C:Ctx)(n:Nat)(o:XOp)(A:As)(v:AV)(ss:List St):List Nat->Bool
 |[]=>true
 |c::l=>(match ss[c]?,ss[c+1]? with
  |some s,some s'=>(match aj C (avA C A) n s o.i,aj C (avA C A) n s' o.i with
   |some (.val v1 _),some (.val v2 _)=>same v1 v&&same v2 v
   |_,_=>false)
  |_,_=>false)&&iy C n o A v ss l
def dK(C:Ctx)(n:Nat)(ss:List St):List XOp->List (As×AV)->Bool
 |o::l,(A,v)::rs=>(!jc o A||iy C n o A v ss o.loose)&&dK C n ss l rs
 |_,_=>true
def uM(C:Ctx)(call:bC)(n:Nat)(l:List XOp)(A:As)(O:St):Option (As×St):=
 match kV C call n l A O with
 |some (A',O',rs,ss)=>if dK C n ss l rs then some (A',O')else none
 |none=>none
abbrev Gs:=As->St->Option (XE×As×St)
def loopA(b:Gs):Nat->As->St->Option (XE×As×St)
 |0,_,_=>none
 |n+1,e,O=>match b e O with
  |some (.normal,e',O')=>loopA b n e' O'
  |r=>r
theorem QK{b:Gs}:∀(n m:Nat),n<=m->∀e O,Le (loopA b n e O) (loopA b m e O)
 |0,_,_,_,_=>Le.none
 |n+1,0,hn,_,_=>absurd hn (by omega)
 |n+1,m+1,hn,e,O=>by
  intro a ha;unfold loopA at ha⊢;cases hb:b e O with
  |none=>rw[hb]at ha;cases ha
  |some r=>
   rw[hb]at ha;obtain⟨k,e',O'⟩:=r;cases k with
   |normal=>exact QK n m (by omega) e' O' a ha
   |exit i=>exact ha
   |ret=>exact ha
noncomputable def su(b:Gs):Gs:=fun e O=>lim fun n=>loopA b n e O
theorem mY{b:Gs}{e O r}:su b e O=some r↔∃n,loopA b n e O=some r:=
 QH (fun n m h=>QK n m h e O)
theorem xG (b:Gs) (e:As) (O:St):su b e O=
  match b e O with
  |some (.normal,e',O')=>su b e' O'
  |r=>r:=by
 refine Le.antisymm ?_ ?_
 ·intro a h;obtain⟨n,h⟩:=mY.mp h;cases n with
  |zero=>cases h
  |succ n=>
   unfold loopA at h;cases hb:b e O with
   |none=>rw[hb]at h;cases h
   |some r=>
    rw[hb]at h;obtain⟨k,e',O'⟩:=r;cases k with
    |normal=>exact mY.mpr ⟨n,h⟩
    |exit i=>exact h
    |ret=>exact h
 ·intro a h;refine mY.mpr ?_;cases hb:b e O with
  |none=>rw[hb]at h;cases h
  |some r=>
   rw[hb]at h;obtain⟨k,e',O'⟩:=r;cases k with
   |normal=>
    obtain⟨n,h⟩:=mY.mp h;exact⟨n+1,by unfold loopA;rw[hb];exact h⟩
   |exit i=>exact⟨1,by unfold loopA;rw[hb];exact h⟩
   |ret=>exact⟨1,by unfold loopA;rw[hb];exact h⟩
noncomputable def dI(C:Ctx)(call:bC)(n:Nat):KC->Gs
 |.skip,e,O=>some (.normal,e,O)
 |.ops l,e,O|.plain l,e,O=>match dm C call n l e O with
  |some (e',O')=>some (.normal,e',O')
  |none=>none
 |.drawn l,e,O=>match uM C call n l e O with
  |some (e',O')=>some (.normal,e',O')
  |none=>none
 |.seq a b,e,O=>match dI C call n a e O with
  |some (.normal,e',O')=>dI C call n b e' O'
  |r=>r
 |.cond c a b,e,O=>match avA C e c with
  |.bool true=>dI C call n a e O
  |.bool false=>dI C call n b e O
  |_=>none
 |.block id b,e,O=>match dI C call n b e O with
  |some (.exit i,e',O')=>some (if i=id then .normal else .exit i,e',O')
  |r=>r
 |.loop m b,e,O=>su (fun e O=>dI C call n b (keepA m e) O) e O
 |.exit m id,e,O=>some (.exit id,keepA m e,O)
 |.ret m,e,O=>some (.ret,keepA m e,O)
 |.scope b,e,O=>dI C call n b e O
 |.fail,_,_=>none
def bit(t:Nat):Nat:=1<<<t
def bits:List Nat->Nat
 |[]=>0
 |t::l=>bit t|||bits l
def without(m:Nat):Option Nat->Nat
 |none=>m
 |some d=>(m|||bit d)^^^bit d
def zW:List XOp->Nat->Nat
 |[],N=>N
 |o::l,N=>bits o.reads|||without (zW l N) o.dst
def FQ(l:List XOp):Bool:=l.all fun o=>o.loose.isEmpty
def afW(n:Nat):Option Nat->Bool
 |none=>true
 |some d=>decide (d<n)
def aam(n:Nat)(l:List XOp):Bool:=l.all fun o=>afW n o.dst
def live(n R:Nat):KC->Nat->(Nat->Nat)->Option Nat
 |.skip,N,_=>some N
 |.ops l,N,_=>if aam n l then some (zW l N)else none
 |.plain l,N,_=>if aam n l&&FQ l then some (zW l N)else none
 |.drawn l,N,_=>if aam n l then some (zW l N)else none
 |.seq a b,N,X=>match live n R b N X with
  |some M=>live n R a M X
  |none=>none
 |.cond c a b,N,X=>match live n R a N X,live n R b N X with
  |some A,some B=>some (bits c.reads|||(A|||B))
  |_,_=>none
 |.block id b,N,X=>live n R b N fun i=>if i=id then N else X i
 |.loop k b,_,X=>match live n R b (bits k) X with
  |some A=>if A|||bits k=bits k then some (bits k)else none
  |none=>none
 |.exit k id,_,X=>if X id|||bits k=bits k then some (bits k)else none
 |.ret k,_,_=>if R|||bits k=bits k then some (bits k)else none
 |.scope b,N,X=>live n R b N X
 |.fail,_,_=>some 0
def yC:List XR->Nat
 |[]=>0
 |.tmp t::l=>bit t|||yC l
 |.cell t _ _::l=>bit t|||yC l
def KF.ok(k:KF):Bool:=(live k.ntmps (yC k.results) k.body (yC k.results) fun _=>yC k.results).isSome
structure Ag(n m:Nat)(e:Env)(A:As):Prop where
 len:e.length=n
 at':∀t,m.testBit t=true->e.getD t .undef=look A t
theorem Ag.left{n m k:Nat}{e A}(h:Ag n (m|||k) e A):Ag n m e A:=⟨h.len,fun t ht=>h.at' t (by rw[Nat.testBit_or,ht];rfl)⟩
theorem Ag.right{n m k:Nat}{e A}(h:Ag n (m|||k) e A):Ag n k e A:=⟨h.len,fun t ht=>h.at' t (by rw[Nat.testBit_or,ht,Bool.or_true])⟩
theorem xH(d t:Nat):(bit d).testBit t=decide (d=t):=by
 unfold bit;rw[Nat.one_shiftLeft,Nat.testBit_two_pow]
theorem YV:∀(l:List Nat) (t:Nat),t∈l->(bits l).testBit t=true
 |a::l,t,h=>by
  unfold bits;rw[Nat.testBit_or,xH];rcases List.mem_cons.mp h with h|h
  ·subst h;simp
  ·rw[YV l t h,Bool.or_true]
theorem XT:∀(l:List Nat) (t:Nat),(bits l).testBit t=true->t∈l
 |[],t,h=>by unfold bits at h;simp at h
 |a::l,t,h=>by
  unfold bits at h;rw[Nat.testBit_or,xH,Bool.or_eq_true]at h;rcases h with h|h
  ·exact List.mem_cons.mpr (Or.inl (Eq.symm (by simpa using h)))
  ·exact List.mem_cons_of_mem _ (XT l t h)
def AgL(l:List Nat)(e:Env)(A:As):Prop:=∀t∈l,e.getD t .undef=look A t
theorem Ag.agree{n:Nat}{l:List Nat}{e A}(h:Ag n (bits l) e A):AgL l e A:=fun t ht=>h.at' t (YV l t ht)
theorem Oi(m d t:Nat):(without m (some d)).testBit t=(m.testBit t&& !decide (d=t)):=by
 unfold without;rw[Nat.testBit_xor,Nat.testBit_or,xH];cases m.testBit t<;>cases decide (d=t)<;>rfl
theorem agd(e:Env)(d t:Nat)(v:AV):(e.set d v).getD t .undef=if d=t/\t<e.length then v else e.getD t .undef:=by
 simp only[List.getD_eq_getElem?_getD,List.getElem?_set];by_cases h:d=t
 ·subst h;by_cases h':d<e.length
  ·simp[h']
  ·simp[h']
 ·simp[h]
theorem Ag.put{n m:Nat}{d:Option Nat}{e A}(h:Ag n (without m d) e A)(hd:afW n d=true)(v:AV):Ag n m (put e d v) (xy A d v):=by
 refine⟨by rw[tK,h.len],?_⟩
 intro t ht;cases d with
 |none=>exact h.at' t ht
 |some d=>
  have hd:d<n:=by simpa[afW]using hd
  unfold Go.Ev.put xy;dsimp only;rw[agd,h.len];unfold look;by_cases hdt:d=t
  ·rw[if_pos ⟨hdt,by omega⟩,if_pos hdt]
  ·rw[if_neg (fun h=>hdt h.1),if_neg hdt];exact h.at' t (by rw[Oi,ht];simp[hdt])
theorem FO:∀(k:List Nat) (A:As) (t:Nat),t∈k->look (keepA k A) t=look A t
 |a::k,A,t,h=>by
  show(if a=t then look A a else look (keepA k A) t)=_;by_cases hat:a=t
  ·rw[if_pos hat,hat]
  ·rw[if_neg hat];exact FO k A t ((List.mem_cons.mp h).resolve_left fun h=>hat h.symm)
theorem Ag.keep{n:Nat}{k:List Nat}{e A}(h:Ag n (bits k) e A):Ag n (bits k) e (keepA k A):=
 ⟨h.len,fun t ht=>by rw[FO k A t (XT k t ht),h.at' t ht]⟩
theorem anv{C:Ctx}{e:Env}{A:As}(x:XA)(h:AgL x.reads e A):av C e x=avA C A x:=by
 cases x with
 |t n=>exact h n (List.mem_singleton.mpr rfl)
 |c v=>rfl
 |g n=>rfl
section
variable{a a':XA->AV}
def AgX(l:List Nat)(a a':XA->AV):Prop:=∀x:XA,(∀t∈x.reads,t∈l)->a x=a' x
theorem AgX.sub{l k:List Nat}(h:AgX l a a')(hk:∀t∈k,t∈l):AgX k a a':=fun x hx=>h x fun t ht=>hk t (hx t ht)
theorem TJ:∀(l:List XA),AgX (qQ l) a a'->l.map a=l.map a'
 |[],_=>rfl
 |x::l,h=>by
  simp only[List.map_cons];rw[h x (fun t ht=>by simp[qQ,ht]),TJ l (h.sub fun t ht=>by simp[qQ,ht])]
theorem TF(x:Option XA)(h:AgX (Iy x) a a'):x.map a=x.map a':=by
 cases x with
 |none=>rfl
 |some x=>simp only[Option.map_some];rw[h x (fun t ht=>ht)]
theorem akH:∀(l:List (Nat×Nat×XA)),AgX (Eu l) a a'->(l.map fun(o,s,x)=>(o,s,a x))=(l.map fun(o,s,x)=>(o,s,a' x))
 |[],_=>rfl
 |(o,s,x)::l,h=>by
  simp only[List.map_cons];rw[h x (fun t ht=>by simp[Eu,ht]),akH l (h.sub fun t ht=>by simp[Eu,ht])]
theorem aaq(C:Ctx)(n:Nat)(O:St)(xi:XI)(h:AgX xi.reads a a'):aj C a n O xi=aj C a' n O xi:=by
 have mem:∀{x:XA},(∀t∈x.reads,t∈xi.reads)->a x=a' x:=fun{x} hx=>h x hx;cases xi<;>simp only[XI.reads]at h mem<;>simp only[aj]<;>first
  |rfl
  |(rw[mem (fun t ht=>ht)])
  |(rename_i a b;rw[mem (x:=a) (fun t ht=>by simp[ht]),mem (x:=b) (fun t ht=>by simp[ht])])
  |(rename_i a b c;rw[mem (x:=a) (fun t ht=>by simp[ht]),mem (x:=b) (fun t ht=>by simp[ht]),mem (x:=c) (fun t ht=>by simp[ht])])
  |(rw[akH _ h])
  |skip
 case mkFunc fn x y=>rw[TJ x (h.sub fun t ht=>by simp[ht]),TJ y (h.sub fun t ht=>by simp[ht])]
 case sliceStr x a b=>rw[mem (x:=x) (fun t ht=>by simp[ht]),TF a (h.sub fun t ht=>by simp[ht]),TF b (h.sub fun t ht=>by simp[ht])]
 case sliceSl sz x a b c=>rw[mem (x:=x) (fun t ht=>by simp[ht]),TF a (h.sub fun t ht=>by simp[ht]),TF b (h.sub fun t ht=>by simp[ht])]
 case sliceArr n sz x a b c=>rw[mem (x:=x) (fun t ht=>by simp[ht]),TF a (h.sub fun t ht=>by simp[ht]),TF b (h.sub fun t ht=>by simp[ht])]
 case lookup z m k ok=>rw[mem (x:=m) (fun t ht=>by simp[ht]),mem (x:=k) (fun t ht=>by simp[ht])]
 all_goals first
  |(rw[TJ _ h])
  |(rename_i f l;rw[mem (x:=f) (fun t ht=>by simp[ht]),TJ l (h.sub fun t ht=>by simp[ht])])
  |(rename_i f m l;rw[mem (x:=f) (fun t ht=>by simp[ht]),TJ l (h.sub fun t ht=>by simp[ht])])
  |(rename_i q;rw[mem (x:=q) (fun t ht=>by simp[ht])])
end
theorem Ag.wanted{n:Nat}{o:XOp}{e A}(h:Ag n (bits o.reads) e A):jG o e=jc o A:=by
 unfold jG jc;cases hg:o.guard with
 |none=>rfl
 |some q=>
  obtain⟨t,b⟩:=q;dsimp only;have ht:=h.agree t (by unfold XOp.reads;rw[hg];simp)
  rw[<-ht,List.getD_eq_getElem?_getD];unfold mQ;cases e[t]? with
  |none=>rfl
  |some v=>cases v<;>rfl
theorem Ag.evI{C:Ctx}{n:Nat}{o:XOp}{e A}(h:Ag n (bits o.reads) e A)(O:St):Go.Ev.evI C e O o.i=aj C (avA C A) n O o.i:=by
 rw[anH,h.len];exact aaq C n O o.i fun x hx=>anv x fun t ht=>h.agree t (by unfold XOp.reads;exact List.mem_append_left _ (hx t ht))
theorem Ag.op{C:Ctx}{call:bC}{n:Nat}{o:XOp}{e A}(h:Ag n (bits o.reads) e A)(O:St):rE C call o e O=lV C call n o A O:=by
 unfold rE lV;rw[h.wanted,h.evI];cases aj C (avA C A) n O o.i with
 |none=>rfl
 |some x=>cases x<;>rfl
def Rel(n:Nat)(N:XE->Nat):Option (XE×Env×St)->Option (XE×As×St)->Prop
 |none,none=>True
 |some (k,e,O),some (k',e',O')=>k=k'/\O=O'/\Ag n (N k) e e'
 |_,_=>False
theorem WF {C:Ctx} {call:bC} {n N:Nat}:∀(l:List XOp) (e:Env) (A:As) (O:St),aam n l=true->Ag n (zW l N) e A->
  match ni C call l e O,dm C call n l A O with
  |some (f,Y),some (f',Y')=>Y=Y'/\Ag n N f f'
  |none,none=>True
  |_,_=>False
 |[],e,A,O,_,h=>⟨rfl,h⟩
 |o::l,e,A,O,hd,h=>by
  unfold aam at hd;rw[List.all_cons,Bool.and_eq_true]at hd;unfold ni dm;rw[Ag.op h.left O];cases lV C call n o A O with
  |none=>trivial
  |some q=>exact WF l _ _ q.2 hd.2 (h.right.put hd.1 q.1)
theorem NL{C:Ctx}{n:Nat}{o:XOp}{e A}(h:Ag n (bits o.reads) e A)(v:AV)(ss:List St):∀l,CJ C o e v ss l=iy C n o A v ss l
 |[]=>rfl
 |c::l=>by
  unfold CJ iy;rw[NL h v ss l];simp only[h.evI,aj];cases ss[c]? with
  |none=>rfl
  |some s=>cases ss[c+1]? with
   |none=>rfl
   |some s'=>
    dsimp only;cases aj C (avA C A) n s o.i with
    |none=>rfl
    |some x=>cases aj C (avA C A) n s' o.i with
     |none=>cases x<;>rfl
     |some y=>cases x<;>cases y<;>rfl
theorem adi {C:Ctx} {call:bC} {n N:Nat}:∀(l:List XOp) (e:Env) (A:As) (O:St),aam n l=true->Ag n (zW l N) e A->
  match qx C call l e O,kV C call n l A O with
  |some (f,Y,rs,ss),some (f',Y',rs',ss')=>Y=Y'/\ss=ss'/\Ag n N f f'/\∀zs,rY C zs l rs=dK C n zs l rs'
  |none,none=>True
  |_,_=>False
 |[],e,A,O,_,h=>⟨rfl,rfl,h,fun _=>rfl⟩
 |o::l,e,A,O,hd,h=>by
  unfold aam at hd;rw[List.all_cons,Bool.and_eq_true]at hd;unfold qx kV;rw[Ag.op h.left O];cases lV C call n o A O with
  |none=>trivial
  |some q=>
   dsimp only;have:=adi (C:=C) (call:=call) (N:=N) l _ _ q.2 hd.2 (h.right.put hd.1 q.1);revert this;cases qx C call l (put e o.dst q.1) q.2 with
   |none=>cases kV C call n l (xy A o.dst q.1) q.2 with
    |none=>intro _;trivial
    |some r=>intro h;exact h.elim
   |some r=>cases kV C call n l (xy A o.dst q.1) q.2 with
    |none=>intro h;exact h.elim
    |some r'=>
     obtain⟨f,Y,rs,ss⟩:=r;obtain⟨f',Y',rs',ss'⟩:=r';rintro⟨h1,h2,h3,h4⟩;refine⟨h1,by rw[h2],h3,?_⟩
     intro zs;unfold rY dK;rw[h4,h.left.wanted,NL h.left]
theorem GZ{C:Ctx}{zs:List St}:∀(l:List XOp) (rs:List (Env×AV)),FQ l=true->rY C zs l rs=true
 |[],_,_=>by unfold rY;rfl
 |_::_,[],_=>by unfold rY;rfl
 |o::l,(e,v)::rs,h=>by
  unfold FQ at h;rw[List.all_cons,Bool.and_eq_true]at h;unfold rY;rw[GZ l rs h.2];have:o.loose=[]:=by simpa using h.1
  rw[this];unfold CJ;simp
theorem adh{C:Ctx}{call:bC}:∀(l:List XOp) (e:Env) (O:St),(qx C call l e O).map (fun r=>(r.1,r.2.1))=ni C call l e O
 |[],_,_=>rfl
 |o::l,e,O=>by
  unfold qx ni;cases rE C call o e O with
  |none=>rfl
  |some q=>
   dsimp only;rw[<-adh l];cases qx C call l (put e o.dst q.1) q.2<;>rfl
theorem X7{C:Ctx}{call:bC}{l:List XOp}(h:FQ l=true)(e:Env)(O:St):kZ C call l e O=ni C call l e O:=by
 unfold kZ;rw[<-adh];cases qx C call l e O with
 |none=>rfl
 |some r=>
  obtain⟨a,b,c,d⟩:=r;dsimp only;rw[GZ l c h];rfl
def outs(N R:Nat)(X:Nat->Nat):XE->Nat
 |.normal=>N
 |.exit i=>X i
 |.ret=>R
theorem uV{C:Ctx}{call:bC}{n R:Nat}:∀(k:KC) (N M:Nat) (X:Nat->Nat),live n R k N X=some M->∀(e:Env) (e':As) (O:St),Ag n M e e'->Rel n (outs N R X) (kQ C call k.forget e O) (dI C call n k e' O)
 |.skip,N,M,X,h,e,e',O,ha=>by cases h;exact⟨rfl,rfl,ha⟩
 |.ops l,N,M,X,h,e,e',O,ha=>by
  unfold live at h;split at h
  ·rename_i hd;cases h;unfold KC.forget kQ dI;have:=WF (C:=C) (call:=call) l e e' O hd ha;revert this;cases ni C call l e O<;>cases dm C call n l e' O
   ·intro _;trivial
   ·intro h;exact h.elim
   ·intro h;exact h.elim
   ·rintro⟨h1,h2⟩;exact⟨rfl,h1,h2⟩
  ·cases h
 |.plain l,N,M,X,h,e,e',O,ha=>by
  unfold live at h;split at h
  ·rename_i hl;cases h;rw[Bool.and_eq_true]at hl;unfold KC.forget kQ dI;rw[X7 hl.2];have:=WF (C:=C) (call:=call) l e e' O hl.1 ha;revert this;cases ni C call l e O<;>cases dm C call n l e' O
   ·intro _;trivial
   ·intro h;exact h.elim
   ·intro h;exact h.elim
   ·rintro⟨h1,h2⟩;exact⟨rfl,h1,h2⟩
  ·cases h
 |.drawn l,N,M,X,h,e,e',O,ha=>by
  unfold live at h;split at h
  case isFalse=>cases h
  rename_i hd;cases h;unfold KC.forget kQ dI kZ uM;have:=adi (C:=C) (call:=call) l e e' O hd ha;revert this;cases qx C call l e O<;>cases kV C call n l e' O
  ·intro _;trivial
  ·intro h;exact h.elim
  ·intro h;exact h.elim
  ·rename_i r r';obtain⟨f,Y,rs,ss⟩:=r;obtain⟨f',Y',rs',ss'⟩:=r';rintro⟨h1,h2,h3,h4⟩;subst h2;dsimp only;rw[h4];cases dK C n ss l rs'
   ·trivial
   ·exact⟨rfl,h1,h3⟩
 |.seq a b,N,M,X,h,e,e',O,ha=>by
  unfold live at h;cases hb:live n R b N X with
  |none=>rw[hb]at h;cases h
  |some B=>
   rw[hb]at h;have:=uV (C:=C) (call:=call) a B M X h e e' O ha;unfold KC.forget kQ dI;revert this;cases kQ C call a.forget e O<;>cases dI C call n a e' O
   ·intro _;trivial
   ·intro h;exact h.elim
   ·intro h;exact h.elim
   ·rename_i r r';obtain⟨x,f,Y⟩:=r;obtain⟨x',f',Y'⟩:=r';rintro⟨h1,h2,h3⟩;subst h1 h2;cases x with
    |normal=>exact uV b N B X hb _ _ _ h3
    |exit i=>exact⟨rfl,rfl,h3⟩
    |ret=>exact⟨rfl,rfl,h3⟩
 |.cond c a b,N,M,X,h,e,e',O,ha=>by
  unfold live at h;cases hA:live n R a N X with
  |none=>rw[hA]at h;cases h
  |some A=>cases hB:live n R b N X with
   |none=>rw[hA,hB]at h;cases h
   |some B=>
    rw[hA,hB]at h;cases h;unfold KC.forget kQ dI;rw[anv c (ha.left.agree)];cases avA C e' c with
    |bool q=>cases q with
     |true=>exact uV a N A X hA e e' O ha.right.left
     |false=>exact uV b N B X hB e e' O ha.right.right
    |_=>trivial
 |.block id b,N,M,X,h,e,e',O,ha=>by
  unfold live at h;have:=uV (C:=C) (call:=call) b N M _ h e e' O ha;unfold KC.forget kQ dI;revert this;cases kQ C call b.forget e O<;>cases dI C call n b e' O
  ·intro _;trivial
  ·intro h;exact h.elim
  ·intro h;exact h.elim
  ·rename_i r r';obtain⟨x,f,Y⟩:=r;obtain⟨x',f',Y'⟩:=r';rintro⟨h1,h2,h3⟩;subst h1 h2;cases x with
   |normal=>exact⟨rfl,rfl,h3⟩
   |exit i=>
    refine⟨rfl,rfl,?_⟩;unfold outs at h3;dsimp only at h3;split
    ·rename_i hi;rw[if_pos hi]at h3;exact h3
    ·rename_i hi;rw[if_neg hi]at h3;exact h3
   |ret=>exact⟨rfl,rfl,h3⟩
 |.loop m b,N,M,X,h,e,e',O,ha=>by
  unfold live at h;cases hA:live n R b (bits m) X with
  |none=>rw[hA]at h;cases h
  |some A=>
   rw[hA]at h;dsimp only at h;split at h
   ·rename_i hm;cases h;have hsub:∀{f:Env} {f':As},Ag n (bits m) f f'->Ag n A f f':=fun{f f'} g=>by rw[<-hm]at g;exact g.left
    have step:∀(p:Nat) (e:Env) (e':As) (O:St),Ag n (bits m) e e'->Rel n (outs N R X) (mV (kQ C call b.forget) p e O) (loopA (fun e O=>dI C call n b (keepA m e) O) p e' O):=by
     intro p
     induction p with
     |zero=>intro e e' O _;trivial
     |succ p ih=>
      intro e e' O ha;unfold mV loopA;have:=uV (C:=C) (call:=call) b (bits m) A X hA e (keepA m e') O (hsub ha.keep);revert this;cases kQ C call b.forget e O<;>cases dI C call n b (keepA m e') O
      ·intro _;trivial
      ·intro h;exact h.elim
      ·intro h;exact h.elim
      ·rename_i r r';obtain⟨x,f,Y⟩:=r;obtain⟨x',f',Y'⟩:=r';rintro⟨h1,h2,h3⟩;subst h1 h2;cases x with
       |normal=>exact ih _ _ _ h3
       |exit i=>exact⟨rfl,rfl,h3⟩
       |ret=>exact⟨rfl,rfl,h3⟩
    unfold KC.forget kQ dI;cases h1:Xd (kQ C call b.forget) e O with
    |some r=>
     obtain⟨p,hn⟩:=yD.mp h1;have:=step p e e' O ha;rw[hn]at this;cases h2:loopA (fun e O=>dI C call n b (keepA m e) O) p e' O with
     |none=>rw[h2]at this;exact this.elim
     |some r'=>
      rw[h2]at this;rw[mY.mpr ⟨p,h2⟩];exact this
    |none=>
     cases h2:su (fun e O=>dI C call n b (keepA m e) O) e' O with
     |none=>trivial
     |some r'=>
      obtain⟨p,hn⟩:=mY.mp h2;have:=step p e e' O ha;rw[hn]at this;cases h3:mV (kQ C call b.forget) p e O with
      |none=>rw[h3]at this;exact this.elim
      |some r=>rw[yD.mpr ⟨p,h3⟩]at h1;cases h1
   ·cases h
 |.exit m i,N,M,X,h,e,e',O,ha=>by
  unfold live at h;split at h
  ·rename_i hm;cases h;have g:=ha.keep;rw[<-hm]at g;refine⟨rfl,rfl,?_⟩;exact g.left
  ·cases h
 |.ret m,N,M,X,h,e,e',O,ha=>by
  unfold live at h;split at h
  ·rename_i hm;cases h;have g:=ha.keep;rw[<-hm]at g;refine⟨rfl,rfl,?_⟩;exact g.left
  ·cases h
 |.scope b,N,M,X,h,e,e',O,ha=>by
  unfold live at h;unfold KC.forget kQ dI;exact uV b N M X h e e' O ha
 |.fail,N,M,X,h,e,e',O,ha=>by unfold KC.forget kQ dI;trivial
def bQ(A:As)(O:St):List XR->Option LA
 |[]=>some []
 |.tmp t::l=>match bQ A O l with
  |some vs=>some (look A t::vs)
  |none=>none
 |.cell t ag sz::l=>match look A t,bQ A O l with
  |.ref o off,some vs=>match O[o]? with
   |some (.cells c _)=>match pt ag sz (c.drop off)with
    |some v=>some (v::vs)
    |none=>none
   |_=>none
  |_,_=>none
theorem Ro{n:Nat}{O:St}{e:Env}{A:As}:∀(l:List XR),Ag n (yC l) e A->Og e O l=bQ A O l
 |[],_=>rfl
 |.tmp t::l,h=>by
  unfold Og bQ;rw[Ro l h.right,h.left.at' t (by rw[xH];simp)]
  cases bQ A O l<;>rfl
 |.cell t ag sz::l,h=>by
  unfold Og bQ;rw[Ro l h.right,h.left.at' t (by rw[xH];simp)]
  cases look A t<;>rfl
def nS:Nat->LA->As
 |_,[]=>[]
 |i,v::l=>(i,v)::nS (i+1) l
theorem Uz:∀(l:LA) (i t:Nat),look (nS i l) t=if t<i then .undef else l.getD (t-i) .undef
 |[],i,t=>by unfold nS look;split<;>simp
 |v::l,i,t=>by
  unfold nS look;rw[Uz l (i+1) t];by_cases h:i=t
  ·subst h;simp
  ·rw[if_neg h];by_cases h':t<i
   ·rw[if_pos (by omega),if_pos h']
   ·rw[if_neg (by omega),if_neg h']
    rw[show t-i=(t-(i+1))+1 by omega,List.getD_cons_succ]
theorem abP(m:Nat)(n:Nat)(args:LA)(h:args.length<=n):Ag n m (args++List.replicate (n-args.length) .undef) (nS 0 args):=by
 refine⟨by simp;omega,?_⟩
 intro t _;rw[Uz,if_neg (by omega),Nat.sub_zero]
 rw[List.getD_eq_getElem?_getD,List.getD_eq_getElem?_getD];by_cases ht:t<args.length
 ·rw[List.getElem?_append_left ht]
 ·rw[List.getElem?_append_right (by omega),List.getElem?_eq_none (by omega:args.length<=t),List.getElem?_replicate]
  split<;>rfl
noncomputable def xB(C:Ctx)(K:KF)(raw:Bool)(args:LA)(O:St):Option (AV×St):=
 match hand raw args O with
 |none=>none
 |some (args,O1)=>
  if args.length>K.ntmps then none else
  match dI C (ai C) K.ntmps K.body (nS 0 args) O1 with
  |some (.exit _,_,_)=>none
  |none=>none
  |some (_,e,O2)=>
   match bQ e O2 K.results with
   |none=>none
   |some vs=>match hand raw vs O2 with
    |none=>none
    |some (vs,O3)=>some (bD vs,tidy O.length vs O3)
structure Has(C:Ctx)(f:FuncId)(K:KF):Prop where
 fs:C.fs f=some K.forget
 prim:C.prim f=none
 raw:C.raw f=false
 ok:K.ok=true
theorem aia {C:Ctx} {f:FuncId} {K:KF} {raw:Bool} (hfs:C.fs f=some K.forget) (hp:C.prim f=none) (hr:C.raw f=raw) (hok:K.ok=true) (args:LA) (O:St):
  ai C f args O=xB C K raw args O:=by
 rw[Xc];unfold Qn xB;rw[hp,hfs,hr];dsimp only[KF.forget];cases hand raw args O with
 |none=>rfl
 |some q=>
  obtain⟨args,O1⟩:=q;dsimp only;split
  ·rfl
  ·rename_i hlen;unfold KF.ok at hok;obtain⟨M,hM⟩:=Option.isSome_iff_exists.mp hok;have:=uV (C:=C) (call:=ai C) K.body _ M _ hM (args++List.replicate (K.ntmps-args.length) .undef) _ O1 (abP M K.ntmps args (by omega))
   revert this;cases kQ C (ai C) K.body.forget (args++List.replicate (K.ntmps-args.length) .undef) O1<;>cases dI C (ai C) K.ntmps K.body (nS 0 args) O1
   ·intro _;rfl
   ·intro h;exact h.elim
   ·intro h;exact h.elim
   ·rename_i r r';obtain⟨x,e,Y⟩:=r;obtain⟨x',e',Y'⟩:=r';rintro⟨h1,h2,h3⟩;subst h1 h2;cases x with
    |exit i=>rfl
    |normal=>
     dsimp only;rw[Ro (O:=Y) K.results h3];all_goals
      cases bQ e' Y K.results with
      |none=>rfl
      |some vs=>dsimp only;cases hand raw vs Y<;>rfl
    |ret=>
     dsimp only;rw[Ro (O:=Y) K.results h3];all_goals
      cases bQ e' Y K.results with
      |none=>rfl
      |some vs=>dsimp only;cases hand raw vs Y<;>rfl
theorem Has.run{C:Ctx}{f:FuncId}{K:KF}(h:Has C f K)(args:LA)(O:St):ai C f args O=xB C K false args O:=
 aia h.fs h.prim h.raw h.ok args O
def o(d:Nat)(i:XI):XOp:=⟨some d,i,none,[]⟩
def u(i:XI):XOp:=⟨none,i,none,[]⟩
def og(d:Nat)(t:Nat)(b:Bool)(i:XI):XOp:=⟨some d,i,some (t,b),[]⟩
def ug(t:Nat)(b:Bool)(i:XI):XOp:=⟨none,i,some (t,b),[]⟩
def m(d s:Nat):XOp:=⟨some d,.mv (.t s),none,[]⟩
def out(call:bC)(d:Option Nat)(e:As)(x:Option Out)(k:As->St->Option (As×St)):Option (As×St):=
 match x with
 |some (.val v O')=>k (xy e d v) O'
 |some (.call f args O')=>match call f args O' with
  |some (v,O'')=>k (xy e d v) O''
  |none=>none
 |none=>none
theorem look_nil(t:Nat):look [] t=.undef:=rfl
theorem FN(k:Nat)(v:AV)(A:As)(t:Nat):look ((k,v)::A) t=if k=t then v else look A t:=rfl
theorem J7(A:As):keepA [] A=[]:=rfl
theorem FM(t:Nat)(k:List Nat)(A:As):keepA (t::k) A=(t,look A t)::keepA k A:=rfl
theorem IX(i:Nat):nS i []=[]:=rfl
theorem EO(i:Nat)(v:AV)(l:LA):nS i (v::l)=(i,v)::nS (i+1) l:=rfl
def am9(k:IntKind)(v:AV)(O:St):Option Out:=
 match v with
 |.int _ n=>some (.val (.int k (k.wrap n)) O)
 |_=>none
theorem JY(k j:IntKind)(n:Int)(O:St):am9 k (.int j n) O=some (.val (.int k (k.wrap n)) O):=rfl
theorem Ou(np:Bool)(op:BinOp)(ek:Nat)(c:Bool)(b:Bool)(y:AV):sS np op ek c (.bool b) y=binOp op ek c (.bool b) y:=by cases np<;>rfl
theorem Pv(np:Bool)(op:BinOp)(ek:Nat)(c:Bool)(k:IntKind)(b:Int)(y:AV):sS np op ek c (.int k b) y=binOp op ek c (.int k b) y:=by cases np<;>rfl
theorem Px(np:Bool)(op:BinOp)(ek:Nat)(c:Bool)(s:LU)(y:AV):sS np op ek c (.str s) y=binOp op ek c (.str s) y:=by cases np<;>rfl
theorem IZ(np:Bool)(op:BinOp)(ek:Nat)(c:Bool)(y:AV):sS np op ek c .nilp y=binOp op ek c .nilp y:=by cases np<;>rfl
theorem Lm(np:Bool)(op:BinOp)(ek:Nat)(c:Bool)(a b:Nat)(y:AV):sS np op ek c (.ref a b) y=binOp op ek c (.ref a b) y:=by cases np<;>rfl
theorem IY(np:Bool)(op:BinOp)(ek:Nat)(c:Bool)(l:LA):sS np op ek c (.eptr l) .nilp=binOp op ek c (.eptr l) .nilp:=by cases np<;>rfl
theorem I4(np:Bool)(op:BinOp)(ek:Nat)(c:Bool)(y:AV):sS np op ek c .nils y=binOp op ek c .nils y:=by cases np<;>rfl
theorem VB(np:Bool)(op:BinOp)(ek:Nat)(c:Bool)(y:AV):sS np op ek c .emp y=binOp op ek c .emp y:=by cases np<;>rfl
theorem abY(np:Bool)(op:BinOp)(ek:Nat)(c:Bool)(i:Nat)(l:LA)(y:AV):sS np op ek c (.sl i l) y=binOp op ek c (.sl i l) y:=by cases np<;>rfl
theorem VE(np:Bool)(op:BinOp)(ek:Nat)(c:Bool)(i:Nat)(l:LA)(y:AV):sS np op ek c (.xsl i l) y=binOp op ek c (.xsl i l) y:=by cases np<;>rfl
theorem VD(np:Bool)(op:BinOp)(ek:Nat)(c:Bool)(i j p q:Nat)(y:AV):sS np op ek c (.msl i j p q) y=binOp op ek c (.msl i j p q) y:=by cases np<;>rfl
theorem VC(np:Bool)(op:BinOp)(ek:Nat)(c:Bool)(i:Nat)(y:AV):sS np op ek c (.map i) y=binOp op ek c (.map i) y:=by cases np<;>rfl
theorem EQ(np:Bool)(op:BinOp)(ek:Nat)(c:Bool)(y:AV):sS np op ek c .nilMap y=binOp op ek c .nilMap y:=by cases np<;>rfl
theorem Ov(np:Bool)(op:BinOp)(ek:Nat)(c:Bool)(f:Fn)(l r:LA)(y:AV):sS np op ek c (.func f l r) y=binOp op ek c (.func f l r) y:=by cases np<;>rfl
theorem Bz(np:Bool)(op:BinOp)(ek:Nat)(c:Bool)(y:AV):sS np op ek c .nilFunc y=binOp op ek c .nilFunc y:=by cases np<;>rfl
theorem DC(np:Bool)(op:BinOp)(ek:Nat)(c:Bool)(t:TypeId)(v:AV)(y:AV):sS np op ek c (.iface t v) y=binOp op ek c (.iface t v) y:=by cases np<;>rfl
theorem wQ(np:Bool)(op:BinOp)(ek:Nat)(c:Bool)(y:AV):sS np op ek c .nilIface y=binOp op ek c .nilIface y:=by cases np<;>rfl
theorem Pq(np:Bool)(op:BinOp)(ek:Nat)(c:Bool)(l:LA)(y:AV):sS np op ek c (.agg l) y=binOp op ek c (.agg l) y:=by cases np<;>rfl
theorem V7(C:Ctx)(a:XA->AV)(n0:Nat)(O:St)(k:IntKind)(x:XA):aj C a n0 O (.i2i k x)=am9 k (a x) O:=rfl
theorem qO (C:Ctx) (a:XA->AV) (n0:Nat) (O:St) (k:Nat) (x:XA):aj C a n0 O (.len k x)=match bH O k (a x)with
  |some n=>some (.val (.int .i64 (n:Int)) O)
  |none=>none:=by
 show Option.map _ _=_;cases bH O k (a x)<;>rfl
variable(C:Ctx)(call:bC)(n:Nat)
theorem aiV(e:As)(t:Nat):avA C e (.t t)=look e t:=rfl
theorem aiT(e:As)(v:AV):avA C e (.c v)=v:=rfl
theorem aiU(e:As)(n:Nat):avA C e (.g n)=.eptr ((C.gl n).getD []):=rfl
theorem OO(d:Nat)(e:As)(v:AV)(O:St)(k):out call (some d) e (some (.val v O)) k=k ((d,v)::e) O:=rfl
theorem Kv(e:As)(v:AV)(O:St)(k):out call none e (some (.val v O)) k=k e O:=rfl
theorem Zd(d:Nat)(e:As)(f:FuncId)(args:LA)(O:St)(k):out call (some d) e (some (.call f args O)) k=match call f args O with
 |some (v,O')=>k ((d,v)::e) O'
 |none=>none:=rfl
theorem UQ(e:As)(f:FuncId)(args:LA)(O:St)(k):out call none e (some (.call f args O)) k=match call f args O with
 |some (_,O')=>k e O'
 |none=>none:=rfl
theorem Ku(d:Option Nat)(e:As)(k):out call d e none k=none:=rfl
theorem Fp(e:As)(O:St):dm C call n [] e O=some (e,O):=rfl
theorem OB(d:Nat)(i:XI)(l:List XOp)(e:As)(O:St):dm C call n (o d i::l) e O=out call (some d) e (aj C (avA C e) n O i) (dm C call n l):=by
 show(match lV C call n (o d i) e O with|some (v,O')=>dm C call n l (xy e (some d) v) O'|none=>none)=_
 unfold lV jc out o;dsimp only;cases aj C (avA C e) n O i with
 |none=>rfl
 |some x=>cases x<;>rfl
theorem OC(i:XI)(l:List XOp)(e:As)(O:St):dm C call n (u i::l) e O=out call none e (aj C (avA C e) n O i) (dm C call n l):=by
 show(match lV C call n (u i) e O with|some (v,O')=>dm C call n l (xy e none v) O'|none=>none)=_
 unfold lV jc out u;dsimp only;cases aj C (avA C e) n O i with
 |none=>rfl
 |some x=>cases x<;>rfl
theorem OA(d s:Nat)(l:List XOp)(e:As)(O:St):dm C call n (m d s::l) e O=dm C call n l ((d,look e s)::e) O:=rfl
theorem zF(c:Bool):mQ true (.bool c)=c:=by cases c<;>rfl
theorem xW(c:Bool):mQ false (.bool c)= !c:=by cases c<;>rfl
theorem P6(d t:Nat)(b:Bool)(i:XI)(l:List XOp)(e:As)(O:St):dm C call n (og d t b i::l) e O=if mQ b (look e t)then out call (some d) e (aj C (avA C e) n O i) (dm C call n l)else dm C call n l ((d,.undef)::e) O:=by
 show(match lV C call n (og d t b i) e O with|some (v,O')=>dm C call n l (xy e (some d) v) O'|none=>none)=_
 unfold lV jc out og;dsimp only;by_cases hb:mQ b (look e t)=true
 ·rw[if_pos hb,if_pos hb];cases aj C (avA C e) n O i with
  |none=>rfl
  |some x=>cases x<;>rfl
 ·rw[if_neg hb,if_neg hb];rfl
theorem P7(t:Nat)(b:Bool)(i:XI)(l:List XOp)(e:As)(O:St):dm C call n (ug t b i::l) e O=if mQ b (look e t)then out call none e (aj C (avA C e) n O i) (dm C call n l)else dm C call n l e O:=by
 show(match lV C call n (ug t b i) e O with|some (v,O')=>dm C call n l (xy e none v) O'|none=>none)=_
 unfold lV jc out ug;dsimp only;by_cases hb:mQ b (look e t)=true
 ·rw[if_pos hb,if_pos hb];cases aj C (avA C e) n O i with
  |none=>rfl
  |some x=>cases x<;>rfl
 ·rw[if_neg hb,if_neg hb];rfl
theorem KH(e:As)(O:St)(t:Nat)(l:List XR):bQ e O (.tmp t::l)=match bQ e O l with
 |some vs=>some (look e t::vs)
 |none=>none:=rfl
theorem KG(e:As)(O:St):bQ e O []=some []:=rfl
theorem aeh(k:List Nat)(e:As):keepA k (keepA k e)=keepA k e:=by
 unfold keepA;apply List.map_congr_left;intro t ht;exact congrArg (Prod.mk t) (FO k e t ht)
noncomputable def aA(k:List Nat)(b:KC)(e:As)(O:St):Option (XE×As×St):=su (fun e O=>dI C call n b (keepA k e) O) e O
theorem QL(k:List Nat)(b:KC)(e:As)(O:St):aA C call n k b (keepA k e) O=aA C call n k b e O:=by
 unfold aA;rw[xG,xG _ e,aeh]
theorem F6(k:List Nat)(b:KC)(e:As)(O:St):dI C call n (.loop k b) e O=aA C call n k b (keepA k e) O:=(QL C call n k b e O).symm
theorem iq {k:List Nat} {b:KC} {e:As} (he:keepA k e=e) (O:St):aA C call n k b e O=match dI C call n b e O with
  |some (.normal,e',O')=>aA C call n k b (keepA k e') O'
  |r=>r:=by
 conv=>lhs;unfold aA
 rw[xG,he];cases dI C call n b e O with
 |none=>rfl
 |some r=>
  obtain⟨x,e',O'⟩:=r;cases x with
  |normal=>exact(QL C call n k b e' O').symm
  |exit i=>rfl
  |ret=>rfl
theorem F7(e:As)(O:St):dI C call n .skip e O=some (.normal,e,O):=rfl
theorem Rz(l:List XOp)(e:As)(O:St):dI C call n (.ops l) e O=match dm C call n l e O with
 |some (e',O')=>some (.normal,e',O')
 |none=>none:=rfl
theorem IE(l:List XOp)(e:As)(O:St):dI C call n (.plain l) e O=match dm C call n l e O with
 |some (e',O')=>some (.normal,e',O')
 |none=>none:=rfl
theorem abl(l:List XOp)(e:As)(O:St):dI C call n (.drawn l) e O=match uM C call n l e O with
 |some (e',O')=>some (.normal,e',O')
 |none=>none:=rfl
theorem RF(a b:KC)(e:As)(O:St):dI C call n (.seq a b) e O=match dI C call n a e O with
 |some (.normal,e',O')=>dI C call n b e' O'
 |r=>r:=rfl
theorem MB(c:XA)(a b:KC)(e:As)(O:St):dI C call n (.cond c a b) e O=match avA C e c with
 |.bool true=>dI C call n a e O
 |.bool false=>dI C call n b e O
 |_=>none:=rfl
theorem IC(id:Nat)(b:KC)(e:As)(O:St):dI C call n (.block id b) e O=match dI C call n b e O with
 |some (.exit i,e',O')=>some (if i=id then .normal else .exit i,e',O')
 |r=>r:=rfl
theorem F5(k:List Nat)(id:Nat)(e:As)(O:St):dI C call n (.exit k id) e O=some (.exit id,keepA k e,O):=rfl
theorem KN(k:List Nat)(e:As)(O:St):dI C call n (.ret k) e O=some (.ret,keepA k e,O):=rfl
theorem CQ(b:KC)(e:As)(O:St):dI C call n (.scope b) e O=dI C call n b e O:=rfl
theorem w64{n:Int}(h: -9223372036854775808<=n)(h':n<=9223372036854775807):IntKind.i64.wrap n=n:=by rw[IntKind.wrap_i64];omega
theorem wu8{n:Int}(h:0<=n)(h':n<=255):IntKind.u8.wrap n=n:=by rw[IntKind.wrap_u8];omega
theorem apv{n:Int}(h:0<=n)(h':n<=4294967295):IntKind.u32.wrap n=n:=by rw[IntKind.wrap_u32];omega
theorem wu64{n:Int}(h:0<=n)(h':n<=18446744073709551615):IntKind.u64.wrap n=n:=by unfold IntKind.wrap;simp[IntKind.bits,IntKind.signed];omega
theorem Bg(O:St)(vs:LA):tidy O.length vs O=O:=by simp[tidy]
end Go.Ev
namespace Go.Ev
section
variable(ek:Nat)(c:Bool)(k k':IntKind)(a b:Int)
theorem I7:binOp .add ek c (.int k a) (.int k b)=some (.int k (k.wrap (a+b))):=by simp[binOp,jM]
theorem EU:binOp .sub ek c (.int k a) (.int k b)=some (.int k (k.wrap (a-b))):=by simp[binOp,jM]
theorem Je:binOp .mul ek c (.int k a) (.int k b)=some (.int k (k.wrap (a*b))):=by simp[binOp,jM]
theorem I8:binOp .and ek c (.int k a) (.int k b)=some (.int k (k.wrap (BitVec.ofInt k.bits a&&&BitVec.ofInt k.bits b).toNat)):=by simp[binOp,jM]
theorem Pz:binOp .or ek c (.int k a) (.int k b)=some (.int k (k.wrap (BitVec.ofInt k.bits a|||BitVec.ofInt k.bits b).toNat)):=by simp[binOp,jM]
theorem Jl:binOp .xor ek c (.int k a) (.int k b)=some (.int k (k.wrap (BitVec.ofInt k.bits a^^^BitVec.ofInt k.bits b).toNat)):=by simp[binOp,jM]
theorem yN:binOp .andNot ek c (.int k a) (.int k b)=some (.int k (k.wrap (BitVec.ofInt k.bits a&&& ~~~(BitVec.ofInt k.bits b)).toNat)):=by simp[binOp,jM]
theorem I9:binOp .eql ek c (.int k a) (.int k b)=some (.bool (a==b)):=by simp[binOp,jM]
theorem Jf:binOp .neq ek c (.int k a) (.int k b)=some (.bool (a !=b)):=by simp[binOp,jM]
theorem Jd:binOp .lss ek c (.int k a) (.int k b)=some (.bool (a<b)):=by simp[binOp,jM]
theorem Jc:binOp .leq ek c (.int k a) (.int k b)=some (.bool (a<=b)):=by simp[binOp,jM]
theorem Jb:binOp .gtr ek c (.int k a) (.int k b)=some (.bool (a>b)):=by simp[binOp,jM]
theorem Ja:binOp .geq ek c (.int k a) (.int k b)=some (.bool (a>=b)):=by simp[binOp,jM]
theorem Jg:binOp .quo ek c (.int k a) (.int k b)=if b=0 then none else some (.int k (k.wrap (a.tdiv b))):=by simp[binOp,jM]
theorem Jh:binOp .rem ek c (.int k a) (.int k b)=if b=0 then none else some (.int k (a.tmod b)):=by simp[binOp,jM]
theorem Ji:binOp .shl ek c (.int k a) (.int k' b)=if b<0 then none else some (.int k (k.wrap (a*2^min b.toNat k.bits))):=by simp[binOp,oz]
theorem Jj:binOp .shr ek c (.int k a) (.int k' b)=if b<0 then none else some (.int k (a.fdiv (2^min b.toNat k.bits))):=by simp[binOp,oz]
theorem Jk(op:BinOp)(x y:LU):binOp op ek c (.str x) (.str y)=pz op x y:=rfl
theorem zC(op:BinOp)(q:Bool)(y:AV):binOp op ek c (.bool q) y=qJ op (eqA ek c (.bool q) y):=rfl
theorem wU(op:BinOp)(y:AV):binOp op ek c .nilp y=qJ op (eqA ek c .nilp y):=rfl
theorem vP(op:BinOp)(i j:Nat)(y:AV):binOp op ek c (.ref i j) y=qJ op (eqA ek c (.ref i j) y):=rfl
theorem wS(op:BinOp)(l:LA)(y:AV):binOp op ek c (.eptr l) y=qJ op (eqA ek c (.eptr l) y):=rfl
theorem wV(op:BinOp)(y:AV):binOp op ek c .nils y=qJ op (eqA ek c .nils y):=rfl
theorem BA(op:BinOp)(y:AV):binOp op ek c .emp y=qJ op (eqA ek c .emp y):=rfl
theorem ET(op:BinOp)(i:Nat)(l:LA)(y:AV):binOp op ek c (.sl i l) y=qJ op (eqA ek c (.sl i l) y):=rfl
theorem BD(op:BinOp)(i:Nat)(l:LA)(y:AV):binOp op ek c (.xsl i l) y=qJ op (eqA ek c (.xsl i l) y):=rfl
theorem BC(op:BinOp)(i j p q:Nat)(y:AV):binOp op ek c (.msl i j p q) y=qJ op (eqA ek c (.msl i j p q) y):=rfl
theorem BB(op:BinOp)(i:Nat)(y:AV):binOp op ek c (.map i) y=qJ op (eqA ek c (.map i) y):=rfl
theorem wE(op:BinOp)(y:AV):binOp op ek c .nilMap y=qJ op (eqA ek c .nilMap y):=rfl
theorem zD(op:BinOp)(f:Fn)(l r:LA)(y:AV):binOp op ek c (.func f l r) y=qJ op (eqA ek c (.func f l r) y):=rfl
theorem uF(op:BinOp)(y:AV):binOp op ek c .nilFunc y=qJ op (eqA ek c .nilFunc y):=rfl
theorem uD(op:BinOp)(t:TypeId)(v:AV)(y:AV):binOp op ek c (.iface t v) y=qJ op (eqA ek c (.iface t v) y):=rfl
theorem pW(op:BinOp)(y:AV):binOp op ek c .nilIface y=qJ op (eqA ek c .nilIface y):=rfl
theorem yO(op:BinOp)(l:LA)(y:AV):binOp op ek c (.agg l) y=qJ op (eqA ek c (.agg l) y):=rfl
end
theorem Xt(q:Bool):unOp .not (.bool q)=some (.bool !q):=rfl
theorem Xr(k:IntKind)(n:Int):unOp .neg (.int k n)=some (.int k (k.wrap (0-n))):=rfl
theorem BG(q:Bool):(AV.bool q).cells=[(AV.bool q)]:=rfl
theorem Fv(q:Bool):(AV.bool q).flat=true:=rfl
theorem E5(k:IntKind)(n:Int):(AV.int k n).cells=[(AV.int k n)]:=rfl
theorem JI(k:IntKind)(n:Int):(AV.int k n).flat=true:=rfl
theorem Fe(s:LU):(AV.str s).cells=[(AV.str s)]:=rfl
theorem JO(s:LU):(AV.str s).flat=true:=rfl
theorem BI:AV.nilp.cells=[AV.nilp]:=rfl
theorem FD:AV.nilp.flat=true:=rfl
theorem Fb(i j:Nat):(AV.ref i j).cells=[(AV.ref i j)]:=rfl
theorem JM(i j:Nat):(AV.ref i j).flat=true:=rfl
theorem BH(l:LA):(AV.eptr l).cells=[(AV.eptr l)]:=rfl
theorem FB(l:LA):(AV.eptr l).flat=true:=rfl
theorem BJ:AV.nils.cells=[AV.nils]:=rfl
theorem FH:AV.nils.flat=true:=rfl
theorem EZ:AV.emp.cells=[AV.emp]:=rfl
theorem JH:AV.emp.flat=true:=rfl
theorem Jp(i:Nat)(l:LA):(AV.sl i l).cells=[(AV.sl i l)]:=rfl
theorem OD(i:Nat)(l:LA):(AV.sl i l).flat=true:=rfl
theorem Ff(i:Nat)(l:LA):(AV.xsl i l).cells=[(AV.xsl i l)]:=rfl
theorem JP(i:Nat)(l:LA):(AV.xsl i l).flat=true:=rfl
theorem Fa(i j p q:Nat):(AV.msl i j p q).cells=[(AV.msl i j p q)]:=rfl
theorem JK(i j p q:Nat):(AV.msl i j p q).flat=true:=rfl
theorem E8(i:Nat):(AV.map i).cells=[(AV.map i)]:=rfl
theorem JJ(i:Nat):(AV.map i).flat=true:=rfl
theorem xX:AV.nilMap.cells=[AV.nilMap]:=rfl
theorem zQ:AV.nilMap.flat=true:=rfl
theorem cells_func(f:Fn)(l r:LA):(AV.func f l r).cells=[(AV.func f l r)]:=rfl
theorem FC(f:Fn)(l r:LA):(AV.func f l r).flat=true:=rfl
theorem wF:AV.nilFunc.cells=[AV.nilFunc]:=rfl
theorem yj:AV.nilFunc.flat=true:=rfl
theorem zH(t:TypeId)(v:AV):(AV.iface t v).cells=[(AV.iface t v)]:=rfl
theorem BV(t:TypeId)(v:AV):(AV.iface t v).flat=true:=rfl
theorem uI:AV.nilIface.cells=[AV.nilIface]:=rfl
theorem wJ:AV.nilIface.flat=true:=rfl
theorem EY(l:LA):(AV.agg l).cells=l:=rfl
theorem Ac(a x:AV)(l:LA):splice (a::l) 0 [x]=x::l:=rfl
theorem Aa(a:AV)(l v:LA)(n:Nat):splice (a::l) (n+1) v=a::splice l n v:=by
 unfold splice;rw[show n+1+v.length=(n+v.length)+1 by omega,List.take_succ_cons,List.drop_succ_cons]
 rfl
def Ok(O:St):Prop:=O.all (AO.below O.length)=true
theorem xI{O:St}(hσ:Ok O){vs:LA}(hv:ae O.length vs=true)(l:St):tidy O.length vs (O++l)=O:=by
 unfold tidy;split
 ·rename_i h;rw[List.length_append]at h;have:l=[]:=List.eq_nil_of_length_eq_zero (by omega)
  rw[this,List.append_nil]
 ·have ht:(O++l).take O.length=O:=by simp
  rw[ht,hv,hσ];rfl
theorem wo{n:Nat}{vs:LA}(hv:ae n vs=false)(O:St):tidy n vs O=O:=by
 unfold tidy;rw[hv];split<;>rfl
mutual
theorem below_mono{n k:Nat}(h:n<=k):∀v:AV,below n v=true->below k v=true
 |.ref o _,hv=>by simp[below]at hv⊢;omega
 |.msl o _ _ _,hv=>by simp[below]at hv⊢;omega
 |.map o,hv=>by simp[below]at hv⊢;omega
 |.func _ x y,hv=>by simp only[below,Bool.and_eq_true]at hv⊢;exact⟨aP h x hv.1,aP h y hv.2⟩
 |.iface _ v,hv=>by simp only[below]at hv⊢;exact below_mono h v hv
 |.agg l,hv=>by simp only[below]at hv⊢;exact aP h l hv
 |.tup l,hv=>by simp only[below]at hv⊢;exact aP h l hv
 |.eptr l,hv=>by simp only[below]at hv⊢;exact aP h l hv
 |.sl _ l,hv=>by simp only[below]at hv⊢;exact aP h l hv
 |.xsl _ l,hv=>by simp only[below]at hv⊢;exact aP h l hv
 |.bool _,_|.int _ _,_|.str _,_|.nilp,_|.nils,_|.emp,_|.nilMap,_|.nilFunc,_|.nilIface,_=>by simp[below]
theorem aP{n k:Nat}(h:n<=k):∀l:LA,ae n l=true->ae k l=true
 |[],_=>by simp[ae]
 |v::l,hv=>by simp only[ae,Bool.and_eq_true]at hv⊢;exact⟨below_mono h v hv.1,aP h l hv.2⟩
end
theorem AO.below_mono{n k:Nat}(h:n<=k):∀x:AO,AO.below n x=true->AO.below k x=true
 |.cells l _,hx=>aP h l hx
 |.map es,hx=>by
  simp only[AO.below,Bool.and_eq_true]at hx⊢;exact⟨aP h _ hx.1,aP h _ hx.2⟩
 |.dead,_=>rfl
theorem Ok.app{O:St}(h:Ok O){l:St}(hl:l.all (AO.below (O.length+l.length))=true):Ok (O++l):=by
 unfold Ok;rw[List.all_append,List.length_append,Bool.and_eq_true];refine⟨?_,hl⟩;rw[List.all_eq_true];intro x hx;exact AO.below_mono (by omega) x (List.all_eq_true.mp h x hx)
theorem Ok.nil:Ok []:=rfl
def pile(O:St)(k:Nat)(x:AO):St:=O++(List.replicate k .dead++[x])
theorem NI(O:St)(k:Nat)(x:AO):(pile O k x).length=O.length+(k+1):=by simp[pile]
theorem En(O:St)(k:Nat)(x:AO):(pile O k x)[O.length+k]?=some x:=by
 unfold pile;rw[List.getElem?_append_right (by omega),List.getElem?_append_right (by simp)]
 simp
theorem Zf(O:St)(k:Nat)(x y:AO):(pile O k x).set (O.length+k) .dead++[y]=pile O (k+1) y:=by
 unfold pile;rw[List.set_append_right _ _ (by omega),List.set_append_right _ _ (by simp)]
 simp[List.replicate_succ',List.append_assoc]
theorem U6{O:St}(hσ:Ok O){vs:LA}(hv:ae O.length vs=true)(k:Nat)(x:AO):tidy O.length vs (pile O k x)=O:=xI hσ hv _
theorem au(l:LU):(ofBytes l).length=l.length:=by simp[ofBytes]
theorem Eh(l r:LU):ofBytes l++ofBytes r=ofBytes (l++r):=by simp[ofBytes]
theorem qI:∀l:LU,bytesOf (ofBytes l)=some l
 |[]=>rfl
 |b::l=>by
  have:=qI l;unfold ofBytes at this⊢;rw[List.map_cons];unfold bytesOf VG;rw[this];simp
theorem rf(l:LU):(ofBytes l).all AV.flat=true:=by
 rw[List.all_eq_true];intro v hv;unfold ofBytes at hv;obtain⟨b,_,rfl⟩:=List.mem_map.mp hv;rfl
theorem iL(n:Nat):∀l:LU,ae n (ofBytes l)=true
 |[]=>rfl
 |b::l=>by
  have:=iL n l;unfold ofBytes at this⊢;simp[ae,below,this]
theorem aiA(k:IntKind)(hk:k.signed=false)(a:Nat)(ha:a<2^k.bits):k.wrap (a:Int)=(a:Int):=by
 unfold IntKind.wrap;rw[hk];have:((a:Int)%(2^k.bits:Int))=(a:Int):=Int.emod_eq_of_lt (by omega) (by exact_mod_cast ha)
 simp[this]
theorem afE(w a:Nat)(ha:a<2^w):(BitVec.ofInt w (a:Int)).toNat=a:=by
 rw[BitVec.toNat_ofInt];have:((a:Int)%((2^w:Nat):Int))=(a:Int):=Int.emod_eq_of_lt (by omega) (by exact_mod_cast ha)
 rw[this];simp
theorem alG (k:IntKind) (hk:k.signed=false) (a b:Nat) (ha:a<2^k.bits) (hb:b<2^k.bits):
  k.wrap ((BitVec.ofInt k.bits (a:Int)&&&BitVec.ofInt k.bits (b:Int)).toNat:Int)=((a&&&b:Nat):Int):=by
 rw[BitVec.toNat_and,afE _ _ ha,afE _ _ hb];exact aiA k hk _ (Nat.and_lt_two_pow a hb)
theorem anl (k:IntKind) (hk:k.signed=false) (a b:Nat) (ha:a<2^k.bits) (hb:b<2^k.bits):
  k.wrap ((BitVec.ofInt k.bits (a:Int)^^^BitVec.ofInt k.bits (b:Int)).toNat:Int)=((a^^^b:Nat):Int):=by
 rw[BitVec.toNat_xor,afE _ _ ha,afE _ _ hb];exact aiA k hk _ (Nat.xor_lt_two_pow ha hb)
def Ti:AV->Bool
 |.bool _|.int _ _|.str _=>true
 |_=>false
noncomputable section
def PL(x:LU):LU->Bool:=
 @List.rec _ (fun _=>LU->Bool) (fun y=>@List.rec _ (fun _=>Bool) true (fun _ _ _=>false) y)
  (fun a _ ih y=>@List.rec _ (fun _=>Bool) false (fun b t _=>@Bool.rec (fun _=>Bool) false (ih t) (Nat.beq a.toNat b.toNat)) y) x
theorem TP:∀{x y:LU},PL x y=true->x=y
 |[],[],_=>rfl
 |a::x,b::y,h=>by
  have h: @Bool.rec (fun _=>Bool) false (PL x y) (Nat.beq a.toNat b.toNat)=true:=h;cases hb:Nat.beq a.toNat b.toNat with
  |true=>
   rw[hb]at h;rw[UInt8.toNat_inj.mp (Nat.eq_of_beq_eq_true hb),TP h]
  |false=>rw[hb]at h;cases h
 |[],_::_,h=>Bool.noConfusion (show false=true from h)
 |_::_,[],h=>Bool.noConfusion (show false=true from h)
def akZ(k:IntKind):Nat:=IntKind.rec 0 1 2 3 4 5 6 7 k
def acI(k k':IntKind):Bool:=Nat.beq (akZ k) (akZ k')
theorem agY{k k':IntKind}(h:acI k k'=true):k=k':=by
 cases k<;>cases k'<;>first|rfl|cases h
def ajG(x y:Int):Bool:=match x,y with
 |.ofNat a,.ofNat b=>Nat.beq a b
 |.negSucc a,.negSucc b=>Nat.beq a b
 |_,_=>false
theorem ajH{x y:Int}(h:ajG x y=true):x=y:=by
 cases x<;>cases y<;>first|(rw[Nat.eq_of_beq_eq_true h])|cases h
def akI(a b:Bool):Bool:=match a,b with
 |true,true=>true
 |false,false=>true
 |_,_=>false
theorem afw{a b:Bool}(h:akI a b=true):a=b:=by cases a<;>cases b<;>first|rfl|cases h
def fnQ(f f':Fn):Bool:=match f,f' with
 |.func a,.func b=>Nat.beq a b
 |f,f'=>f==f'
theorem am3{f f':Fn}(h:fnQ f f'=true):f=f':=by
 unfold fnQ at h;split at h
 ·rw[Nat.eq_of_beq_eq_true h]
 ·simpa using h
def alc(a:Bool)(b:AV):Bool:=match b with|.bool b=>akI a b|_=>false
def aou(k:IntKind)(a:Int)(b:AV):Bool:=match b with|.int k' b=>@Bool.rec (fun _=>Bool) false (ajG a b) (acI k k')|_=>false
def aoz(a:LU)(b:AV):Bool:=match b with|.str b=>PL a b|_=>false
def alg(b:AV):Bool:=match b with|.nilp=>true|_=>false
def alh(b:AV):Bool:=match b with|.nils=>true|_=>false
def aot(b:AV):Bool:=match b with|.emp=>true|_=>false
def ad4(b:AV):Bool:=match b with|.nilMap=>true|_=>false
def Zi(b:AV):Bool:=match b with|.nilFunc=>true|_=>false
def UV(b:AV):Bool:=match b with|.nilIface=>true|_=>false
def ale(ih:LA->Bool)(b:AV):Bool:=match b with|.eptr l=>ih l|_=>false
def aos(ih:LA->Bool)(b:AV):Bool:=match b with|.agg l=>ih l|_=>false
def aoA(ih:LA->Bool)(b:AV):Bool:=match b with|.tup l=>ih l|_=>false
def qSl(n:Nat)(ih:LA->Bool)(b:AV):Bool:=match b with|.sl m l=>@Bool.rec (fun _=>Bool) false (ih l) (Nat.beq n m)|_=>false
def aoB(n:Nat)(ih:LA->Bool)(b:AV):Bool:=match b with|.xsl m l=>@Bool.rec (fun _=>Bool) false (ih l) (Nat.beq n m)|_=>false
def alf(f:Fn)(ih ih':LA->Bool)(b:AV):Bool:=match b with|.func f' x y=>@Bool.rec (fun _=>Bool) false (@Bool.rec (fun _=>Bool) false (ih' y) (ih x)) (fnQ f f')|_=>false
def ahU(t:Nat)(ih:AV->Bool)(b:AV):Bool:=match b with|.iface t' v=>@Bool.rec (fun _=>Bool) false (ih v) (Nat.beq t t')|_=>false
def aoy(o f:Nat)(b:AV):Bool:=match b with|.ref o' f'=>@Bool.rec (fun _=>Bool) false (Nat.beq f f') (Nat.beq o o')|_=>false
def aow(o f n z:Nat)(b:AV):Bool:=match b with|.msl o' f' n' z'=>@Bool.rec (fun _=>Bool) false (@Bool.rec (fun _=>Bool) false (@Bool.rec (fun _=>Bool) false (Nat.beq z z') (Nat.beq n n')) (Nat.beq f f')) (Nat.beq o o')|_=>false
def aov(m:Nat)(b:AV):Bool:=match b with|.map m'=>Nat.beq m m'|_=>false
def aox(m:LA):Bool:=@List.rec _ (fun _=>Bool) true (fun _ _ _=>false) m
def ald(ih:AV->Bool)(ih':LA->Bool)(m:LA):Bool:=@List.rec _ (fun _=>Bool) false (fun b m _=>@Bool.rec (fun _=>Bool) false (ih' m) (ih b)) m
def eqQ:AV->AV->Bool:=@AV.rec (fun _=>AV->Bool) (fun _=>LA->Bool) alc aou aoz alg aoy (fun _=>ale) alh aot (fun n _=>qSl n) (fun n _=>aoB n) aow aov ad4 (fun f _ _=>alf f) Zi (fun t _=>ahU t) UV (fun _=>aos) (fun _=>aoA) aox (fun _ _=>ald)
def H5:LA->LA->Bool:=@AV.rec_1 (fun _=>AV->Bool) (fun _=>LA->Bool) alc aou aoz alg aoy (fun _=>ale) alh aot (fun n _=>qSl n) (fun n _=>aoB n) aow aov ad4 (fun f _ _=>alf f) Zi (fun t _=>ahU t) UV (fun _=>aos) (fun _=>aoA) aox (fun _ _=>ald)
theorem qG{a b:Bool}(h: @Bool.rec (fun _=>Bool) false b a=true):a=true/\b=true:=by cases a with
 |true=>exact⟨rfl,h⟩
 |false=>cases h
mutual
theorem VO:∀(a b:AV),eqQ a b=true->a=b
 |.bool a,b,h=>by cases b<;>first|exact Bool.noConfusion (show false=true from h)|exact congrArg _ (afw h)
 |.int k a,b,h=>by
  cases b<;>first|exact Bool.noConfusion (show false=true from h)|(have h2:=qG (show @Bool.rec (fun _=>Bool) false _ _=true from h);rw[agY h2.1,ajH h2.2])
 |.str a,b,h=>by cases b<;>first|exact Bool.noConfusion (show false=true from h)|exact congrArg _ (TP h)
 |.nilp,b,h=>by cases b<;>first|rfl|exact Bool.noConfusion (show false=true from h)
 |.ref o f,b,h=>by
  cases b<;>first|exact Bool.noConfusion (show false=true from h)|(have h2:=qG (show @Bool.rec (fun _=>Bool) false _ _=true from h);rw[Nat.eq_of_beq_eq_true h2.1,Nat.eq_of_beq_eq_true h2.2])
 |.eptr a,b,h=>by cases b<;>first|exact Bool.noConfusion (show false=true from h)|exact congrArg _ (xZ a _ h)
 |.nils,b,h=>by cases b<;>first|rfl|exact Bool.noConfusion (show false=true from h)
 |.emp,b,h=>by cases b<;>first|rfl|exact Bool.noConfusion (show false=true from h)
 |.sl n l,b,h=>by
  cases b<;>first|exact Bool.noConfusion (show false=true from h)|(have h2:=qG (show @Bool.rec (fun _=>Bool) false (H5 l _) _=true from h);rw[Nat.eq_of_beq_eq_true h2.1,xZ l _ h2.2])
 |.xsl n l,b,h=>by
  cases b<;>first|exact Bool.noConfusion (show false=true from h)|(have h2:=qG (show @Bool.rec (fun _=>Bool) false (H5 l _) _=true from h);rw[Nat.eq_of_beq_eq_true h2.1,xZ l _ h2.2])
 |.msl o f n z,b,h=>by
  cases b<;>first|exact Bool.noConfusion (show false=true from h)|(have h2:=qG (show @Bool.rec (fun _=>Bool) false (@Bool.rec (fun _=>Bool) false (@Bool.rec (fun _=>Bool) false _ _) _) _=true from h);have h3:=qG h2.2;have h4:=qG h3.2;rw[Nat.eq_of_beq_eq_true h2.1,Nat.eq_of_beq_eq_true h3.1,Nat.eq_of_beq_eq_true h4.1,Nat.eq_of_beq_eq_true h4.2])
 |.map m,b,h=>by cases b<;>first|exact Bool.noConfusion (show false=true from h)|exact congrArg _ (Nat.eq_of_beq_eq_true h)
 |.nilMap,b,h=>by cases b<;>first|rfl|exact Bool.noConfusion (show false=true from h)
 |.func f x y,b,h=>by
  cases b<;>first|exact Bool.noConfusion (show false=true from h)|(have h2:=qG (show @Bool.rec (fun _=>Bool) false (@Bool.rec (fun _=>Bool) false (H5 y _) (H5 x _)) _=true from h);have h3:=qG h2.2;rw[am3 h2.1,xZ x _ h3.1,xZ y _ h3.2])
 |.nilFunc,b,h=>by cases b<;>first|rfl|exact Bool.noConfusion (show false=true from h)
 |.iface t v,b,h=>by
  cases b<;>first|exact Bool.noConfusion (show false=true from h)|(have h2:=qG (show @Bool.rec (fun _=>Bool) false (eqQ v _) _=true from h);rw[Nat.eq_of_beq_eq_true h2.1,VO v _ h2.2])
 |.nilIface,b,h=>by cases b<;>first|rfl|exact Bool.noConfusion (show false=true from h)
 |.agg l,b,h=>by cases b<;>first|exact Bool.noConfusion (show false=true from h)|exact congrArg _ (xZ l _ h)
 |.tup l,b,h=>by cases b<;>first|exact Bool.noConfusion (show false=true from h)|exact congrArg _ (xZ l _ h)
theorem xZ:∀(l m:LA),H5 l m=true->l=m
 |[],m,h=>by cases m<;>first|rfl|exact Bool.noConfusion (show false=true from h)
 |a::l,m,h=>by
  cases m with
  |nil=>exact Bool.noConfusion (show false=true from h)
  |cons b m=>have h2:=qG (show @Bool.rec (fun _=>Bool) false (H5 l m) (eqQ a b)=true from h);rw[VO a b h2.1,xZ l m h2.2]
end
theorem MQ:∀x:LU,PL x x=true
 |[]=>rfl
 |a::x=>by
  show @Bool.rec (fun _=>Bool) false (PL x x) (Nat.beq a.toNat a.toNat)=true;rw[Nat.beq_refl,MQ x]
theorem ag9(f:Fn):fnQ f f=true:=by
 cases f with
 |func a=>exact Nat.beq_refl a
 |_=>simp[fnQ]
mutual
theorem PY:∀a:AV,eqQ a a=true
 |.bool a=>by cases a<;>rfl
 |.int k a=>by
  show @Bool.rec (fun _=>Bool) false (ajG a a) (acI k k)=true;have h1:acI k k=true:=by cases k<;>rfl
  have h2:ajG a a=true:=by cases a<;>exact Nat.beq_refl _
  rw[h1,h2]
 |.str a=>MQ a
 |.nilp=>rfl
 |.ref o f=>by
  show @Bool.rec (fun _=>Bool) false (Nat.beq f f) (Nat.beq o o)=true;rw[Nat.beq_refl,Nat.beq_refl]
 |.eptr a=>tY a
 |.nils=>rfl
 |.emp=>rfl
 |.sl n l=>by
  show @Bool.rec (fun _=>Bool) false (H5 l l) (Nat.beq n n)=true;rw[Nat.beq_refl,tY l]
 |.xsl n l=>by
  show @Bool.rec (fun _=>Bool) false (H5 l l) (Nat.beq n n)=true;rw[Nat.beq_refl,tY l]
 |.msl o f n z=>by
  show @Bool.rec (fun _=>Bool) false (@Bool.rec (fun _=>Bool) false (@Bool.rec (fun _=>Bool) false (Nat.beq z z) (Nat.beq n n)) (Nat.beq f f)) (Nat.beq o o)=true;rw[Nat.beq_refl,Nat.beq_refl,Nat.beq_refl,Nat.beq_refl]
 |.map m=>Nat.beq_refl m
 |.nilMap=>rfl
 |.func f x y=>by
  show @Bool.rec (fun _=>Bool) false (@Bool.rec (fun _=>Bool) false (H5 y y) (H5 x x)) (fnQ f f)=true;rw[ag9,tY x,tY y]
 |.nilFunc=>rfl
 |.iface t v=>by
  show @Bool.rec (fun _=>Bool) false (eqQ v v) (Nat.beq t t)=true;rw[Nat.beq_refl,PY v]
 |.nilIface=>rfl
 |.agg l=>tY l
 |.tup l=>tY l
theorem tY:∀l:LA,H5 l l=true
 |[]=>rfl
 |a::l=>by
  show @Bool.rec (fun _=>Bool) false (H5 l l) (eqQ a a)=true;rw[PY a,tY l]
end
mutual
theorem Md:∀a:AV,same a a=true
 |.bool a=>by simp[same]
 |.int k a=>by simp[same]
 |.str a=>by simp[same,oG]
 |.nilp=>by simp[same]
 |.ref o f=>by simp[same]
 |.eptr a=>by rw[same];exact qR a
 |.nils=>by simp[same]
 |.emp=>by simp[same]
 |.sl n l=>by rw[same,qR l];simp
 |.xsl n l=>by rw[same,qR l];simp
 |.msl o f n z=>by simp[same]
 |.map m=>by simp[same]
 |.nilMap=>by simp[same]
 |.func f x y=>by rw[same,qR x,qR y];simp
 |.nilFunc=>by simp[same]
 |.iface t v=>by rw[same,Md v];simp
 |.nilIface=>by simp[same]
 |.agg l=>by rw[same];exact qR l
 |.tup l=>by rw[same];exact qR l
theorem qR:∀l:LA,uq l l=true
 |[]=>by simp[uq]
 |a::l=>by rw[uq,Md a,qR l];rfl
end
theorem ag3(a b:AV):eqQ a b=same a b:=by
 cases h:eqQ a b with
 |true=>rw[VO a b h,Md]
 |false=>
  cases h2:same a b with
  |false=>rfl
  |true=>rw[same_eq a b h2,PY]at h;cases h
end
def agU:IntKind->Nat
 |.i8=>0|.i16=>1|.i32=>2|.i64=>3|.u8=>4|.u16=>5|.u32=>6|.u64=>7
def kEq(k k':IntKind):Bool:=Nat.beq (agU k) (agU k')
theorem amh(k k':IntKind):kEq k k'=decide (k=k'):=by cases k<;>cases k'<;>decide
def wrap64:Int->Int
 |.ofNat m=>match Nat.ble m 9223372036854775807 with
  |true=>.ofNat m
  |false=>IntKind.i64.wrap (.ofNat m)
 |.negSucc m=>match Nat.ble m 9223372036854775807 with
  |true=>.negSucc m
  |false=>IntKind.i64.wrap (.negSucc m)
theorem af8(n:Int):wrap64 n=IntKind.i64.wrap n:=by
 unfold wrap64;split
 ·split
  ·rename_i m h;have:=Nat.le_of_ble_eq_true h;rw[w64 (by simp only[Int.ofNat_eq_natCast];omega) (by simp only[Int.ofNat_eq_natCast];omega)]
  ·rfl
 ·split
  ·rename_i m h;have:=Nat.le_of_ble_eq_true h;rw[w64 (by omega) (by omega)]
  ·rfl
def Xx:Int->Int
 |.ofNat m=>.ofNat (Nat.mod m 256)
 |.negSucc m=>IntKind.u8.wrap (.negSucc m)
theorem af9(n:Int):Xx n=IntKind.u8.wrap n:=by
 unfold Xx;split
 ·rename_i m;rw[IntKind.wrap_u8];rfl
 ·rfl
def ZR:IntKind->Int->Int
 |.i64=>wrap64
 |.u8=>Xx
 |.i8=>IntKind.i8.wrap|.i16=>IntKind.i16.wrap|.i32=>IntKind.i32.wrap|.u16=>IntKind.u16.wrap|.u32=>IntKind.u32.wrap|.u64=>IntKind.u64.wrap
theorem SE(k:IntKind)(n:Int):ZR k n=k.wrap n:=by
 cases k
 case i64=>exact af8 n
 case u8=>exact af9 n
 all_goals rfl
def aed:Int->Int->Bool
 |.ofNat m=>fun y=>match y with
  |.ofNat n=>Nat.beq m n
  |.negSucc _=>false
 |.negSucc m=>fun y=>match y with
  |.ofNat _=>false
  |.negSucc n=>Nat.beq m n
theorem ES(m n:Nat):Nat.beq m n=decide (m=n):=by
 by_cases h:m=n
 ·subst h;simp
 ·rw[decide_eq_false h];cases hb:Nat.beq m n
  ·rfl
  ·exact absurd (Nat.eq_of_beq_eq_true hb) h
theorem VZ(x y:Int):aed x y=(x==y):=by
 cases x with
 |ofNat m=>cases y with
  |ofNat n=>
   simp only[aed,ES];by_cases h:m=n
   ·subst h;simp
   ·rw[decide_eq_false h]
    symm
    rw[beq_eq_false_iff_ne];intro h';exact h (Int.ofNat.inj h')
  |negSucc n=>rfl
 |negSucc m=>cases y with
  |ofNat n=>rfl
  |negSucc n=>
   simp only[aed,ES];by_cases h:m=n
   ·subst h;simp
   ·rw[decide_eq_false h]
    symm
    rw[beq_eq_false_iff_ne];intro h';exact h (Int.negSucc.inj h')
def aaD:Int->Int->Bool
 |.ofNat m=>fun y=>match y with
  |.ofNat n=>Nat.ble m n
  |.negSucc _=>false
 |.negSucc m=>fun y=>match y with
  |.ofNat _=>true
  |.negSucc n=>Nat.ble n m
theorem aj0(m n:Nat):Nat.ble m n=decide (m<=n):=by
 by_cases h:m<=n
 ·rw[decide_eq_true h];exact Nat.ble_eq_true_of_le h
 ·rw[decide_eq_false h];cases hb:Nat.ble m n
  ·rfl
  ·exact absurd (Nat.le_of_ble_eq_true hb) h
theorem V4(x y:Int):aaD x y=decide (x<=y):=by
 cases x<;>cases y<;>simp only[aaD,aj0]
 ·simp
 ·symm;simp;omega
 ·symm;simp;omega
 ·rename_i m n;by_cases h:n<=m
  ·rw[decide_eq_true h];symm;simp;omega
  ·rw[decide_eq_false h];symm;simp;omega
def afv:Bool->Bool
 |true=>false
 |false=>true
theorem VF(b:Bool):afv b= !b:=by cases b<;>rfl
def I5(op:BinOp):IntKind->Int->Int->Option AV:=
 match op with
 |.add=>fun k a b=>some (.int k (ZR k (Int.add a b)))
 |.sub=>fun k a b=>some (.int k (ZR k (Int.sub a b)))
 |.mul=>fun k a b=>some (.int k (ZR k (Int.mul a b)))
 |.eql=>fun k a b=>some (.bool (aed a b))
 |.neq=>fun k a b=>some (.bool (afv (aed a b)))
 |.lss=>fun k a b=>some (.bool (afv (aaD b a)))
 |.leq=>fun k a b=>some (.bool (aaD a b))
 |.gtr=>fun k a b=>some (.bool (afv (aaD a b)))
 |.geq=>fun k a b=>some (.bool (aaD b a))
 |op=>fun k a b=>jM op k a b
theorem Hy(op:BinOp)(k:IntKind)(a b:Int):I5 op k a b=jM op k a b:=by
 cases op<;>simp only[I5,jM,SE,VZ,V4,VF]<;>first|rfl|skip
 ·congr 2
  by_cases h:b<=a
  ·have h':¬a<b:=by omega
   simp[h,h']
  ·have h':a<b:=by omega
   simp[h,h']
 ·congr 2
  by_cases h:a<=b
  ·have h':¬b<a:=by omega
   simp[h,h']
  ·have h':b<a:=by omega
   simp[h,h']
def anf(a b:UInt8):Bool:=Nat.beq a.toNat b.toNat
theorem akx(a b:UInt8):anf a b=(a==b):=by
 unfold anf;rw[ES];by_cases h:a=b
 ·subst h;simp
 ·have:a.toNat≠b.toNat:=fun h'=>h (UInt8.toNat_inj.mp h');simp[h,this]
def DI:LU->LU->Bool
 |[]=>fun y=>match y with
  |[]=>true
  |_::_=>false
 |a::x=>fun y=>match y with
  |[]=>false
  |b::y=>match anf a b with
   |true=>DI x y
   |false=>false
theorem MO:∀x y:LU,DI x y=iD x y
 |[],[]=>rfl
 |[],_::_=>rfl
 |_::_,[]=>rfl
 |a::x,b::y=>by
  simp only[DI,iD];rw[akx,MO x y];cases a==b<;>rfl
def Oy(op:BinOp):LU->LU->Option AV:=
 match op with
 |.eql=>fun x y=>some (.bool (DI x y))
 |.neq=>fun x y=>some (.bool (afv (DI x y)))
 |op=>fun x y=>pz op x y
theorem aa8(op:BinOp)(x y:LU):Oy op x y=pz op x y:=by
 cases op<;>simp only[Oy,pz,MO,VF]
def FK:BinOp->Bool
 |.shl=>true
 |.shr=>true
 |_=>false
def adI(op:BinOp)(ek:Nat)(cst:Bool)(x y:AV):Option AV:=
 match x with
 |.int k a=>match y with
  |.int k' b=>match FK op with
   |true=>oz op k a b
   |false=>match kEq k k' with
    |true=>I5 op k a b
    |false=>none
  |_=>binOp op ek cst x y
 |.str s=>match y with
  |.str t=>Oy op s t
  |_=>binOp op ek cst x y
 |_=>binOp op ek cst x y
theorem aiX(op:BinOp)(ek:Nat)(cst:Bool)(x y:AV):adI op ek cst x y=binOp op ek cst x y:=by
 unfold adI;split
 ·split
  ·rw[amh,Hy];unfold binOp;dsimp only;cases op<;>simp only[FK]<;>first|rfl|(split<;>simp_all)
  ·rfl
 ·split
  ·rw[aa8];rfl
  ·rfl
 ·rfl
def afn:AV->Option Nat
 |.int _ n=>match n with
  |.ofNat m=>some m
  |.negSucc _=>none
 |_=>none
theorem adF(v:AV):afn v=jS v:=by
 cases v with
 |int k n=>cases n<;>simp[afn,jS]
 |_=>rfl
def Wl(k:Nat)(O:St)(x:AV):Option Nat:=bH O k x
def YR:As->Nat->AV
 |[]=>fun _=>.undef
 |p::A=>fun t=>match p with
  |(k,v)=>match Nat.beq k t with
   |true=>v
   |false=>YR A t
theorem QJ:∀(A:As) (t:Nat),YR A t=look A t
 |[],_=>rfl
 |(k,v)::A,t=>by
  simp only[YR,look,ES];by_cases h:k=t
  ·simp[h]
  ·simp[h,QJ A t]
def avF(x:XA):Ctx->As->AV:=
 match x with
 |.t n=>fun _ A=>YR A n
 |.c v=>fun _ _=>v
 |.g n=>fun C _=>.eptr ((C.gl n).getD [])
theorem alJ(x:XA)(C:Ctx)(A:As):avF x C A=avA C A x:=by
 cases x<;>simp only[avF,avA,QJ]
theorem abV(C:Ctx)(A:As):(fun x=>avF x C A)=avA C A:=funext fun x=>alJ x C A
def adv(g:Option (Nat×Bool)):As->Bool:=
 match g with
 |none=>fun _=>true
 |some p=>fun A=>match p with
  |(t,b)=>mQ b (YR A t)
theorem ZQ(o:XOp)(A:As):adv o.guard A=jc o A:=by
 unfold jc;cases o.guard with
 |none=>rfl
 |some p=>
  obtain⟨t,b⟩:=p;simp only[adv,QJ]
def aoq(d:Option Nat):As->AV->As:=
 match d with
 |some d=>fun A v=>(d,v)::A
 |none=>fun A _=>A
theorem aka(d:Option Nat)(A:As)(v:AV):aoq d A v=xy A d v:=by cases d<;>rfl
def apk(r:Option Out):bC->Option (AV×St):=
 match r with
 |none=>fun _=>none
 |some r=>fun call=>match r with
  |.val v O=>some (v,O)
  |.call f args O=>call f args O
def opF(o:XOp)(C:Ctx)(call:bC)(n:Nat)(A:As)(O:St):Option (AV×St):=
 match adv o.guard A with
 |true=>apk (aj C (fun x=>avF x C A) n O o.i) call
 |false=>some (.undef,O)
theorem amE(o:XOp)(C:Ctx)(call:bC)(n:Nat)(A:As)(O:St):opF o C call n A O=lV C call n o A O:=by
 unfold opF lV;rw[ZQ,abV];cases jc o A
 ·rfl
 ·simp only[if_true];cases aj C (avA C A) n O o.i with
  |none=>rfl
  |some x=>cases x<;>rfl
def akj:List XOp->Ctx->bC->Nat->As->St->Option (As×St×List (As×AV)×List St)
 |[]=>fun _ _ _ A O=>some (A,O,[],[O])
 |o::l=>fun C call n A O=>match opF o C call n A O with
  |none=>none
  |some p=>match p with
   |(v,O')=>match akj l C call n (aoq o.dst A v) O' with
    |none=>none
    |some q=>match q with
     |(A',O'',rs,ss)=>some (A',O'',(A,v)::rs,O::ss)
theorem ade(C:Ctx)(call:bC)(n:Nat):∀(l:List XOp) (A:As) (O:St),akj l C call n A O=kV C call n l A O
 |[],_,_=>rfl
 |o::l,A,O=>by
  simp only[akj,kV,amE,aka];cases lV C call n o A O with
  |none=>rfl
  |some p=>
   simp only[ade C call n l];cases kV C call n l (xy A o.dst p.1) p.2<;>rfl
noncomputable def Oc(o:XOp)(C:Ctx)(n:Nat)(A:As)(v:AV)(s:Option St):Bool:=match s with
 |none=>false
 |some s=>match aj C (fun x=>avF x C A) n s o.i with
  |none=>false
  |some x=>match x with
   |.val v1 _=>eqQ v1 v
   |.call _ _ _=>false
noncomputable def KD(o:XOp)(C:Ctx)(n:Nat)(A:As)(v:AV)(ss:List St):List Nat->Nat->Bool
 |[]=>fun _=>true
 | c::l=>fun p=>match(match Nat.beq (c+1) p with
   |true=>true
   |false=>Oc o C n A v ss[c]?)with
  |true=>match Oc o C n A v ss[c+1]? with
   |true=>KD o C n A v ss l (c+2)
   |false=>false
  |false=>false
theorem ahB (o:XOp) (C:Ctx) (n:Nat) (A:As) (v:AV) (s s':Option St):(Oc o C n A v s&&Oc o C n A v s')=(match s,s' with
  |some s,some s'=>(match aj C (avA C A) n s o.i,aj C (avA C A) n s' o.i with
   |some (.val v1 _),some (.val v2 _)=>same v1 v&&same v2 v
   |_,_=>false)
  |_,_=>false):=by
 cases s with
 |none=>cases s'<;>rfl
 |some s=>
  cases s' with
  |none=>exact Bool.and_false _
  |some s'=>
   simp only[Oc,abV];cases aj C (avA C A) n s o.i with
   |none=>rfl
   |some x=>
    cases x with
    |call f a t=>rfl
    |val v1 t=>
     cases aj C (avA C A) n s' o.i with
     |none=>exact Bool.and_false _
     |some y=>
      cases y with
      |call f a t=>exact Bool.and_false _
      |val v2 t=>simp only[ag3]
theorem NK(o:XOp)(C:Ctx)(n:Nat)(A:As)(v:AV)(ss:List St):∀(l:List Nat) (p:Nat),(p=0\/Oc o C n A v ss[p-1]?=true)->KD o C n A v ss l p=iy C n o A v ss l
 |[],p,_=>rfl
 |c::l,p,hp=>by
  have h1:(match Nat.beq (c+1) p with
   |true=>true
   |false=>Oc o C n A v ss[c]?)=Oc o C n A v ss[c]?:=by
   cases hb:Nat.beq (c+1) p with
   |false=>rfl
   |true=>
    have:=Nat.eq_of_beq_eq_true hb;subst this;rcases hp with hp|hp
    ·omega
    ·simpa using hp.symm
  have h3:iy C n o A v ss (c::l)=((Oc o C n A v ss[c]? &&Oc o C n A v ss[c+1]?)&&iy C n o A v ss l):=by rw[ahB];rfl
  rw[h3];simp only[KD,h1];cases Oc o C n A v ss[c]? with
  |false=>rfl
  |true=>
   cases h2:Oc o C n A v ss[c+1]? with
   |false=>rfl
   |true=>simp only[Bool.true_and];exact NK o C n A v ss l (c+2) (.inr (by simpa using h2))
noncomputable def FW(C:Ctx)(n:Nat)(ss:List St):List XOp->List (As×AV)->Bool
 |[],_=>true
 |o::l,rs=>match rs with
  |[]=>true
  |r::rs=>match r with
   | (A,v)=>match(match adv o.guard A with
     |true=>KD o C n A v ss o.loose 0
     |false=>true)with
    |true=>FW C n ss l rs
    |false=>false
theorem KE(C:Ctx)(n:Nat)(ss:List St):∀(l:List XOp) (rs:List (As×AV)),FW C n ss l rs=dK C n ss l rs
 |[],rs=>by cases rs<;>rfl
 |o::l,[]=>rfl
 |o::l,(A,v)::rs=>by
  simp only[FW,dK,KE C n ss l rs,ZQ,NK o C n A v ss o.loose 0 (.inl rfl)];cases jc o A
  ·rfl
  ·cases iy C n o A v ss o.loose<;>rfl
noncomputable def aal(l:List XOp)(C:Ctx)(call:bC)(n:Nat)(A:As)(O:St):Option (As×St):=
 match akj l C call n A O with
 |none=>none
 |some q=>match q with
  |(A',O',rs,ss)=>match FW C n ss l rs with
   |true=>some (A',O')
   |false=>none
theorem adR(l:List XOp)(C:Ctx)(call:bC)(n:Nat)(A:As)(O:St):aal l C call n A O=uM C call n l A O:=by
 unfold aal uM;rw[ade];cases kV C call n l A O with
 |none=>rfl
 |some q=>
  obtain⟨A',O',rs,ss⟩:=q;simp only[KE];cases dK C n ss l rs<;>rfl
noncomputable section
inductive EV where
 |nil
 |cons (t:Nat) (v:AV) (r:EV)
def aod(t:Nat):AV:=.undef
def amn(k:Nat)(v:AV)(r:EV)(ih:Nat->AV)(t:Nat):AV:=Bool.rec (ih t) v (Nat.beq k t)
def lkR(A:EV):Nat->AV:=EV.rec (motive:=fun _=>Nat->AV) aod amn A
def OE{ρ:Type}(v:AV):(AV->ρ)->ρ:=
 AV.rec (motive_1:=fun _=>(AV->ρ)->ρ) (motive_2:=fun _=>Unit)
  (fun b k=>k (.bool b)) (fun a b k=>k (.int a b)) (fun s k=>k (.str s)) (fun k=>k .nilp) (fun a b k=>k (.ref a b)) (fun a _ k=>k (.eptr a)) (fun k=>k .nils) (fun k=>k .emp) (fun a b _ k=>k (.sl a b)) (fun a b _ k=>k (.xsl a b))
  (fun a b c d k=>k (.msl a b c d)) (fun a k=>k (.map a)) (fun k=>k .nilMap) (fun a b c _ _ k=>k (.func a b c)) (fun k=>k .nilFunc) (fun a b _ k=>k (.iface a b)) (fun k=>k .nilIface) (fun a _ k=>k (.agg a)) (fun a _ k=>k (.tup a)) () (fun _ _ _ _=>()) v
structure QX where
 C:Ctx
 call:bC
 n:Nat
def apg(n:Nat)(X:QX)(A:EV):AV:=lkR A n
def anG(v:AV)(X:QX)(A:EV):AV:=v
def apb(n:Nat)(X:QX)(A:EV):AV:=.eptr ((X.C.gl n).getD [])
def avR(x:XA):QX->EV->AV:=XA.rec (motive:=fun _=>QX->EV->AV) apg anG apb x
inductive VI where
 |int (k:IntKind) (n:Int)
 |str (s:LU)
 |no
inductive VP where
 |ref (o off:Nat)
 |eptr (l:LA)
 |no
def viR(v:AV):VI:=
 AV.rec (motive_1:=fun _=>VI) (motive_2:=fun _=>Unit)
  (fun _=>.no) (fun k n=>.int k n) (fun s=>.str s) .no (fun _ _=>.no) (fun _ _=>.no) .no .no (fun _ _ _=>.no) (fun _ _ _=>.no)
  (fun _ _ _ _=>.no) (fun _=>.no) .no (fun _ _ _ _ _=>.no) .no (fun _ _ _=>.no) .no (fun _ _=>.no) (fun _ _=>.no) () (fun _ _ _ _=>()) v
def ac3(v:AV):Option Bool:=
 AV.rec (motive_1:=fun _=>Option Bool) (motive_2:=fun _=>Unit)
  (fun b=>some b) (fun k n=>none) (fun s=>none) none (fun o f=>none) (fun l _=>none) none none (fun _ _ _=>none) (fun _ _ _=>none)
  (fun _ _ _ _=>none) (fun _=>none) none (fun _ _ _ _ _=>none) none (fun _ _ _=>none) none (fun _ _=>none) (fun _ _=>none) () (fun _ _ _ _=>()) v
def aoU(v:AV):Option LA:=
 AV.rec (motive_1:=fun _=>Option LA) (motive_2:=fun _=>Unit)
  (fun b=>none) (fun k n=>none) (fun s=>none) none (fun o f=>none) (fun l _=>none) none none (fun _ _ _=>none) (fun _ _ _=>none)
  (fun _ _ _ _=>none) (fun _=>none) none (fun _ _ _ _ _=>none) none (fun _ _ _=>none) none (fun _ _=>none) (fun l _=>some l) () (fun _ _ _ _=>()) v
def YG(k:IntKind):Nat:=IntKind.rec 0 1 2 3 4 5 6 7 k
def adx(n:Int):Int:=
 Int.rec (motive:=fun _=>Int) (fun m=>Bool.rec (IntKind.i64.wrap (.ofNat m)) (.ofNat m) (Nat.ble m 9223372036854775807)) (fun m=>Bool.rec (IntKind.i64.wrap (.negSucc m)) (.negSucc m) (Nat.ble m 9223372036854775807)) n
def ady(n:Int):Int:=Int.rec (motive:=fun _=>Int) (fun m=>.ofNat (Nat.mod m 256)) (fun m=>IntKind.u8.wrap (.negSucc m)) n
def Vd(k:IntKind):Int->Int:=IntKind.rec IntKind.i8.wrap IntKind.i16.wrap IntKind.i32.wrap adx ady IntKind.u16.wrap IntKind.u32.wrap IntKind.u64.wrap k
def acw(x y:Int):Bool:=Int.rec (motive:=fun _=>Bool) (fun m=>Int.rec (motive:=fun _=>Bool) (fun n=>Nat.beq m n) (fun _=>false) y) (fun m=>Int.rec (motive:=fun _=>Bool) (fun _=>false) (fun n=>Nat.beq m n) y) x
def Ur(x y:Int):Bool:=Int.rec (motive:=fun _=>Bool) (fun m=>Int.rec (motive:=fun _=>Bool) (fun n=>Nat.ble m n) (fun _=>false) y) (fun m=>Int.rec (motive:=fun _=>Bool) (fun _=>true) (fun n=>Nat.ble n m) y) x
def akO(x y:Int):Int:=Int.rec (motive:=fun _=>Int) (fun m=>Int.rec (motive:=fun _=>Int) (fun n=>.ofNat (Nat.add m n)) (fun n=>Int.add (.ofNat m) (.negSucc n)) y) (fun m=>Int.add (.negSucc m) y) x
def akP(x y:Int):Int:=Int.rec (motive:=fun _=>Int) (fun m=>Int.rec (motive:=fun _=>Int) (fun n=>Bool.rec (Int.sub (.ofNat m) (.ofNat n)) (.ofNat (Nat.sub m n)) (Nat.ble n m)) (fun n=>Int.sub (.ofNat m) (.negSucc n)) y) (fun m=>Int.sub (.negSucc m) y) x
def ahw(b:Bool):Bool:=Bool.rec true false b
def Ox(op:BinOp):IntKind->Int->Int->Option AV:=
 match op with
 |.add=>fun k a b=>some (.int k (Vd k (akO a b)))
 |.sub=>fun k a b=>some (.int k (Vd k (akP a b)))
 |.mul=>fun k a b=>some (.int k (Vd k (Int.mul a b)))
 |.eql=>fun k a b=>some (.bool (acw a b))
 |.neq=>fun k a b=>some (.bool (ahw (acw a b)))
 |.lss=>fun k a b=>some (.bool (ahw (Ur b a)))
 |.leq=>fun k a b=>some (.bool (Ur a b))
 |.gtr=>fun k a b=>some (.bool (ahw (Ur a b)))
 |.geq=>fun k a b=>some (.bool (Ur b a))
 |op=>fun k a b=>jM op k a b
def afq(op:BinOp)(ek:Nat)(cst:Bool)(x y:AV):Option AV:=
 VI.rec (motive:=fun _=>Option AV)
  (fun k a=>VI.rec (motive:=fun _=>Option AV)
   (fun k' b=>Bool.rec (Bool.rec none (Ox op k a b) (Nat.beq (YG k) (YG k'))) (oz op k a b) (FK op))
   (fun _=>binOp op ek cst x y) (binOp op ek cst x y) (viR y))
  (fun s=>VI.rec (motive:=fun _=>Option AV) (fun _ _=>binOp op ek cst x y) (fun t=>Oy op s t) (binOp op ek cst x y) (viR y))
  (binOp op ek cst x y) (viR x)
def aaV{α:Type}(l:List α):Nat->Option α:=
 List.rec (motive:=fun _=>Nat->Option α) (fun _=>none) (fun a _ ih n=>Nat.rec (motive:=fun _=>Option α) (some a) (fun m _=>ih m) n) l
def aa3(v:AV):Option Nat:=
 VI.rec (motive:=fun _=>Option Nat) (fun _ n=>Int.rec (motive:=fun _=>Option Nat) (fun m=>some m) (fun _=>none) n) (fun _=>none) none (viR v)
abbrev iU:=QX->EV->St->Option (EV×St)
def apn(d:Nat)(ih:iU)(X:QX)(A:EV)(O:St)(v:AV):Option (EV×St):=ih X (.cons d v A) O
def apo(d:Nat)(v:AV)(ih:iU)(X:QX)(A:EV)(O:St):Option (EV×St):=OE v (apn d ih X A O)
def aol(v:AV)(ih:iU)(X:QX)(A:EV)(O:St):Option (EV×St):=ih X A O
def NF(d:Option Nat):AV->iU->iU:=Option.rec (motive:=fun _=>AV->iU->iU) aol apo d
def aom(d:Option Nat)(ih:iU)(X:QX)(A:EV)(O:St):Option (EV×St):=none
def aoR(v:AV)(d:Option Nat)(ih:iU)(X:QX)(A:EV)(O:St):Option (EV×St):=NF d v ih X A O
def Sz(r:Option AV):Option Nat->iU->iU:=Option.rec (motive:=fun _=>Option Nat->iU->iU) aom aoR r
def aoo(v:AV)(O':St)(d:Option Nat)(ih:iU)(X:QX)(A:EV):Option (EV×St):=NF d v ih X A O'
def al9(d:Option Nat)(ih:iU)(X:QX)(A:EV):Option (EV×St):=none
def aoQ(p:AV×St):Option Nat->iU->QX->EV->Option (EV×St):=Prod.rec (motive:=fun _=>Option Nat->iU->QX->EV->Option (EV×St)) aoo p
def akf(r:Option (AV×St)):Option Nat->iU->QX->EV->Option (EV×St):=Option.rec (motive:=fun _=>Option Nat->iU->QX->EV->Option (EV×St)) al9 aoQ r
def apm(v:AV)(O:St)(d:Option Nat)(ih:iU)(X:QX)(A:EV):Option (EV×St):=NF d v ih X A O
def apj(f:FuncId)(args:LA)(O:St)(d:Option Nat)(ih:iU)(X:QX)(A:EV):Option (EV×St):=akf (X.call f args O) d ih X A
def apl(o:Out):Option Nat->iU->QX->EV->Option (EV×St):=Out.rec (motive:=fun _=>Option Nat->iU->QX->EV->Option (EV×St)) apm apj o
def amG(r:Option Out):Option Nat->iU->QX->EV->Option (EV×St):=Option.rec (motive:=fun _=>Option Nat->iU->QX->EV->Option (EV×St)) al9 apl r
abbrev Step:=Option Nat->iU->iU
def sMv(x:XA)(d:Option Nat)(ih:iU)(X:QX)(A:EV)(O:St):Option (EV×St):=NF d (avR x X A) ih X A O
def afr(np:Bool)(op:BinOp)(ek:Nat)(cst:Bool)(x y:AV):Option AV:=Bool.rec (motive:=fun _=>Option AV) (afq op ek cst x y) (Bool.rec (motive:=fun _=>Option AV) (afq op ek cst x y) none (Ri x y)) np
def apr(op:BinOp)(ek:Nat)(cst:Bool)(x y:XA)(d:Option Nat)(ih:iU)(X:QX)(A:EV)(O:St):Option (EV×St):=Sz (afr X.C.np op ek cst (avR x X A) (avR y X A)) d ih X A O
def anQ(k:IntKind)(v:AV):Option AV:=VI.rec (motive:=fun _=>Option AV) (fun _ n=>some (.int k (Vd k n))) (fun _=>none) none (viR v)
def aps(k:IntKind)(x:XA)(d:Option Nat)(ih:iU)(X:QX)(A:EV)(O:St):Option (EV×St):=Sz (anQ k (avR x X A)) d ih X A O
def ape(b:UInt8):Option AV:=some (.int .u8 (.ofNat b.toNat))
def anW(r:Option UInt8):Option AV:=Option.rec (motive:=fun _=>Option AV) none ape r
def anV(s:LU)(i:Option Nat):Option AV:=Option.rec (motive:=fun _=>Option AV) none (fun i=>anW (aaV s i)) i
def anX(x i:AV):Option AV:=VI.rec (motive:=fun _=>AV->Option AV) (fun _ _ _=>none) (fun s i=>anV s (aa3 i)) (fun _=>none) (viR x) i
def akm(x i:XA)(d:Option Nat)(ih:iU)(X:QX)(A:EV)(O:St):Option (EV×St):=Sz (anX (avR x X A) (avR i X A)) d ih X A O
def anI(l:Option LA)(i:Nat):Option AV:=Option.rec (motive:=fun _=>Option AV) none (fun l=>aaV l i) l
def ai7(x:XA)(i:Nat)(d:Option Nat)(ih:iU)(X:QX)(A:EV)(O:St):Option (EV×St):=Sz (anI (aoU (avR x X A)) i) d ih X A O
def alb(q:Option Bool)(x y:AV):Option AV:=Option.rec (motive:=fun _=>Option AV) none (fun b=>Bool.rec (some y) (some x) b) q
def aoN(c x y:XA)(d:Option Nat)(ih:iU)(X:QX)(A:EV)(O:St):Option (EV×St):=Sz (alb (ac3 (avR c X A)) (avR x X A) (avR y X A)) d ih X A O
def ajR(X:QX)(A:EV)(l:List XA):LA:=List.rec (motive:=fun _=>LA) [] (fun x _ ih=>avR x X A::ih) l
def amX(f:FuncId)(l:List XA)(d:Option Nat)(ih:iU)(X:QX)(A:EV)(O:St):Option (EV×St):=akf (X.call f (ajR X A l) O) d ih X A
def sG(j:XI)(d:Option Nat)(ih:iU)(X:QX)(A:EV)(O:St):Option (EV×St):=amG (aj X.C (fun x=>avR x X A) X.n O j) d ih X A
def kS(i:XI):Step:=
 XI.rec (motive:=fun _=>Step) sMv aoN (fun a b=>sG (.new a b)) (fun a=>sG (.box a)) (fun a b=>sG (.build a b)) (fun a b c d=>sG (.buildSl a b c d)) (fun a b c=>sG (.load a b c)) (fun a b c=>sG (.store a b c)) (fun a=>sG (.nilck a)) apr (fun a b=>sG (.un a b)) aps (fun a=>sG (.s2s a)) (fun a=>sG (.i2s a)) (fun a=>sG (.b2s a)) (fun a=>sG (.s2b a)) (fun a=>sG (.s2r a)) (fun a b=>sG (.mkIface a b)) (fun a b c=>sG (.mkFunc a b c)) (sG .mkMap) (fun a b c d e=>sG (.mkSlice a b c d e)) (fun a b c=>sG (.sliceStr a b c)) (fun a b c d e=>sG (.sliceSl a b c d e)) (fun a b c d e f=>sG (.sliceArr a b c d e f)) (fun a b=>sG (.fieldAddr a b)) (fun a b c d=>sG (.field a b c d)) (fun a b c d=>sG (.idxAddrArr a b c d)) (fun a b c=>sG (.idxAddrSl a b c)) (fun a b c d e=>sG (.idxArr a b c d e)) akm (fun a b c d=>sG (.lookup a b c d)) (fun a b c=>sG (.mapUpd a b c)) (fun a b c=>sG (.mapEntry a b c)) (fun a b c=>sG (.entryStore a b c)) ai7 (fun a b c d e f=>sG (.app a b c d e f)) (fun a b=>sG (.len a b)) (fun a=>sG (.lenC a)) (fun a b c=>sG (.cpy a b c)) (fun a b c=>sG (.minmax a b c)) amX (fun a b=>sG (.callV a b)) (fun a b c=>sG (.invoke a b c)) (sG .pend) (fun a b c d=>sG (.fill a b c d)) (sG .fail) i
def adw(t:Nat)(b:Bool)(A:EV):Bool:=Option.rec (motive:=fun _=>Bool) false (fun c=>Bool.rec (ahw b) b c) (ac3 (lkR A t))
def unS(d:Option Nat)(i:XI)(ih:iU)(X:QX)(A:EV)(O:St):Option (EV×St):=kS i d ih X A O
def guP(t:Nat)(b:Bool)(d:Option Nat)(i:XI)(ih:iU)(X:QX)(A:EV)(O:St):Option (EV×St):=Bool.rec (NF d .undef ih X A O) (kS i d ih X A O) (adw t b A)
def guS(p:Nat×Bool):Option Nat->XI->iU->iU:=Prod.rec (motive:=fun _=>Option Nat->XI->iU->iU) guP p
def xS(d:Option Nat)(i:XI)(g:Option (Nat×Bool))(l:List Nat):iU->iU:=Option.rec (motive:=fun _=>Option Nat->XI->iU->iU) unS guS g d i
def aph(X:QX)(A:EV)(O:St):Option (EV×St):=some (A,O)
def afP(o:XOp)(l:List XOp)(ih:iU):iU:=XOp.rec (motive:=fun _=>iU->iU) xS o ih
def aeE(l:List XOp):iU:=List.rec (motive:=fun _=>iU) aph afP l
def al1(ρ:Type)(t:Nat)(kont:EV->ρ)(v:AV)(E:EV):ρ:=kont (.cons t v E)
def agW(ρ:Type)(t:Nat)(ih:EV->(EV->ρ)->ρ)(A:EV)(kont:EV->ρ)(v:AV):ρ:=ih A (al1 ρ t kont v)
def agV(ρ:Type)(t:Nat)(l:List Nat)(ih:EV->(EV->ρ)->ρ)(A:EV)(kont:EV->ρ):ρ:=OE (lkR A t) (agW ρ t ih A kont)
def ajM(ρ:Type)(A:EV)(kont:EV->ρ):ρ:=kont .nil
def keepR(ρ:Type)(k:List Nat):EV->(EV->ρ)->ρ:=List.rec (motive:=fun _=>EV->(EV->ρ)->ρ) (ajM ρ) (agV ρ) k
abbrev jL:=Option (XE×EV×St)
abbrev Dk:=QX->Nat->EV->St->jL
def xeP(A:EV)(O:St):jL:=some (.normal,A,O)
def xeS(p:EV×St):jL:=Prod.rec (motive:=fun _=>jL) xeP p
def xeR(r:Option (EV×St)):jL:=Option.rec (motive:=fun _=>jL) none xeS r
abbrev On:=(EV->St->jL)->(Nat->EV->St->jL)->jL
def onN(A:EV)(O:St)(f:EV->St->jL)(g:Nat->EV->St->jL):jL:=f A O
def onE(i:Nat)(A:EV)(O:St)(f:EV->St->jL)(g:Nat->EV->St->jL):jL:=g i A O
def onT(A:EV)(O:St)(f:EV->St->jL)(g:Nat->EV->St->jL):jL:=some (.ret,A,O)
def onX(x:XE):EV->St->On:=XE.rec (motive:=fun _=>EV->St->On) onN onE onT x
def api(A:EV)(O:St)(x:XE):On:=onX x A O
def onP(x:XE)(p:EV×St):On:=Prod.rec (motive:=fun _=>XE->On) api p x
def onQ(q:XE×EV×St):On:=Prod.rec (motive:=fun _=>On) onP q
def amD(f:EV->St->jL)(g:Nat->EV->St->jL):jL:=none
def onR(r:jL):On:=Option.rec (motive:=fun _=>On) amD onQ r
def Po(i:Nat)(A:EV)(O:St):jL:=some (.exit i,A,O)
def abW(A:EV)(O:St):jL:=some (.normal,A,O)
def anC(X:QX)(m:Nat)(A:EV)(O:St):jL:=some (.normal,A,O)
def anz(l:List XOp)(X:QX)(m:Nat)(A:EV)(O:St):jL:=xeR (aeE l X A O)
def akw(l:As):EV:=List.rec (motive:=fun _=>EV) .nil (fun p _ ih=>Prod.rec (motive:=fun _=>EV->EV) (fun t v E=>.cons t v E) p ih) l
def EV.as:EV->As
 |.nil=>[]
 |.cons t v r=>(t,v)::r.as
def aa4(l:List XOp)(X:QX)(m:Nat)(A:EV)(O:St):jL:=xeR (Option.rec (motive:=fun _=>Option (EV×St)) none (fun p=>Prod.rec (motive:=fun _=>Option (EV×St)) (fun A O=>some (akw A,O)) p) (aal l X.C X.call X.n A.as O))
def ap7(_ _:KC)(a b:Dk)(X:QX)(m:Nat)(A:EV)(O:St):jL:=onR (a X m A O) (b X m) Po
def bIf(q:Bool)(a b:Dk)(X:QX)(m:Nat)(A:EV)(O:St):jL:=Bool.rec (b X m A O) (a X m A O) q
def bNo(a b:Dk)(X:QX)(m:Nat)(A:EV)(O:St):jL:=none
def afo(c:XA)(_ _:KC)(a b:Dk)(X:QX)(m:Nat)(A:EV)(O:St):jL:=Option.rec (motive:=fun _=>Dk->Dk->Dk) bNo bIf (ac3 (avR c X A)) a b X m A O
def anA(id i:Nat)(A:EV)(O:St):jL:=Bool.rec (Po i A O) (abW A O) (Nat.beq i id)
def alK(id:Nat)(_:KC)(b:Dk)(X:QX)(m:Nat)(A:EV)(O:St):jL:=onR (b X m A O) abW (anA id)
def lp0(k:List Nat)(b:Dk)(X:QX)(m0:Nat)(A:EV)(O:St):jL:=none
def lpS(_:Nat)(ih:List Nat->Dk->QX->Nat->EV->St->jL)(k:List Nat)(b:Dk)(X:QX)(m0:Nat)(A:EV)(O:St):jL:=keepR jL k A (fun A=>onR (b X m0 A O) (ih k b X m0) Po)
def acK(m:Nat):List Nat->Dk->QX->Nat->EV->St->jL:=Nat.rec (motive:=fun _=>List Nat->Dk->QX->Nat->EV->St->jL) lp0 lpS m
def anx(k:List Nat)(_:KC)(b:Dk)(X:QX)(m:Nat)(A:EV)(O:St):jL:=acK m k b X m A O
def alL(k:List Nat)(id:Nat)(X:QX)(m:Nat)(A:EV)(O:St):jL:=keepR jL k A (fun A=>some (.exit id,A,O))
def anB(k:List Nat)(X:QX)(m:Nat)(A:EV)(O:St):jL:=keepR jL k A (fun A=>some (.ret,A,O))
def alM(_:KC)(b:Dk)(X:QX)(m:Nat)(A:EV)(O:St):jL:=b X m A O
def anw(X:QX)(m:Nat)(A:EV)(O:St):jL:=none
def kCR(c:KC):Dk:=KC.rec (motive:=fun _=>Dk) anC anz anz aa4 ap7 afo alK anx alL anB alM anw c
end
theorem Wq:∀(A:EV) (t:Nat),lkR A t=look A.as t
 |.nil,_=>rfl
 |.cons k v r,t=>by
  have ih:=Wq r t;show(Bool.rec (lkR r t) v (Nat.beq k t):AV)=if k=t then v else look r.as t;rw[ih];by_cases h:k=t
  ·subst h;simp
  ·rw[if_neg h,show Nat.beq k t=false by rw[ES];simp[h]]
theorem vN(x:XA)(X:QX)(A:EV):avR x X A=avA X.C A.as x:=by
 cases x
 case t n=>exact Wq A n
 case c v=>rfl
 case g n=>rfl
theorem aiS(X:QX)(A:EV):(fun x=>avR x X A)=avA X.C A.as:=funext fun x=>vN x X A
theorem Qk{ρ:Type}(v:AV)(k:AV->ρ):OE v k=k v:=by cases v<;>rfl
theorem abx(n:Int):adx n=wrap64 n:=by
 cases n with
 |ofNat m=>
  show(Bool.rec _ _ (Nat.ble m 9223372036854775807):Int)=match Nat.ble m 9223372036854775807 with|true=>_|false=>_
  cases Nat.ble m 9223372036854775807<;>rfl
 |negSucc m=>
  show(Bool.rec _ _ (Nat.ble m 9223372036854775807):Int)=match Nat.ble m 9223372036854775807 with|true=>_|false=>_
  cases Nat.ble m 9223372036854775807<;>rfl
theorem aby(n:Int):ady n=Xx n:=by cases n<;>rfl
theorem ZT(k:IntKind)(n:Int):Vd k n=k.wrap n:=by
 rw[<-SE];cases k
 case i64=>exact abx n
 case u8=>exact aby n
 all_goals rfl
theorem agu(x y:Int):acw x y=(x==y):=by rw[<-VZ];cases x<;>cases y<;>rfl
theorem agv(x y:Int):Ur x y=decide (x<=y):=by rw[<-V4];cases x<;>cases y<;>rfl
theorem agt(x y:Int):akO x y=x+y:=by cases x<;>cases y<;>rfl
theorem agw(x y:Int):akP x y=x-y:=by
 cases x with
 |ofNat m=>cases y with
  |ofNat n=>
   show(Bool.rec _ _ (Nat.ble n m):Int)=_;cases h:Nat.ble n m
   ·rfl
   ·have:=Nat.le_of_ble_eq_true h;show((m-n:Nat):Int)=(m:Int)-(n:Int);omega
  |negSucc n=>rfl
 |negSucc m=>rfl
theorem ajU(b:Bool):ahw b= !b:=by cases b<;>rfl
theorem aa7(op:BinOp)(k:IntKind)(a b:Int):Ox op k a b=jM op k a b:=by
 rw[<-Hy];have e:∀z,Vd k z=ZR k z:=fun z=>by rw[ZT,SE]
 have e1:∀x y,acw x y=aed x y:=fun x y=>by rw[agu,VZ]
 have e2:∀x y,Ur x y=aaD x y:=fun x y=>by rw[agv,V4]
 cases op<;>simp only[Ox,I5,e,e1,e2,ajU,VF,agt,agw]<;>rfl
theorem YH(k:IntKind):YG k=agU k:=by cases k<;>rfl
theorem aft(op:BinOp)(ek:Nat)(cst:Bool)(k:IntKind)(a:Int)(k':IntKind)(b:Int):afq op ek cst (.int k a) (.int k' b)=adI op ek cst (.int k a) (.int k' b):=by
 show(Bool.rec (Bool.rec none (Ox op k a b) (Nat.beq (YG k) (YG k'))) (oz op k a b) (FK op):Option AV)=match FK op with|true=>oz op k a b|false=>match kEq k k' with|true=>I5 op k a b|false=>none
 rw[YH,YH,aa7,<-Hy];unfold kEq;cases FK op<;>cases Nat.beq (agU k) (agU k')<;>rfl
theorem abZ(op:BinOp)(ek:Nat)(cst:Bool)(x y:AV):afq op ek cst x y=binOp op ek cst x y:=by
 rw[<-aiX];cases x
 case int k a=>
  cases y
  case int k' b=>exact aft op ek cst k a k' b
  all_goals first|rfl|(simp only[adI];rfl)
 case str s=>
  cases y
  case str t=>rfl
  all_goals first|rfl|(simp only[adI];rfl)
 all_goals first|rfl|(simp only[adI];rfl)
theorem afs(np:Bool)(op:BinOp)(ek:Nat)(cst:Bool)(x y:AV):afr np op ek cst x y=sS np op ek cst x y:=by
 cases np with
 |false=>exact abZ op ek cst x y
 |true=>
  show(Bool.rec (afq op ek cst x y) none (Ri x y):Option AV)=match Ri x y with|true=>none|false=>binOp op ek cst x y
  cases Ri x y with
  |true=>rfl
  |false=>exact abZ op ek cst x y
theorem Wy{α:Type}:∀(l:List α) (n:Nat),aaV l n=l[n]?
 |[],_=>by simp[aaV]
 |a::l,0=>rfl
 |a::l,n+1=>by
  have:=Wy l n;show aaV l n=_;rw[this];simp
theorem adG(v:AV):aa3 v=jS v:=by
 rw[<-adF];cases v
 case int k n=>cases n<;>rfl
 all_goals rfl
def ak8(d:Option Nat)(v:AV)(A:EV):EV:=
 match d with
 |some d=>.cons d v A
 |none=>A
theorem ak9(d:Option Nat)(v:AV)(A:EV):(ak8 d v A).as=xy A.as d v:=by cases d<;>rfl
def andThen(r:Option (AV×St))(d:Option Nat)(ih:iU)(X:QX)(A:EV):Option (EV×St):=
 match r with
 |none=>none
 |some (v,O)=>ih X (ak8 d v A) O
def outA(r:Option Out)(call:bC):Option (AV×St):=
 match r with
 |some (.val v O')=>some (v,O')
 |some (.call f args O')=>call f args O'
 |none=>none
theorem Em(d:Option Nat)(v:AV)(ih:iU)(X:QX)(A:EV)(O:St):NF d v ih X A O=ih X (ak8 d v A) O:=by
 cases d with
 |none=>rfl
 |some d=>exact Qk v _
theorem KW(r:Option AV)(d:Option Nat)(ih:iU)(X:QX)(A:EV)(O:St):Sz r d ih X A O=andThen (outA (r.map (.val · O)) X.call) d ih X A:=by
 cases r with
 |none=>rfl
 |some v=>exact Em d v ih X A O
theorem ad8(r:Option (AV×St))(d:Option Nat)(ih:iU)(X:QX)(A:EV):akf r d ih X A=andThen r d ih X A:=by
 cases r with
 |none=>rfl
 |some p=>
  obtain⟨v,O⟩:=p;exact Em d v ih X A O
theorem ak1(r:Option Out)(d:Option Nat)(ih:iU)(X:QX)(A:EV):amG r d ih X A=andThen (outA r X.call) d ih X A:=by
 cases r with
 |none=>rfl
 |some o=>cases o with
  |val v O=>exact Em d v ih X A O
  |call f args O=>exact ad8 _ d ih X A
theorem acL(X:QX)(A:EV):∀l:List XA,ajR X A l=l.map (avA X.C A.as)
 |[]=>rfl
 |x::l=>by
  show avR x X A::ajR X A l=_;rw[vN,acL X A l];rfl
theorem al0(i:XI)(d:Option Nat)(ih:iU)(X:QX)(A:EV)(O:St):kS i d ih X A O=andThen (outA (aj X.C (avA X.C A.as) X.n O i) X.call) d ih X A:=by
 have g:∀(j:XI),amG (aj X.C (fun x=>avR x X A) X.n O j) d ih X A=andThen (outA (aj X.C (avA X.C A.as) X.n O j) X.call) d ih X A:=fun j=>by rw[ak1,aiS]
 cases i
 case mv x=>
  show NF d (avR x X A) ih X A O=_;rw[Em,vN];rfl
 case pick c x y=>
  show Sz (alb (ac3 (avR c X A)) (avR x X A) (avR y X A)) d ih X A O=_;rw[KW,vN,vN,vN]
  congr 2
  simp only[aj];cases avA X.C A.as c
  case bool b=>cases b<;>rfl
  all_goals rfl
 case bin op ek cst x y=>
  show Sz (afr X.C.np op ek cst (avR x X A) (avR y X A)) d ih X A O=_;rw[KW,vN,vN,afs];rfl
 case i2i k x=>
  show Sz (anQ k (avR x X A)) d ih X A O=_;rw[KW,vN]
  congr 2
  simp only[aj];cases avA X.C A.as x
  case int k' n=>show some _=some _;rw[ZT]
  all_goals rfl
 case idxStr x i=>
  show Sz (anX (avR x X A) (avR i X A)) d ih X A O=_;rw[KW,vN,vN]
  congr 2
  simp only[aj];cases hx:avA X.C A.as x
  case str s=>
   show Option.map _ (anV s (aa3 (avA X.C A.as i)))=_;rw[adG];cases jS (avA X.C A.as i)with
   |none=>rfl
   |some n=>
    show Option.map _ (anW (aaV s n))=_;rw[Wy];dsimp only;cases s[n]? <;>rfl
  all_goals (cases jS (avA X.C A.as i)<;>rfl)
 case extract x i=>
  show Sz (anI (aoU (avR x X A)) i) d ih X A O=_;rw[KW,vN]
  congr 2
  simp only[aj];cases avA X.C A.as x
  case tup l=>
   show Option.map _ (aaV l i)=_;rw[Wy];dsimp only;cases l[i]? <;>rfl
  all_goals rfl
 case callF f l=>
  show akf (X.call f (ajR X A l) O) d ih X A=_;rw[ad8,acL];rfl
 all_goals (refine Eq.trans ?_ (g _);rfl)
theorem aiE(t:Nat)(b:Bool)(A:EV):adw t b A=mQ b (look A.as t):=by
 unfold adw;rw[Wq];cases look A.as t
 case bool c=>cases b<;>cases c<;>rfl
 all_goals rfl
theorem afQ(o:XOp)(l:List XOp)(ih:iU)(X:QX)(A:EV)(O:St):afP o l ih X A O=andThen (lV X.C X.call X.n o A.as O) o.dst ih X A:=by
 obtain⟨d,i,g,ls⟩:=o;cases g with
 |none=>
  show kS i d ih X A O=_;rw[al0];rfl
 |some p=>
  obtain⟨t,b⟩:=p;show(Bool.rec (NF d .undef ih X A O) (kS i d ih X A O) (adw t b A):Option (EV×St))=_;rw[aiE,al0,Em];have hw:jc ⟨d,i,some (t,b),ls⟩ A.as=mQ b (look A.as t):=rfl;unfold lV;rw[hw];cases hb:mQ b (look A.as t)
  ·rfl
  ·rfl
def aiQ(r:Option (EV×St)):Option (As×St):=r.map fun p=>(p.1.as,p.2)
theorem WC:∀(l:List XOp) (X:QX) (A:EV) (O:St),aiQ (aeE l X A O)=dm X.C X.call X.n l A.as O
 |[],_,_,_=>rfl
 |o::l,X,A,O=>by
  show aiQ (afP o l (aeE l) X A O)=_;rw[afQ];unfold dm;cases lV X.C X.call X.n o A.as O with
  |none=>rfl
  |some p=>
   obtain⟨v,O'⟩:=p;show aiQ (aeE l X (ak8 o.dst v A) O')=dm X.C X.call X.n l (xy A.as o.dst v) O';rw[WC l,ak9]
theorem J6(ρ:Type):∀(k:List Nat) (A:EV) (kont:EV->ρ),∃E:EV,E.as=keepA k A.as/\keepR ρ k A kont=kont E
 |[],A,kont=>⟨.nil,rfl,rfl⟩
 |t::k,A,kont=>by
  obtain⟨E,hE,h⟩:=J6 ρ k A (al1 ρ t kont (lkR A t));refine⟨.cons t (lkR A t) E,?_,?_⟩
  ·show(t,lkR A t)::E.as=_;rw[hE,Wq];rfl
  ·show OE (lkR A t) (agW ρ t (keepR ρ k) A kont)=_;rw[Qk];exact h
def asX(r:jL):Option (XE×As×St):=r.map fun p=>(p.1,p.2.1.as,p.2.2)
def xeF(r:Option (As×St)):Option (XE×As×St):=r.map fun p=>(.normal,p.1,p.2)
theorem abz(r:Option (EV×St)):asX (xeR r)=xeF (aiQ r):=by
 cases r with
 |none=>rfl
 |some p=>obtain⟨A,O⟩:=p;rfl
theorem ads:∀l:As,(akw l).as=l
 |[]=>rfl
 |(t,v)::l=>by
  show(t,v)::(akw l).as=_;rw[ads l]
theorem YS(k:List Nat)(b:Dk)(X:QX)(m0:Nat)(b':Gs)(h:∀A O,Le (asX (b X m0 A O)) (b' A.as O)):∀(m:Nat) (A:EV) (O:St),Le (asX (acK m k b X m0 A O)) (loopA (fun e O=>b' (keepA k e) O) m A.as O)
 |0,_,_=>Le.none
 |m+1,A,O=>by
  intro r hr;obtain⟨E,hE,hk⟩:=J6 jL k A (fun A=>onR (b X m0 A O) (acK m k b X m0) Po);change asX (keepR jL k A (fun A=>onR (b X m0 A O) (acK m k b X m0) Po))=some r at hr;rw[hk]at hr;unfold loopA;have ih:=h E O;cases hb:b X m0 E O with
  |none=>rw[hb]at hr;cases hr
  |some q=>
   obtain⟨x,A',O'⟩:=q;rw[<-hE,ih _ (by rw[hb];rfl)]
   rw[hb]at hr;cases x with
   |normal=>exact YS k b X m0 b' h m A' O' r hr
   |exit i=>exact hr
   |ret=>exact hr
theorem D9:∀(c:KC) (X:QX) (m:Nat) (A:EV) (O:St),Le (asX (kCR c X m A O)) (dI X.C X.call X.n c A.as O)
 |.skip,_,_,_,_=>Le.rfl
 |.ops l,X,m,A,O=>by
  intro r hr;change asX (xeR (aeE l X A O))=some r at hr;rw[abz,WC]at hr;rw[Rz];cases ho:dm X.C X.call X.n l A.as O<;>rw[ho]at hr<;>exact hr
 |.plain l,X,m,A,O=>by
  intro r hr;change asX (xeR (aeE l X A O))=some r at hr;rw[abz,WC]at hr;rw[IE];cases ho:dm X.C X.call X.n l A.as O<;>rw[ho]at hr<;>exact hr
 |.drawn l,X,m,A,O=>by
  intro r hr;change asX (aa4 l X m A O)=some r at hr;unfold aa4 at hr;rw[adR,abz]at hr;rw[abl];cases ho:uM X.C X.call X.n l A.as O with
  |none=>rw[ho]at hr;cases hr
  |some p=>
   obtain⟨A',O'⟩:=p;rw[ho]at hr;change some (XE.normal,(akw A').as,O')=some r at hr;rw[ads]at hr;exact hr
 |.seq a b,X,m,A,O=>by
  intro r hr;change asX (onR (kCR a X m A O) (kCR b X m) Po)=some r at hr;rw[RF];have ih:=D9 a X m A O;cases ha:kCR a X m A O with
  |none=>rw[ha]at hr;cases hr
  |some q=>
   obtain⟨x,A',O'⟩:=q;rw[ih _ (by rw[ha];rfl)]
   rw[ha]at hr;cases x with
   |normal=>exact D9 b X m A' O' r hr
   |exit i=>exact hr
   |ret=>exact hr
 |.cond c a b,X,m,A,O=>by
  intro r hr;change asX (afo c a b (kCR a) (kCR b) X m A O)=some r at hr;unfold afo at hr;rw[vN]at hr;rw[MB];cases hc:avA X.C A.as c<;>rw[hc]at hr
  case bool q=>
   cases q
   ·exact D9 b X m A O r hr
   ·exact D9 a X m A O r hr
  all_goals cases hr
 |.block id b,X,m,A,O=>by
  intro r hr;change asX (onR (kCR b X m A O) abW (anA id))=some r at hr;rw[IC];have ih:=D9 b X m A O;cases ha:kCR b X m A O with
  |none=>rw[ha]at hr;cases hr
  |some q=>
   obtain⟨x,A',O'⟩:=q;rw[ih _ (by rw[ha];rfl)]
   rw[ha]at hr;cases x with
   |normal=>exact hr
   |exit i=>
    change asX (Bool.rec (Po i A' O') (abW A' O') (Nat.beq i id))=some r at hr;rw[ES]at hr;by_cases hi:i=id
    ·simp[hi]at hr⊢;exact Option.some.inj hr
    ·simp[hi]at hr⊢;exact Option.some.inj hr
   |ret=>exact hr
 |.loop k b,X,m,A,O=>by
  intro r hr;show su (fun e O=>dI X.C X.call X.n b (keepA k e) O) A.as O=some r;exact mY.mpr ⟨m,YS k (kCR b) X m (dI X.C X.call X.n b) (fun A O=>D9 b X m A O) m A O r hr⟩
 |.exit k id,X,m,A,O=>by
  obtain⟨E,hE,hk⟩:=J6 jL k A (fun A=>some (.exit id,A,O));intro r hr;change asX (keepR jL k A (fun A=>some (.exit id,A,O)))=some r at hr;rw[hk]at hr;show some (XE.exit id,keepA k A.as,O)=some r;rw[<-hE];exact hr
 |.ret k,X,m,A,O=>by
  obtain⟨E,hE,hk⟩:=J6 jL k A (fun A=>some (.ret,A,O));intro r hr;change asX (keepR jL k A (fun A=>some (.ret,A,O)))=some r at hr;rw[hk]at hr;show some (XE.ret,keepA k A.as,O)=some r;rw[<-hE];exact hr
 |.scope b,X,m,A,O=>D9 b X m A O
 |.fail,_,_,_,_=>Le.none
open Go.RowKit
noncomputable section
def Hw(a b:Bool):Bool:=Bool.rec false b a
def clo(v:AV):Bool:=
 AV.rec (motive_1:=fun _=>Bool) (motive_2:=fun _=>Bool)
  (fun _=>true) (fun _ _=>true) (fun _=>true) true (fun _ _=>false) (fun _ ih=>ih) true true (fun _ _ ih=>ih) (fun _ _ ih=>ih)
  (fun _ _ _ _=>false) (fun _=>false) true (fun _ _ _ a b=>Hw a b) true (fun _ _ ih=>ih) true (fun _ ih=>ih) (fun _ ih=>ih) true (fun _ _ a b=>Hw a b) v
def afL(l:LA):Bool:=List.rec (motive:=fun _=>Bool) true (fun v _ ih=>Hw (clo v) ih) l
theorem qp(a b:Bool):Hw a b=(a&&b):=by cases a<;>rfl
mutual
theorem aae:∀v:AV,clo v=below 0 v
 |.bool _=>rfl
 |.int _ _=>rfl
 |.str _=>rfl
 |.nilp=>rfl
 |.ref _ _=>by simp[below];rfl
 |.eptr l=>by rw[below];exact zJ l
 |.nils=>rfl
 |.emp=>rfl
 |.sl _ l=>by rw[below];exact zJ l
 |.xsl _ l=>by rw[below];exact zJ l
 |.msl _ _ _ _=>by simp[below];rfl
 |.map _=>by simp[below];rfl
 |.nilMap=>rfl
 |.func _ x y=>by
  rw[below,<-zJ x,<-zJ y,<-qp];rfl
 |.nilFunc=>rfl
 |.iface _ v=>by rw[below];exact aae v
 |.nilIface=>rfl
 |.agg l=>by rw[below];exact zJ l
 |.tup l=>by rw[below];exact zJ l
theorem zJ:∀l:LA,(AV.rec_1 (motive_1:=fun _=>Bool) (motive_2:=fun _=>Bool)
  (fun _=>true) (fun _ _=>true) (fun _=>true) true (fun _ _=>false) (fun _ ih=>ih) true true (fun _ _ ih=>ih) (fun _ _ ih=>ih)
  (fun _ _ _ _=>false) (fun _=>false) true (fun _ _ _ a b=>Hw a b) true (fun _ _ ih=>ih) true (fun _ ih=>ih) (fun _ ih=>ih) true (fun _ _ a b=>Hw a b) l:Bool)=ae 0 l
 |[]=>rfl
 |v::l=>by
  rw[ae,<-aae v,<-zJ l,<-qp];rfl
end
theorem ac6:∀l:LA,afL l=ae 0 l
 |[]=>rfl
 |v::l=>by
  show Hw (clo v) (afL l)=_;rw[qp,aae,ac6 l,ae]
inductive Vg where
 |prim (h:LA->St->Option (AV×St))
 |code (K:KF) (raw pure:Bool)
 |both (h:LA->St->Option (AV×St)) (K:KF) (raw pure:Bool)
 |rel (h:bC->LA->St->Option (AV×St))
abbrev Tr2:=FuncId->Option Vg
def abU(l:LA):Nat->EV:=List.rec (motive:=fun _=>Nat->EV) (fun _=>.nil) (fun v _ ih i=>.cons i v (ih (Nat.succ i))) l
theorem XO:∀(l:LA) (i:Nat),(abU l i).as=nS i l
 |[],_=>rfl
 |v::l,i=>by
  show(i,v)::(abU l (i+1)).as=_;rw[XO l (i+1)];rfl
def ac2(C:Ctx)(call:bC)(m:Nat)(K:KF)(raw:Bool)(args:LA)(n:Nat)(O1:St):Option (AV×St):=
 match Nat.ble args.length K.ntmps with
 |false=>none
 |true=>match kCR K.body ⟨C,call,K.ntmps⟩ m (abU args 0) O1 with
  |none=>none
  |some q=>match q with
   |(x,e,O2)=>match x with
    |.exit _=>none
    |.normal=>match bQ e.as O2 K.results with
     |none=>none
     |some vs=>match hand raw vs O2 with
      |none=>none
      |some p=>match p with
       |(vs,O3)=>some (bD vs,tidy n vs O3)
    |.ret=>match bQ e.as O2 K.results with
     |none=>none
     |some vs=>match hand raw vs O2 with
      |none=>none
      |some p=>match p with
       |(vs,O3)=>some (bD vs,tidy n vs O3)
def agX(O1:St)(r:Option (AV×St)):Option (AV×St):=
 match r with
 |none=>none
 |some p=>match p with
  |(v,O')=>match O' with
   |[]=>some (v,O1)
   |_::_=>none
def akk(C:Ctx)(call:bC)(m:Nat)(K:KF)(raw pure:Bool)(args:LA)(O:St):Option (AV×St):=
 match hand raw args O with
 |none=>none
 |some p=>match p with
  |(args1,O1)=>match Hw pure (afL args1)with
   |true=>agX O1 (ac2 C call m K raw args1 0 [])
   |false=>ac2 C call m K raw args1 O.length O1
def alW(e:Option Vg)(C:Ctx)(call:bC)(m:Nat)(args:LA)(O:St):Option (AV×St):=
 match e with
 |none=>none
 |some t=>match t with
  |.prim h=>h args O
  |.code K raw pure=>akk C call m K raw pure args O
  |.both h K raw pure=>match h args O with
   |some r=>some r
   |none=>akk C call m K raw pure args O
  |.rel h=>h call args O
def dP(C:Ctx)(T:Tr2)(n:Nat):bC:=Nat.rec (motive:=fun _=>bC) (fun _ _ _=>none) (fun m ih f args O=>alW (T f) C ih m args O) n
end
def POK(C:Ctx)(f:FuncId)(h:LA->St->Option (AV×St)):Prop:=
 ∀args O v O',h args O=some (v,O')->∀g w args',VRs g args args'->WR g w O->GL C g->Does C.P f args' w fun v' w'=>∃g',Goes g O w g' O' w'/\VR g' v v'
def KOK(C:Ctx)(f:FuncId)(K:KF):Prop:=cF C.P f=some K.forget/\(∃fn,C.P.funcs[f]?=some fn/\(fn.name== "runtime.NumGoroutine")=false)/\K.ok=true
def EOK(C:Ctx)(f:FuncId):Vg->Prop
 |.prim h=>POK C f h
 |.code K _ _=>KOK C f K
 |.both h K _ _=>POK C f h/\KOK C f K
 |.rel h=>∀call,fK C call->POK C f (h call)
structure akG(C:Ctx)(T:Tr2):Prop where
 ent:∀f e,T f=some e->EOK C f e
 gl:∀n l,C.gl n=some l->ae 0 l=true
theorem vI.refl(c:bC):vI c c:=fun _ _ _=>Le.rfl
theorem PH {C:Ctx} {call:bC} (hcall:fK C call) (hdrawn:Vf C call) {f:FuncId} {K:KF} {raw:Bool} (hcf:cF C.P f=some K.forget) (hnm:∃fn,C.P.funcs[f]?=some fn/\(fn.name== "runtime.NumGoroutine")=false) (hok:K.ok=true)
  {m:Nat} {args:LA} {O1:St} {v:AV} {O':St} {O0:St} (h:ac2 C call m K raw args O0.length O1=some (v,O')) {g0 g1:Gh} {w0:World} {args':List Value} (hgo:Goes g0 O0 w0 g1 O1 w0) (hw0:WR g0 w0 O0) (hv:VRs g1 args args') (hg:GL C g1):
  Does C.P f args' w0 fun v' w'=>∃g',Goes g0 O0 w0 g' O' w'/\VR g' v v':=by
 obtain⟨fn,hfn,hname⟩:=hnm;simp only[cF,Option.bind_eq_bind,Option.bind_eq_some_iff,Option.pure_def,Option.some.injEq]at hcf;obtain⟨fn',hfn',body,hb,xrs,hxr,hK⟩:=hcf;rw[hfn]at hfn';cases hfn';obtain⟨nargs,ntmps,results,kbody⟩:=K;simp only[KF.forget,XF.mk.injEq]at hK;obtain⟨hn1,hn2,hn3,hn4⟩:=hK;subst hn3;unfold ac2 at h;split at h
 ·cases h
 ·rename_i hle;have hlen:=Nat.le_of_ble_eq_true hle;dsimp only at hlen h;split at h
  ·cases h
  ·rename_i q hkc;obtain⟨x,E,O2⟩:=q;dsimp only at h;have h2:dI C call ntmps kbody (nS 0 args) O1=some (x,E.as,O2):=by
    have h1:=D9 kbody ⟨C,call,ntmps⟩ m (abU args 0) O1 _ (by rw[hkc];rfl)
    rwa[XO]at h1
   unfold KF.ok at hok;obtain⟨M,hM⟩:=Option.isSome_iff_exists.mp hok;have h3:=uV (C:=C) (call:=call) kbody _ M _ hM (args++List.replicate (ntmps-args.length) .undef) _ O1 (abP M ntmps args hlen);rw[h2]at h3;cases hs:kQ C call kbody.forget (args++List.replicate (ntmps-args.length) .undef) O1 with
   |none=>rw[hs]at h3;exact h3.elim
   |some r=>
    obtain⟨x',e,Y⟩:=r;rw[hs]at h3;obtain⟨hx,hτ,hAg⟩:=h3;subst hx hτ;obtain⟨k,hev⟩:=JG (C:=C) (cs:=fun _=>call) (L:=call) (fun _ _ _=>vI.refl call) (fun f a O r h=>⟨0,h⟩) kbody.forget hs;have hend:∀vs vs2 O3,bQ E.as Y xrs=some vs->hand raw vs Y=some (vs2,O3)->v=bD vs2->O'=tidy O0.length vs2 O3->(x'=.normal\/x'=.ret)->Does C.P f args' w0 fun v' w'=>∃g',Goes g0 O0 w0 g' O' w'/\VR g' v v':=by
     intro vs vs2 O3 hres hh2 hv' hσ' hx;have hres':Og e Y xrs=some vs:=by
      have:=Ro (n:=ntmps) (O:=Y) (e:=e) (A:=E.as) xrs (by rcases hx with rfl|rfl<;>exact hAg)
      rw[this];exact hres
     have hrun:(callFunc f ⟨args'⟩).run C.P w0=.ok (.enter f ⟨args'⟩) w0:=by
      have h1:fn.name≠ "runtime.NumGoroutine":=by simpa using hname
      simp[callFunc,hfn,h1,hb]
     unfold Does;rw[hrun];simp only;refine calls_of_wp hfn hb ?_;have hl:=hv.length;have har:AR g1 (args++List.replicate (ntmps-args.length) .undef) {tmps:=(⟨args'⟩:Array Value)++Array.replicate (fn.ntmps-(⟨args'⟩:Array Value).size) undef,defers:=[]}:=by
      have h1:=hv.append (VRs.replicate (ntmps-args.length) (wz g1));have:args'.length=args.length:=hl;simpa[AR,this,<-hn2]using h1
     rw[<-hn4]at hev;refine wp_mono (kU hcall hdrawn k body _ e O1 Y x' hev g1 w0 _ har hgo.wr hg) fun ex a2 w2 ⟨hex,hd,g2,ha2,hgo2⟩=>?_;obtain⟨vs',hr1,hr2⟩:=FX (C:=C) hgo2.wr ha2 _ xrs hxr vs hres';obtain⟨g3,hgo3,hv3⟩:=tH hgo2.wr _ hh2 hr2;obtain⟨g4,hgo4,hv4⟩:=Sr ((hgo.trans hgo2).trans hgo3) hw0 hv3;have hfin:a2.defers=[]/\∃v1,(Go.results fn a2.tmps).run C.P w2=.ok v1 w2/\∃v_1,Ending.returned v1=.returned v_1/\∃g',Goes g0 O0 w0 g' O' w2/\VR g' v v_1:=
      ⟨hd,_,NQ fn a2.tmps w2 hr1,_,rfl,g4,by rw[hσ'];exact hgo4,by rw[hv'];exact U7 vs2 vs' hv4⟩
     subst hex;rcases hx with rfl|rfl
     ·exact hfin
     ·exact hfin
    cases x' with
    |exit i=>cases h
    |normal=>
     dsimp only at h;split at h
     ·cases h
     ·rename_i vs hres;split at h
      ·cases h
      ·rename_i p hh2;obtain⟨vs2,O3⟩:=p;simp at h;exact hend vs vs2 O3 hres hh2 h.1.symm h.2.symm (.inl rfl)
    |ret=>
     dsimp only at h;split at h
     ·cases h
     ·rename_i vs hres;split at h
      ·cases h
      ·rename_i p hh2;obtain⟨vs2,O3⟩:=p;simp at h;exact hend vs vs2 O3 hres hh2 h.1.symm h.2.symm (.inr rfl)
theorem BX{g:Gh}{w w':World}{O:St}(hw:WR g w O){g':Gh}(hgo:Goes (g.cut 0) [] w g' [] w'):Goes g O w {g with im:=g'.im} O w'/\g'.le {g with im:=g'.im}:=by
 have hn:g'.n=0:=hgo.wr.n;have hp:g'.pl=g.pl:=hgo.le.pl;have hle:g'.le {g with im:=g'.im}:=⟨hp.symm,by simp[hn],fun o ho=>by omega,fun o ho=>by omega,fun _ _ _ h=>h⟩
 have hle':g.le {g with im:=g'.im}:=⟨rfl,Nat.le_refl _,fun _ _=>rfl,fun _ _=>rfl,fun b i v h=>hgo.le.im b i v h⟩;have hun:∀b,SQ (g.cut 0) [] b:=fun b o x h=>by simp at h
 refine⟨⟨hle',⟨hw.n,hgo.wr.im,fun b i v hv=>(hgo.wr.uf b i v hv).imp (fun e=>⟨(congrFun hp b).symm.trans e.1,e.2⟩) id,fun o x hx=>?_,hw.inj⟩,hgo.os,hgo.tape,hgo.output,hgo.size,fun b hb hu=>⟨hu,(hgo.fr b hb (hun b)).2.1,fun i=>(hgo.fr b hb (hun b)).2.2 i⟩⟩,hle⟩;have ho:=hw.obj o x hx;cases x with
 |dead=>trivial
 |cells l fz=>
  obtain⟨c,e,fr,h1,h2,h3,h4,h5,h6⟩:=ho;have hb:g.ob o<w.heap.size:=(Array.getElem?_eq_some_iff.mp h1).1;obtain⟨_,f2,f3⟩:=hgo.fr (g.ob o) hb (hun _);refine⟨c,e,fr,f2.trans h1,h2,h3,fun i y hy=>?_,h5,fun i v hv=>h6 i v ?_⟩
  ·obtain⟨v,hv,hr⟩:=h4 i y hy;exact⟨v,hv,hr.mono hle'⟩
  ·have:=f3 i;exact this.symm.trans hv
 |map es=>
  obtain⟨ents,clock,h1,h2⟩:=ho;have hb:g.ob o<w.heap.size:=(Array.getElem?_eq_some_iff.mp h1).1;obtain⟨_,f2,f3⟩:=hgo.fr (g.ob o) hb (hun _);exact⟨ents,clock,f2.trans h1,h2.size,h2.clk,fun i k v hkv=>by
   obtain⟨e,he,hk,hv,hborn⟩:=h2.at_ i k v hkv;exact⟨e,he,hk.mono hle',hv.mono hle',hborn⟩⟩
theorem Does.mono{P:Program}{f:FuncId}{args:List Value}{w:World}{R R':Value->World->Prop}(h:Does P f args w R)(hr:∀v w',R v w'->R' v w'):Does P f args w R':=by
 unfold Does at h⊢;split at h
 ·exact h.mono fun e w'' ⟨v,he,hR⟩=>⟨v,he,hr _ _ hR⟩
 ·exact hr _ _ h
 ·exact h
theorem Rx {C:Ctx} {call:bC} (hm:C.P.follows .mixedOrders=true) (ih:fK C call) (hgl:∀n l,C.gl n=some l->ae 0 l=true) {f:FuncId} {K:KF} (hK:KOK C f K) {n:Nat} {raw pure:Bool} {args:LA} {O:St} {v:AV} {O':St}
  (h:akk C call n K raw pure args O=some (v,O')) {g:Gh} {w:World} {args':List Value} (ha:VRs g args args') (hw:WR g w O) (hg:GL C g):Does C.P f args' w fun v' w'=>∃g',Goes g O w g' O' w'/\VR g' v v':=by
 obtain⟨h1,h2,h3⟩:=hK;unfold akk at h;split at h
 ·cases h
 ·rename_i p hh;obtain⟨args1,O1⟩:=p;dsimp only at h;obtain⟨g1,hgo1,hv1⟩:=tH hw raw hh ha;split at h
  ·rename_i hc;rw[qp,Bool.and_eq_true,ac6]at hc;unfold agX at h;split at h
   ·cases h
   ·rename_i p hb;obtain⟨v1,Y⟩:=p;dsimp only at h;split at h
    ·simp at h;obtain⟨rfl,rfl⟩:=h;have hw1:=hgo1.wr;have hw0:WR (g1.cut 0) w []:=⟨rfl,hw1.im,hw1.uf,fun o x hx=>by simp at hx,fun o o' x x' hx=>by simp at hx⟩
     have hg1:=hg.mono hgo1.le;have:=PH (O0:=[]) ih ⟨PW hm ih,Qj hm ih⟩ h1 h2 h3 hb (Goes.refl hw0) hw0 (hv1.cut hc.2) ⟨fun n l hl=>⟨(hg1.1 n l hl).1.cut (hgl n l hl),(hg1.1 n l hl).2⟩,hg1.2⟩;refine this.mono fun v' w' ⟨g',hgo',hr'⟩=>?_;obtain⟨hf,hle⟩:=BX hw1 hgo';exact⟨_,hgo1.trans hf,hr'.mono hle⟩
    ·cases h
  ·exact PH ih ⟨PW hm ih,Qj hm ih⟩ h1 h2 h3 h hgo1 hw hv1 (hg.mono hgo1.le)
theorem zG{C:Ctx}{T:Tr2}(hm:C.P.follows .mixedOrders=true)(hT:akG C T):∀n,fK C (dP C T n)
 |0=>fun f args O v O' h=>by cases h
 |n+1=>by
  have ih:=zG hm hT n;intro f args O v O' h g w args' ha hw hg;change alW (T f) C (dP C T n) n args O=some (v,O')at h;unfold alW at h;split at h
  ·cases h
  ·rename_i t ht;have hE:=hT.ent f t ht;split at h
   ·exact hE args O v O' h g w args' ha hw hg
   ·exact Rx hm ih hT.gl hE h ha hw hg
   ·split at h
    ·rename_i r hr;cases h;exact hE.1 args O v O' hr g w args' ha hw hg
    ·exact Rx hm ih hT.gl hE.2 h ha hw hg
   ·exact hE _ ih args O v O' h g w args' ha hw hg
theorem tu{g:Gh}{w w':World}{O:St}(h:WR g w O)(hb:Below w.heap.size w w'):Goes g O w g O w':=by
 refine⟨.refl g,⟨h.n,fun b i v hv=>?_,fun b i v hv=>?_,fun k y hy=>?_,h.inj⟩,hb.os,hb.tape,hb.output,hb.size,fun b hlt hu=>⟨hu,hb.block b hlt,fun _=>rfl⟩⟩
 ·rw[qV (hb.block b (h.im_lt hv))];exact h.im b i v hv
 ·rw[hb.block b (h.im_lt hv)];exact h.uf b i v hv
 ·exact OR.mono (h.obj k y hy) (.refl g) (h.lt hy) (fun hl=>hb.block _ (h.ob_lt hy hl)) (fun _ _ _ hv=>hv)
structure AB(P:Program)(f:FuncId):Prop where
 is:∃fn,P.funcs[f]?=some fn/\fn.name≠ "runtime.NumGoroutine"/\fn.body.isSome=true
theorem AB.enter{P:Program}{f:FuncId}(h:AB P f)(args:List Value)(w:World):(callFunc f ⟨args⟩).run P w=.ok (.enter f ⟨args⟩) w:=by
 obtain⟨fn,h1,h2,h3⟩:=h.is;obtain⟨b,hb⟩:=Option.isSome_iff_exists.mp h3;simp[callFunc,h1,h2,hb]
theorem zK{P:Program}{f:FuncId}(hf:AB P f){args:List Value}{w:World}{R:Value->World->Prop}(h:Calls P f ⟨args⟩ w fun e w'=>∃v,e=.returned v/\R v w'):Does P f args w R:=by
 unfold Does;rw[hf.enter];exact h
theorem PV {P:Program} {f:FuncId} (hf:AB P f) {args:List Value} {w:World} {g:Gh} {O:St} (hw:WR g w O) {v:AV} {v':Value} (hv:VR g v v') (h:Calls P f ⟨args⟩ w fun e w'=>e=.returned v'/\Below w.heap.size w w'):
  Does P f args w fun v' w'=>∃g',Goes g O w g' O w'/\VR g' v v':=
 zK hf (h.mono fun e w' ⟨he,hb⟩=>⟨v',he,g,tu hw hb,hv⟩)
def Dp(F:LU->AV)(args:LA)(O:St):Option (AV×St):=
 match args with
 |[.str s]=>if Nat.ble s.length 1099511627776 then some (F s,O)else none
 |_=>none
def FT(F:LU->Int->AV)(args:LA)(O:St):Option (AV×St):=
 match args with
 |[.str s,.int .i64 i]=>if Nat.ble s.length 1099511627776 then some (F s i,O)else none
 |_=>none
theorem ad2 {C:Ctx} {f:FuncId} (hf:AB C.P f) (F:LU->AV) (F':LU->Value) (hF:∀g s,VR g (F s) (F' s)) (hc:∀(s:ByteArray) (w:World),s.size<=1099511627776->Calls C.P f #[.string s] w fun e w'=>e=.returned (F' s.data.toList)/\Below w.heap.size w w'):
  POK C f (Dp F):=by
 intro args O v O' h g w args' ha hw hg;unfold Dp at h;split at h
 ·rename_i s;split at h
  ·rename_i hle;simp at h;obtain⟨rfl,rfl⟩:=h;cases ha with
   |cons _ v1 _ l1 x y=>
    cases y;cases x;exact PV hf hw (hF g s) (hc ⟨⟨s⟩⟩ w (Nat.le_of_ble_eq_true hle))
  ·cases h
 ·cases h
theorem ab4 {C:Ctx} {f:FuncId} (hf:AB C.P f) (F:LU->Int->AV) (F':LU->Int->Value) (hF:∀g s i,VR g (F s i) (F' s i)) (hc:∀(s:ByteArray) (i:Int) (w:World),s.size<=1099511627776->Calls C.P f #[.string s,.int .i64 i] w fun e w'=>e=.returned (F' s.data.toList i)/\Below w.heap.size w w'):
  POK C f (FT F):=by
 intro args O v O' h g w args' ha hw hg;unfold FT at h;split at h
 ·rename_i s i;split at h
  ·rename_i hle;simp at h;obtain⟨rfl,rfl⟩:=h;cases ha with
   |cons _ v1 _ l1 x y=>
    cases y with
    |cons _ v2 _ l2 x2 y2=>
     cases y2;cases x;cases x2;exact PV hf hw (hF g s i) (hc ⟨⟨s⟩⟩ i w (Nat.le_of_ble_eq_true hle))
  ·cases h
 ·cases h
theorem ae5 {g:Gh} {w w':World} {O:St} (h:WR g w O) {o:Nat} {l:LA} {tg:Option (TypeId×Bool)} (hx0:O[o]?=some (.cells l ⟨false,tg⟩)) (hos:w'.os=w.os) (htape:w'.tape=w.tape) (hout:w'.output=w.output) (hsz:w'.heap.size=w.heap.size)
  (hne:∀k,k≠g.ob o->w'.heap[k]?=w.heap[k]?):Goes g O w g (O.set o .dead) w':=by
 obtain⟨c,e,fr,h1,h2,h3,h4,h5,h6⟩:=h.obj o _ hx0;have him:∀i v,g.im (g.ob o) i≠some v:=fun i v hv=>absurd (h6 i v hv).1 (by simp)
 refine⟨.refl g,⟨by simp[h.n],fun b i v hv=>?_,fun b i v hv=>?_,fun k y hy=>?_,fun k k' y y' hy hy' hl hl' he=>?_⟩,hos,htape,hout,by omega,fun b hb hu=>⟨fun k y hy hl=>?_,hne b (fun e=>hu o _ hx0 rfl e.symm),fun _=>rfl⟩⟩
 ·have hb:b≠g.ob o:=fun hb=>him i v (hb▸hv);rw[qV (hne b hb)];exact h.im b i v hv
 ·have hb:b≠g.ob o:=fun hb=>him i v (hb▸hv);rw[hne b hb];exact h.uf b i v hv
 ·rcases jE hy with⟨hk,hz⟩|⟨rfl,_,rfl⟩
  ·exact OR.mono (h.obj k y hz) (.refl g) (h.lt hz) (fun hl=>hne _ fun e=>hk (h.inj k o y _ hz hx0 hl rfl e)) (fun _ _ _ hv=>hv)
  ·trivial
 ·rcases jE hy with⟨hk,hz⟩|⟨hk,_,rfl⟩
  ·rcases jE hy' with⟨hk',hz'⟩|⟨hk',_,rfl⟩
   ·exact h.inj k k' y y' hz hz' hl hl' he
   ·cases hl'
  ·cases hl
 ·rcases jE hy with⟨hk,hz⟩|⟨hk,_,rfl⟩
  ·exact hu k y hz hl
  ·cases hl
theorem ae4 {P:Program} {g:Gh} {w:World} {O:St} (h:WR g w O) {o:Nat} {l:LA} {tg:Option (TypeId×Bool)} (hl:O[o]?=some (.cells l ⟨false,tg⟩)) {off:Nat} {c:AV} {v:Value} (hc:VR g c v) (hb:off<l.length) (hf:c.flat=true):
  Goes g O w g (O.set o (.cells (splice l off [c]) ⟨false,tg⟩)) (w.setCell ⟨g.ob o,off,none⟩ v):=by
 obtain⟨c0,e0,fr,h1,h2,h3,h4,h5,h6⟩:=h.obj o _ hl;obtain⟨w',hrun,hgo⟩:=EI (P:=P) h hl (off:=off) (cs:=[c]) (vs:=[v]) (.cons _ _ _ _ hc .nil) (by simp;omega) (by simpa using hf)
 have hrun2:=run_storeCells_cells (P:=P) (g.ob o) off [v] 0 w (fun j hj=>by rw[cell_of_heap h1,Array.getElem?_eq_getElem (by simp at hj;omega)];rfl) (fun j hj=>by
  have:=akz h5.1 c0.size (off+0+j) (by simp at hj;omega)
  simpa[World.frozen?,h1]using this) (VRs.one (.cons _ _ _ _ hc .nil) (by simpa using hf))
 rw[hrun]at hrun2;simp only[Result.ok.injEq,true_and]at hrun2;subst hrun2;exact hgo
theorem Yt(w:World)(b n:Nat):(w.freeze ⟨b,0,none⟩ n).os=w.os/\(w.freeze ⟨b,0,none⟩ n).tape=w.tape/\(w.freeze ⟨b,0,none⟩ n).output=w.output/\(w.freeze ⟨b,0,none⟩ n).heap.size=w.heap.size/\∀k,k≠b->(w.freeze ⟨b,0,none⟩ n).heap[k]?=w.heap[k]?:=by
 unfold World.freeze;split
 ·exact⟨rfl,rfl,rfl,rfl,fun _ _=>rfl⟩
 ·refine⟨rfl,rfl,rfl,by simp,fun k hk=>?_⟩
  simp only[Array.getElem?_modify];rw[if_neg (fun e=>hk e.symm)]
def DJ:LA->Option LU
 |[]=>some []
 |v::l=>match v with
  |.int .u8 (.ofNat n)=>match Nat.ble n 255 with
   |true=>match DJ l with
    |some bs=>some (UInt8.ofNat n::bs)
    |none=>none
   |false=>none
  |_=>none
theorem PM:∀{l:LA} {s:LU},DJ l=some s->s.length=l.length/\∀(j:Nat) (x:UInt8),s[j]?=some x->l[j]?=some (.int .u8 x.toNat)
 |[],s,h=>by
  simp[DJ]at h;subst h;simp
 |v::l,s,h=>by
  unfold DJ at h;split at h
  ·rename_i n;split at h
   ·rename_i hn;have hn:=Nat.le_of_ble_eq_true hn;split at h
    ·rename_i bs hbs;simp at h;subst h;obtain⟨e1,e2⟩:=PM hbs;refine⟨by simp[e1],fun j x hx=>?_⟩
     cases j with
     |zero=>
      simp at hx;subst hx;simp;omega
     |succ j=>simpa using e2 j x (by simpa using hx)
    ·cases h
   ·cases h
  ·cases h
def S9(P:Program)(f:FuncId):Bool:=
 match P.funcs[f]? with
 |some fn=>!(fn.name== "runtime.NumGoroutine")
 |none=>false
def gQ(P:Program)(gl:Nat->Option LA)(raw:FuncId->Bool)(prim:FuncId->Option (LA->St->Option (AV×St))):Ctx:=
 {P,gl,raw,fs:=fun f=>match S9 P f with|true=>cF P f|false=>none,prim}
theorem uo(P:Program)(gl raw prim):ZW (gQ P gl raw prim):=by
 intro f x h;simp only[gQ]at h;split at h
 ·rename_i hk;refine⟨h,?_⟩;unfold S9 at hk;split at hk
  ·rename_i fn hfn;exact⟨fn,hfn,by simpa using hk⟩
  ·cases hk
 ·cases h
theorem XY {P:Program} (hm:P.follows .mixedOrders=true) {f:FuncId} (hf:AB P f) {n:Nat} {args:LA} {v:AV} (h:evF (gQ P (fun _=>none) (fun _=>false) (fun _=>none)) n f args []=some (v,[])) (w:World) (args':List Value) (v':Value)
  (ha:∀g,VRs g args args') (hv:∀g v2,VR g v v2->v2=v'):Calls P f ⟨args'⟩ w fun e w'=>e=.returned v'/\Below w.heap.size w w':=by
 have hs:=DT (C:=gQ P (fun _=>none) (fun _=>false) (fun _=>none)) hm (uo _ _ _ _) (fun f h hh=>by simp[gQ]at hh) n f args [] v [] h
 have hw:WR ⟨fun _=>true,0,fun _=>0,fun _=>0,fun _ _=>none⟩ w []:=⟨rfl,fun b i v hv=>by simp at hv,fun b i v hv=>by simp at hv,fun o x hx=>by simp at hx,fun o o' x x' hx=>by simp at hx⟩
 have hd:=hs _ w args' (ha _) hw ⟨fun n l hl=>by simp[gQ]at hl,.inr fun _=>rfl⟩
 unfold Does at hd;change(match(callFunc f ⟨args'⟩).run P w with|.ok (.enter f' azs) w'=>_|.ok (.value v) w'=>_|_=>False)at hd
 rw[hf.enter]at hd;refine Calls.mono hd fun e w' ⟨v2,he,g',hgo,hr⟩=>?_;have:=hv _ _ hr;subst this;refine⟨he,?_⟩;exact⟨hgo.os,hgo.tape,hgo.output,hgo.size,fun k hk=>(hgo.fr k hk (fun o x hx=>by simp at hx)).2.1⟩
noncomputable section
def iW(r:Option (AV×St))(v:AV):Bool:=
 match r with
 |none=>false
 |some p=>match p with
  |(v',O)=>match O with
   |[]=>eqQ v' v
   |_::_=>false
theorem CO{r:Option (AV×St)}{v:AV}(h:iW r v=true):r=some (v,[]):=by
 unfold iW at h;split at h
 ·cases h
 ·split at h
  ·split at h
   ·rw[VO _ _ h]
   ·cases h
def abD(C:Ctx)(f:FuncId)(args:LA)(v:AV):Prop:=POK C f fun azs O=>match H5 azs args with|true=>some (v,O)|false=>none
theorem YJ{C:Ctx}{call:bC}(hc:fK C call){f:FuncId}{args:LA}{v:AV}(hgl:∀n l,C.gl n=some l->ae 0 l=true)(hcl:ae 0 args=true)(h:iW (call f args []) v=true):abD C f args v:=by
 intro azs O v1 O' h1 g w args' ha hw hg;dsimp only at h1;split at h1
 ·rename_i he;have:=xZ _ _ he;subst this;cases h1;have h2:=CO h;have hw0:WR (g.cut 0) w []:=⟨rfl,hw.im,hw.uf,fun o x hx=>by simp at hx,fun o o' x x' hx=>by simp at hx⟩
  refine(hc _ _ _ _ _ h2 (g.cut 0) w args' (ha.cut hcl) hw0 ⟨fun n l hl=>⟨(hg.1 n l hl).1.cut (hgl n l hl),(hg.1 n l hl).2⟩,hg.2⟩).mono fun v' w' ⟨g',hgo',hr'⟩=>?_;obtain⟨hf,hle⟩:=BX hw hgo';exact⟨_,hf,hr'.mono hle⟩
 ·cases h1
def memo(l:List (LA×AV))(azs:LA)(O:St):Option (AV×St):=
 match l with
 |[]=>none
 |p::l=>match p with
  |(args,v)=>match H5 azs args with
   |true=>some (v,O)
   |false=>memo l azs O
theorem ahk{C:Ctx}{f:FuncId}:POK C f (memo []):=fun args O v O' h=>by cases h
theorem aeu{C:Ctx}{f:FuncId}{args:LA}{v:AV}{l:List (LA×AV)}(h:abD C f args v)(hl:POK C f (memo l)):POK C f (memo ((args,v)::l)):=by
 intro azs O v1 O' h1 g w args' ha hw hg;unfold memo at h1;dsimp only at h1;cases he:H5 azs args with
 |true=>
  refine h azs O v1 O' ?_ g w args' ha hw hg;rw[he]at h1;dsimp only;rw[he];exact h1
 |false=>
  rw[he]at h1;exact hl azs O v1 O' h1 g w args' ha hw hg
def orP(h k:LA->St->Option (AV×St))(azs:LA)(O:St):Option (AV×St):=match h azs O with
 |some r=>some r
 |none=>k azs O
theorem ahG{C:Ctx}{f:FuncId}{h k:LA->St->Option (AV×St)}(hh:POK C f h)(hk:POK C f k):POK C f (orP h k):=by
 intro azs O v1 O' h1 g w args' ha hw hg;unfold orP at h1;split at h1
 ·rename_i r hr;cases h1;exact hh azs O v1 O' hr g w args' ha hw hg
 ·exact hk azs O v1 O' h1 g w args' ha hw hg
end
theorem tq:eqQ (.agg [.str [1,2,3],.int .i64 5,.sl 1 [.str []]]) (.agg [.str [1,2,3],.int .i64 5,.sl 1 [.str []]])=true:=by decide
noncomputable section
theorem lT {C:Ctx} {call:bC} (hc:fK C call) (hgl:∀n l,C.gl n=some l->ae 0 l=true) {f:FuncId} {args:LA} {v:AV} (hcl:ae 0 args=true) (h:call f args []=some (v,[])) {g:Gh} {w:World} {O:St} {args':List Value} (ha:VRs g args args') (hw:WR g w O) (hg:GL C g):
  Does C.P f args' w fun v' w'=>∃g',Goes g O w g' O w'/\VR g' v v':=by
 have hw0:WR (g.cut 0) w []:=⟨rfl,hw.im,hw.uf,fun o x hx=>by simp at hx,fun o o' x x' hx=>by simp at hx⟩
 refine(hc _ _ _ _ _ h (g.cut 0) w args' (ha.cut hcl) hw0 ⟨fun n l hl=>⟨(hg.1 n l hl).1.cut (hgl n l hl),(hg.1 n l hl).2⟩,hg.2⟩).mono fun v' w' ⟨g',hgo',hr'⟩=>?_;obtain⟨hf,hle⟩:=BX hw hgo';exact⟨_,hf,hr'.mono hle⟩
def Kz(args:LA)(O:St):Option (AV×St):=
 match args with
 |[.sl 0 []]=>some (.sl 0 [],O)
 |_=>none
theorem Iw{C:Ctx}{call:bC}(hc:fK C call)(hgl:∀n l,C.gl n=some l->ae 0 l=true){f:FuncId}(h1:iW (call f [.nils] []) .nils=true)(h2:iW (call f [.emp] []) (.xsl 0 [])=true):POK C f Kz:=by
 intro args O v O' h g w args' ha hw hg;unfold Kz at h;split at h
 ·simp only[Option.some.injEq,Prod.mk.injEq]at h;obtain⟨rfl,rfl⟩:=h;cases ha with
  |cons _ v1 _ l1 x y=>
   cases y;cases x with
   |slNil=>
    refine(lT hc hgl (by rfl) (CO h1) (.cons _ _ _ _ .nils .nil) hw hg).mono fun v' w' ⟨g',hgo,hr⟩=>⟨g',hgo,?_⟩
    cases hr;exact .slNil
   |slEmp a cap=>
    refine(lT hc hgl (by rfl) (CO h2) (.cons _ _ _ _ (.emp a cap) .nil) hw hg).mono fun v' w' ⟨g',hgo,hr⟩=>⟨g',hgo,?_⟩
    cases hr;exact .slEmp _ _
   |sl _ _ b off cap hcr hle=>
    refine(lT hc hgl (by rfl) (CO h2) (.cons _ _ _ _ (.emp ⟨b,off,none⟩ cap) .nil) hw hg).mono fun v' w' ⟨g',hgo,hr⟩=>⟨g',hgo,?_⟩
    cases hr;exact .slEmp _ _
 ·cases h
def ak2(args:LA)(O:St):Option (AV×St):=
 match args with
 |[.str a,.str b]=>some (.int .i64 (Lib.compareBytes a b),O)
 |_=>none
theorem ak7{C:Ctx}{f:FuncId}(he:∀args w,(callFunc f args).run C.P w=((Extern.BytealgCompare.compare args).run C.P w).andThen fun v w=>.ok (.value v) w):POK C f ak2:=by
 intro args O v O' h g w args' ha hw hg;unfold ak2 at h;split at h
 ·rename_i a b;simp only[Option.some.injEq,Prod.mk.injEq]at h;obtain⟨rfl,rfl⟩:=h;cases ha with
  |cons _ v1 _ l1 x y=>
   cases y with
   |cons _ v2 _ l2 x2 y2=>
    cases y2;cases x;cases x2;unfold Does;have:(callFunc f ⟨[.string ⟨⟨a⟩⟩,.string ⟨⟨b⟩⟩]⟩).run C.P w=.ok (.value (.int .i64 (Lib.compareBytes a b))) w:=by
     rw[he];have:=Lib.run_compareString (P:=C.P) ⟨⟨a⟩⟩ ⟨⟨b⟩⟩ w;change(Sem.run C.P (Extern.BytealgCompare.compare #[.string ⟨⟨a⟩⟩,.string ⟨⟨b⟩⟩]) w).andThen _=_;rw[this];rfl
    rw[this];exact⟨g,.refl hw,.int _ _⟩
 ·cases h
theorem Rf{C:Ctx}{call:bC}(hc:fK C call)(hgl:∀n l,C.gl n=some l->ae 0 l=true){f:FuncId}(F:LU->AV)(h:∀s:LU,s.length<=1099511627776->call f [.str s] []=some (F s,[])):POK C f (Dp F):=by
 intro args O v O' h1 g w args' ha hw hg;unfold Dp at h1;split at h1
 ·rename_i s;split at h1
  ·rename_i hle;simp only[Option.some.injEq,Prod.mk.injEq]at h1;obtain⟨rfl,rfl⟩:=h1;exact lT hc hgl (by rfl) (h s (Nat.le_of_ble_eq_true hle)) ha hw hg
  ·cases h1
 ·cases h1
def acX(F:LU->LU->AV)(args:LA)(O:St):Option (AV×St):=
 match args with
 |[.str s,.str t]=>match Hw (Nat.ble s.length 1099511627000) (Nat.ble t.length 1099511627000)with
  |true=>some (F s t,O)
  |false=>none
 |_=>none
theorem ahT{C:Ctx}{call:bC}(hc:fK C call)(hgl:∀n l,C.gl n=some l->ae 0 l=true){f:FuncId}(F:LU->LU->AV)(h:∀s t:LU,s.length<=1099511627000->t.length<=1099511627000->call f [.str s,.str t] []=some (F s t,[])):POK C f (acX F):=by
 intro args O v O' h1 g w args' ha hw hg;unfold acX at h1;split at h1
 ·rename_i s t;split at h1
  ·rename_i hle;rw[qp,Bool.and_eq_true]at hle;simp only[Option.some.injEq,Prod.mk.injEq]at h1;obtain⟨rfl,rfl⟩:=h1;exact lT hc hgl (by rfl) (h s t (Nat.le_of_ble_eq_true hle.1) (Nat.le_of_ble_eq_true hle.2)) ha hw hg
  ·cases h1
 ·cases h1
theorem ami{P:Program}{gl raw prim}{f:FuncId}{K:KF}(h1:cF P f=some K.forget)(h2:S9 P f=true)(h3:K.ok=true):KOK (gQ P gl raw prim) f K:=by
 refine⟨h1,?_,h3⟩;unfold S9 at h2;split at h2
 ·rename_i fn hfn;exact⟨fn,hfn,by simpa using h2⟩
 ·cases h2
theorem VX{P:Program}{gl raw prim}{f:FuncId}{K:KF}(h1:cF P f=some K.forget)(h2:S9 P f=true)(h3:K.ok=true)(hp:prim f=none)(hr:raw f=false):Has (gQ P gl raw prim) f K:=by
 refine⟨?_,hp,hr,h3⟩;simp only[gQ,h2,h1]
end
noncomputable section
abbrev MM:=FuncId->List (LA×AV)
def MOK(C:Ctx)(M:MM):Prop:=∀f,POK C f (memo (M f))
def M0:MM:=fun _=>[]
theorem ant(C:Ctx):MOK C M0:=fun f=>ahk
def kG(M:MM)(f:FuncId)(a:LA)(v:AV):MM:=fun g=>match Nat.beq g f with
 |true=>(a,v)::M f
 |false=>M g
theorem akB{C:Ctx}{M:MM}(h:MOK C M){f:FuncId}{a:LA}{v:AV}(hk:abD C f a v):MOK C (kG M f a v):=by
 intro g;unfold kG;cases hb:Nat.beq g f with
 |true=>
  have:=Nat.eq_of_beq_eq_true hb;subst this;exact aeu hk (h g)
 |false=>exact h g
def ahh(l:List (LA×AV))(azs:LA)(O:St):Option (AV×St):=match hand false azs O with
 |none=>none
 |some p=>match p with
  |(a,Y)=>memo l a Y
theorem ahj{C:Ctx}{M:MM}(h:MOK C M)(f:FuncId):POK C f (ahh (M f)):=by
 intro azs O v1 O' h1 g w args' ha hw hg;unfold ahh at h1;split at h1
 ·cases h1
 ·rename_i p hh;obtain⟨a,Y⟩:=p;obtain⟨g1,hgo,hv⟩:=tH hw false hh ha;exact(h f a Y v1 O' h1 g1 w args' hv hgo.wr (hg.mono hgo.le)).mono fun v' w' ⟨g2,hgo2,hr⟩=>⟨g2,hgo.trans hgo2,hr⟩
end
instance:Inhabited (DataW Unit):=⟨.nil⟩
def Tab(W:World)(g:Nat)(l:LA):Prop:=
 ∃c e,W.heap[g]?=some (.cells c e (0,0))/\∀(i:Nat) (a:AV),l[i]?=some a->∃v,c[i]?=some v/\∀γ:Gh,VR γ a v
theorem Wh {P:Program} {W:World}:∀{laid:List (String×DataW Unit)} {ps:List MemPlace},DataW.LaidVars P W laid ps->∀{n:String} {d:DataW Unit},(n,d)∈laid->
  ∃g t cs fuel p,P.globalNamed n=some g/\(P.globals[g]?).map (·.type)=some t/\W.var? P n=some cs/\DataW.trod (fun _=>()) P W 0 (fun _=>true) false fuel t cs.toList=some (d,p)/\∀x∈MemPlace.row ⟨g,0,none⟩ cs.size,x∈ps
 |[],_,_,_,_,hm=>by cases hm
 |(m,d')::r,ps,h,n,d,hm=>by
  obtain⟨g,t,cs,fuel,p,q,h1,h2,h3,h4,h5,rfl⟩:=h;rcases List.mem_cons.mp hm with he|hm
  ·cases he;exact⟨g,t,cs,fuel,p,h1,h2,h3,h4,fun x hx=>by simp[hx]⟩
  ·obtain⟨g',t',cs',fuel',p',k1,k2,k3,k4,k5⟩:=Wh h5 hm;exact⟨g',t',cs',fuel',p',k1,k2,k3,k4,fun x hx=>by simp[k5 x hx]⟩
theorem YL {P:Program} {W:World} {laid:List (String×DataW Unit)} (h:laidMet P laid W) {n:String} {t e:TypeId} {N g:Nat} {l:List (DataW Unit)} {la:LA} (hm:(n,.agg l)∈laid)
  (h1:P.globalNamed n=some g) (h2:(P.globals[g]?).map (·.type)=some t) (h3:P.underlying t=some (.array (N+1) e)) (h4:P.cellsOf e=1) (h5:P.cellsOf t=N+1) (hl:la.length=N+1)
  (hv:∀(i:Nat) (a:AV) fuel (x:Value) p d,la[i]?=some a->l[i]?=some d->DataW.trod (fun _=>()) P W 0 (fun _=>true) false fuel e [x]=some (d,p)->∀γ:Gh,VR γ a x):Tab W g la:=by
 obtain⟨ps,hL,_,hc⟩:=h;obtain⟨g',t',cs,fuel,p,k1,k2,k3,k4,k5⟩:=Wh hL hm;obtain rfl:=Option.some.inj (h1.symm.trans k1);obtain rfl:=Option.some.inj (h2.symm.trans k2);obtain⟨xs,m,_,ex,hlen,hxl,hel⟩:=DataW.trod_array h3 k4;have el:l=xs.map (·.1):=by
  have:=(Prod.mk.inj ex).1;exact DataW.agg.inj this
 have hsz:cs.size=N+1:=by rw[<-h5,<-hlen];simp
 have h0:MemPlace.cell g 0∈ps:=k5 _ (by simp[MemPlace.row,hsz])
 obtain⟨⟨c,e',hh⟩,_⟩:=hc g 0 h0;have hcs:c=cs:=by
  unfold World.var? at k3;rw[h1]at k3;simp only[Option.bind_some,hh,Option.some.injEq]at k3;exact k3
 subst hcs;refine⟨c,e',hh,fun i a ha=>?_⟩;have hi:i<N+1:=by rw[<-hl];exact(List.getElem?_eq_some_iff.mp ha).1
 have hE:=hel i hi;rw[h4,Nat.mul_one]at hE;have hi2:i<c.size:=by omega
 have hd:((c.toList.drop i).take 1)=[c[i]]:=by
  apply List.ext_getElem?;intro j;cases j with
  |zero=>simp[List.getElem?_drop,hi2]
  |succ j=>simp[List.getElem?_take]
 rw[hd]at hE;have hx:i<xs.length:=by omega
 rw[List.getElem?_eq_getElem hx]at hE;refine⟨c[i],Array.getElem?_eq_getElem hi2,?_⟩;exact hv i a m c[i] xs[i].2 xs[i].1 ha (by rw[el];simp[hx]) hE
theorem AX {P:Program} {W:World} {laid:List (String×DataW Unit)} (h:laidMet P laid W) {n:String} {t e:TypeId} {N g:Nat} {k:IntKind} {l:List Int} (hm:(n,.agg (l.map fun i=>.lit (.int k i)))∈laid)
  (h1:P.globalNamed n=some g) (h2:(P.globals[g]?).map (·.type)=some t) (h3:P.underlying t=some (.array (N+1) e)) (h4:P.cellsOf e=1) (h5:P.cellsOf t=N+1) (hl:l.length=N+1) (h6:P.underlying e=some (.int k)):Tab W g (l.map fun i=>.int k i):=by
 refine YL h hm h1 h2 h3 h4 h5 (by simp[hl]) fun i a fuel x p d ha hd ht γ=>?_
 obtain⟨z,e1,e2,_⟩:=DataW.trod_int h6 ht;rw[List.getElem?_map]at ha hd;cases hli:l[i]? with
 |none=>rw[hli]at ha;cases ha
 |some y=>
  rw[hli]at ha hd;simp only[Option.map_some,Option.some.injEq]at ha hd;subst ha hd;simp only[List.cons.injEq,and_true]at e1;simp only[Prod.mk.injEq,DataW.lit.injEq,Lit.int.injEq,true_and]at e2;rw[e1,e2.1];exact .int _ _
theorem aei {P:Program} {W:World} {laid:List (String×DataW Unit)} (h:laidMet P laid W) {n:String} {t e:TypeId} {N g:Nat} {l:List LU} (hm:(n,.agg (l.map fun i=>.lit (.string i)))∈laid)
  (h1:P.globalNamed n=some g) (h2:(P.globals[g]?).map (·.type)=some t) (h3:P.underlying t=some (.array (N+1) e)) (h4:P.cellsOf e=1) (h5:P.cellsOf t=N+1) (hl:l.length=N+1) (h6:P.underlying e=some .string):Tab W g (l.map .str):=by
 refine YL h hm h1 h2 h3 h4 h5 (by simp[hl]) fun i a fuel x p d ha hd ht γ=>?_
 obtain⟨z,e1,e2,_⟩:=DataW.trod_string h6 ht;rw[List.getElem?_map]at ha hd;cases hli:l[i]? with
 |none=>rw[hli]at ha;cases ha
 |some y=>
  rw[hli]at ha hd;simp only[Option.map_some,Option.some.injEq]at ha hd;subst ha hd;simp only[List.cons.injEq,and_true]at e1;simp only[Prod.mk.injEq,DataW.lit.injEq,Lit.string.injEq]at e2;rw[e1,e2.1];exact .str _
theorem EG{W:World}{g:Nat}{k:IntKind}{l:List Int}{la:LA}(h:Tab W g (l.map fun i=>.int k i))(e:la=l.map fun i=>.int k i):Tab W g la:=e▸h
theorem ais{W:World}{g:Nat}{l:List LU}{la:LA}(h:Tab W g (l.map .str))(e:la=l.map .str):Tab W g la:=e▸h
def Y0:Value->Bool
 |.int .u8 _=>false
 |_=>true
def gh0(T:Nat->Bool)(W:World):Gh:=⟨T,0,fun _=>0,fun _=>0,fun b i=>match T b with
 |true=>W.cell? ⟨b,i,none⟩
 |false=>(W.cell? ⟨b,i,none⟩).filter Y0⟩
theorem im0{T:Nat->Bool}{W:World}{b i:Nat}{v:Value}(h:W.cell? ⟨b,i,none⟩=some v)(hn:Y0 v=true):(gh0 T W).im b i=some v:=by
 show(match T b with|true=>W.cell? ⟨b,i,none⟩|false=>(W.cell? ⟨b,i,none⟩).filter Y0)=_
 cases T b with
 |true=>exact h
 |false=>exact Option.filter_eq_some_iff.mpr ⟨h,hn⟩
theorem akT{T:Nat->Bool}{W:World}{b i:Nat}(h:T b=true):(gh0 T W).im b i=W.cell? ⟨b,i,none⟩:=by
 show(match T b with|true=>W.cell? ⟨b,i,none⟩|false=>(W.cell? ⟨b,i,none⟩).filter Y0)=_
 rw[h]
theorem akS{T:Nat->Bool}{W:World}{b i:Nat}(h:T b=false):(gh0 T W).im b i=(W.cell? ⟨b,i,none⟩).filter Y0:=by
 show(match T b with|true=>W.cell? ⟨b,i,none⟩|false=>(W.cell? ⟨b,i,none⟩).filter Y0)=_
 rw[h]
theorem akC{g:Gh}{a:AV}{v:Value}(h:VR g a v)(hb:isByte a=false):Y0 v=true:=by
 cases h<;>first|rfl|skip
 rename_i k n;cases k<;>first|rfl|cases hb
theorem wr0{T:Nat->Bool}{W:World}(h:∀b,T b=true->∃c e,W.heap[b]?=some (.cells c e (0,0))):WR (gh0 T W) W []:=⟨rfl,fun b i v hv=>(by
 cases hT:T b with
 |false=>rw[akS hT]at hv;exact(Option.filter_eq_some_iff.mp hv).1
 |true=>rw[akT hT]at hv;exact hv),fun b i v hv=>(by
 cases hT:T b with
 |false=>exact .inl ⟨hT,fun j n hj=>by rw[akS hT]at hj;exact absurd (Option.filter_eq_some_iff.mp hj).2 (by simp[Y0])⟩
 |true=>
  obtain⟨c,e,hh⟩:=h b hT;exact .inr ⟨c,e,(0,0),hh,.inl rfl⟩),fun o x hx=>by simp at hx,fun o o' x x' hx=>by simp at hx⟩
def IL(C:Ctx)(b:Nat):Bool:=(C.gl b).isSome
theorem abu{C:Ctx}{W:World}(tabs:∀g l,C.gl g=some l->Tab W g l):∀b,IL C b=true->∃c e,W.heap[b]?=some (.cells c e (0,0)):=by
 intro b hb;obtain⟨l,hl⟩:=Option.isSome_iff_exists.mp hb;obtain⟨c,e,hh,_⟩:=tabs b l hl;exact⟨c,e,hh⟩
theorem gl0{C:Ctx}{W:World}(hn:C.np=true)(tabs:∀g l,C.gl g=some l->Tab W g l):GL C (gh0 (IL C) W):=by
 refine⟨fun n l hl=>⟨?_,by show IL C n=true;unfold IL;rw[hl];rfl⟩,.inl hn⟩
 obtain⟨c,e,hh,hc⟩:=tabs n l hl;refine CR.of_get fun i a ha=>?_;obtain⟨v,h1,h2⟩:=hc i a ha;refine⟨v,?_,h2 _⟩;rw[akT (by unfold IL;rw[hl];rfl)]
 unfold World.cell?;rw[hh];simpa using h1
def Rd(T:Nat->Bool)(P:Program)(W:World)(t:TypeId){α:Type}(Q:α->Prop)(f:α->LA):Prop:=
 ∀(H:Type) (enc:TypeId×Value->H) (sp:Nat->Bool) (held:Bool) (fuel:Nat) (cs:List Value) (x:DataW H×List MemPlace),DataW.trod enc P W 0 sp held fuel t cs=some x->∃a,Q a/\VRs (gh0 T W) (f a) cs
section
variable{T:Nat->Bool}{P:Program}{W:World}{t e:TypeId}
theorem WM{k:IntKind}(ht:P.underlying t=some (.int k)):Rd T P W t (fun n:Int=>(Lit.int k n).wf=true) (fun n=>[.int k n]):=by
 intro H enc sp held fuel cs x h;obtain⟨n,rfl,_,hw⟩:=DataW.trod_int ht h;exact⟨n,hw,.cons _ _ _ _ (.int _ _) .nil⟩
theorem akc(ht:P.underlying t=some .bool):Rd T P W t (fun _:Bool=>True) (fun b=>[.bool b]):=by
 intro H enc sp held fuel cs x h;obtain⟨n,rfl,_⟩:=DataW.trod_bool ht h;exact⟨n,trivial,.cons _ _ _ _ (.bool _) .nil⟩
theorem Et(ht:P.underlying t=some .string):Rd T P W t (fun s:LU=>s.length<=maxLen) (fun s=>[.str s]):=by
 intro H enc sp held fuel cs x h;obtain⟨⟨⟨s⟩⟩,rfl,_,hw⟩:=DataW.trod_string ht h;exact⟨s,hw,.cons _ _ _ _ (.str _) .nil⟩
theorem TU{W:World}{a:Addr}{n:Nat}{cs:List Value}(h:W.cells? 0 a n=some cs):cs.length=n/\∀j,j<n->W.cell? (a.add j)=cs[j]? /\cs[j]?.isSome:=by
 unfold World.cells? at h;split at h
 ·have hl:=mapM_some_length h;refine⟨by simpa using hl,fun j hj=>?_⟩
  have hg:=mapM_some_get h j j (by simp[hj])
  refine⟨hg,?_⟩;rw[List.getElem?_eq_getElem (by rw[show cs.length=n by simpa using hl];exact hj)]
  rfl
 ·cases h
theorem cell_spot{W:World}{a:Addr}{v:Value}(h:W.cell? a=some v):a.spot=none:=by
 unfold World.cell? at h;split at h
 ·split at h
  ·cases h
  ·rename_i hs;cases hx:a.spot with
   |none=>rfl
   |some y=>rw[hx]at hs;simp at hs
 ·cases h
theorem Nr{α:Type}{R:Nat->α->Prop}:∀(n:Nat),(∀i,i<n->∃x,R i x)->∃xs:List α,xs.length=n/\∀i (x:α),xs[i]?=some x->R i x
 |0,_=>⟨[],rfl,fun i x h=>by simp at h⟩
 |n+1,h=>by
  obtain⟨xs,h1,h2⟩:=Nr n fun i hi=>h i (by omega)
  obtain⟨y,hy⟩:=h n (by omega)
  refine⟨xs++[y],by simp[h1],fun i x hx=>?_⟩
  rw[List.getElem?_append]at hx;split at hx
  ·exact h2 i x hx
  ·have:i-xs.length=0:=by
    have:=(List.getElem?_eq_some_iff.mp hx).1;simpa using this
   rw[this]at hx;simp at hx;subst hx;have:i=n:=by omega
   subst this;exact hy
theorem ac9{γ:Gh}{α:Type}{f:α->LA}{k:Nat}(hk:∀x,(f x).length=k){b:Nat}:∀(xs:List α) (off:Nat),(∀i (x:α),xs[i]?=some x->∀j a,(f x)[j]?=some a->∃v,γ.im b (off+i*k+j)=some v/\VR γ a v)->CR γ (xs.flatMap f) b off
 |[],off,_=>.nil _ _
 |x::xs,off,h=>by
  rw[List.flatMap_cons];refine CR.of_get fun i a ha=>?_;rw[List.getElem?_append]at ha;split at ha
  ·have:=h 0 x rfl i a ha;simpa using this
  ·rename_i hi;rw[hk]at ha hi;have ih:=ac9 hk xs (off+k) (fun i' x' hx' j a' ha'=>by
    have:=h (i'+1) x' (by simpa using hx') j a' ha'
    obtain⟨v,h1,h2⟩:=this;exact⟨v,by rw[<-h1];congr 1;rw[Nat.add_mul];omega,h2⟩)
   obtain⟨v,h1,h2⟩:=ih.get ha;exact⟨v,by rw[<-h1];congr 1;omega,h2⟩
theorem Rl {α:Type} {Q:α->Prop} {f:α->LA} {k:Nat} (ht:P.underlying t=some (.slice e)) (hc:P.cellsOf e=k) (hk:∀x,(f x).length=k) (hpos:0<k) (hu:∀x,∀a∈f x,isByte a=false) (he:Rd T P W e Q f):
  Rd T P W t (fun xs:List α=>xs.length<=maxLen/\∀x∈xs,Q x) (fun xs=>[.sl xs.length (xs.flatMap f)]):=by
 intro H enc sp held fuel cs x h;rcases DataW.trod_slice ht h with⟨rfl,_⟩|⟨a,len,cap,elems,rest,n,_,rfl,_,_,hle,hcap,hel,hat,_,_⟩
 ·exact⟨[],⟨Nat.zero_le _,fun x hx=>by cases hx⟩,.cons _ _ _ _ .slNil .nil⟩
 ·rw[hc]at hat
  have hs0:0<len->a.spot=none:=fun h0=>by
   have h1:=hat 0 h0;rw[List.getElem?_eq_getElem (by omega),Option.bind_eq_some_iff]at h1
   obtain⟨c1,hc1,_⟩:=h1;obtain⟨_,hg⟩:=TU hc1;obtain⟨h2,h3⟩:=hg 0 hpos;obtain⟨v,hv⟩:=Option.isSome_iff_exists.mp h3;rw[hv]at h2;have:=cell_spot h2;simpa[Addr.add]using this
  have:∀i,i<len->∃y:α,Q y/\a.spot=none/\∀j av,(f y)[j]?=some av->∃v,(gh0 T W).im a.block (a.off+i*k+j)=some v/\VR (gh0 T W) av v:=by
   intro i hi;have hi2:i<elems.length:=by omega
   have h1:=hat i hi;rw[List.getElem?_eq_getElem hi2,Option.bind_eq_some_iff]at h1;obtain⟨c1,hc1,hy⟩:=h1;obtain⟨y,hq,hv⟩:=he H enc sp held n c1 _ hy;obtain⟨hl,hg⟩:=TU hc1;have hs:=hs0 (by omega)
   refine⟨y,hq,hs,fun j av hav=>?_⟩;have hj:j<k:=by rw[<-hk y];exact(List.getElem?_eq_some_iff.mp hav).1
   obtain⟨v,h4,h5⟩:=hv.get hav;refine⟨v,im0 ?_ (akC h5 (hu y av (List.mem_of_getElem? hav))),h5⟩;rw[<-h4,<-(hg j hj).1];obtain⟨ab,ao,asp⟩:=a;simp at hs;subst hs;rw[addr_add,addr_add]
  obtain⟨xs,hxl,hx⟩:=Nr len this;refine⟨xs,⟨by omega,fun x hx'=>?_⟩,.cons _ _ _ _ ?_ .nil⟩
  ·obtain⟨i,hi,rfl⟩:=List.getElem_of_mem hx';exact(hx i _ (List.getElem?_eq_getElem hi)).1
  ·cases xs with
   |nil=>
    simp at hxl;subst hxl;exact .slEmp _ _
   |cons y ys=>
    have hs:=(hx 0 y rfl).2.1;have ea:a=⟨a.block,a.off,none⟩:=by cases a;simp_all
    rw[ea,<-hxl];refine .sl _ _ _ _ _ (ac9 hk _ _ fun i x hx' j av hav=>(hx i x hx').2.2 j av hav) (by omega)
def RdF(T:Nat->Bool)(P:Program)(W:World):List Field->Nat->{α:Type}->(α->Prop)->(α->LA)->Prop:=fun fs off α Q f=>
 ∀(H:Type) (enc:TypeId×Value->H) (sp:Nat->Bool) (held:Bool) (fuel:Nat) (cs:List Value),(∀g∈fs,(DataW.trod enc P W 0 sp held fuel g.type ((cs.drop g.offset).take (P.cellsOf g.type))).isSome)->cs.length=off+(fs.map fun g=>P.cellsOf g.type).sum->∃a,Q a/\VRs (gh0 T W) (f a) (cs.drop off)
theorem OQ{off:Nat}:RdF T P W [] off (fun _:Unit=>True) (fun _=>[]):=by
 intro H enc sp held fuel cs _ hl;refine⟨(),trivial,?_⟩;rw[List.drop_eq_nil_of_le (by simp at hl;omega)]
 exact .nil
theorem vg {α β:Type} {Q:α->Prop} {f:α->LA} {Q':β->Prop} {f':β->LA} {g:Field} {fs:List Field} {off:Nat} (ho:g.offset=off) (h:Rd T P W g.type Q f) (hf:RdF T P W fs (off+P.cellsOf g.type) Q' f'):
  RdF T P W (g::fs) off (fun x:α×β=>Q x.1/\Q' x.2) (fun x=>f x.1++f' x.2):=by
 intro H enc sp held fuel cs hall hl;obtain⟨y,hy⟩:=Option.isSome_iff_exists.mp (hall g (by simp))
 obtain⟨a,hq,hv⟩:=h H enc sp held fuel _ _ hy;obtain⟨b,hq',hv'⟩:=hf H enc sp held fuel cs (fun g' hg'=>hall g' (by simp[hg'])) (by simp at hl;omega)
 refine⟨(a,b),⟨hq,hq'⟩,?_⟩;have:cs.drop off=(cs.drop off).take (P.cellsOf g.type)++cs.drop (off+P.cellsOf g.type):=by
  rw[<-List.drop_drop,List.take_append_drop]
 rw[this,<-ho];exact hv.append (by rw[ho];exact hv')
theorem FV{α:Type}{Q:α->Prop}{f:α->LA}{fs:Array Field}(ht:P.underlying t=some (.struct fs))(hc:P.cellsOf t=(fs.toList.map fun g=>P.cellsOf g.type).sum)(h:RdF T P W fs.toList 0 Q f):Rd T P W t Q f:=by
 intro H enc sp held fuel cs x hx;obtain⟨xs,n,_,_,hl,hxl,hat⟩:=DataW.trod_struct ht hx;have:=h H enc sp held n cs (fun g hg=>by
  obtain⟨i,hi,rfl⟩:=List.getElem_of_mem hg;have hi':i<fs.size:=by simpa using hi
  have h2:=hat i fs[i] (by simp[hi'])
  rw[List.getElem?_eq_getElem (by omega)]at h2
  rw[show fs.toList[i]=fs[i]from by simp,h2]
  rfl) (by rw[hl,hc];omega)
 simpa using this
theorem Rd.map{α β:Type}{Q:α->Prop}{f:α->LA}{Q':β->Prop}{f':β->LA}(h:Rd T P W t Q f)(g:α->β)(hq:∀a,Q a->Q' (g a))(hf:∀a,f' (g a)=f a):Rd T P W t Q' f':=by
 intro H enc sp held fuel cs x hx;obtain⟨a,h1,h2⟩:=h H enc sp held fuel cs x hx;exact⟨g a,hq a h1,by rw[hf];exact h2⟩
end
theorem abT {T:Nat->Bool} {P:Program} {W:World} {t:TypeId} {fs:Array Field} {base:Nat} {v:Value} (ht:P.underlying t=some (.struct fs)) (hv:Value.okWide P W .any base t v) {α:Type} {Q:α->Prop} {f:α->LA} (hr:Rd T P W t Q f) {H:Type} {enc:TypeId×Value->H} {sp:Nat->Bool} {held:Bool} {d:DataW H} {ps:List MemPlace} (h:DataW.Trod enc P W 0 sp held t v d ps):
  ∃a,Q a/\VR (gh0 T W) (.agg (f a)) v:=by
 simp only[Value.okWide,ht]at hv;obtain⟨cs,rfl,_,_⟩:=hv;obtain⟨n,hn⟩:=h;obtain⟨a,hq,hx⟩:=hr H enc sp held n _ _ hn;exact⟨a,hq,.agg _ _ hx⟩
theorem EN {T:Nat->Bool} {P:Program} {W:World} {t:TypeId} {base:Nat} {v:Value} (hna:∀cs,¬Value.okWide P W .any base t (.agg cs)) (hv:Value.okWide P W .any base t v) {α:Type} {Q:α->Prop} {f:α->AV} (hr:Rd T P W t Q (fun a=>[f a])) {H:Type} {enc:TypeId×Value->H} {sp:Nat->Bool} {held:Bool} {d:DataW H} {ps:List MemPlace} (h:DataW.Trod enc P W 0 sp held t v d ps):
  ∃a,Q a/\VR (gh0 T W) (f a) v:=by
 obtain⟨n,hn⟩:=h;obtain⟨a,hq,hx⟩:=hr H enc sp held n _ _ hn;refine⟨a,hq,?_⟩;have:v.cells.toList=[v]:=by
  cases v with
  |agg cs=>exact absurd hv (hna cs)
  |_=>rfl
 rw[this]at hx;cases hx with
 |cons _ _ _ _ x _=>exact x
theorem ahp{P:Program}{W:World}{t:TypeId}{base:Nat}(ht:P.underlying t=some .string):∀cs,¬Value.okWide P W .any base t (.agg cs):=fun cs h=>by simp[Value.okWide,ht,Cell.okWide,Cell.ok]at h
theorem aaU{P:Program}{W:World}{t:TypeId}{base:Nat}{k:IntKind}(ht:P.underlying t=some (.int k)):∀cs,¬Value.okWide P W .any base t (.agg cs):=fun cs h=>by simp[Value.okWide,ht,Cell.okWide,Cell.ok]at h
theorem aho{P:Program}{W:World}{t e:TypeId}{base:Nat}(ht:P.underlying t=some (.slice e)):∀cs,¬Value.okWide P W .any base t (.agg cs):=fun cs h=>by simp[Value.okWide,ht,Cell.okWide,Cell.ok]at h
theorem aac {C:Ctx} {call:bC} (hc:fK C call) {f:FuncId} (hf:AB C.P f) (hn:C.np=true) {azs:LA} {b:Bool} (h:call f azs []=some (.bool b,[])) {W:World} (tabs:∀g l,C.gl g=some l->Tab W g l) {args:List Value} (ha:VRs (gh0 (IL C) W) azs args):
  Calls C.P f ⟨args⟩ W fun e w'=>e=.returned (.bool b)/\Below W.heap.size W w':=by
 have hd:=hc f azs [] (.bool b) [] h (gh0 (IL C) W) W args ha (wr0 (abu tabs)) (gl0 hn tabs);unfold Does at hd;rw[hf.enter]at hd;refine Calls.mono hd fun e w' ⟨v2,he,g',hgo,hr⟩=>?_;cases hr;exact⟨he,hgo.os,hgo.tape,hgo.output,hgo.size,fun k hk=>(hgo.fr k hk (fun o x hx=>by simp at hx)).2.1⟩
theorem akp{g g':Gh}{a:AV}{v:Value}(h:Ti a=true)(hv:VR g a v):VR g' a v:=by
 cases hv<;>first|(cases h;done)|constructor
theorem ab3 {C D:Ctx} {call:bC} (hc:fK C call) (hP:D.P=C.P) (hgl:D.gl=C.gl) (hs:∀n l,C.gl n=some l->l.all Ti=true) {f:FuncId} {b:Bool} (h:call f [] []=some (.bool b,[])):
  POK D f fun args O=>match args with|[]=>some (.bool b,O)|_=>none:=by
 intro args O v O' h1 g w args' ha hw hg;dsimp only at h1;split at h1
 ·cases h1;cases ha;have hw2:WR ⟨fun _=>true,0,g.ob,g.bs,fun b i=>if g.pl b then g.im b i else none⟩ w []:=⟨rfl,fun b i v hv=>(by
   dsimp only at hv;split at hv
   ·exact hw.im b i v hv
   ·cases hv),fun b i v hv=>(by
   dsimp only at hv;split at hv
   ·rename_i hp;rcases hw.uf b i v hv with hq|hq
    ·rw[hp]at hq;cases hq.1
    ·exact .inr hq
   ·cases hv),fun o x hx=>by simp at hx,fun o o' x x' hx=>by simp at hx⟩
  have hd:=hc f [] [] (.bool b) [] h _ w [] .nil hw2 ⟨fun n l hl=>⟨?_,rfl⟩,.inr fun _=>rfl⟩
  ·rw[<-hP]at hd;have mono:∀v' w',(∃g',Goes ⟨fun _=>true,0,g.ob,g.bs,fun b i=>if g.pl b then g.im b i else none⟩ [] w g' [] w'/\VR g' (.bool b) v')->∃g',Goes g O w g' O w'/\VR g' (.bool b) v':=by
    rintro v' w' ⟨g',hgo,hr⟩;cases hr;exact⟨g,tu hw ⟨hgo.os,hgo.tape,hgo.output,hgo.size,fun k hk=>(hgo.fr k hk (fun o x hx=>by simp at hx)).2.1⟩,.bool _⟩
   unfold Does at hd⊢;split at hd
   ·exact Calls.mono hd fun e w' ⟨v2,he,hR⟩=>⟨v2,he,mono _ _ hR⟩
   ·exact mono _ _ hd
   ·exact hd
  ·obtain⟨h3,h4⟩:=hg.1 n l (by rw[hgl];exact hl)
   refine CR.of_get fun i a hi=>?_;obtain⟨v,h5,h6⟩:=h3.get hi;refine⟨v,?_,akp (List.all_eq_true.mp (hs n l hl) a (List.mem_of_getElem? hi)) h6⟩;dsimp only;rw[if_pos h4];exact h5
 ·cases h1
open Go.RowKit Go.ChangeShapes
theorem G7 {H:Type} {enc:TypeId×Value->H} {P:Program} {W W':World} (hl:laidOutB P=true) (hb:Below W.heap.size W W'):∀{ts:List TypeId} {vs:List Value} {ds:List (DataW H)} {ps:List MemPlace},(ts.all fun t=>P.readableRec t&&decide (t<P.types.size))=true->
  DataW.TrodAll enc P W 0 (fun _=>true) true ts vs ds ps->(∀x∈ps,x.block<W.heap.size)->DataW.TrodAll enc P W' 0 (fun b=>decide (b<W.heap.size)) true ts vs ds ps
 |[],vs,ds,ps,_,h,_=>by
  obtain⟨rfl,rfl,rfl⟩:=trodAll_nil h;rfl
 |t::ts,vs,ds,ps,ht,h,hlt=>by
  obtain⟨v,vs',d,ds',p,q,rfl,rfl,rfl,h1,h2⟩:=trodAll_cons h;simp only[List.all_cons,Bool.and_eq_true,decide_eq_true_eq]at ht;exact trodAll_cons_mk (Below.trod hl ht.1.1 ht.1.2 h1 hb fun x hx=>hlt x (by simp[hx])) (G7 hl hb (by simpa using ht.2) h2 fun x hx=>hlt x (by simp[hx]))
theorem Xq{H:Type}{enc:TypeId×Value->H}{P:Program}{W:World}{b:Nat}{sp:Nat->Bool}{hd:Bool}:∀(fuel:Nat) (t:TypeId) (l:Lit) (p:List MemPlace),DataW.trod enc P W b sp hd fuel t []≠some (.lit l,p)
 |0,t,l,p,h=>by cases h
 |fuel+1,t,l,p,h=>by
  unfold DataW.trod at h;split at h;all_goals first
   |(cases h;done)
   |(rename_i h1;cases h1;done)
   |(rename_i h1 _;cases h1;done)
   | (split at h
      ·rw[Option.map_eq_some_iff]at h;obtain⟨x,_,e⟩:=h;cases e
      ·cases h)
theorem ahg{α β:Type}(f:α->Option β){l:List α}{x:β}(h:l.mapM f=some [x]):∃a,f a=some x:=by
 cases l with
 |nil=>simp at h
 |cons a r=>
  rw[List.mapM_cons]at h;cases ha:f a with
  |none=>rw[ha]at h;cases h
  |some y=>
   rw[ha]at h;simp only[Option.bind_eq_bind,Option.bind_some]at h;rw[Option.bind_eq_some_iff]at h;obtain⟨ys,_,e⟩:=h;cases e;exact⟨a,ha⟩
theorem Xp{H:Type}{enc:TypeId×Value->H}{P:Program}{W:World}{b:Nat}{sp:Nat->Bool}{hd:Bool}(fuel:Nat)(t:TypeId)(l:Lit)(p:List MemPlace)(h:DataW.trod enc P W b sp hd fuel t []=some (.agg [.lit l],p)):False:=by
 cases fuel with
 |zero=>cases h
 |succ fuel=>
  unfold DataW.trod at h;split at h;all_goals first
   |(cases h;done)
   |(rename_i h1;cases h1;done)
   |(rename_i h1 _;cases h1;done)
   | (split at h
      ·rw[Option.map_eq_some_iff]at h;obtain⟨xs,h1,e⟩:=h;have e1:=congrArg (fun x=>match x.1 with|DataW.agg l=>l|_=>[]) e
       dsimp only at e1
       match xs,e1 with
       |_::_::_,e1=>simp at e1
       |[y],e1=>
        obtain⟨z,hz⟩:=ahg _ h1;have:y.1=.lit l:=by simpa using e1
        simp only[List.drop_nil,List.take_nil]at hz;obtain⟨y1,y2⟩:=y;dsimp only at this;subst this;exact Xq _ _ _ _ hz
      ·cases h)
theorem aiu {H:Type} {enc:TypeId×Value->H} {P:Program} {W:World} {b:Nat} {sp:Nat->Bool} {fuel:Nat} {u:TypeId} {cs:List Value} {d:DataW H} {p:List MemPlace} (h:DataW.trod enc P W b sp false fuel u cs=some (.ptr d,p)):
  ∃n e a cs' p',P.underlying u=some (.pointer e)/\cs=[.pointer (some a)]/\W.cells? b a (P.cellsOf e)=some cs'/\DataW.trod enc P W b sp false n e cs'=some (d,p'):=by
 cases fuel with
 |zero=>cases h
 |succ fuel=>
  unfold DataW.trod at h;split at h
  case h_6 e a he=>
   rw[Option.map_eq_some_iff]at h;obtain⟨x,hx,e1⟩:=h;rw[Option.bind_eq_some_iff]at hx;obtain⟨cs',h1,h2⟩:=hx;cases e1;exact⟨fuel,_,_,cs',x.2,he,rfl,h1,h2⟩
  all_goals first
   |(cases h;done)
   |(rw[Option.map_eq_some_iff]at h;obtain⟨x,_,e⟩:=h;cases e;done)
   |(split at h<;>first
    |(cases h;done)
    |(rw[Option.map_eq_some_iff]at h;obtain⟨x,_,e⟩:=h;cases e;done)
    |(rw[Option.bind_eq_some_iff]at h;obtain⟨y,_,h⟩:=h;rw[Option.map_eq_some_iff]at h;obtain⟨x,_,e⟩:=h;cases e;done)
    |(dsimp only at h;split at h<;>first
     |(cases h;done)
     |(rw[Option.bind_eq_some_iff]at h;obtain⟨y,_,h⟩:=h;split at h<;>first|(cases h;done)|(rw[Option.map_eq_some_iff]at h;obtain⟨x,_,e⟩:=h;cases e;done))))
theorem amv{P:Program}{W:World}{t e:TypeId}{base:Nat}(ht:P.underlying t=some (.pointer e)):∀cs,¬Value.okWide P W .any base t (.agg cs):=fun cs h=>by simp[Value.okWide,ht,Cell.okWide,Cell.ok]at h
theorem YK {P:Program} {W:World} {laid:List (String×DataW Unit)} (h:laidMet P laid W) {n name:String} {s:LU} {t:TypeId} {ms:Array (String×TypeId)} {g:Nat} (hm:(n,.iface name (.ptr (.agg [.lit (.string s)])))∈laid)
  (h1:P.globalNamed n=some g) (h2:(P.globals[g]?).map (·.type)=some t) (h3:P.underlying t=some (.interface ms)):∃u,Tab W g [.iface u (.eptr [])]:=by
 obtain⟨ps,hL,_,hc⟩:=h;obtain⟨g',t',cs,fuel,p,k1,k2,k3,k4,k5⟩:=Wh hL hm;obtain rfl:=Option.some.inj (h1.symm.trans k1);obtain rfl:=Option.some.inj (h2.symm.trans k2);have hv:∃n' u v p',cs.toList=[.iface u v]/\DataW.trod (fun _=>()) P W 0 (fun _=>true) false n' u v.cells.toList=some (.ptr (.agg [.lit (.string s)]),p'):=by
  generalize cs.toList=l at k4;cases fuel with
  |zero=>cases k4
  |succ fuel=>
   unfold DataW.trod at k4;rw[h3]at k4
   match l,k4 with
   |[.nilIface],k4=>cases k4
   |[.iface u v],k4=>
    dsimp only at k4;cases hn:P.typeName? 3 u with
    |none=>rw[hn]at k4;cases k4
    |some nm=>
     rw[hn]at k4;dsimp only at k4;rw[Option.map_eq_some_iff]at k4;obtain⟨x,hx,e⟩:=k4;cases x with
     |mk d q=>
      cases e;exact⟨fuel,u,v,_,rfl,hx⟩
 obtain⟨n',u,v,p',hcs,hv⟩:=hv;have hsz:cs.size=1:=by
  have:=congrArg List.length hcs;simpa using this
 have h0:MemPlace.cell g 0∈ps:=k5 _ (by simp[MemPlace.row,hsz])
 obtain⟨⟨c,e',hh⟩,hok⟩:=hc g 0 h0;have hccs:c=cs:=by
  unfold World.var? at k3;rw[h1]at k3;simp only[Option.bind_some,hh,Option.some.injEq]at k3;exact k3
 subst hccs;have c0:c[0]?=some (.iface u v):=by
  rw[<-Array.getElem?_toList,hcs];rfl
 have hok:=hok u v (by unfold World.cell?;rw[hh];exact c0)
 obtain⟨n2,e2,a,cs',p2,q1,q2,q3,q4⟩:=aiu hv;have ev:v=.pointer (some a):=by
  cases v with
  |agg l=>exact absurd hok (amv q1 l)
  |_=>exact(List.cons.inj q2).1
 subst ev;have hsp:a.spot=none:=by
  cases hs:a.spot with
  |none=>rfl
  |some k=>
   exfalso;have hcell:W.cell? (a.add 0)=none:=by
    show W.cell? a=none;unfold World.cell?;rw[hs];split<;>rfl
   have:cs'=[]:=by
    unfold World.cells? at q3;rw[if_pos (Nat.zero_le _)]at q3;cases hn:P.cellsOf e2 with
    |zero=>rw[hn]at q3;simpa using q3.symm
    |succ m=>
     rw[hn,List.range_succ_eq_map]at q3;simp[hcell]at q3
   subst this;exact Xp _ _ _ _ q4
 obtain⟨b,o,sp⟩:=a;dsimp only at hsp;subst hsp;exact⟨u,c,e',hh,fun i x hx=>by
  cases i with
  |zero=>
   simp only[List.getElem?_cons_zero,Option.some.injEq]at hx;subst hx;exact⟨_,c0,fun γ=>.iface _ _ _ (.eptr _ _ _ (.nil _ _))⟩
  |succ i=>simp at hx⟩
theorem EVA:type_of%@look_nil/\type_of%@FN/\type_of%@J7/\type_of%@FM/\type_of%@IX/\type_of%@EO/\type_of%@KH/\type_of%@KG/\type_of%@F7/\type_of%@Rz/\type_of%@IE/\type_of%@RF/\type_of%@MB/\type_of%@IC/\type_of%@F5/\type_of%@KN/\type_of%@CQ/\type_of%@F6/\type_of%@Fp/\type_of%@OB/\type_of%@OC/\type_of%@P6/\type_of%@P7/\type_of%@OA/\type_of%@OO/\type_of%@Kv/\type_of%@Zd/\type_of%@UQ/\type_of%@Ku/\type_of%@aiV/\type_of%@aiT/\type_of%@aiU/\type_of%@zF/\type_of%@xW/\type_of%@Bg/\type_of%@I7/\type_of%@EU/\type_of%@Je/\type_of%@I8/\type_of%@Pz/\type_of%@Jl/\type_of%@yN/\type_of%@I9/\type_of%@Jf/\type_of%@Jd/\type_of%@Jc/\type_of%@Jb/\type_of%@Ja/\type_of%@Jg/\type_of%@Jh/\type_of%@Ji/\type_of%@Jj/\type_of%@Jk/\type_of%@zC/\type_of%@wU/\type_of%@vP/\type_of%@wS/\type_of%@wV/\type_of%@BA/\type_of%@ET/\type_of%@BD/\type_of%@BC/\type_of%@BB/\type_of%@wE/\type_of%@zD/\type_of%@uF/\type_of%@uD/\type_of%@pW/\type_of%@yO/\type_of%@Xt/\type_of%@Xr/\type_of%@BG/\type_of%@Fv/\type_of%@E5/\type_of%@JI/\type_of%@Fe/\type_of%@JO/\type_of%@BI/\type_of%@FD/\type_of%@Fb/\type_of%@JM/\type_of%@BH/\type_of%@FB/\type_of%@BJ/\type_of%@FH/\type_of%@EZ/\type_of%@JH/\type_of%@Jp/\type_of%@OD/\type_of%@Ff/\type_of%@JP/\type_of%@Fa/\type_of%@JK/\type_of%@E8/\type_of%@JJ/\type_of%@xX/\type_of%@zQ/\type_of%@cells_func/\type_of%@FC/\type_of%@wF/\type_of%@yj/\type_of%@zH/\type_of%@BV/\type_of%@uI/\type_of%@wJ/\type_of%@EY/\type_of%@Ac/\type_of%@Aa/\type_of%@aj.eq_1/\type_of%@aj.eq_2/\type_of%@aj.eq_3/\type_of%@aj.eq_4/\type_of%@aj.eq_5/\type_of%@aj.eq_6/\type_of%@aj.eq_7/\type_of%@aj.eq_8/\type_of%@aj.eq_9/\type_of%@Ou/\type_of%@Pv/\type_of%@Px/\type_of%@IZ/\type_of%@Lm/\type_of%@IY/\type_of%@I4/\type_of%@VB/\type_of%@abY/\type_of%@VE/\type_of%@VD/\type_of%@VC/\type_of%@EQ/\type_of%@Ov/\type_of%@Bz/\type_of%@DC/\type_of%@wQ/\type_of%@Pq/\type_of%@aj.eq_10/\type_of%@aj.eq_11/\type_of%@V7/\type_of%@aj.eq_13/\type_of%@aj.eq_14/\type_of%@aj.eq_15/\type_of%@aj.eq_16/\type_of%@aj.eq_18/\type_of%@aj.eq_19/\type_of%@aj.eq_20/\type_of%@aj.eq_21/\type_of%@aj.eq_22/\type_of%@aj.eq_23/\type_of%@aj.eq_24/\type_of%@aj.eq_25/\type_of%@aj.eq_26/\type_of%@aj.eq_27/\type_of%@aj.eq_28/\type_of%@aj.eq_29/\type_of%@aj.eq_30/\type_of%@aj.eq_31/\type_of%@aj.eq_32/\type_of%@aj.eq_33/\type_of%@aj.eq_34/\type_of%@aj.eq_35/\type_of%@aj.eq_36/\type_of%@aj.eq_37/\type_of%@qO/\type_of%@aj.eq_39/\type_of%@aj.eq_40/\type_of%@aj.eq_41/\type_of%@aj.eq_42/\type_of%@aj.eq_43/\type_of%@aj.eq_44/\type_of%@aj.eq_45/\type_of%@aj.eq_46/\type_of%@aj.eq_47/\type_of%@JY:=
 ⟨@look_nil,@FN,@J7,@FM,@IX,@EO,@KH,@KG,@F7,@Rz,@IE,@RF,@MB,@IC,@F5,@KN,@CQ,@F6,@Fp,@OB,@OC,@P6,@P7,@OA,@OO,@Kv,@Zd,@UQ,@Ku,@aiV,@aiT,@aiU,@zF,@xW,@Bg,@I7,@EU,@Je,@I8,@Pz,@Jl,@yN,@I9,@Jf,@Jd,@Jc,@Jb,@Ja,@Jg,@Jh,@Ji,@Jj,@Jk,@zC,@wU,@vP,@wS,@wV,@BA,@ET,@BD,@BC,@BB,@wE,@zD,@uF,@uD,@pW,@yO,@Xt,@Xr,@BG,@Fv,@E5,@JI,@Fe,@JO,@BI,@FD,@Fb,@JM,@BH,@FB,@BJ,@FH,@EZ,@JH,@Jp,@OD,@Ff,@JP,@Fa,@JK,@E8,@JJ,@xX,@zQ,@cells_func,@FC,@wF,@yj,@zH,@BV,@uI,@wJ,@EY,@Ac,@Aa,@aj.eq_1,@aj.eq_2,@aj.eq_3,@aj.eq_4,@aj.eq_5,@aj.eq_6,@aj.eq_7,@aj.eq_8,@aj.eq_9,@Ou,@Pv,@Px,@IZ,@Lm,@IY,@I4,@VB,@abY,@VE,@VD,@VC,@EQ,@Ov,@Bz,@DC,@wQ,@Pq,@aj.eq_10,@aj.eq_11,@V7,@aj.eq_13,@aj.eq_14,@aj.eq_15,@aj.eq_16,@aj.eq_18,@aj.eq_19,@aj.eq_20,@aj.eq_21,@aj.eq_22,@aj.eq_23,@aj.eq_24,@aj.eq_25,@aj.eq_26,@aj.eq_27,@aj.eq_28,@aj.eq_29,@aj.eq_30,@aj.eq_31,@aj.eq_32,@aj.eq_33,@aj.eq_34,@aj.eq_35,@aj.eq_36,@aj.eq_37,@qO,@aj.eq_39,@aj.eq_40,@aj.eq_41,@aj.eq_42,@aj.eq_43,@aj.eq_44,@aj.eq_45,@aj.eq_46,@aj.eq_47,@JY⟩
end Go.Ev
