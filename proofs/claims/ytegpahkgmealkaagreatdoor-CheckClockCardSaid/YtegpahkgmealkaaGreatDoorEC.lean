/- An evaluator of the model, proved sound. No conditions. -/
import Derived.Test.YtegpahkgmealkaaGreatDoorEB
import Derived.Lib.Bytealg
import Derived.LaidMore
import Derived.OpenShut
import Derived.ChangeArms
import Derived.ChangeShapes
import Derived.Carry
set_option linter.unusedVariables false
set_option linter.unusedSimpArgs false
namespace Go.Ev
def Le{α:Type}(x y:Option α):Prop:=∀a,x=some a->y=some a
theorem Le.rfl{α:Type}{x:Option α}:Le x x:=fun _ h=>h
theorem Le.trans{α:Type}{x y z:Option α}(h:Le x y)(g:Le y z):Le x z:=fun a e=>g a (h a e)
theorem Le.none{α:Type}{y:Option α}:Le Option.none y:=fun _ h=>nomatch h
theorem Le.bind{α β:Type}{x y:Option α}{f g:α->Option β}(h:Le x y)(hg:∀a,Le (f a) (g a)):Le (x.bind f) (y.bind g):=by
 intro b hb;cases x with
 |none=>cases hb
 |some a=>rw[h a (by rfl)];exact hg a b hb
theorem Le.antisymm{α:Type}{x y:Option α}(h:Le x y)(g:Le y x):x=y:=by
 cases x with
 |none=>cases y with
  |none=>rfl
  |some b=>exact(g b (by rfl)).trans (by rfl)
 |some a=>exact(h a (by rfl)).symm
open Classical in
noncomputable def lim{α:Type}(f:Nat->Option α):Option α:=
 if h:∃n,(f n).isSome then f (Classical.choose h)else none
def ap9{α:Type}(f:Nat->Option α):Prop:=∀n m,n<=m->Le (f n) (f m)
theorem Ti{α:Type}{f:Nat->Option α}(hf:ap9 f){a:α}:lim f=some a↔∃n,f n=some a:=by
 unfold lim;constructor
 ·intro h;split at h
  ·exact⟨_,h⟩
  ·cases h
 ·rintro⟨n,h⟩;have he:∃n,(f n).isSome:=⟨n,by rw[h];rfl⟩
  rw[dif_pos he];have hc:=Classical.choose_spec he;obtain⟨b,hb⟩:=Option.isSome_iff_exists.mp hc;rw[hb];have h1:=hf _ _ (Nat.le_max_left n (Classical.choose he)) a h;have h2:=hf _ _ (Nat.le_max_right n (Classical.choose he)) b hb;rw[<-h2,h1]
abbrev Body:=Env->St->Option (XE×Env×St)
theorem xK{b b':Body}(h:∀e O,Le (b e O) (b' e O)):∀(n m:Nat),n<=m->∀e O,Le (nJ b n e O) (nJ b' m e O)
 |0,_,_,_,_=>Le.none
 |n+1,0,hn,_,_=>absurd hn (by omega)
 |n+1,m+1,hn,e,O=>by
  intro a ha;unfold nJ at ha⊢;cases hb:b e O with
  |none=>rw[hb]at ha;cases ha
  |some r=>
   rw[h e O r hb];rw[hb]at ha;obtain⟨k,e',O'⟩:=r;cases k with
   |normal=>exact xK h n m (by omega) e' O' a ha
   |exit i=>exact ha
   |ret=>exact ha
noncomputable def Yn(b:Body):Body:=fun e O=>lim fun n=>nJ b n e O
theorem zy{b:Body}{e O r}:Yn b e O=some r↔∃n,nJ b n e O=some r:=
 Ti (fun n m h=>xK (fun _ _=>Le.rfl) n m h e O)
noncomputable def kY(C:Ctx)(call:bD):XC->Body
 |.skip,e,O=>some (.normal,e,O)
 |.ops l,e,O=>match nR C call l e O with
  |some (e',O')=>some (.normal,e',O')
  |none=>none
 |.drawn l,e,O=>match lJ C call l e O with
  |some (e',O')=>some (.normal,e',O')
  |none=>none
 |.seq a b,e,O=>match kY C call a e O with
  |some (.normal,e',O')=>kY C call b e' O'
  |r=>r
 |.cond c a b,e,O=>match av C e c with
  |.bool true=>kY C call a e O
  |.bool false=>kY C call b e O
  |_=>none
 |.block id b,e,O=>match kY C call b e O with
  |some (.exit i,e',O')=>some (if i=id then .normal else .exit i,e',O')
  |r=>r
 |.loop b,e,O=>Yn (kY C call b) e O
 |.exit id,e,O=>some (.exit id,e,O)
 |.ret,e,O=>some (.ret,e,O)
 |.scope b,e,O=>kY C call b e O
 |.fail,_,_=>none
def wB(c d:bD):Prop:=∀f a O,Le (c f a O) (d f a O)
theorem GY{C:Ctx}{c d:bD}(h:wB c d)(o:XOp)(e:Env)(O:St):Le (rM C c o e O) (rM C d o e O):=by
 intro r hr;unfold rM at hr⊢;split at hr
 ·rw[if_pos (by assumption)]
  split at hr
  ·exact hr
  ·exact h _ _ _ _ hr
  ·cases hr
 ·rw[if_neg (by assumption)];exact hr
theorem Dz{C:Ctx}{c d:bD}(h:wB c d):∀(l:List XOp) (e:Env) (O:St),Le (nR C c l e O) (nR C d l e O)
 |[],_,_=>Le.rfl
 |o::l,e,O=>by
  intro r hr;unfold nR at hr⊢;cases ho:rM C c o e O with
  |none=>rw[ho]at hr;cases hr
  |some v=>
   rw[GY h o e O v ho];rw[ho]at hr;exact Dz h l _ _ r hr
theorem Jj{C:Ctx}{c d:bD}(h:wB c d):∀(l:List XOp) (e:Env) (O:St),Le (qB C c l e O) (qB C d l e O)
 |[],_,_=>Le.rfl
 |o::l,e,O=>by
  intro r hr;unfold qB at hr⊢;cases ho:rM C c o e O with
  |none=>rw[ho]at hr;cases hr
  |some v=>
   rw[GY h o e O v ho];rw[ho]at hr;dsimp only at hr⊢;cases hl:qB C c l (put e o.dst v.1) v.2 with
   |none=>rw[hl]at hr;cases hr
   |some q=>
    rw[Jj h l _ _ q hl];rw[hl]at hr;exact hr
theorem KZ{C:Ctx}{c d:bD}(h:wB c d)(l:List XOp)(e:Env)(O:St):Le (lJ C c l e O) (lJ C d l e O):=by
 intro r hr;unfold lJ at hr⊢;cases hl:qB C c l e O with
 |none=>rw[hl]at hr;cases hr
 |some q=>
  rw[Jj h l _ _ q hl];rw[hl]at hr;exact hr
theorem mD{C:Ctx}{c d:bD}(h:wB c d){n m:Nat}(hn:n<=m):∀(x:XC) (e:Env) (O:St),Le (evC C c n x e O) (evC C d m x e O)
 |.skip,_,_=>Le.rfl
 |.ops l,e,O=>by
  intro r hr;unfold evC at hr⊢;cases hl:nR C c l e O with
  |none=>rw[hl]at hr;cases hr
  |some q=>rw[Dz h l _ _ q hl];rw[hl]at hr;exact hr
 |.drawn l,e,O=>by
  intro r hr;unfold evC at hr⊢;cases hl:lJ C c l e O with
  |none=>rw[hl]at hr;cases hr
  |some q=>rw[KZ h l _ _ q hl];rw[hl]at hr;exact hr
 |.seq a b,e,O=>by
  intro r hr;unfold evC at hr⊢;cases hl:evC C c n a e O with
  |none=>rw[hl]at hr;cases hr
  |some q=>
   rw[mD h hn a _ _ q hl];rw[hl]at hr;obtain⟨k,e',O'⟩:=q;cases k with
   |normal=>exact mD h hn b _ _ r hr
   |exit i=>exact hr
   |ret=>exact hr
 |.cond q a b,e,O=>by
  intro r hr;unfold evC at hr⊢;split at hr
  ·exact mD h hn a _ _ r hr
  ·exact mD h hn b _ _ r hr
  ·cases hr
 |.block id b,e,O=>by
  intro r hr;unfold evC at hr⊢;cases hl:evC C c n b e O with
  |none=>rw[hl]at hr;cases hr
  |some q=>rw[mD h hn b _ _ q hl];rw[hl]at hr;exact hr
 |.loop b,e,O=>xK (fun e O=>mD h hn b e O) n m hn e O
 |.exit _,_,_=>Le.rfl
 |.ret,_,_=>Le.rfl
 |.scope b,e,O=>mD h hn b e O
 |.fail,_,_=>Le.none
def SA(C:Ctx)(run:XC->Body):bD:=fun f args O=>
 match C.prim f with
 |some h=>h args O
 |none=>
 match C.fs f with
 |none=>none
 |some x=>
  match hand (C.raw f) args O with
  |none=>none
  |some (args,O1)=>
   if args.length>x.ntmps then none else
   match run x.body (args++List.replicate (x.ntmps-args.length) .undef) O1 with
   |some (.exit _,_,_)=>none
   |none=>none
   |some (_,e,O2)=>
    match P7 e O2 x.results with
    |none=>none
    |some vs=>match hand (C.raw f) vs O2 with
     |none=>none
     |some (vs,O3)=>some (bi vs,tidy O.length vs O3)
theorem EX(C:Ctx)(n:Nat):evF C (n+1)=SA C (evC C (evF C n) n):=by
 funext f args O
 rfl
theorem VC{C:Ctx}{r s:XC->Body}(h:∀x e O,Le (r x e O) (s x e O)):wB (SA C r) (SA C s):=by
 intro f args O a ha;unfold SA at ha⊢;cases hp:C.prim f with
 |some q=>rw[hp]at ha;exact ha
 |none=>
  rw[hp]at ha;dsimp only at ha⊢;cases hx:C.fs f with
  |none=>rw[hx]at ha;cases ha
  |some x=>
   rw[hx]at ha;dsimp only at ha⊢;cases hh:hand (C.raw f) args O with
   |none=>rw[hh]at ha;cases ha
   |some q=>
    rw[hh]at ha;dsimp only at ha⊢;split at ha
    ·cases ha
    ·rw[if_neg (by assumption)]
     cases hr:r x.body (q.1++List.replicate (x.ntmps-q.1.length) .undef) q.2 with
     |none=>rw[hr]at ha;cases ha
     |some t=>rw[h _ _ _ t hr];rw[hr]at ha;exact ha
theorem RH{C:Ctx}:∀(n m:Nat),n<=m->wB (evF C n) (evF C m)
 |0,_,_=>fun _ _ _=>Le.none
 |n+1,0,h=>absurd h (by omega)
 |n+1,m+1,h=>by
  rw[EX,EX];exact VC fun x e O=>mD (RH n m (by omega)) (by omega) x e O
noncomputable def ai(C:Ctx):bD:=fun f args O=>lim fun n=>evF C n f args O
theorem CX{C:Ctx}{f args O r}:ai C f args O=some r↔∃n,evF C n f args O=some r:=
 Ti (fun n m h=>RH n m h f args O)
theorem Be{C:Ctx}{c d:bD}(h:wB c d){n:Nat}:∀(x:XC) (e:Env) (O:St),Le (evC C c n x e O) (kY C d x e O)
 |.skip,_,_=>Le.rfl
 |.ops l,e,O=>by
  intro r hr;unfold evC at hr;unfold kY;cases hl:nR C c l e O with
  |none=>rw[hl]at hr;cases hr
  |some q=>rw[Dz h l _ _ q hl];rw[hl]at hr;exact hr
 |.drawn l,e,O=>by
  intro r hr;unfold evC at hr;unfold kY;cases hl:lJ C c l e O with
  |none=>rw[hl]at hr;cases hr
  |some q=>rw[KZ h l _ _ q hl];rw[hl]at hr;exact hr
 |.seq a b,e,O=>by
  intro r hr;unfold evC at hr;unfold kY;cases hl:evC C c n a e O with
  |none=>rw[hl]at hr;cases hr
  |some q=>
   rw[Be h a _ _ q hl];rw[hl]at hr;obtain⟨k,e',O'⟩:=q;cases k with
   |normal=>exact Be h b _ _ r hr
   |exit i=>exact hr
   |ret=>exact hr
 |.cond q a b,e,O=>by
  intro r hr;unfold evC at hr;unfold kY;split at hr
  ·rename_i hq;rw[hq];exact Be h a _ _ r hr
  ·rename_i hq;rw[hq];exact Be h b _ _ r hr
  ·cases hr
 |.block id b,e,O=>by
  intro r hr;unfold evC at hr;unfold kY;cases hl:evC C c n b e O with
  |none=>rw[hl]at hr;cases hr
  |some q=>rw[Be h b _ _ q hl];rw[hl]at hr;exact hr
 |.loop b,e,O=>by
  intro r hr;unfold evC at hr;unfold kY;exact zy.mpr ⟨n,xK (fun e O=>Be h b e O) n n (Nat.le_refl n) e O r hr⟩
 |.exit _,_,_=>Le.rfl
 |.ret,_,_=>Le.rfl
 |.scope b,e,O=>by
  intro r hr;unfold evC at hr;unfold kY;exact Be h b e O r hr
 |.fail,_,_=>Le.none
section
variable {C:Ctx} {cs:Nat->bD} {L:bD}
  (hm:∀n m,n<=m->wB (cs n) (cs m)) (hL:∀f a O r,L f a O=some r->∃k,cs k f a O=some r)
 include hL in
theorem agr {o e O r} (h:rM C L o e O=some r):∃k,rM C (cs k) o e O=some r:=by
  unfold rM at h⊢;split at h
  ·rename_i hw;simp only[if_pos hw];cases hi:evI C e O o.i with
   |none=>rw[hi]at h;cases h
   |some out=>
    rw[hi]at h;cases out with
    |val v O'=>exact⟨0,h⟩
    |call f args O'=>exact hL _ _ _ _ h
  ·rename_i hw;simp only[if_neg hw];exact⟨0,h⟩
 include hm hL
theorem ad5:∀{l e O r},nR C L l e O=some r->∃k,nR C (cs k) l e O=some r
 |[],_,_,_,h=>⟨0,h⟩
 |o::l,e,O,r,h=>by
  unfold nR at h;cases ho:rM C L o e O with
  |none=>rw[ho]at h;cases h
  |some q=>
   rw[ho]at h;obtain⟨k,hk⟩:=agr hL ho;obtain⟨j,hj⟩:=ad5 h;refine⟨max k j,?_⟩;unfold nR;rw[GY (hm k _ (Nat.le_max_left k j)) o e O q hk];exact Dz (hm j _ (Nat.le_max_right k j)) l _ _ r hj
theorem ad6:∀{l e O r},qB C L l e O=some r->∃k,qB C (cs k) l e O=some r
 |[],_,_,_,h=>⟨0,h⟩
 |o::l,e,O,r,h=>by
  unfold qB at h;cases ho:rM C L o e O with
  |none=>rw[ho]at h;cases h
  |some q=>
   rw[ho]at h;dsimp only at h;cases hl:qB C L l (put e o.dst q.1) q.2 with
   |none=>rw[hl]at h;cases h
   |some t=>
    obtain⟨k,hk⟩:=agr hL ho;obtain⟨j,hj⟩:=ad6 hl;refine⟨max k j,?_⟩;unfold qB;rw[GY (hm k _ (Nat.le_max_left k j)) o e O q hk];dsimp only;rw[Jj (hm j _ (Nat.le_max_right k j)) l _ _ t hj];rw[hl]at h;exact h
theorem Lt:∀(x:XC) {e O r},kY C L x e O=some r->∃k,evC C (cs k) k x e O=some r
 |.skip,_,_,_,h=>⟨0,h⟩
 |.ops l,e,O,r,h=>by
  unfold kY at h;cases hl:nR C L l e O with
  |none=>rw[hl]at h;cases h
  |some q=>
   obtain⟨k,hk⟩:=ad5 hm hL hl;exact⟨k,by unfold evC;rw[hk];rw[hl]at h;exact h⟩
 |.drawn l,e,O,r,h=>by
  unfold kY lJ at h;cases hl:qB C L l e O with
  |none=>rw[hl]at h;cases h
  |some q=>
   obtain⟨k,hk⟩:=ad6 hm hL hl;exact⟨k,by unfold evC lJ;rw[hk];rw[hl]at h;exact h⟩
 |.seq a b,e,O,r,h=>by
  unfold kY at h;cases hl:kY C L a e O with
  |none=>rw[hl]at h;cases h
  |some q=>
   rw[hl]at h;obtain⟨k,hk⟩:=Lt a hl;obtain⟨x,e',O'⟩:=q;cases x with
   |normal=>
    obtain⟨j,hj⟩:=Lt b h;refine⟨max k j,?_⟩;unfold evC;rw[mD (hm k _ (Nat.le_max_left k j)) (Nat.le_max_left k j) a e O _ hk];exact mD (hm j _ (Nat.le_max_right k j)) (Nat.le_max_right k j) b _ _ r hj
   |exit i=>exact⟨k,by unfold evC;rw[hk];exact h⟩
   |ret=>exact⟨k,by unfold evC;rw[hk];exact h⟩
 |.cond q a b,e,O,r,h=>by
  unfold kY at h;split at h
  ·rename_i hq;obtain⟨k,hk⟩:=Lt a h;exact⟨k,by unfold evC;rw[hq];exact hk⟩
  ·rename_i hq;obtain⟨k,hk⟩:=Lt b h;exact⟨k,by unfold evC;rw[hq];exact hk⟩
  ·cases h
 |.block id b,e,O,r,h=>by
  unfold kY at h;cases hl:kY C L b e O with
  |none=>rw[hl]at h;cases h
  |some q=>
   obtain⟨k,hk⟩:=Lt b hl;exact⟨k,by unfold evC;rw[hk];rw[hl]at h;exact h⟩
 |.loop b,e,O,r,h=>by
  unfold kY at h;obtain⟨n,hn⟩:=zy.mp h;have:∀(n:Nat) (e:Env) (O:St) (r:XE×Env×St),nJ (kY C L b) n e O=some r->∃k,evC C (cs k) k (.loop b) e O=some r:=by
   intro n
   induction n with
   |zero=>intro e O r h;cases h
   |succ n ih=>
    intro e O r h;unfold nJ at h;cases hb:kY C L b e O with
    |none=>rw[hb]at h;cases h
    |some q=>
     rw[hb]at h;obtain⟨k,hk⟩:=Lt b hb;obtain⟨x,e',O'⟩:=q;cases x with
     |normal=>
      obtain⟨j,hj⟩:=ih _ _ _ h;refine⟨max k j+1,?_⟩;unfold evC at hj⊢;unfold nJ;rw[mD (hm k _ (by omega)) (by omega:k<=max k j+1) b e O _ hk]
      exact xK (fun e O=>mD (hm j _ (by omega)) (by omega:j<=max k j+1) b e O) j (max k j) (by omega) _ _ r hj
     |exit i=>
      refine⟨k+1,?_⟩;unfold evC nJ;rw[mD (hm k _ (by omega)) (by omega:k<=k+1) b e O _ hk]
      exact h
     |ret=>
      refine⟨k+1,?_⟩;unfold evC nJ;rw[mD (hm k _ (by omega)) (by omega:k<=k+1) b e O _ hk]
      exact h
  exact this n e O r hn
 |.exit _,_,_,_,h=>⟨0,h⟩
 |.ret,_,_,_,h=>⟨0,h⟩
 |.scope b,e,O,r,h=>by
  unfold kY at h;obtain⟨k,hk⟩:=Lt b h;exact⟨k,by unfold evC;exact hk⟩
 |.fail,_,_,_,h=>by unfold kY at h;cases h
end
theorem Ym(C:Ctx):ai C=SA C (kY C (ai C)):=by
 funext f args O
 refine Le.antisymm ?_ ?_
 ·intro a h;obtain⟨n,h⟩:=CX.mp h;cases n with
  |zero=>cases h
  |succ n=>
   rw[EX]at h;exact VC (fun x e O=>Be (fun f a O r h=>CX.mpr ⟨n,h⟩) x e O) f args O a h
 ·intro a h;have hm:∀n m,n<=m->wB (evF C n) (evF C m):=RH;have hL:∀f a O r,ai C f a O=some r->∃k,evF C k f a O=some r:=fun f a O r h=>CX.mp h;refine CX.mpr ?_;unfold SA at h;cases hp:C.prim f with
  |some q=>rw[hp]at h;exact⟨1,by rw[EX];unfold SA;rw[hp];exact h⟩
  |none=>
   rw[hp]at h;dsimp only at h;cases hx:C.fs f with
   |none=>rw[hx]at h;cases h
   |some x=>
    rw[hx]at h;dsimp only at h;cases hh:hand (C.raw f) args O with
    |none=>rw[hh]at h;cases h
    |some q=>
     rw[hh]at h;dsimp only at h;split at h
     ·cases h
     ·rename_i hlen;cases hr:kY C (ai C) x.body (q.1++List.replicate (x.ntmps-q.1.length) .undef) q.2 with
      |none=>rw[hr]at h;cases h
      |some t=>
       obtain⟨k,hk⟩:=Lt hm hL x.body hr;refine⟨k+1,?_⟩;rw[EX];unfold SA;rw[hp,hx];dsimp only;rw[hh];dsimp only;rw[if_neg hlen,hk];rw[hr]at h;exact h
theorem H7{C:Ctx}(hm:C.P.follows .mixedOrders=true)(hfs:aaI C)(hprim:Jd C):fO C (ai C):=by
 intro f args O v O' h;obtain⟨n,h⟩:=CX.mp h;exact EY hm hfs hprim n f args O v O' h
inductive KC where
 |skip
 |ops (l:List XOp)
 |plain (l:List XOp)
 |drawn (l:List XOp)
 |seq (a b:KC)
 |cond (c:XA) (a b:KC)
 |block (id:Nat) (b:KC)
 |loop (keep:List Nat) (b:KC)
 |exit (keep:List Nat) (id:Nat)
 |ret (keep:List Nat)
 |scope (b:KC)
 |fail
def KC.forget:KC->XC
 |.skip=>.skip
 |.ops l=>.ops l
 |.plain l=>.drawn l
 |.drawn l=>.drawn l
 |.seq a b=>.seq a.forget b.forget
 |.cond c a b=>.cond c a.forget b.forget
 |.block id b=>.block id b.forget
 |.loop _ b=>.loop b.forget
 |.exit _ id=>.exit id
 |.ret _=>.ret
 |.scope b=>.scope b.forget
 |.fail=>.fail
structure KF where
 nargs:Nat
 ntmps:Nat
 results:List XR
 body:KC
def KF.forget(k:KF):XF:=⟨k.nargs,k.ntmps,k.results,k.body.forget⟩
theorem anK(C:Ctx)(e:Env)(O:St)(i:XI):evI C e O i=aj C (av C e) e.length O i:=rfl
abbrev As:=List (Nat×AV)
def look:As->Nat->AV
 |[],_=>.undef
 |(k,v)::A,t=>if k=t then v else look A t
def avA(C:Ctx)(A:As):XA->AV
 |.t n=>look A n
 |.c v=>v
 |.g n=>.eptr ((C.gl n).getD [])
def nI(b:Bool):AV->Bool
 |.bool c=>c==b
 |_=>false
def jo(o:XOp)(A:As):Bool:=
 match o.guard with
 |none=>true
 |some (t,b)=>nI b (look A t)
def yg(A:As)(d:Option Nat)(v:AV):As:=
 match d with
 |some d=>(d,v)::A
 |none=>A
def keepA(k:List Nat)(A:As):As:=k.map fun t=>(t,look A t)
def mF(C:Ctx)(call:bD)(n:Nat)(o:XOp)(A:As)(O:St):Option (AV×St):=
 if jo o A then
  match aj C (avA C A) n O o.i with
  |some (.val v O')=>some (v,O')
  |some (.call f args O')=>call f args O'
  |none=>none
 else some (.undef,O)
def dD(C:Ctx)(call:bD)(n:Nat):List XOp->As->St->Option (As×St)
 |[],A,O=>some (A,O)
 |o::l,A,O=>match mF C call n o A O with
  |some (v,O')=>dD C call n l (yg A o.dst v) O'
  |none=>none
def lD(C:Ctx)(call:bD)(n:Nat):List XOp->As->St->Option (As×St×List (As×AV)×List St)
 |[],A,O=>some (A,O,[],[O])
 |o::l,A,O=>match mF C call n o A O with
  |some (v,O')=>match lD C call n l (yg A o.dst v) O' with
   |some (A',O'',rs,ss)=>some (A',O'',(A,v)::rs,O::ss)
   |none=>none
  |none=>none
def iF(C:Ctx)(n:Nat)(o:XOp)(A:As)(v:AV)(ss:List St):List Nat->Bool
 |[]=>true
 |c::l=>(match ss[c]?,ss[c+1]? with
  |some s,some s'=>(match aj C (avA C A) n s o.i,aj C (avA C A) n s' o.i with
   |some (.val v1 _),some (.val v2 _)=>same v1 v&&same v2 v
   |_,_=>false)
  |_,_=>false)&&iF C n o A v ss l
def dN(C:Ctx)(n:Nat)(ss:List St):List XOp->List (As×AV)->Bool
 |o::l,(A,v)::rs=>(!jo o A||iF C n o A v ss o.loose)&&dN C n ss l rs
 |_,_=>true
def vw(C:Ctx)(call:bD)(n:Nat)(l:List XOp)(A:As)(O:St):Option (As×St):=
 match lD C call n l A O with
 |some (A',O',rs,ss)=>if dN C n ss l rs then some (A',O')else none
 |none=>none
abbrev Ij:=As->St->Option (XE×As×St)
def loopA(b:Ij):Nat->As->St->Option (XE×As×St)
 |0,_,_=>none
 |n+1,e,O=>match b e O with
  |some (.normal,e',O')=>loopA b n e' O'
  |r=>r
theorem Tt{b:Ij}:∀(n m:Nat),n<=m->∀e O,Le (loopA b n e O) (loopA b m e O)
 |0,_,_,_,_=>Le.none
 |n+1,0,hn,_,_=>absurd hn (by omega)
 |n+1,m+1,hn,e,O=>by
  intro a ha;unfold loopA at ha⊢;cases hb:b e O with
  |none=>rw[hb]at ha;cases ha
  |some r=>
   rw[hb]at ha;obtain⟨k,e',O'⟩:=r;cases k with
   |normal=>exact Tt n m (by omega) e' O' a ha
   |exit i=>exact ha
   |ret=>exact ha
noncomputable def sH(b:Ij):Ij:=fun e O=>lim fun n=>loopA b n e O
theorem nO{b:Ij}{e O r}:sH b e O=some r↔∃n,loopA b n e O=some r:=
 Ti (fun n m h=>Tt n m h e O)
theorem yw (b:Ij) (e:As) (O:St):sH b e O=
  match b e O with
  |some (.normal,e',O')=>sH b e' O'
  |r=>r:=by
 refine Le.antisymm ?_ ?_
 ·intro a h;obtain⟨n,h⟩:=nO.mp h;cases n with
  |zero=>cases h
  |succ n=>
   unfold loopA at h;cases hb:b e O with
   |none=>rw[hb]at h;cases h
   |some r=>
    rw[hb]at h;obtain⟨k,e',O'⟩:=r;cases k with
    |normal=>exact nO.mpr ⟨n,h⟩
    |exit i=>exact h
    |ret=>exact h
 ·intro a h;refine nO.mpr ?_;cases hb:b e O with
  |none=>rw[hb]at h;cases h
  |some r=>
   rw[hb]at h;obtain⟨k,e',O'⟩:=r;cases k with
   |normal=>
    obtain⟨n,h⟩:=nO.mp h;exact⟨n+1,by unfold loopA;rw[hb];exact h⟩
   |exit i=>exact⟨1,by unfold loopA;rw[hb];exact h⟩
   |ret=>exact⟨1,by unfold loopA;rw[hb];exact h⟩
noncomputable def dI(C:Ctx)(call:bD)(n:Nat):KC->Ij
 |.skip,e,O=>some (.normal,e,O)
 |.ops l,e,O|.plain l,e,O=>match dD C call n l e O with
  |some (e',O')=>some (.normal,e',O')
  |none=>none
 |.drawn l,e,O=>match vw C call n l e O with
  |some (e',O')=>some (.normal,e',O')
  |none=>none
 |.seq a b,e,O=>match dI C call n a e O with
  |some (.normal,e',O')=>dI C call n b e' O'
  |r=>r
 |.cond c a b,e,O=>match avA C e c with
  |.bool true=>dI C call n a e O
  |.bool false=>dI C call n b e O
  |_=>none
 |.block id b,e,O=>match dI C call n b e O with
  |some (.exit i,e',O')=>some (if i=id then .normal else .exit i,e',O')
  |r=>r
 |.loop m b,e,O=>sH (fun e O=>dI C call n b (keepA m e) O) e O
 |.exit m id,e,O=>some (.exit id,keepA m e,O)
 |.ret m,e,O=>some (.ret,keepA m e,O)
 |.scope b,e,O=>dI C call n b e O
 |.fail,_,_=>none
def bit(t:Nat):Nat:=1<<<t
def bits:List Nat->Nat
 |[]=>0
 |t::l=>bit t|||bits l
def without(m:Nat):Option Nat->Nat
 |none=>m
 |some d=>(m|||bit d)^^^bit d
def Bv:List XOp->Nat->Nat
 |[],N=>N
 |o::l,N=>bits o.reads|||without (Bv l N) o.dst
def Hr(l:List XOp):Bool:=l.all fun o=>o.loose.isEmpty
def agi(n:Nat):Option Nat->Bool
 |none=>true
 |some d=>decide (d<n)
def abb(n:Nat)(l:List XOp):Bool:=l.all fun o=>agi n o.dst
def live(n R:Nat):KC->Nat->(Nat->Nat)->Option Nat
 |.skip,N,_=>some N
 |.ops l,N,_=>if abb n l then some (Bv l N)else none
 |.plain l,N,_=>if abb n l&&Hr l then some (Bv l N)else none
 |.drawn l,N,_=>if abb n l then some (Bv l N)else none
 |.seq a b,N,X=>match live n R b N X with
  |some M=>live n R a M X
  |none=>none
 |.cond c a b,N,X=>match live n R a N X,live n R b N X with
  |some A,some B=>some (bits c.reads|||(A|||B))
  |_,_=>none
 |.block id b,N,X=>live n R b N fun i=>if i=id then N else X i
 |.loop k b,_,X=>match live n R b (bits k) X with
  |some A=>if A|||bits k=bits k then some (bits k)else none
  |none=>none
 |.exit k id,_,X=>if X id|||bits k=bits k then some (bits k)else none
 |.ret k,_,_=>if R|||bits k=bits k then some (bits k)else none
 |.scope b,N,X=>live n R b N X
 |.fail,_,_=>some 0
def zx:List XR->Nat
 |[]=>0
 |.tmp t::l=>bit t|||zx l
 |.cell t _ _::l=>bit t|||zx l
def KF.ok(k:KF):Bool:=(live k.ntmps (zx k.results) k.body (zx k.results) fun _=>zx k.results).isSome
structure Ag(n m:Nat)(e:Env)(A:As):Prop where
 len:e.length=n
 at':∀t,m.testBit t=true->e.getD t .undef=look A t
theorem Ag.left{n m k:Nat}{e A}(h:Ag n (m|||k) e A):Ag n m e A:=⟨h.len,fun t ht=>h.at' t (by rw[Nat.testBit_or,ht];rfl)⟩
theorem Ag.right{n m k:Nat}{e A}(h:Ag n (m|||k) e A):Ag n k e A:=⟨h.len,fun t ht=>h.at' t (by rw[Nat.testBit_or,ht,Bool.or_true])⟩
theorem yx(d t:Nat):(bit d).testBit t=decide (d=t):=by
 unfold bit;rw[Nat.one_shiftLeft,Nat.testBit_two_pow]
theorem ZY:∀(l:List Nat) (t:Nat),t∈l->(bits l).testBit t=true
 |a::l,t,h=>by
  unfold bits;rw[Nat.testBit_or,yx];rcases List.mem_cons.mp h with h|h
  ·subst h;simp
  ·rw[ZY l t h,Bool.or_true]
theorem YU:∀(l:List Nat) (t:Nat),(bits l).testBit t=true->t∈l
 |[],t,h=>by unfold bits at h;simp at h
 |a::l,t,h=>by
  unfold bits at h;rw[Nat.testBit_or,yx,Bool.or_eq_true]at h;rcases h with h|h
  ·exact List.mem_cons.mpr (Or.inl (Eq.symm (by simpa using h)))
  ·exact List.mem_cons_of_mem _ (YU l t h)
def AgL(l:List Nat)(e:Env)(A:As):Prop:=∀t∈l,e.getD t .undef=look A t
theorem Ag.agree{n:Nat}{l:List Nat}{e A}(h:Ag n (bits l) e A):AgL l e A:=fun t ht=>h.at' t (ZY l t ht)
theorem P9(m d t:Nat):(without m (some d)).testBit t=(m.testBit t&& !decide (d=t)):=by
 unfold without;rw[Nat.testBit_xor,Nat.testBit_or,yx];cases m.testBit t<;>cases decide (d=t)<;>rfl
theorem agy(e:Env)(d t:Nat)(v:AV):(e.set d v).getD t .undef=if d=t/\t<e.length then v else e.getD t .undef:=by
 simp only[List.getD_eq_getElem?_getD,List.getElem?_set];by_cases h:d=t
 ·subst h;by_cases h':d<e.length
  ·simp[h']
  ·simp[h']
 ·simp[h]
theorem Ag.put{n m:Nat}{d:Option Nat}{e A}(h:Ag n (without m d) e A)(hd:agi n d=true)(v:AV):Ag n m (put e d v) (yg A d v):=by
 refine⟨by rw[uq,h.len],?_⟩
 intro t ht;cases d with
 |none=>exact h.at' t ht
 |some d=>
  have hd:d<n:=by simpa[agi]using hd
  unfold Go.Ev.put yg;dsimp only;rw[agy,h.len];unfold look;by_cases hdt:d=t
  ·rw[if_pos ⟨hdt,by omega⟩,if_pos hdt]
  ·rw[if_neg (fun h=>hdt h.1),if_neg hdt];exact h.at' t (by rw[P9,ht];simp[hdt])
theorem Hq:∀(k:List Nat) (A:As) (t:Nat),t∈k->look (keepA k A) t=look A t
 |a::k,A,t,h=>by
  show(if a=t then look A a else look (keepA k A) t)=_;by_cases hat:a=t
  ·rw[if_pos hat,hat]
  ·rw[if_neg hat];exact Hq k A t ((List.mem_cons.mp h).resolve_left fun h=>hat h.symm)
theorem Ag.keep{n:Nat}{k:List Nat}{e A}(h:Ag n (bits k) e A):Ag n (bits k) e (keepA k A):=
 ⟨h.len,fun t ht=>by rw[Hq k A t (YU k t ht),h.at' t ht]⟩
theorem anA{C:Ctx}{e:Env}{A:As}(x:XA)(h:AgL x.reads e A):av C e x=avA C A x:=by
 cases x with
 |t n=>exact h n (List.mem_singleton.mpr rfl)
 |c v=>rfl
 |g n=>rfl
section
variable{a a':XA->AV}
def AgX(l:List Nat)(a a':XA->AV):Prop:=∀x:XA,(∀t∈x.reads,t∈l)->a x=a' x
theorem AgX.sub{l k:List Nat}(h:AgX l a a')(hk:∀t∈k,t∈l):AgX k a a':=fun x hx=>h x fun t ht=>hk t (hx t ht)
theorem Vb:∀(l:List XA),AgX (qO l) a a'->l.map a=l.map a'
 |[],_=>rfl
 |x::l,h=>by
  simp only[List.map_cons];rw[h x (fun t ht=>by simp[qO,ht]),Vb l (h.sub fun t ht=>by simp[qO,ht])]
theorem U9(x:Option XA)(h:AgX (JF x) a a'):x.map a=x.map a':=by
 cases x with
 |none=>rfl
 |some x=>simp only[Option.map_some];rw[h x (fun t ht=>ht)]
theorem akC:∀(l:List (Nat×Nat×XA)),AgX (FY l) a a'->(l.map fun(o,s,x)=>(o,s,a x))=(l.map fun(o,s,x)=>(o,s,a' x))
 |[],_=>rfl
 |(o,s,x)::l,h=>by
  simp only[List.map_cons];rw[h x (fun t ht=>by simp[FY,ht]),akC l (h.sub fun t ht=>by simp[FY,ht])]
theorem abe(C:Ctx)(n:Nat)(O:St)(xi:XI)(h:AgX xi.reads a a'):aj C a n O xi=aj C a' n O xi:=by
 have mem:∀{x:XA},(∀t∈x.reads,t∈xi.reads)->a x=a' x:=fun{x} hx=>h x hx;cases xi<;>simp only[XI.reads]at h mem<;>simp only[aj]<;>first
  |rfl
  |(rw[mem (fun t ht=>ht)])
  |(rename_i a b;rw[mem (x:=a) (fun t ht=>by simp[ht]),mem (x:=b) (fun t ht=>by simp[ht])])
  |(rename_i a b c;rw[mem (x:=a) (fun t ht=>by simp[ht]),mem (x:=b) (fun t ht=>by simp[ht]),mem (x:=c) (fun t ht=>by simp[ht])])
  |(rw[akC _ h])
  |skip
 case mkFunc fn x y=>rw[Vb x (h.sub fun t ht=>by simp[ht]),Vb y (h.sub fun t ht=>by simp[ht])]
 case sliceStr x a b=>rw[mem (x:=x) (fun t ht=>by simp[ht]),U9 a (h.sub fun t ht=>by simp[ht]),U9 b (h.sub fun t ht=>by simp[ht])]
 case sliceSl sz x a b c=>rw[mem (x:=x) (fun t ht=>by simp[ht]),U9 a (h.sub fun t ht=>by simp[ht]),U9 b (h.sub fun t ht=>by simp[ht])]
 case sliceArr n sz x a b c=>rw[mem (x:=x) (fun t ht=>by simp[ht]),U9 a (h.sub fun t ht=>by simp[ht]),U9 b (h.sub fun t ht=>by simp[ht])]
 case lookup z m k ok=>rw[mem (x:=m) (fun t ht=>by simp[ht]),mem (x:=k) (fun t ht=>by simp[ht])]
 all_goals first
  |(rw[Vb _ h])
  |(rename_i f l;rw[mem (x:=f) (fun t ht=>by simp[ht]),Vb l (h.sub fun t ht=>by simp[ht])])
  |(rename_i f m l;rw[mem (x:=f) (fun t ht=>by simp[ht]),Vb l (h.sub fun t ht=>by simp[ht])])
  |(rename_i q;rw[mem (x:=q) (fun t ht=>by simp[ht])])
end
theorem Ag.wanted{n:Nat}{o:XOp}{e A}(h:Ag n (bits o.reads) e A):jH o e=jo o A:=by
 unfold jH jo;cases hg:o.guard with
 |none=>rfl
 |some q=>
  obtain⟨t,b⟩:=q;dsimp only;have ht:=h.agree t (by unfold XOp.reads;rw[hg];simp)
  rw[<-ht,List.getD_eq_getElem?_getD];unfold nI;cases e[t]? with
  |none=>rfl
  |some v=>cases v<;>rfl
theorem Ag.evI{C:Ctx}{n:Nat}{o:XOp}{e A}(h:Ag n (bits o.reads) e A)(O:St):Go.Ev.evI C e O o.i=aj C (avA C A) n O o.i:=by
 rw[anK,h.len];exact abe C n O o.i fun x hx=>anA x fun t ht=>h.agree t (by unfold XOp.reads;exact List.mem_append_left _ (hx t ht))
theorem Ag.op{C:Ctx}{call:bD}{n:Nat}{o:XOp}{e A}(h:Ag n (bits o.reads) e A)(O:St):rM C call o e O=mF C call n o A O:=by
 unfold rM mF;rw[h.wanted,h.evI];cases aj C (avA C A) n O o.i with
 |none=>rfl
 |some x=>cases x<;>rfl
def Rel(n:Nat)(N:XE->Nat):Option (XE×Env×St)->Option (XE×As×St)->Prop
 |none,none=>True
 |some (k,e,O),some (k',e',O')=>k=k'/\O=O'/\Ag n (N k) e e'
 |_,_=>False
theorem X9 {C:Ctx} {call:bD} {n N:Nat}:∀(l:List XOp) (e:Env) (A:As) (O:St),abb n l=true->Ag n (Bv l N) e A->
  match nR C call l e O,dD C call n l A O with
  |some (f,Y),some (f',Y')=>Y=Y'/\Ag n N f f'
  |none,none=>True
  |_,_=>False
 |[],e,A,O,_,h=>⟨rfl,h⟩
 |o::l,e,A,O,hd,h=>by
  unfold abb at hd;rw[List.all_cons,Bool.and_eq_true]at hd;unfold nR dD;rw[Ag.op h.left O];cases mF C call n o A O with
  |none=>trivial
  |some q=>exact X9 l _ _ q.2 hd.2 (h.right.put hd.1 q.1)
theorem PE{C:Ctx}{n:Nat}{o:XOp}{e A}(h:Ag n (bits o.reads) e A)(v:AV)(ss:List St):∀l,D9 C o e v ss l=iF C n o A v ss l
 |[]=>rfl
 |c::l=>by
  unfold D9 iF;rw[PE h v ss l];simp only[h.evI,aj];cases ss[c]? with
  |none=>rfl
  |some s=>cases ss[c+1]? with
   |none=>rfl
   |some s'=>
    dsimp only;cases aj C (avA C A) n s o.i with
    |none=>rfl
    |some x=>cases aj C (avA C A) n s' o.i with
     |none=>cases x<;>rfl
     |some y=>cases x<;>cases y<;>rfl
theorem adR {C:Ctx} {call:bD} {n N:Nat}:∀(l:List XOp) (e:Env) (A:As) (O:St),abb n l=true->Ag n (Bv l N) e A->
  match qB C call l e O,lD C call n l A O with
  |some (f,Y,rs,ss),some (f',Y',rs',ss')=>Y=Y'/\ss=ss'/\Ag n N f f'/\∀zs,sD C zs l rs=dN C n zs l rs'
  |none,none=>True
  |_,_=>False
 |[],e,A,O,_,h=>⟨rfl,rfl,h,fun _=>rfl⟩
 |o::l,e,A,O,hd,h=>by
  unfold abb at hd;rw[List.all_cons,Bool.and_eq_true]at hd;unfold qB lD;rw[Ag.op h.left O];cases mF C call n o A O with
  |none=>trivial
  |some q=>
   dsimp only;have:=adR (C:=C) (call:=call) (N:=N) l _ _ q.2 hd.2 (h.right.put hd.1 q.1);revert this;cases qB C call l (put e o.dst q.1) q.2 with
   |none=>cases lD C call n l (yg A o.dst q.1) q.2 with
    |none=>intro _;trivial
    |some r=>intro h;exact h.elim
   |some r=>cases lD C call n l (yg A o.dst q.1) q.2 with
    |none=>intro h;exact h.elim
    |some r'=>
     obtain⟨f,Y,rs,ss⟩:=r;obtain⟨f',Y',rs',ss'⟩:=r';rintro⟨h1,h2,h3,h4⟩;refine⟨h1,by rw[h2],h3,?_⟩
     intro zs;unfold sD dN;rw[h4,h.left.wanted,PE h.left]
theorem IP{C:Ctx}{zs:List St}:∀(l:List XOp) (rs:List (Env×AV)),Hr l=true->sD C zs l rs=true
 |[],_,_=>by unfold sD;rfl
 |_::_,[],_=>by unfold sD;rfl
 |o::l,(e,v)::rs,h=>by
  unfold Hr at h;rw[List.all_cons,Bool.and_eq_true]at h;unfold sD;rw[IP l rs h.2];have:o.loose=[]:=by simpa using h.1
  rw[this];unfold D9;simp
theorem adQ{C:Ctx}{call:bD}:∀(l:List XOp) (e:Env) (O:St),(qB C call l e O).map (fun r=>(r.1,r.2.1))=nR C call l e O
 |[],_,_=>rfl
 |o::l,e,O=>by
  unfold qB nR;cases rM C call o e O with
  |none=>rfl
  |some q=>
   dsimp only;rw[<-adQ l];cases qB C call l (put e o.dst q.1) q.2<;>rfl
theorem Zc{C:Ctx}{call:bD}{l:List XOp}(h:Hr l=true)(e:Env)(O:St):lJ C call l e O=nR C call l e O:=by
 unfold lJ;rw[<-adQ];cases qB C call l e O with
 |none=>rfl
 |some r=>
  obtain⟨a,b,c,d⟩:=r;dsimp only;rw[IP l c h];rfl
def outs(N R:Nat)(X:Nat->Nat):XE->Nat
 |.normal=>N
 |.exit i=>X i
 |.ret=>R
theorem vM{C:Ctx}{call:bD}{n R:Nat}:∀(k:KC) (N M:Nat) (X:Nat->Nat),live n R k N X=some M->∀(e:Env) (e':As) (O:St),Ag n M e e'->Rel n (outs N R X) (kY C call k.forget e O) (dI C call n k e' O)
 |.skip,N,M,X,h,e,e',O,ha=>by cases h;exact⟨rfl,rfl,ha⟩
 |.ops l,N,M,X,h,e,e',O,ha=>by
  unfold live at h;split at h
  ·rename_i hd;cases h;unfold KC.forget kY dI;have:=X9 (C:=C) (call:=call) l e e' O hd ha;revert this;cases nR C call l e O<;>cases dD C call n l e' O
   ·intro _;trivial
   ·intro h;exact h.elim
   ·intro h;exact h.elim
   ·rintro⟨h1,h2⟩;exact⟨rfl,h1,h2⟩
  ·cases h
 |.plain l,N,M,X,h,e,e',O,ha=>by
  unfold live at h;split at h
  ·rename_i hl;cases h;rw[Bool.and_eq_true]at hl;unfold KC.forget kY dI;rw[Zc hl.2];have:=X9 (C:=C) (call:=call) l e e' O hl.1 ha;revert this;cases nR C call l e O<;>cases dD C call n l e' O
   ·intro _;trivial
   ·intro h;exact h.elim
   ·intro h;exact h.elim
   ·rintro⟨h1,h2⟩;exact⟨rfl,h1,h2⟩
  ·cases h
 |.drawn l,N,M,X,h,e,e',O,ha=>by
  unfold live at h;split at h
  case isFalse=>cases h
  rename_i hd;cases h;unfold KC.forget kY dI lJ vw;have:=adR (C:=C) (call:=call) l e e' O hd ha;revert this;cases qB C call l e O<;>cases lD C call n l e' O
  ·intro _;trivial
  ·intro h;exact h.elim
  ·intro h;exact h.elim
  ·rename_i r r';obtain⟨f,Y,rs,ss⟩:=r;obtain⟨f',Y',rs',ss'⟩:=r';rintro⟨h1,h2,h3,h4⟩;subst h2;dsimp only;rw[h4];cases dN C n ss l rs'
   ·trivial
   ·exact⟨rfl,h1,h3⟩
 |.seq a b,N,M,X,h,e,e',O,ha=>by
  unfold live at h;cases hb:live n R b N X with
  |none=>rw[hb]at h;cases h
  |some B=>
   rw[hb]at h;have:=vM (C:=C) (call:=call) a B M X h e e' O ha;unfold KC.forget kY dI;revert this;cases kY C call a.forget e O<;>cases dI C call n a e' O
   ·intro _;trivial
   ·intro h;exact h.elim
   ·intro h;exact h.elim
   ·rename_i r r';obtain⟨x,f,Y⟩:=r;obtain⟨x',f',Y'⟩:=r';rintro⟨h1,h2,h3⟩;subst h1 h2;cases x with
    |normal=>exact vM b N B X hb _ _ _ h3
    |exit i=>exact⟨rfl,rfl,h3⟩
    |ret=>exact⟨rfl,rfl,h3⟩
 |.cond c a b,N,M,X,h,e,e',O,ha=>by
  unfold live at h;cases hA:live n R a N X with
  |none=>rw[hA]at h;cases h
  |some A=>cases hB:live n R b N X with
   |none=>rw[hA,hB]at h;cases h
   |some B=>
    rw[hA,hB]at h;cases h;unfold KC.forget kY dI;rw[anA c (ha.left.agree)];cases avA C e' c with
    |bool q=>cases q with
     |true=>exact vM a N A X hA e e' O ha.right.left
     |false=>exact vM b N B X hB e e' O ha.right.right
    |_=>trivial
 |.block id b,N,M,X,h,e,e',O,ha=>by
  unfold live at h;have:=vM (C:=C) (call:=call) b N M _ h e e' O ha;unfold KC.forget kY dI;revert this;cases kY C call b.forget e O<;>cases dI C call n b e' O
  ·intro _;trivial
  ·intro h;exact h.elim
  ·intro h;exact h.elim
  ·rename_i r r';obtain⟨x,f,Y⟩:=r;obtain⟨x',f',Y'⟩:=r';rintro⟨h1,h2,h3⟩;subst h1 h2;cases x with
   |normal=>exact⟨rfl,rfl,h3⟩
   |exit i=>
    refine⟨rfl,rfl,?_⟩;unfold outs at h3;dsimp only at h3;split
    ·rename_i hi;rw[if_pos hi]at h3;exact h3
    ·rename_i hi;rw[if_neg hi]at h3;exact h3
   |ret=>exact⟨rfl,rfl,h3⟩
 |.loop m b,N,M,X,h,e,e',O,ha=>by
  unfold live at h;cases hA:live n R b (bits m) X with
  |none=>rw[hA]at h;cases h
  |some A=>
   rw[hA]at h;dsimp only at h;split at h
   ·rename_i hm;cases h;have hsub:∀{f:Env} {f':As},Ag n (bits m) f f'->Ag n A f f':=fun{f f'} g=>by rw[<-hm]at g;exact g.left
    have step:∀(p:Nat) (e:Env) (e':As) (O:St),Ag n (bits m) e e'->Rel n (outs N R X) (nJ (kY C call b.forget) p e O) (loopA (fun e O=>dI C call n b (keepA m e) O) p e' O):=by
     intro p
     induction p with
     |zero=>intro e e' O _;trivial
     |succ p ih=>
      intro e e' O ha;unfold nJ loopA;have:=vM (C:=C) (call:=call) b (bits m) A X hA e (keepA m e') O (hsub ha.keep);revert this;cases kY C call b.forget e O<;>cases dI C call n b (keepA m e') O
      ·intro _;trivial
      ·intro h;exact h.elim
      ·intro h;exact h.elim
      ·rename_i r r';obtain⟨x,f,Y⟩:=r;obtain⟨x',f',Y'⟩:=r';rintro⟨h1,h2,h3⟩;subst h1 h2;cases x with
       |normal=>exact ih _ _ _ h3
       |exit i=>exact⟨rfl,rfl,h3⟩
       |ret=>exact⟨rfl,rfl,h3⟩
    unfold KC.forget kY dI;cases h1:Yn (kY C call b.forget) e O with
    |some r=>
     obtain⟨p,hn⟩:=zy.mp h1;have:=step p e e' O ha;rw[hn]at this;cases h2:loopA (fun e O=>dI C call n b (keepA m e) O) p e' O with
     |none=>rw[h2]at this;exact this.elim
     |some r'=>
      rw[h2]at this;rw[nO.mpr ⟨p,h2⟩];exact this
    |none=>
     cases h2:sH (fun e O=>dI C call n b (keepA m e) O) e' O with
     |none=>trivial
     |some r'=>
      obtain⟨p,hn⟩:=nO.mp h2;have:=step p e e' O ha;rw[hn]at this;cases h3:nJ (kY C call b.forget) p e O with
      |none=>rw[h3]at this;exact this.elim
      |some r=>rw[zy.mpr ⟨p,h3⟩]at h1;cases h1
   ·cases h
 |.exit m i,N,M,X,h,e,e',O,ha=>by
  unfold live at h;split at h
  ·rename_i hm;cases h;have g:=ha.keep;rw[<-hm]at g;refine⟨rfl,rfl,?_⟩;exact g.left
  ·cases h
 |.ret m,N,M,X,h,e,e',O,ha=>by
  unfold live at h;split at h
  ·rename_i hm;cases h;have g:=ha.keep;rw[<-hm]at g;refine⟨rfl,rfl,?_⟩;exact g.left
  ·cases h
 |.scope b,N,M,X,h,e,e',O,ha=>by
  unfold live at h;unfold KC.forget kY dI;exact vM b N M X h e e' O ha
 |.fail,N,M,X,h,e,e',O,ha=>by unfold KC.forget kY dI;trivial
def bI(A:As)(O:St):List XR->Option LA
 |[]=>some []
 |.tmp t::l=>match bI A O l with
  |some vs=>some (look A t::vs)
  |none=>none
 |.cell t ag sz::l=>match look A t,bI A O l with
  |.ref o off,some vs=>match O[o]? with
   |some (.cells c _)=>match pt ag sz (c.drop off)with
    |some v=>some (v::vs)
    |none=>none
   |_=>none
  |_,_=>none
theorem TU{n:Nat}{O:St}{e:Env}{A:As}:∀(l:List XR),Ag n (zx l) e A->P7 e O l=bI A O l
 |[],_=>rfl
 |.tmp t::l,h=>by
  unfold P7 bI;rw[TU l h.right,h.left.at' t (by rw[yx];simp)]
  cases bI A O l<;>rfl
 |.cell t ag sz::l,h=>by
  unfold P7 bI;rw[TU l h.right,h.left.at' t (by rw[yx];simp)]
  cases look A t<;>rfl
def mg:Nat->LA->As
 |_,[]=>[]
 |i,v::l=>(i,v)::mg (i+1) l
theorem VV:∀(l:LA) (i t:Nat),look (mg i l) t=if t<i then .undef else l.getD (t-i) .undef
 |[],i,t=>by unfold mg look;split<;>simp
 |v::l,i,t=>by
  unfold mg look;rw[VV l (i+1) t];by_cases h:i=t
  ·subst h;simp
  ·rw[if_neg h];by_cases h':t<i
   ·rw[if_pos (by omega),if_pos h']
   ·rw[if_neg (by omega),if_neg h']
    rw[show t-i=(t-(i+1))+1 by omega,List.getD_cons_succ]
theorem acv(m:Nat)(n:Nat)(args:LA)(h:args.length<=n):Ag n m (args++List.replicate (n-args.length) .undef) (mg 0 args):=by
 refine⟨by simp;omega,?_⟩
 intro t _;rw[VV,if_neg (by omega),Nat.sub_zero]
 rw[List.getD_eq_getElem?_getD,List.getD_eq_getElem?_getD];by_cases ht:t<args.length
 ·rw[List.getElem?_append_left ht]
 ·rw[List.getElem?_append_right (by omega),List.getElem?_eq_none (by omega:args.length<=t),List.getElem?_replicate]
  split<;>rfl
noncomputable def yH(C:Ctx)(K:KF)(raw:Bool)(args:LA)(O:St):Option (AV×St):=
 match hand raw args O with
 |none=>none
 |some (args,O1)=>
  if args.length>K.ntmps then none else
  match dI C (ai C) K.ntmps K.body (mg 0 args) O1 with
  |some (.exit _,_,_)=>none
  |none=>none
  |some (_,e,O2)=>
   match bI e O2 K.results with
   |none=>none
   |some vs=>match hand raw vs O2 with
    |none=>none
    |some (vs,O3)=>some (bi vs,tidy O.length vs O3)
structure Has(C:Ctx)(f:FuncId)(K:KF):Prop where
 fs:C.fs f=some K.forget
 prim:C.prim f=none
 raw:C.raw f=false
 ok:K.ok=true
theorem ain {C:Ctx} {f:FuncId} {K:KF} {raw:Bool} (hfs:C.fs f=some K.forget) (hp:C.prim f=none) (hr:C.raw f=raw) (hok:K.ok=true) (args:LA) (O:St):
  ai C f args O=yH C K raw args O:=by
 rw[Ym];unfold SA yH;rw[hp,hfs,hr];dsimp only[KF.forget];cases hand raw args O with
 |none=>rfl
 |some q=>
  obtain⟨args,O1⟩:=q;dsimp only;split
  ·rfl
  ·rename_i hlen;unfold KF.ok at hok;obtain⟨M,hM⟩:=Option.isSome_iff_exists.mp hok;have:=vM (C:=C) (call:=ai C) K.body _ M _ hM (args++List.replicate (K.ntmps-args.length) .undef) _ O1 (acv M K.ntmps args (by omega))
   revert this;cases kY C (ai C) K.body.forget (args++List.replicate (K.ntmps-args.length) .undef) O1<;>cases dI C (ai C) K.ntmps K.body (mg 0 args) O1
   ·intro _;rfl
   ·intro h;exact h.elim
   ·intro h;exact h.elim
   ·rename_i r r';obtain⟨x,e,Y⟩:=r;obtain⟨x',e',Y'⟩:=r';rintro⟨h1,h2,h3⟩;subst h1 h2;cases x with
    |exit i=>rfl
    |normal=>
     dsimp only;rw[TU (O:=Y) K.results h3];all_goals
      cases bI e' Y K.results with
      |none=>rfl
      |some vs=>dsimp only;cases hand raw vs Y<;>rfl
    |ret=>
     dsimp only;rw[TU (O:=Y) K.results h3];all_goals
      cases bI e' Y K.results with
      |none=>rfl
      |some vs=>dsimp only;cases hand raw vs Y<;>rfl
theorem Has.run{C:Ctx}{f:FuncId}{K:KF}(h:Has C f K)(args:LA)(O:St):ai C f args O=yH C K false args O:=
 ain h.fs h.prim h.raw h.ok args O
def o(d:Nat)(i:XI):XOp:=⟨some d,i,none,[]⟩
def u(i:XI):XOp:=⟨none,i,none,[]⟩
def og(d:Nat)(t:Nat)(b:Bool)(i:XI):XOp:=⟨some d,i,some (t,b),[]⟩
def ug(t:Nat)(b:Bool)(i:XI):XOp:=⟨none,i,some (t,b),[]⟩
def m(d s:Nat):XOp:=⟨some d,.mv (.t s),none,[]⟩
def out(call:bD)(d:Option Nat)(e:As)(x:Option Out)(k:As->St->Option (As×St)):Option (As×St):=
 match x with
 |some (.val v O')=>k (yg e d v) O'
 |some (.call f args O')=>match call f args O' with
  |some (v,O'')=>k (yg e d v) O''
  |none=>none
 |none=>none
theorem look_nil(t:Nat):look [] t=.undef:=rfl
theorem Ho(k:Nat)(v:AV)(A:As)(t:Nat):look ((k,v)::A) t=if k=t then v else look A t:=rfl
theorem Me(A:As):keepA [] A=[]:=rfl
theorem Hm(t:Nat)(k:List Nat)(A:As):keepA (t::k) A=(t,look A t)::keepA k A:=rfl
theorem J8(i:Nat):mg i []=[]:=rfl
theorem Gs(i:Nat)(v:AV)(l:LA):mg i (v::l)=(i,v)::mg (i+1) l:=rfl
def am2(k:IntKind)(v:AV)(O:St):Option Out:=
 match v with
 |.int _ n=>some (.val (.int k (k.wrap n)) O)
 |_=>none
theorem LZ(k j:IntKind)(n:Int)(O:St):am2 k (.int j n) O=some (.val (.int k (k.wrap n)) O):=rfl
theorem Qh(np:Bool)(op:BinOp)(ek:Nat)(c:Bool)(b:Bool)(y:AV):tX np op ek c (.bool b) y=binOp op ek c (.bool b) y:=by cases np<;>rfl
theorem QU(np:Bool)(op:BinOp)(ek:Nat)(c:Bool)(k:IntKind)(b:Int)(y:AV):tX np op ek c (.int k b) y=binOp op ek c (.int k b) y:=by cases np<;>rfl
theorem QV(np:Bool)(op:BinOp)(ek:Nat)(c:Bool)(s:LU)(y:AV):tX np op ek c (.str s) y=binOp op ek c (.str s) y:=by cases np<;>rfl
theorem Ko(np:Bool)(op:BinOp)(ek:Nat)(c:Bool)(y:AV):tX np op ek c .nilp y=binOp op ek c .nilp y:=by cases np<;>rfl
theorem NG(np:Bool)(op:BinOp)(ek:Nat)(c:Bool)(a b:Nat)(y:AV):tX np op ek c (.ref a b) y=binOp op ek c (.ref a b) y:=by cases np<;>rfl
theorem J9(np:Bool)(op:BinOp)(ek:Nat)(c:Bool)(l:LA):tX np op ek c (.eptr l) .nilp=binOp op ek c (.eptr l) .nilp:=by cases np<;>rfl
theorem Kq(np:Bool)(op:BinOp)(ek:Nat)(c:Bool)(y:AV):tX np op ek c .nils y=binOp op ek c .nils y:=by cases np<;>rfl
theorem Xm(np:Bool)(op:BinOp)(ek:Nat)(c:Bool)(y:AV):tX np op ek c .emp y=binOp op ek c .emp y:=by cases np<;>rfl
theorem acE(np:Bool)(op:BinOp)(ek:Nat)(c:Bool)(i:Nat)(l:LA)(y:AV):tX np op ek c (.sl i l) y=binOp op ek c (.sl i l) y:=by cases np<;>rfl
theorem Xp(np:Bool)(op:BinOp)(ek:Nat)(c:Bool)(i:Nat)(l:LA)(y:AV):tX np op ek c (.xsl i l) y=binOp op ek c (.xsl i l) y:=by cases np<;>rfl
theorem Xo(np:Bool)(op:BinOp)(ek:Nat)(c:Bool)(i j p q:Nat)(y:AV):tX np op ek c (.msl i j p q) y=binOp op ek c (.msl i j p q) y:=by cases np<;>rfl
theorem Xn(np:Bool)(op:BinOp)(ek:Nat)(c:Bool)(i:Nat)(y:AV):tX np op ek c (.map i) y=binOp op ek c (.map i) y:=by cases np<;>rfl
theorem Gu(np:Bool)(op:BinOp)(ek:Nat)(c:Bool)(y:AV):tX np op ek c .nilMap y=binOp op ek c .nilMap y:=by cases np<;>rfl
theorem Qi(np:Bool)(op:BinOp)(ek:Nat)(c:Bool)(f:Fn)(l r:LA)(y:AV):tX np op ek c (.func f l r) y=binOp op ek c (.func f l r) y:=by cases np<;>rfl
theorem Dk(np:Bool)(op:BinOp)(ek:Nat)(c:Bool)(y:AV):tX np op ek c .nilFunc y=binOp op ek c .nilFunc y:=by cases np<;>rfl
theorem EM(np:Bool)(op:BinOp)(ek:Nat)(c:Bool)(t:TypeId)(v:AV)(y:AV):tX np op ek c (.iface t v) y=binOp op ek c (.iface t v) y:=by cases np<;>rfl
theorem xE(np:Bool)(op:BinOp)(ek:Nat)(c:Bool)(y:AV):tX np op ek c .nilIface y=binOp op ek c .nilIface y:=by cases np<;>rfl
theorem QT(np:Bool)(op:BinOp)(ek:Nat)(c:Bool)(l:LA)(y:AV):tX np op ek c (.agg l) y=binOp op ek c (.agg l) y:=by cases np<;>rfl
theorem XP(C:Ctx)(a:XA->AV)(n0:Nat)(O:St)(k:IntKind)(x:XA):aj C a n0 O (.i2i k x)=am2 k (a x) O:=rfl
theorem qM (C:Ctx) (a:XA->AV) (n0:Nat) (O:St) (k:Nat) (x:XA):aj C a n0 O (.len k x)=match bH O k (a x)with
  |some n=>some (.val (.int .i64 (n:Int)) O)
  |none=>none:=by
 show Option.map _ _=_;cases bH O k (a x)<;>rfl
variable(C:Ctx)(call:bD)(n:Nat)
theorem aja(e:As)(t:Nat):avA C e (.t t)=look e t:=rfl
theorem aj8(e:As)(v:AV):avA C e (.c v)=v:=rfl
theorem aj9(e:As)(n:Nat):avA C e (.g n)=.eptr ((C.gl n).getD []):=rfl
theorem Qw(d:Nat)(e:As)(v:AV)(O:St)(k):out call (some d) e (some (.val v O)) k=k ((d,v)::e) O:=rfl
theorem MJ(e:As)(v:AV)(O:St)(k):out call none e (some (.val v O)) k=k e O:=rfl
theorem aa5(d:Nat)(e:As)(f:FuncId)(args:LA)(O:St)(k):out call (some d) e (some (.call f args O)) k=match call f args O with
 |some (v,O')=>k ((d,v)::e) O'
 |none=>none:=rfl
theorem Ws(e:As)(f:FuncId)(args:LA)(O:St)(k):out call none e (some (.call f args O)) k=match call f args O with
 |some (_,O')=>k e O'
 |none=>none:=rfl
theorem MI(d:Option Nat)(e:As)(k):out call d e none k=none:=rfl
theorem GZ(e:As)(O:St):dD C call n [] e O=some (e,O):=rfl
theorem Qn(d:Nat)(i:XI)(l:List XOp)(e:As)(O:St):dD C call n (o d i::l) e O=out call (some d) e (aj C (avA C e) n O i) (dD C call n l):=by
 show(match mF C call n (o d i) e O with|some (v,O')=>dD C call n l (yg e (some d) v) O'|none=>none)=_
 unfold mF jo out o;dsimp only;cases aj C (avA C e) n O i with
 |none=>rfl
 |some x=>cases x<;>rfl
theorem Qo(i:XI)(l:List XOp)(e:As)(O:St):dD C call n (u i::l) e O=out call none e (aj C (avA C e) n O i) (dD C call n l):=by
 show(match mF C call n (u i) e O with|some (v,O')=>dD C call n l (yg e none v) O'|none=>none)=_
 unfold mF jo out u;dsimp only;cases aj C (avA C e) n O i with
 |none=>rfl
 |some x=>cases x<;>rfl
theorem Qm(d s:Nat)(l:List XOp)(e:As)(O:St):dD C call n (m d s::l) e O=dD C call n l ((d,look e s)::e) O:=rfl
theorem A7(c:Bool):nI true (.bool c)=c:=by cases c<;>rfl
theorem yY(c:Bool):nI false (.bool c)= !c:=by cases c<;>rfl
theorem RI(d t:Nat)(b:Bool)(i:XI)(l:List XOp)(e:As)(O:St):dD C call n (og d t b i::l) e O=if nI b (look e t)then out call (some d) e (aj C (avA C e) n O i) (dD C call n l)else dD C call n l ((d,.undef)::e) O:=by
 show(match mF C call n (og d t b i) e O with|some (v,O')=>dD C call n l (yg e (some d) v) O'|none=>none)=_
 unfold mF jo out og;dsimp only;by_cases hb:nI b (look e t)=true
 ·rw[if_pos hb,if_pos hb];cases aj C (avA C e) n O i with
  |none=>rfl
  |some x=>cases x<;>rfl
 ·rw[if_neg hb,if_neg hb];rfl
theorem RJ(t:Nat)(b:Bool)(i:XI)(l:List XOp)(e:As)(O:St):dD C call n (ug t b i::l) e O=if nI b (look e t)then out call none e (aj C (avA C e) n O i) (dD C call n l)else dD C call n l e O:=by
 show(match mF C call n (ug t b i) e O with|some (v,O')=>dD C call n l (yg e none v) O'|none=>none)=_
 unfold mF jo out ug;dsimp only;by_cases hb:nI b (look e t)=true
 ·rw[if_pos hb,if_pos hb];cases aj C (avA C e) n O i with
  |none=>rfl
  |some x=>cases x<;>rfl
 ·rw[if_neg hb,if_neg hb];rfl
theorem MW(e:As)(O:St)(t:Nat)(l:List XR):bI e O (.tmp t::l)=match bI e O l with
 |some vs=>some (look e t::vs)
 |none=>none:=rfl
theorem MV(e:As)(O:St):bI e O []=some []:=rfl
theorem aeH(k:List Nat)(e:As):keepA k (keepA k e)=keepA k e:=by
 unfold keepA;apply List.map_congr_left;intro t ht;exact congrArg (Prod.mk t) (Hq k e t ht)
noncomputable def aB(k:List Nat)(b:KC)(e:As)(O:St):Option (XE×As×St):=sH (fun e O=>dI C call n b (keepA k e) O) e O
theorem Tu(k:List Nat)(b:KC)(e:As)(O:St):aB C call n k b (keepA k e) O=aB C call n k b e O:=by
 unfold aB;rw[yw,yw _ e,aeH]
theorem H5(k:List Nat)(b:KC)(e:As)(O:St):dI C call n (.loop k b) e O=aB C call n k b (keepA k e) O:=(Tu C call n k b e O).symm
theorem iE {k:List Nat} {b:KC} {e:As} (he:keepA k e=e) (O:St):aB C call n k b e O=match dI C call n b e O with
  |some (.normal,e',O')=>aB C call n k b (keepA k e') O'
  |r=>r:=by
 conv=>lhs;unfold aB
 rw[yw,he];cases dI C call n b e O with
 |none=>rfl
 |some r=>
  obtain⟨x,e',O'⟩:=r;cases x with
  |normal=>exact(Tu C call n k b e' O').symm
  |exit i=>rfl
  |ret=>rfl
theorem H6(e:As)(O:St):dI C call n .skip e O=some (.normal,e,O):=rfl
theorem Ue(l:List XOp)(e:As)(O:St):dI C call n (.ops l) e O=match dD C call n l e O with
 |some (e',O')=>some (.normal,e',O')
 |none=>none:=rfl
theorem JK(l:List XOp)(e:As)(O:St):dI C call n (.plain l) e O=match dD C call n l e O with
 |some (e',O')=>some (.normal,e',O')
 |none=>none:=rfl
theorem ac0(l:List XOp)(e:As)(O:St):dI C call n (.drawn l) e O=match vw C call n l e O with
 |some (e',O')=>some (.normal,e',O')
 |none=>none:=rfl
theorem Uf(a b:KC)(e:As)(O:St):dI C call n (.seq a b) e O=match dI C call n a e O with
 |some (.normal,e',O')=>dI C call n b e' O'
 |r=>r:=rfl
theorem Oi(c:XA)(a b:KC)(e:As)(O:St):dI C call n (.cond c a b) e O=match avA C e c with
 |.bool true=>dI C call n a e O
 |.bool false=>dI C call n b e O
 |_=>none:=rfl
theorem JJ(id:Nat)(b:KC)(e:As)(O:St):dI C call n (.block id b) e O=match dI C call n b e O with
 |some (.exit i,e',O')=>some (if i=id then .normal else .exit i,e',O')
 |r=>r:=rfl
theorem HY(k:List Nat)(id:Nat)(e:As)(O:St):dI C call n (.exit k id) e O=some (.exit id,keepA k e,O):=rfl
theorem Nb(k:List Nat)(e:As)(O:St):dI C call n (.ret k) e O=some (.ret,keepA k e,O):=rfl
theorem Ec(b:KC)(e:As)(O:St):dI C call n (.scope b) e O=dI C call n b e O:=rfl
theorem w64{n:Int}(h: -9223372036854775808<=n)(h':n<=9223372036854775807):IntKind.i64.wrap n=n:=by rw[IntKind.wrap_i64];omega
theorem wrE{a b:Int}(h:a=b/\ -9223372036854775808<=a/\a<=9223372036854775807):IntKind.i64.wrap a=b:=by rw[w64 h.2.1 h.2.2,h.1]
theorem wrS(n:Nat)(h:n<9223372036854775807):IntKind.i64.wrap ((n:Int)+1)=((n+1:Nat):Int):=wrE (by omega)
theorem wu8{n:Int}(h:0<=n)(h':n<=255):IntKind.u8.wrap n=n:=by rw[IntKind.wrap_u8];omega
theorem apz{n:Int}(h:0<=n)(h':n<=4294967295):IntKind.u32.wrap n=n:=by rw[IntKind.wrap_u32];omega
theorem wu64{n:Int}(h:0<=n)(h':n<=18446744073709551615):IntKind.u64.wrap n=n:=by unfold IntKind.wrap;simp[IntKind.bits,IntKind.signed];omega
theorem CY(O:St)(vs:LA):tidy O.length vs O=O:=by simp[tidy]
end Go.Ev
namespace Go.Ev
section
variable(ek:Nat)(c:Bool)(k k':IntKind)(a b:Int)
theorem Kt:binOp .add ek c (.int k a) (.int k b)=some (.int k (k.wrap (a+b))):=by simp[binOp,jR]
theorem Gx:binOp .sub ek c (.int k a) (.int k b)=some (.int k (k.wrap (a-b))):=by simp[binOp,jR]
theorem KD:binOp .mul ek c (.int k a) (.int k b)=some (.int k (k.wrap (a*b))):=by simp[binOp,jR]
theorem Ku:binOp .and ek c (.int k a) (.int k b)=some (.int k (k.wrap (BitVec.ofInt k.bits a&&&BitVec.ofInt k.bits b).toNat)):=by simp[binOp,jR]
theorem QW:binOp .or ek c (.int k a) (.int k b)=some (.int k (k.wrap (BitVec.ofInt k.bits a|||BitVec.ofInt k.bits b).toNat)):=by simp[binOp,jR]
theorem KN:binOp .xor ek c (.int k a) (.int k b)=some (.int k (k.wrap (BitVec.ofInt k.bits a^^^BitVec.ofInt k.bits b).toNat)):=by simp[binOp,jR]
theorem zN:binOp .andNot ek c (.int k a) (.int k b)=some (.int k (k.wrap (BitVec.ofInt k.bits a&&& ~~~(BitVec.ofInt k.bits b)).toNat)):=by simp[binOp,jR]
theorem Kv:binOp .eql ek c (.int k a) (.int k b)=some (.bool (a==b)):=by simp[binOp,jR]
theorem KE:binOp .neq ek c (.int k a) (.int k b)=some (.bool (a !=b)):=by simp[binOp,jR]
theorem KA:binOp .lss ek c (.int k a) (.int k b)=some (.bool (a<b)):=by simp[binOp,jR]
theorem Kz:binOp .leq ek c (.int k a) (.int k b)=some (.bool (a<=b)):=by simp[binOp,jR]
theorem Ky:binOp .gtr ek c (.int k a) (.int k b)=some (.bool (a>b)):=by simp[binOp,jR]
theorem Kw:binOp .geq ek c (.int k a) (.int k b)=some (.bool (a>=b)):=by simp[binOp,jR]
theorem KG:binOp .quo ek c (.int k a) (.int k b)=if b=0 then none else some (.int k (k.wrap (a.tdiv b))):=by simp[binOp,jR]
theorem KH:binOp .rem ek c (.int k a) (.int k b)=if b=0 then none else some (.int k (a.tmod b)):=by simp[binOp,jR]
theorem KI:binOp .shl ek c (.int k a) (.int k' b)=if b<0 then none else some (.int k (k.wrap (a*2^min b.toNat k.bits))):=by simp[binOp,oM]
theorem KJ:binOp .shr ek c (.int k a) (.int k' b)=if b<0 then none else some (.int k (a.fdiv (2^min b.toNat k.bits))):=by simp[binOp,oM]
theorem KL(op:BinOp)(x y:LU):binOp op ek c (.str x) (.str y)=pF op x y:=rfl
theorem AY(op:BinOp)(q:Bool)(y:AV):binOp op ek c (.bool q) y=qK op (eqA ek c (.bool q) y):=rfl
theorem xI(op:BinOp)(y:AV):binOp op ek c .nilp y=qK op (eqA ek c .nilp y):=rfl
theorem wJ(op:BinOp)(i j:Nat)(y:AV):binOp op ek c (.ref i j) y=qK op (eqA ek c (.ref i j) y):=rfl
theorem xH(op:BinOp)(l:LA)(y:AV):binOp op ek c (.eptr l) y=qK op (eqA ek c (.eptr l) y):=rfl
theorem xJ(op:BinOp)(y:AV):binOp op ek c .nils y=qK op (eqA ek c .nils y):=rfl
theorem Dl(op:BinOp)(y:AV):binOp op ek c .emp y=qK op (eqA ek c .emp y):=rfl
theorem Gw(op:BinOp)(i:Nat)(l:LA)(y:AV):binOp op ek c (.sl i l) y=qK op (eqA ek c (.sl i l) y):=rfl
theorem Dq(op:BinOp)(i:Nat)(l:LA)(y:AV):binOp op ek c (.xsl i l) y=qK op (eqA ek c (.xsl i l) y):=rfl
theorem Dp(op:BinOp)(i j p q:Nat)(y:AV):binOp op ek c (.msl i j p q) y=qK op (eqA ek c (.msl i j p q) y):=rfl
theorem Dn(op:BinOp)(i:Nat)(y:AV):binOp op ek c (.map i) y=qK op (eqA ek c (.map i) y):=rfl
theorem xm(op:BinOp)(y:AV):binOp op ek c .nilMap y=qK op (eqA ek c .nilMap y):=rfl
theorem AZ(op:BinOp)(f:Fn)(l r:LA)(y:AV):binOp op ek c (.func f l r) y=qK op (eqA ek c (.func f l r) y):=rfl
theorem uX(op:BinOp)(y:AV):binOp op ek c .nilFunc y=qK op (eqA ek c .nilFunc y):=rfl
theorem uV(op:BinOp)(t:TypeId)(v:AV)(y:AV):binOp op ek c (.iface t v) y=qK op (eqA ek c (.iface t v) y):=rfl
theorem qc(op:BinOp)(y:AV):binOp op ek c .nilIface y=qK op (eqA ek c .nilIface y):=rfl
theorem zO(op:BinOp)(l:LA)(y:AV):binOp op ek c (.agg l) y=qK op (eqA ek c (.agg l) y):=rfl
end
theorem YE(q:Bool):unOp .not (.bool q)=some (.bool !q):=rfl
theorem YD(k:IntKind)(n:Int):unOp .neg (.int k n)=some (.int k (k.wrap (0-n))):=rfl
theorem Du(q:Bool):(AV.bool q).cells=[(AV.bool q)]:=rfl
theorem G6(q:Bool):(AV.bool q).flat=true:=rfl
theorem GI(k:IntKind)(n:Int):(AV.int k n).cells=[(AV.int k n)]:=rfl
theorem LC(k:IntKind)(n:Int):(AV.int k n).flat=true:=rfl
theorem GR(s:LU):(AV.str s).cells=[(AV.str s)]:=rfl
theorem LJ(s:LU):(AV.str s).flat=true:=rfl
theorem Dw:AV.nilp.cells=[AV.nilp]:=rfl
theorem G9:AV.nilp.flat=true:=rfl
theorem GN(i j:Nat):(AV.ref i j).cells=[(AV.ref i j)]:=rfl
theorem LH(i j:Nat):(AV.ref i j).flat=true:=rfl
theorem Dv(l:LA):(AV.eptr l).cells=[(AV.eptr l)]:=rfl
theorem G7(l:LA):(AV.eptr l).flat=true:=rfl
theorem Dx:AV.nils.cells=[AV.nils]:=rfl
theorem Ha:AV.nils.flat=true:=rfl
theorem GH:AV.emp.cells=[AV.emp]:=rfl
theorem Lu:AV.emp.flat=true:=rfl
theorem KR(i:Nat)(l:LA):(AV.sl i l).cells=[(AV.sl i l)]:=rfl
theorem He(i:Nat)(l:LA):(AV.sl i l).flat=true:=rfl
theorem GU(i:Nat)(l:LA):(AV.xsl i l).cells=[(AV.xsl i l)]:=rfl
theorem LK(i:Nat)(l:LA):(AV.xsl i l).flat=true:=rfl
theorem GM(i j p q:Nat):(AV.msl i j p q).cells=[(AV.msl i j p q)]:=rfl
theorem LG(i j p q:Nat):(AV.msl i j p q).flat=true:=rfl
theorem GK(i:Nat):(AV.map i).cells=[(AV.map i)]:=rfl
theorem LD(i:Nat):(AV.map i).flat=true:=rfl
theorem yZ:AV.nilMap.cells=[AV.nilMap]:=rfl
theorem Bj:AV.nilMap.flat=true:=rfl
theorem cells_func(f:Fn)(l r:LA):(AV.func f l r).cells=[(AV.func f l r)]:=rfl
theorem G8(f:Fn)(l r:LA):(AV.func f l r).flat=true:=rfl
theorem xn:AV.nilFunc.cells=[AV.nilFunc]:=rfl
theorem zk:AV.nilFunc.flat=true:=rfl
theorem Ba(t:TypeId)(v:AV):(AV.iface t v).cells=[(AV.iface t v)]:=rfl
theorem DT(t:TypeId)(v:AV):(AV.iface t v).flat=true:=rfl
theorem vg:AV.nilIface.cells=[AV.nilIface]:=rfl
theorem xx:AV.nilIface.flat=true:=rfl
theorem GG(l:LA):(AV.agg l).cells=l:=rfl
theorem BG(a x:AV)(l:LA):splice (a::l) 0 [x]=x::l:=rfl
theorem BF(a:AV)(l v:LA)(n:Nat):splice (a::l) (n+1) v=a::splice l n v:=by
 unfold splice;rw[show n+1+v.length=(n+v.length)+1 by omega,List.take_succ_cons,List.drop_succ_cons]
 rfl
def Ok(O:St):Prop:=O.all (AO.below O.length)=true
theorem yz{O:St}(hσ:Ok O){vs:LA}(hv:ae O.length vs=true)(l:St):tidy O.length vs (O++l)=O:=by
 unfold tidy;split
 ·rename_i h;rw[List.length_append]at h;have:l=[]:=List.eq_nil_of_length_eq_zero (by omega)
  rw[this,List.append_nil]
 ·have ht:(O++l).take O.length=O:=by simp
  rw[ht,hv,hσ];rfl
theorem wX{n:Nat}{vs:LA}(hv:ae n vs=false)(O:St):tidy n vs O=O:=by
 unfold tidy;rw[hv];split<;>rfl
mutual
theorem below_mono{n k:Nat}(h:n<=k):∀v:AV,below n v=true->below k v=true
 |.ref o _,hv=>by simp[below]at hv⊢;omega
 |.msl o _ _ _,hv=>by simp[below]at hv⊢;omega
 |.map o,hv=>by simp[below]at hv⊢;omega
 |.func _ x y,hv=>by simp only[below,Bool.and_eq_true]at hv⊢;exact⟨aK h x hv.1,aK h y hv.2⟩
 |.iface _ v,hv=>by simp only[below]at hv⊢;exact below_mono h v hv
 |.agg l,hv=>by simp only[below]at hv⊢;exact aK h l hv
 |.tup l,hv=>by simp only[below]at hv⊢;exact aK h l hv
 |.eptr l,hv=>by simp only[below]at hv⊢;exact aK h l hv
 |.sl _ l,hv=>by simp only[below]at hv⊢;exact aK h l hv
 |.xsl _ l,hv=>by simp only[below]at hv⊢;exact aK h l hv
 |.bool _,_|.int _ _,_|.str _,_|.nilp,_|.nils,_|.emp,_|.nilMap,_|.nilFunc,_|.nilIface,_=>by simp[below]
theorem aK{n k:Nat}(h:n<=k):∀l:LA,ae n l=true->ae k l=true
 |[],_=>by simp[ae]
 |v::l,hv=>by simp only[ae,Bool.and_eq_true]at hv⊢;exact⟨below_mono h v hv.1,aK h l hv.2⟩
end
theorem AO.below_mono{n k:Nat}(h:n<=k):∀x:AO,AO.below n x=true->AO.below k x=true
 |.cells l _,hx=>aK h l hx
 |.map es,hx=>by
  simp only[AO.below,Bool.and_eq_true]at hx⊢;exact⟨aK h _ hx.1,aK h _ hx.2⟩
 |.dead,_=>rfl
theorem Ok.app{O:St}(h:Ok O){l:St}(hl:l.all (AO.below (O.length+l.length))=true):Ok (O++l):=by
 unfold Ok;rw[List.all_append,List.length_append,Bool.and_eq_true];refine⟨?_,hl⟩;rw[List.all_eq_true];intro x hx;exact AO.below_mono (by omega) x (List.all_eq_true.mp h x hx)
theorem Ok.nil:Ok []:=rfl
def pile(O:St)(k:Nat)(x:AO):St:=O++(List.replicate k .dead++[x])
theorem Px(O:St)(k:Nat)(x:AO):(pile O k x).length=O.length+(k+1):=by simp[pile]
theorem FQ(O:St)(k:Nat)(x:AO):(pile O k x)[O.length+k]?=some x:=by
 unfold pile;rw[List.getElem?_append_right (by omega),List.getElem?_append_right (by simp)]
 simp
theorem aa8(O:St)(k:Nat)(x y:AO):(pile O k x).set (O.length+k) .dead++[y]=pile O (k+1) y:=by
 unfold pile;rw[List.set_append_right _ _ (by omega),List.set_append_right _ _ (by simp)]
 simp[List.replicate_succ',List.append_assoc]
theorem WM{O:St}(hσ:Ok O){vs:LA}(hv:ae O.length vs=true)(k:Nat)(x:AO):tidy O.length vs (pile O k x)=O:=yz hσ hv _
theorem au(l:LU):(ofBytes l).length=l.length:=by simp[ofBytes]
theorem FK(l r:LU):ofBytes l++ofBytes r=ofBytes (l++r):=by simp[ofBytes]
theorem qI:∀l:LU,bytesOf (ofBytes l)=some l
 |[]=>rfl
 |b::l=>by
  have:=qI l;unfold ofBytes at this⊢;rw[List.map_cons];unfold bytesOf Xr;rw[this];simp
theorem rE(l:LU):(ofBytes l).all AV.flat=true:=by
 rw[List.all_eq_true];intro v hv;unfold ofBytes at hv;obtain⟨b,_,rfl⟩:=List.mem_map.mp hv;rfl
theorem iT(n:Nat):∀l:LU,ae n (ofBytes l)=true
 |[]=>rfl
 |b::l=>by
  have:=iT n l;unfold ofBytes at this⊢;simp[ae,below,this]
theorem aiP(k:IntKind)(hk:k.signed=false)(a:Nat)(ha:a<2^k.bits):k.wrap (a:Int)=(a:Int):=by
 unfold IntKind.wrap;rw[hk];have:((a:Int)%(2^k.bits:Int))=(a:Int):=Int.emod_eq_of_lt (by omega) (by exact_mod_cast ha)
 simp[this]
theorem afZ(w a:Nat)(ha:a<2^w):(BitVec.ofInt w (a:Int)).toNat=a:=by
 rw[BitVec.toNat_ofInt];have:((a:Int)%((2^w:Nat):Int))=(a:Int):=Int.emod_eq_of_lt (by omega) (by exact_mod_cast ha)
 rw[this];simp
theorem alA (k:IntKind) (hk:k.signed=false) (a b:Nat) (ha:a<2^k.bits) (hb:b<2^k.bits):
  k.wrap ((BitVec.ofInt k.bits (a:Int)&&&BitVec.ofInt k.bits (b:Int)).toNat:Int)=((a&&&b:Nat):Int):=by
 rw[BitVec.toNat_and,afZ _ _ ha,afZ _ _ hb];exact aiP k hk _ (Nat.and_lt_two_pow a hb)
theorem anm (k:IntKind) (hk:k.signed=false) (a b:Nat) (ha:a<2^k.bits) (hb:b<2^k.bits):
  k.wrap ((BitVec.ofInt k.bits (a:Int)^^^BitVec.ofInt k.bits (b:Int)).toNat:Int)=((a^^^b:Nat):Int):=by
 rw[BitVec.toNat_xor,afZ _ _ ha,afZ _ _ hb];exact aiP k hk _ (Nat.xor_lt_two_pow ha hb)
def UW:AV->Bool
 |.bool _|.int _ _|.str _=>true
 |_=>false
noncomputable section
def Ri(x:LU):LU->Bool:=
 @List.rec _ (fun _=>LU->Bool) (fun y=>@List.rec _ (fun _=>Bool) true (fun _ _ _=>false) y)
  (fun a _ ih y=>@List.rec _ (fun _=>Bool) false (fun b t _=>@Bool.rec (fun _=>Bool) false (ih t) (Nat.beq a.toNat b.toNat)) y) x
theorem Vg:∀{x y:LU},Ri x y=true->x=y
 |[],[],_=>rfl
 |a::x,b::y,h=>by
  have h: @Bool.rec (fun _=>Bool) false (Ri x y) (Nat.beq a.toNat b.toNat)=true:=h;cases hb:Nat.beq a.toNat b.toNat with
  |true=>
   rw[hb]at h;rw[UInt8.toNat_inj.mp (Nat.eq_of_beq_eq_true hb),Vg h]
  |false=>rw[hb]at h;cases h
 |[],_::_,h=>Bool.noConfusion (show false=true from h)
 |_::_,[],h=>Bool.noConfusion (show false=true from h)
def akS(k:IntKind):Nat:=IntKind.rec 0 1 2 3 4 5 6 7 k
def ado(k k':IntKind):Bool:=Nat.beq (akS k) (akS k')
theorem aha{k k':IntKind}(h:ado k k'=true):k=k':=by
 cases k<;>cases k'<;>first|rfl|cases h
def ajD(x y:Int):Bool:=match x,y with
 |.ofNat a,.ofNat b=>Nat.beq a b
 |.negSucc a,.negSucc b=>Nat.beq a b
 |_,_=>false
theorem ajE{x y:Int}(h:ajD x y=true):x=y:=by
 cases x<;>cases y<;>first|(rw[Nat.eq_of_beq_eq_true h])|cases h
def akD(a b:Bool):Bool:=match a,b with
 |true,true=>true
 |false,false=>true
 |_,_=>false
theorem afR{a b:Bool}(h:akD a b=true):a=b:=by cases a<;>cases b<;>first|rfl|cases h
def fnQ(f f':Fn):Bool:=match f,f' with
 |.func a,.func b=>Nat.beq a b
 |f,f'=>f==f'
theorem alY{f f':Fn}(h:fnQ f f'=true):f=f':=by
 unfold fnQ at h;split at h
 ·rw[Nat.eq_of_beq_eq_true h]
 ·simpa using h
def al6(a:Bool)(b:AV):Bool:=match b with|.bool b=>akD a b|_=>false
def aou(k:IntKind)(a:Int)(b:AV):Bool:=match b with|.int k' b=>@Bool.rec (fun _=>Bool) false (ajD a b) (ado k k')|_=>false
def aoz(a:LU)(b:AV):Bool:=match b with|.str b=>Ri a b|_=>false
def ala(b:AV):Bool:=match b with|.nilp=>true|_=>false
def alb(b:AV):Bool:=match b with|.nils=>true|_=>false
def aot(b:AV):Bool:=match b with|.emp=>true|_=>false
def adF(b:AV):Bool:=match b with|.nilMap=>true|_=>false
def aa9(b:AV):Bool:=match b with|.nilFunc=>true|_=>false
def Wy(b:AV):Bool:=match b with|.nilIface=>true|_=>false
def al8(ih:LA->Bool)(b:AV):Bool:=match b with|.eptr l=>ih l|_=>false
def aos(ih:LA->Bool)(b:AV):Bool:=match b with|.agg l=>ih l|_=>false
def aoA(ih:LA->Bool)(b:AV):Bool:=match b with|.tup l=>ih l|_=>false
def qSl(n:Nat)(ih:LA->Bool)(b:AV):Bool:=match b with|.sl m l=>@Bool.rec (fun _=>Bool) false (ih l) (Nat.beq n m)|_=>false
def aoB(n:Nat)(ih:LA->Bool)(b:AV):Bool:=match b with|.xsl m l=>@Bool.rec (fun _=>Bool) false (ih l) (Nat.beq n m)|_=>false
def al9(f:Fn)(ih ih':LA->Bool)(b:AV):Bool:=match b with|.func f' x y=>@Bool.rec (fun _=>Bool) false (@Bool.rec (fun _=>Bool) false (ih' y) (ih x)) (fnQ f f')|_=>false
def ai3(t:Nat)(ih:AV->Bool)(b:AV):Bool:=match b with|.iface t' v=>@Bool.rec (fun _=>Bool) false (ih v) (Nat.beq t t')|_=>false
def aoy(o f:Nat)(b:AV):Bool:=match b with|.ref o' f'=>@Bool.rec (fun _=>Bool) false (Nat.beq f f') (Nat.beq o o')|_=>false
def aow(o f n z:Nat)(b:AV):Bool:=match b with|.msl o' f' n' z'=>@Bool.rec (fun _=>Bool) false (@Bool.rec (fun _=>Bool) false (@Bool.rec (fun _=>Bool) false (Nat.beq z z') (Nat.beq n n')) (Nat.beq f f')) (Nat.beq o o')|_=>false
def aov(m:Nat)(b:AV):Bool:=match b with|.map m'=>Nat.beq m m'|_=>false
def aox(m:LA):Bool:=@List.rec _ (fun _=>Bool) true (fun _ _ _=>false) m
def al7(ih:AV->Bool)(ih':LA->Bool)(m:LA):Bool:=@List.rec _ (fun _=>Bool) false (fun b m _=>@Bool.rec (fun _=>Bool) false (ih' m) (ih b)) m
def eqQ:AV->AV->Bool:=@AV.rec (fun _=>AV->Bool) (fun _=>LA->Bool) al6 aou aoz ala aoy (fun _=>al8) alb aot (fun n _=>qSl n) (fun n _=>aoB n) aow aov adF (fun f _ _=>al9 f) aa9 (fun t _=>ai3 t) Wy (fun _=>aos) (fun _=>aoA) aox (fun _ _=>al7)
def Ji:LA->LA->Bool:=@AV.rec_1 (fun _=>AV->Bool) (fun _=>LA->Bool) al6 aou aoz ala aoy (fun _=>al8) alb aot (fun n _=>qSl n) (fun n _=>aoB n) aow aov adF (fun f _ _=>al9 f) aa9 (fun t _=>ai3 t) Wy (fun _=>aos) (fun _=>aoA) aox (fun _ _=>al7)
theorem qH{a b:Bool}(h: @Bool.rec (fun _=>Bool) false b a=true):a=true/\b=true:=by cases a with
 |true=>exact⟨rfl,h⟩
 |false=>cases h
mutual
theorem Xz:∀(a b:AV),eqQ a b=true->a=b
 |.bool a,b,h=>by cases b<;>first|exact Bool.noConfusion (show false=true from h)|exact congrArg _ (afR h)
 |.int k a,b,h=>by
  cases b<;>first|exact Bool.noConfusion (show false=true from h)|(have h2:=qH (show @Bool.rec (fun _=>Bool) false _ _=true from h);rw[aha h2.1,ajE h2.2])
 |.str a,b,h=>by cases b<;>first|exact Bool.noConfusion (show false=true from h)|exact congrArg _ (Vg h)
 |.nilp,b,h=>by cases b<;>first|rfl|exact Bool.noConfusion (show false=true from h)
 |.ref o f,b,h=>by
  cases b<;>first|exact Bool.noConfusion (show false=true from h)|(have h2:=qH (show @Bool.rec (fun _=>Bool) false _ _=true from h);rw[Nat.eq_of_beq_eq_true h2.1,Nat.eq_of_beq_eq_true h2.2])
 |.eptr a,b,h=>by cases b<;>first|exact Bool.noConfusion (show false=true from h)|exact congrArg _ (y9 a _ h)
 |.nils,b,h=>by cases b<;>first|rfl|exact Bool.noConfusion (show false=true from h)
 |.emp,b,h=>by cases b<;>first|rfl|exact Bool.noConfusion (show false=true from h)
 |.sl n l,b,h=>by
  cases b<;>first|exact Bool.noConfusion (show false=true from h)|(have h2:=qH (show @Bool.rec (fun _=>Bool) false (Ji l _) _=true from h);rw[Nat.eq_of_beq_eq_true h2.1,y9 l _ h2.2])
 |.xsl n l,b,h=>by
  cases b<;>first|exact Bool.noConfusion (show false=true from h)|(have h2:=qH (show @Bool.rec (fun _=>Bool) false (Ji l _) _=true from h);rw[Nat.eq_of_beq_eq_true h2.1,y9 l _ h2.2])
 |.msl o f n z,b,h=>by
  cases b<;>first|exact Bool.noConfusion (show false=true from h)|(have h2:=qH (show @Bool.rec (fun _=>Bool) false (@Bool.rec (fun _=>Bool) false (@Bool.rec (fun _=>Bool) false _ _) _) _=true from h);have h3:=qH h2.2;have h4:=qH h3.2;rw[Nat.eq_of_beq_eq_true h2.1,Nat.eq_of_beq_eq_true h3.1,Nat.eq_of_beq_eq_true h4.1,Nat.eq_of_beq_eq_true h4.2])
 |.map m,b,h=>by cases b<;>first|exact Bool.noConfusion (show false=true from h)|exact congrArg _ (Nat.eq_of_beq_eq_true h)
 |.nilMap,b,h=>by cases b<;>first|rfl|exact Bool.noConfusion (show false=true from h)
 |.func f x y,b,h=>by
  cases b<;>first|exact Bool.noConfusion (show false=true from h)|(have h2:=qH (show @Bool.rec (fun _=>Bool) false (@Bool.rec (fun _=>Bool) false (Ji y _) (Ji x _)) _=true from h);have h3:=qH h2.2;rw[alY h2.1,y9 x _ h3.1,y9 y _ h3.2])
 |.nilFunc,b,h=>by cases b<;>first|rfl|exact Bool.noConfusion (show false=true from h)
 |.iface t v,b,h=>by
  cases b<;>first|exact Bool.noConfusion (show false=true from h)|(have h2:=qH (show @Bool.rec (fun _=>Bool) false (eqQ v _) _=true from h);rw[Nat.eq_of_beq_eq_true h2.1,Xz v _ h2.2])
 |.nilIface,b,h=>by cases b<;>first|rfl|exact Bool.noConfusion (show false=true from h)
 |.agg l,b,h=>by cases b<;>first|exact Bool.noConfusion (show false=true from h)|exact congrArg _ (y9 l _ h)
 |.tup l,b,h=>by cases b<;>first|exact Bool.noConfusion (show false=true from h)|exact congrArg _ (y9 l _ h)
theorem y9:∀(l m:LA),Ji l m=true->l=m
 |[],m,h=>by cases m<;>first|rfl|exact Bool.noConfusion (show false=true from h)
 |a::l,m,h=>by
  cases m with
  |nil=>exact Bool.noConfusion (show false=true from h)
  |cons b m=>have h2:=qH (show @Bool.rec (fun _=>Bool) false (Ji l m) (eqQ a b)=true from h);rw[Xz a b h2.1,y9 l m h2.2]
end
theorem OL:∀x:LU,Ri x x=true
 |[]=>rfl
 |a::x=>by
  show @Bool.rec (fun _=>Bool) false (Ri x x) (Nat.beq a.toNat a.toNat)=true;rw[Nat.beq_refl,OL x]
theorem agv(f:Fn):fnQ f f=true:=by
 cases f with
 |func a=>exact Nat.beq_refl a
 |_=>simp[fnQ]
mutual
theorem RF:∀a:AV,eqQ a a=true
 |.bool a=>by cases a<;>rfl
 |.int k a=>by
  show @Bool.rec (fun _=>Bool) false (ajD a a) (ado k k)=true;have h1:ado k k=true:=by cases k<;>rfl
  have h2:ajD a a=true:=by cases a<;>exact Nat.beq_refl _
  rw[h1,h2]
 |.str a=>OL a
 |.nilp=>rfl
 |.ref o f=>by
  show @Bool.rec (fun _=>Bool) false (Nat.beq f f) (Nat.beq o o)=true;rw[Nat.beq_refl,Nat.beq_refl]
 |.eptr a=>uC a
 |.nils=>rfl
 |.emp=>rfl
 |.sl n l=>by
  show @Bool.rec (fun _=>Bool) false (Ji l l) (Nat.beq n n)=true;rw[Nat.beq_refl,uC l]
 |.xsl n l=>by
  show @Bool.rec (fun _=>Bool) false (Ji l l) (Nat.beq n n)=true;rw[Nat.beq_refl,uC l]
 |.msl o f n z=>by
  show @Bool.rec (fun _=>Bool) false (@Bool.rec (fun _=>Bool) false (@Bool.rec (fun _=>Bool) false (Nat.beq z z) (Nat.beq n n)) (Nat.beq f f)) (Nat.beq o o)=true;rw[Nat.beq_refl,Nat.beq_refl,Nat.beq_refl,Nat.beq_refl]
 |.map m=>Nat.beq_refl m
 |.nilMap=>rfl
 |.func f x y=>by
  show @Bool.rec (fun _=>Bool) false (@Bool.rec (fun _=>Bool) false (Ji y y) (Ji x x)) (fnQ f f)=true;rw[agv,uC x,uC y]
 |.nilFunc=>rfl
 |.iface t v=>by
  show @Bool.rec (fun _=>Bool) false (eqQ v v) (Nat.beq t t)=true;rw[Nat.beq_refl,RF v]
 |.nilIface=>rfl
 |.agg l=>uC l
 |.tup l=>uC l
theorem uC:∀l:LA,Ji l l=true
 |[]=>rfl
 |a::l=>by
  show @Bool.rec (fun _=>Bool) false (Ji l l) (eqQ a a)=true;rw[RF a,uC l]
end
mutual
theorem Og:∀a:AV,same a a=true
 |.bool a=>by simp[same]
 |.int k a=>by simp[same]
 |.str a=>by simp[same,oV]
 |.nilp=>by simp[same]
 |.ref o f=>by simp[same]
 |.eptr a=>by rw[same];exact qP a
 |.nils=>by simp[same]
 |.emp=>by simp[same]
 |.sl n l=>by rw[same,qP l];simp
 |.xsl n l=>by rw[same,qP l];simp
 |.msl o f n z=>by simp[same]
 |.map m=>by simp[same]
 |.nilMap=>by simp[same]
 |.func f x y=>by rw[same,qP x,qP y];simp
 |.nilFunc=>by simp[same]
 |.iface t v=>by rw[same,Og v];simp
 |.nilIface=>by simp[same]
 |.agg l=>by rw[same];exact qP l
 |.tup l=>by rw[same];exact qP l
theorem qP:∀l:LA,vS l l=true
 |[]=>by simp[vS]
 |a::l=>by rw[vS,Og a,qP l];rfl
end
theorem agp(a b:AV):eqQ a b=same a b:=by
 cases h:eqQ a b with
 |true=>rw[Xz a b h,Og]
 |false=>
  cases h2:same a b with
  |false=>rfl
  |true=>rw[same_eq a b h2,RF]at h;cases h
end
def ah6:IntKind->Nat
 |.i8=>0|.i16=>1|.i32=>2|.i64=>3|.u8=>4|.u16=>5|.u32=>6|.u64=>7
def kEq(k k':IntKind):Bool:=Nat.beq (ah6 k) (ah6 k')
theorem amb(k k':IntKind):kEq k k'=decide (k=k'):=by cases k<;>cases k'<;>decide
def wrap64:Int->Int
 |.ofNat m=>match Nat.ble m 9223372036854775807 with
  |true=>.ofNat m
  |false=>IntKind.i64.wrap (.ofNat m)
 |.negSucc m=>match Nat.ble m 9223372036854775807 with
  |true=>.negSucc m
  |false=>IntKind.i64.wrap (.negSucc m)
theorem afr(n:Int):wrap64 n=IntKind.i64.wrap n:=by
 unfold wrap64;split
 ·split
  ·rename_i m h;have:=Nat.le_of_ble_eq_true h;rw[w64 (by simp only[Int.ofNat_eq_natCast];omega) (by simp only[Int.ofNat_eq_natCast];omega)]
  ·rfl
 ·split
  ·rename_i m h;have:=Nat.le_of_ble_eq_true h;rw[w64 (by omega) (by omega)]
  ·rfl
def YI:Int->Int
 |.ofNat m=>.ofNat (Nat.mod m 256)
 |.negSucc m=>IntKind.u8.wrap (.negSucc m)
theorem afs(n:Int):YI n=IntKind.u8.wrap n:=by
 unfold YI;split
 ·rename_i m;rw[IntKind.wrap_u8];rfl
 ·rfl
def aaE:IntKind->Int->Int
 |.i64=>wrap64
 |.u8=>YI
 |.i8=>IntKind.i8.wrap|.i16=>IntKind.i16.wrap|.i32=>IntKind.i32.wrap|.u16=>IntKind.u16.wrap|.u32=>IntKind.u32.wrap|.u64=>IntKind.u64.wrap
theorem UF(k:IntKind)(n:Int):aaE k n=k.wrap n:=by
 cases k
 case i64=>exact afr n
 case u8=>exact afs n
 all_goals rfl
def aeE:Int->Int->Bool
 |.ofNat m=>fun y=>match y with
  |.ofNat n=>Nat.beq m n
  |.negSucc _=>false
 |.negSucc m=>fun y=>match y with
  |.ofNat _=>false
  |.negSucc n=>Nat.beq m n
theorem Gv(m n:Nat):Nat.beq m n=decide (m=n):=by
 by_cases h:m=n
 ·subst h;simp
 ·rw[decide_eq_false h];cases hb:Nat.beq m n
  ·rfl
  ·exact absurd (Nat.eq_of_beq_eq_true hb) h
theorem XM(x y:Int):aeE x y=(x==y):=by
 cases x with
 |ofNat m=>cases y with
  |ofNat n=>
   simp only[aeE,Gv];by_cases h:m=n
   ·subst h;simp
   ·rw[decide_eq_false h]
    symm
    rw[beq_eq_false_iff_ne];intro h';exact h (Int.ofNat.inj h')
  |negSucc n=>rfl
 |negSucc m=>cases y with
  |ofNat n=>rfl
  |negSucc n=>
   simp only[aeE,Gv];by_cases h:m=n
   ·subst h;simp
   ·rw[decide_eq_false h]
    symm
    rw[beq_eq_false_iff_ne];intro h';exact h (Int.negSucc.inj h')
def abr:Int->Int->Bool
 |.ofNat m=>fun y=>match y with
  |.ofNat n=>Nat.ble m n
  |.negSucc _=>false
 |.negSucc m=>fun y=>match y with
  |.ofNat _=>true
  |.negSucc n=>Nat.ble n m
theorem ajf(m n:Nat):Nat.ble m n=decide (m<=n):=by
 by_cases h:m<=n
 ·rw[decide_eq_true h];exact Nat.ble_eq_true_of_le h
 ·rw[decide_eq_false h];cases hb:Nat.ble m n
  ·rfl
  ·exact absurd (Nat.le_of_ble_eq_true hb) h
theorem XN(x y:Int):abr x y=decide (x<=y):=by
 cases x<;>cases y<;>simp only[abr,ajf]
 ·simp
 ·symm;simp;omega
 ·symm;simp;omega
 ·rename_i m n;by_cases h:n<=m
  ·rw[decide_eq_true h];symm;simp;omega
  ·rw[decide_eq_false h];symm;simp;omega
def afQ:Bool->Bool
 |true=>false
 |false=>true
theorem Xq(b:Bool):afQ b= !b:=by cases b<;>rfl
def Kr(op:BinOp):IntKind->Int->Int->Option AV:=
 match op with
 |.add=>fun k a b=>some (.int k (aaE k (Int.add a b)))
 |.sub=>fun k a b=>some (.int k (aaE k (Int.sub a b)))
 |.mul=>fun k a b=>some (.int k (aaE k (Int.mul a b)))
 |.eql=>fun k a b=>some (.bool (aeE a b))
 |.neq=>fun k a b=>some (.bool (afQ (aeE a b)))
 |.lss=>fun k a b=>some (.bool (afQ (abr b a)))
 |.leq=>fun k a b=>some (.bool (abr a b))
 |.gtr=>fun k a b=>some (.bool (afQ (abr a b)))
 |.geq=>fun k a b=>some (.bool (abr b a))
 |op=>fun k a b=>jR op k a b
theorem Jg(op:BinOp)(k:IntKind)(a b:Int):Kr op k a b=jR op k a b:=by
 cases op<;>simp only[Kr,jR,UF,XM,XN,Xq]<;>first|rfl|skip
 ·congr 2
  by_cases h:b<=a
  ·have h':¬a<b:=by omega
   simp[h,h']
  ·have h':a<b:=by omega
   simp[h,h']
 ·congr 2
  by_cases h:a<=b
  ·have h':¬b<a:=by omega
   simp[h,h']
  ·have h':b<a:=by omega
   simp[h,h']
def ang(a b:UInt8):Bool:=Nat.beq a.toNat b.toNat
theorem akr(a b:UInt8):ang a b=(a==b):=by
 unfold ang;rw[Gv];by_cases h:a=b
 ·subst h;simp
 ·have:a.toNat≠b.toNat:=fun h'=>h (UInt8.toNat_inj.mp h');simp[h,this]
def EO:LU->LU->Bool
 |[]=>fun y=>match y with
  |[]=>true
  |_::_=>false
 |a::x=>fun y=>match y with
  |[]=>false
  |b::y=>match ang a b with
   |true=>EO x y
   |false=>false
theorem OH:∀x y:LU,EO x y=iH x y
 |[],[]=>rfl
 |[],_::_=>rfl
 |_::_,[]=>rfl
 |a::x,b::y=>by
  simp only[EO,iH];rw[akr,OH x y];cases a==b<;>rfl
def Qk(op:BinOp):LU->LU->Option AV:=
 match op with
 |.eql=>fun x y=>some (.bool (EO x y))
 |.neq=>fun x y=>some (.bool (afQ (EO x y)))
 |op=>fun x y=>pF op x y
theorem aaZ(op:BinOp)(x y:LU):Qk op x y=pF op x y:=by
 cases op<;>simp only[Qk,pF,OH,Xq]
def Hl:BinOp->Bool
 |.shl=>true
 |.shr=>true
 |_=>false
def aei(op:BinOp)(ek:Nat)(cst:Bool)(x y:AV):Option AV:=
 match x with
 |.int k a=>match y with
  |.int k' b=>match Hl op with
   |true=>oM op k a b
   |false=>match kEq k k' with
    |true=>Kr op k a b
    |false=>none
  |_=>binOp op ek cst x y
 |.str s=>match y with
  |.str t=>Qk op s t
  |_=>binOp op ek cst x y
 |_=>binOp op ek cst x y
theorem ajc(op:BinOp)(ek:Nat)(cst:Bool)(x y:AV):aei op ek cst x y=binOp op ek cst x y:=by
 unfold aei;split
 ·split
  ·rw[amb,Jg];unfold binOp;dsimp only;cases op<;>simp only[Hl]<;>first|rfl|(split<;>simp_all)
  ·rfl
 ·split
  ·rw[aaZ];rfl
  ·rfl
 ·rfl
def afH:AV->Option Nat
 |.int _ n=>match n with
  |.ofNat m=>some m
  |.negSucc _=>none
 |_=>none
theorem aef(v:AV):afH v=jV v:=by
 cases v with
 |int k n=>cases n<;>simp[afH,jV]
 |_=>rfl
def ZN(k:Nat)(O:St)(x:AV):Option Nat:=bH O k x
def ZU:As->Nat->AV
 |[]=>fun _=>.undef
 |p::A=>fun t=>match p with
  |(k,v)=>match Nat.beq k t with
   |true=>v
   |false=>ZU A t
theorem Tq:∀(A:As) (t:Nat),ZU A t=look A t
 |[],_=>rfl
 |(k,v)::A,t=>by
  simp only[ZU,look,Gv];by_cases h:k=t
  ·simp[h]
  ·simp[h,Tq A t]
def avF(x:XA):Ctx->As->AV:=
 match x with
 |.t n=>fun _ A=>ZU A n
 |.c v=>fun _ _=>v
 |.g n=>fun C _=>.eptr ((C.gl n).getD [])
theorem alE(x:XA)(C:Ctx)(A:As):avF x C A=avA C A x:=by
 cases x<;>simp only[avF,avA,Tq]
theorem acB(C:Ctx)(A:As):(fun x=>avF x C A)=avA C A:=funext fun x=>alE x C A
def ae4(g:Option (Nat×Bool)):As->Bool:=
 match g with
 |none=>fun _=>true
 |some p=>fun A=>match p with
  |(t,b)=>nI b (ZU A t)
theorem aaD(o:XOp)(A:As):ae4 o.guard A=jo o A:=by
 unfold jo;cases o.guard with
 |none=>rfl
 |some p=>
  obtain⟨t,b⟩:=p;simp only[ae4,Tq]
def aoq(d:Option Nat):As->AV->As:=
 match d with
 |some d=>fun A v=>(d,v)::A
 |none=>fun A _=>A
theorem ak2(d:Option Nat)(A:As)(v:AV):aoq d A v=yg A d v:=by cases d<;>rfl
def apo(r:Option Out):bD->Option (AV×St):=
 match r with
 |none=>fun _=>none
 |some r=>fun call=>match r with
  |.val v O=>some (v,O)
  |.call f args O=>call f args O
def opF(o:XOp)(C:Ctx)(call:bD)(n:Nat)(A:As)(O:St):Option (AV×St):=
 match ae4 o.guard A with
 |true=>apo (aj C (fun x=>avF x C A) n O o.i) call
 |false=>some (.undef,O)
theorem amw(o:XOp)(C:Ctx)(call:bD)(n:Nat)(A:As)(O:St):opF o C call n A O=mF C call n o A O:=by
 unfold opF mF;rw[aaD,acB];cases jo o A
 ·rfl
 ·simp only[if_true];cases aj C (avA C A) n O o.i with
  |none=>rfl
  |some x=>cases x<;>rfl
def akc:List XOp->Ctx->bD->Nat->As->St->Option (As×St×List (As×AV)×List St)
 |[]=>fun _ _ _ A O=>some (A,O,[],[O])
 |o::l=>fun C call n A O=>match opF o C call n A O with
  |none=>none
  |some p=>match p with
   |(v,O')=>match akc l C call n (aoq o.dst A v) O' with
    |none=>none
    |some q=>match q with
     |(A',O'',rs,ss)=>some (A',O'',(A,v)::rs,O::ss)
theorem adN(C:Ctx)(call:bD)(n:Nat):∀(l:List XOp) (A:As) (O:St),akc l C call n A O=lD C call n l A O
 |[],_,_=>rfl
 |o::l,A,O=>by
  simp only[akc,lD,amw,ak2];cases mF C call n o A O with
  |none=>rfl
  |some p=>
   simp only[adN C call n l];cases lD C call n l (yg A o.dst p.1) p.2<;>rfl
noncomputable def PY(o:XOp)(C:Ctx)(n:Nat)(A:As)(v:AV)(s:Option St):Bool:=match s with
 |none=>false
 |some s=>match aj C (fun x=>avF x C A) n s o.i with
  |none=>false
  |some x=>match x with
   |.val v1 _=>eqQ v1 v
   |.call _ _ _=>false
noncomputable def MR(o:XOp)(C:Ctx)(n:Nat)(A:As)(v:AV)(ss:List St):List Nat->Nat->Bool
 |[]=>fun _=>true
 | c::l=>fun p=>match(match Nat.beq (c+1) p with
   |true=>true
   |false=>PY o C n A v ss[c]?)with
  |true=>match PY o C n A v ss[c+1]? with
   |true=>MR o C n A v ss l (c+2)
   |false=>false
  |false=>false
theorem ahL (o:XOp) (C:Ctx) (n:Nat) (A:As) (v:AV) (s s':Option St):(PY o C n A v s&&PY o C n A v s')=(match s,s' with
  |some s,some s'=>(match aj C (avA C A) n s o.i,aj C (avA C A) n s' o.i with
   |some (.val v1 _),some (.val v2 _)=>same v1 v&&same v2 v
   |_,_=>false)
  |_,_=>false):=by
 cases s with
 |none=>cases s'<;>rfl
 |some s=>
  cases s' with
  |none=>exact Bool.and_false _
  |some s'=>
   simp only[PY,acB];cases aj C (avA C A) n s o.i with
   |none=>rfl
   |some x=>
    cases x with
    |call f a t=>rfl
    |val v1 t=>
     cases aj C (avA C A) n s' o.i with
     |none=>exact Bool.and_false _
     |some y=>
      cases y with
      |call f a t=>exact Bool.and_false _
      |val v2 t=>simp only[agp]
theorem Pz(o:XOp)(C:Ctx)(n:Nat)(A:As)(v:AV)(ss:List St):∀(l:List Nat) (p:Nat),(p=0\/PY o C n A v ss[p-1]?=true)->MR o C n A v ss l p=iF C n o A v ss l
 |[],p,_=>rfl
 |c::l,p,hp=>by
  have h1:(match Nat.beq (c+1) p with
   |true=>true
   |false=>PY o C n A v ss[c]?)=PY o C n A v ss[c]?:=by
   cases hb:Nat.beq (c+1) p with
   |false=>rfl
   |true=>
    have:=Nat.eq_of_beq_eq_true hb;subst this;rcases hp with hp|hp
    ·omega
    ·simpa using hp.symm
  have h3:iF C n o A v ss (c::l)=((PY o C n A v ss[c]? &&PY o C n A v ss[c+1]?)&&iF C n o A v ss l):=by rw[ahL];rfl
  rw[h3];simp only[MR,h1];cases PY o C n A v ss[c]? with
  |false=>rfl
  |true=>
   cases h2:PY o C n A v ss[c+1]? with
   |false=>rfl
   |true=>simp only[Bool.true_and];exact Pz o C n A v ss l (c+2) (.inr (by simpa using h2))
noncomputable def Hu(C:Ctx)(n:Nat)(ss:List St):List XOp->List (As×AV)->Bool
 |[],_=>true
 |o::l,rs=>match rs with
  |[]=>true
  |r::rs=>match r with
   | (A,v)=>match(match ae4 o.guard A with
     |true=>MR o C n A v ss o.loose 0
     |false=>true)with
    |true=>Hu C n ss l rs
    |false=>false
theorem MS(C:Ctx)(n:Nat)(ss:List St):∀(l:List XOp) (rs:List (As×AV)),Hu C n ss l rs=dN C n ss l rs
 |[],rs=>by cases rs<;>rfl
 |o::l,[]=>rfl
 |o::l,(A,v)::rs=>by
  simp only[Hu,dN,MS C n ss l rs,aaD,Pz o C n A v ss o.loose 0 (.inl rfl)];cases jo o A
  ·rfl
  ·cases iF C n o A v ss o.loose<;>rfl
noncomputable def aba(l:List XOp)(C:Ctx)(call:bD)(n:Nat)(A:As)(O:St):Option (As×St):=
 match akc l C call n A O with
 |none=>none
 |some q=>match q with
  |(A',O',rs,ss)=>match Hu C n ss l rs with
   |true=>some (A',O')
   |false=>none
theorem aeo(l:List XOp)(C:Ctx)(call:bD)(n:Nat)(A:As)(O:St):aba l C call n A O=vw C call n l A O:=by
 unfold aba vw;rw[adN];cases lD C call n l A O with
 |none=>rfl
 |some q=>
  obtain⟨A',O',rs,ss⟩:=q;simp only[MS];cases dN C n ss l rs<;>rfl
noncomputable section
inductive EV where
 |nil
 |cons (t:Nat) (v:AV) (r:EV)
def aod(t:Nat):AV:=.undef
def amh(k:Nat)(v:AV)(r:EV)(ih:Nat->AV)(t:Nat):AV:=Bool.rec (ih t) v (Nat.beq k t)
def lkR(A:EV):Nat->AV:=EV.rec (motive:=fun _=>Nat->AV) aod amh A
def Qp{ρ:Type}(v:AV):(AV->ρ)->ρ:=
 AV.rec (motive_1:=fun _=>(AV->ρ)->ρ) (motive_2:=fun _=>Unit)
  (fun b k=>k (.bool b)) (fun a b k=>k (.int a b)) (fun s k=>k (.str s)) (fun k=>k .nilp) (fun a b k=>k (.ref a b)) (fun a _ k=>k (.eptr a)) (fun k=>k .nils) (fun k=>k .emp) (fun a b _ k=>k (.sl a b)) (fun a b _ k=>k (.xsl a b))
  (fun a b c d k=>k (.msl a b c d)) (fun a k=>k (.map a)) (fun k=>k .nilMap) (fun a b c _ _ k=>k (.func a b c)) (fun k=>k .nilFunc) (fun a b _ k=>k (.iface a b)) (fun k=>k .nilIface) (fun a _ k=>k (.agg a)) (fun a _ k=>k (.tup a)) () (fun _ _ _ _=>()) v
structure QX where
 C:Ctx
 call:bD
 n:Nat
def apk(n:Nat)(X:QX)(A:EV):AV:=lkR A n
def anJ(v:AV)(X:QX)(A:EV):AV:=v
def apf(n:Nat)(X:QX)(A:EV):AV:=.eptr ((X.C.gl n).getD [])
def avR(x:XA):QX->EV->AV:=XA.rec (motive:=fun _=>QX->EV->AV) apk anJ apf x
inductive VI where
 |int (k:IntKind) (n:Int)
 |str (s:LU)
 |no
inductive VP where
 |ref (o off:Nat)
 |eptr (l:LA)
 |no
def viR(v:AV):VI:=
 AV.rec (motive_1:=fun _=>VI) (motive_2:=fun _=>Unit)
  (fun _=>.no) (fun k n=>.int k n) (fun s=>.str s) .no (fun _ _=>.no) (fun _ _=>.no) .no .no (fun _ _ _=>.no) (fun _ _ _=>.no)
  (fun _ _ _ _=>.no) (fun _=>.no) .no (fun _ _ _ _ _=>.no) .no (fun _ _ _=>.no) .no (fun _ _=>.no) (fun _ _=>.no) () (fun _ _ _ _=>()) v
def acK(v:AV):Option Bool:=
 AV.rec (motive_1:=fun _=>Option Bool) (motive_2:=fun _=>Unit)
  (fun b=>some b) (fun k n=>none) (fun s=>none) none (fun o f=>none) (fun l _=>none) none none (fun _ _ _=>none) (fun _ _ _=>none)
  (fun _ _ _ _=>none) (fun _=>none) none (fun _ _ _ _ _=>none) none (fun _ _ _=>none) none (fun _ _=>none) (fun _ _=>none) () (fun _ _ _ _=>()) v
def aoY(v:AV):Option LA:=
 AV.rec (motive_1:=fun _=>Option LA) (motive_2:=fun _=>Unit)
  (fun b=>none) (fun k n=>none) (fun s=>none) none (fun o f=>none) (fun l _=>none) none none (fun _ _ _=>none) (fun _ _ _=>none)
  (fun _ _ _ _=>none) (fun _=>none) none (fun _ _ _ _ _=>none) none (fun _ _ _=>none) none (fun _ _=>none) (fun l _=>some l) () (fun _ _ _ _=>()) v
def ZH(k:IntKind):Nat:=IntKind.rec 0 1 2 3 4 5 6 7 k
def ae6(n:Int):Int:=
 Int.rec (motive:=fun _=>Int) (fun m=>Bool.rec (IntKind.i64.wrap (.ofNat m)) (.ofNat m) (Nat.ble m 9223372036854775807)) (fun m=>Bool.rec (IntKind.i64.wrap (.negSucc m)) (.negSucc m) (Nat.ble m 9223372036854775807)) n
def ae7(n:Int):Int:=Int.rec (motive:=fun _=>Int) (fun m=>.ofNat (Nat.mod m 256)) (fun m=>IntKind.u8.wrap (.negSucc m)) n
def WT(k:IntKind):Int->Int:=IntKind.rec IntKind.i8.wrap IntKind.i16.wrap IntKind.i32.wrap ae6 ae7 IntKind.u16.wrap IntKind.u32.wrap IntKind.u64.wrap k
def ada(x y:Int):Bool:=Int.rec (motive:=fun _=>Bool) (fun m=>Int.rec (motive:=fun _=>Bool) (fun n=>Nat.beq m n) (fun _=>false) y) (fun m=>Int.rec (motive:=fun _=>Bool) (fun _=>false) (fun n=>Nat.beq m n) y) x
def VK(x y:Int):Bool:=Int.rec (motive:=fun _=>Bool) (fun m=>Int.rec (motive:=fun _=>Bool) (fun n=>Nat.ble m n) (fun _=>false) y) (fun m=>Int.rec (motive:=fun _=>Bool) (fun _=>true) (fun n=>Nat.ble n m) y) x
def akJ(x y:Int):Int:=Int.rec (motive:=fun _=>Int) (fun m=>Int.rec (motive:=fun _=>Int) (fun n=>.ofNat (Nat.add m n)) (fun n=>Int.add (.ofNat m) (.negSucc n)) y) (fun m=>Int.add (.negSucc m) y) x
def akK(x y:Int):Int:=Int.rec (motive:=fun _=>Int) (fun m=>Int.rec (motive:=fun _=>Int) (fun n=>Bool.rec (Int.sub (.ofNat m) (.ofNat n)) (.ofNat (Nat.sub m n)) (Nat.ble n m)) (fun n=>Int.sub (.ofNat m) (.negSucc n)) y) (fun m=>Int.sub (.negSucc m) y) x
def ahG(b:Bool):Bool:=Bool.rec true false b
def Qj(op:BinOp):IntKind->Int->Int->Option AV:=
 match op with
 |.add=>fun k a b=>some (.int k (WT k (akJ a b)))
 |.sub=>fun k a b=>some (.int k (WT k (akK a b)))
 |.mul=>fun k a b=>some (.int k (WT k (Int.mul a b)))
 |.eql=>fun k a b=>some (.bool (ada a b))
 |.neq=>fun k a b=>some (.bool (ahG (ada a b)))
 |.lss=>fun k a b=>some (.bool (ahG (VK b a)))
 |.leq=>fun k a b=>some (.bool (VK a b))
 |.gtr=>fun k a b=>some (.bool (ahG (VK a b)))
 |.geq=>fun k a b=>some (.bool (VK b a))
 |op=>fun k a b=>jR op k a b
def afK(op:BinOp)(ek:Nat)(cst:Bool)(x y:AV):Option AV:=
 VI.rec (motive:=fun _=>Option AV)
  (fun k a=>VI.rec (motive:=fun _=>Option AV)
   (fun k' b=>Bool.rec (Bool.rec none (Qj op k a b) (Nat.beq (ZH k) (ZH k'))) (oM op k a b) (Hl op))
   (fun _=>binOp op ek cst x y) (binOp op ek cst x y) (viR y))
  (fun s=>VI.rec (motive:=fun _=>Option AV) (fun _ _=>binOp op ek cst x y) (fun t=>Qk op s t) (binOp op ek cst x y) (viR y))
  (binOp op ek cst x y) (viR x)
def abL{α:Type}(l:List α):Nat->Option α:=
 List.rec (motive:=fun _=>Nat->Option α) (fun _=>none) (fun a _ ih n=>Nat.rec (motive:=fun _=>Option α) (some a) (fun m _=>ih m) n) l
def aaV(v:AV):Option Nat:=
 VI.rec (motive:=fun _=>Option Nat) (fun _ n=>Int.rec (motive:=fun _=>Option Nat) (fun m=>some m) (fun _=>none) n) (fun _=>none) none (viR v)
abbrev jb:=QX->EV->St->Option (EV×St)
def aps(d:Nat)(ih:jb)(X:QX)(A:EV)(O:St)(v:AV):Option (EV×St):=ih X (.cons d v A) O
def apt(d:Nat)(v:AV)(ih:jb)(X:QX)(A:EV)(O:St):Option (EV×St):=Qp v (aps d ih X A O)
def aol(v:AV)(ih:jb)(X:QX)(A:EV)(O:St):Option (EV×St):=ih X A O
def Po(d:Option Nat):AV->jb->jb:=Option.rec (motive:=fun _=>AV->jb->jb) aol apt d
def aom(d:Option Nat)(ih:jb)(X:QX)(A:EV)(O:St):Option (EV×St):=none
def aoV(v:AV)(d:Option Nat)(ih:jb)(X:QX)(A:EV)(O:St):Option (EV×St):=Po d v ih X A O
def UB(r:Option AV):Option Nat->jb->jb:=Option.rec (motive:=fun _=>Option Nat->jb->jb) aom aoV r
def aoo(v:AV)(O':St)(d:Option Nat)(ih:jb)(X:QX)(A:EV):Option (EV×St):=Po d v ih X A O'
def al3(d:Option Nat)(ih:jb)(X:QX)(A:EV):Option (EV×St):=none
def aoU(p:AV×St):Option Nat->jb->QX->EV->Option (EV×St):=Prod.rec (motive:=fun _=>Option Nat->jb->QX->EV->Option (EV×St)) aoo p
def ak8(r:Option (AV×St)):Option Nat->jb->QX->EV->Option (EV×St):=Option.rec (motive:=fun _=>Option Nat->jb->QX->EV->Option (EV×St)) al3 aoU r
def apr(v:AV)(O:St)(d:Option Nat)(ih:jb)(X:QX)(A:EV):Option (EV×St):=Po d v ih X A O
def apn(f:FuncId)(args:LA)(O:St)(d:Option Nat)(ih:jb)(X:QX)(A:EV):Option (EV×St):=ak8 (X.call f args O) d ih X A
def apq(o:Out):Option Nat->jb->QX->EV->Option (EV×St):=Out.rec (motive:=fun _=>Option Nat->jb->QX->EV->Option (EV×St)) apr apn o
def amz(r:Option Out):Option Nat->jb->QX->EV->Option (EV×St):=Option.rec (motive:=fun _=>Option Nat->jb->QX->EV->Option (EV×St)) al3 apq r
abbrev Step:=Option Nat->jb->jb
def sMv(x:XA)(d:Option Nat)(ih:jb)(X:QX)(A:EV)(O:St):Option (EV×St):=Po d (avR x X A) ih X A O
def afL(np:Bool)(op:BinOp)(ek:Nat)(cst:Bool)(x y:AV):Option AV:=Bool.rec (motive:=fun _=>Option AV) (afK op ek cst x y) (Bool.rec (motive:=fun _=>Option AV) (afK op ek cst x y) none (TM x y)) np
def apv(op:BinOp)(ek:Nat)(cst:Bool)(x y:XA)(d:Option Nat)(ih:jb)(X:QX)(A:EV)(O:St):Option (EV×St):=UB (afL X.C.np op ek cst (avR x X A) (avR y X A)) d ih X A O
def anU(k:IntKind)(v:AV):Option AV:=VI.rec (motive:=fun _=>Option AV) (fun _ n=>some (.int k (WT k n))) (fun _=>none) none (viR v)
def apw(k:IntKind)(x:XA)(d:Option Nat)(ih:jb)(X:QX)(A:EV)(O:St):Option (EV×St):=UB (anU k (avR x X A)) d ih X A O
def api(b:UInt8):Option AV:=some (.int .u8 (.ofNat b.toNat))
def ao0(r:Option UInt8):Option AV:=Option.rec (motive:=fun _=>Option AV) none api r
def anZ(s:LU)(i:Option Nat):Option AV:=Option.rec (motive:=fun _=>Option AV) none (fun i=>ao0 (abL s i)) i
def ao1(x i:AV):Option AV:=VI.rec (motive:=fun _=>AV->Option AV) (fun _ _ _=>none) (fun s i=>anZ s (aaV i)) (fun _=>none) (viR x) i
def akf(x i:XA)(d:Option Nat)(ih:jb)(X:QX)(A:EV)(O:St):Option (EV×St):=UB (ao1 (avR x X A) (avR i X A)) d ih X A O
def anL(l:Option LA)(i:Nat):Option AV:=Option.rec (motive:=fun _=>Option AV) none (fun l=>abL l i) l
def aik(x:XA)(i:Nat)(d:Option Nat)(ih:jb)(X:QX)(A:EV)(O:St):Option (EV×St):=UB (anL (aoY (avR x X A)) i) d ih X A O
def al5(q:Option Bool)(x y:AV):Option AV:=Option.rec (motive:=fun _=>Option AV) none (fun b=>Bool.rec (some y) (some x) b) q
def aoO(c x y:XA)(d:Option Nat)(ih:jb)(X:QX)(A:EV)(O:St):Option (EV×St):=UB (al5 (acK (avR c X A)) (avR x X A) (avR y X A)) d ih X A O
def ajN(X:QX)(A:EV)(l:List XA):LA:=List.rec (motive:=fun _=>LA) [] (fun x _ ih=>avR x X A::ih) l
def amT(f:FuncId)(l:List XA)(d:Option Nat)(ih:jb)(X:QX)(A:EV)(O:St):Option (EV×St):=ak8 (X.call f (ajN X A l) O) d ih X A
def sG(j:XI)(d:Option Nat)(ih:jb)(X:QX)(A:EV)(O:St):Option (EV×St):=amz (aj X.C (fun x=>avR x X A) X.n O j) d ih X A
def kS(i:XI):Step:=
 XI.rec (motive:=fun _=>Step) sMv aoO (fun a b=>sG (.new a b)) (fun a=>sG (.box a)) (fun a b=>sG (.build a b)) (fun a b c d=>sG (.buildSl a b c d)) (fun a b c=>sG (.load a b c)) (fun a b c=>sG (.store a b c)) (fun a=>sG (.nilck a)) apv (fun a b=>sG (.un a b)) apw (fun a=>sG (.s2s a)) (fun a=>sG (.i2s a)) (fun a=>sG (.b2s a)) (fun a=>sG (.s2b a)) (fun a=>sG (.s2r a)) (fun a b=>sG (.mkIface a b)) (fun a b c=>sG (.mkFunc a b c)) (sG .mkMap) (fun a b c d e=>sG (.mkSlice a b c d e)) (fun a b c=>sG (.sliceStr a b c)) (fun a b c d e=>sG (.sliceSl a b c d e)) (fun a b c d e f=>sG (.sliceArr a b c d e f)) (fun a b=>sG (.fieldAddr a b)) (fun a b c d=>sG (.field a b c d)) (fun a b c d=>sG (.idxAddrArr a b c d)) (fun a b c=>sG (.idxAddrSl a b c)) (fun a b c d e=>sG (.idxArr a b c d e)) akf (fun a b c d=>sG (.lookup a b c d)) (fun a b c=>sG (.mapUpd a b c)) (fun a b c=>sG (.mapEntry a b c)) (fun a b c=>sG (.entryStore a b c)) aik (fun a b c d e f=>sG (.app a b c d e f)) (fun a b=>sG (.len a b)) (fun a=>sG (.lenC a)) (fun a b c=>sG (.cpy a b c)) (fun a b c=>sG (.minmax a b c)) amT (fun a b=>sG (.callV a b)) (fun a b c=>sG (.invoke a b c)) (sG .pend) (fun a b c d=>sG (.fill a b c d)) (sG .fail) i
def ae5(t:Nat)(b:Bool)(A:EV):Bool:=Option.rec (motive:=fun _=>Bool) false (fun c=>Bool.rec (ahG b) b c) (acK (lkR A t))
def unS(d:Option Nat)(i:XI)(ih:jb)(X:QX)(A:EV)(O:St):Option (EV×St):=kS i d ih X A O
def guP(t:Nat)(b:Bool)(d:Option Nat)(i:XI)(ih:jb)(X:QX)(A:EV)(O:St):Option (EV×St):=Bool.rec (Po d .undef ih X A O) (kS i d ih X A O) (ae5 t b A)
def guS(p:Nat×Bool):Option Nat->XI->jb->jb:=Prod.rec (motive:=fun _=>Option Nat->XI->jb->jb) guP p
def xS(d:Option Nat)(i:XI)(g:Option (Nat×Bool))(l:List Nat):jb->jb:=Option.rec (motive:=fun _=>Option Nat->XI->jb->jb) unS guS g d i
def apl(X:QX)(A:EV)(O:St):Option (EV×St):=some (A,O)
def agc(o:XOp)(l:List XOp)(ih:jb):jb:=XOp.rec (motive:=fun _=>jb->jb) xS o ih
def aeY(l:List XOp):jb:=List.rec (motive:=fun _=>jb) apl agc l
def akU(ρ:Type)(t:Nat)(kont:EV->ρ)(v:AV)(E:EV):ρ:=kont (.cons t v E)
def ah8(ρ:Type)(t:Nat)(ih:EV->(EV->ρ)->ρ)(A:EV)(kont:EV->ρ)(v:AV):ρ:=ih A (akU ρ t kont v)
def ah7(ρ:Type)(t:Nat)(l:List Nat)(ih:EV->(EV->ρ)->ρ)(A:EV)(kont:EV->ρ):ρ:=Qp (lkR A t) (ah8 ρ t ih A kont)
def ajI(ρ:Type)(A:EV)(kont:EV->ρ):ρ:=kont .nil
def keepR(ρ:Type)(k:List Nat):EV->(EV->ρ)->ρ:=List.rec (motive:=fun _=>EV->(EV->ρ)->ρ) (ajI ρ) (ah7 ρ) k
abbrev jQ:=Option (XE×EV×St)
abbrev ED:=QX->Nat->EV->St->jQ
def xeP(A:EV)(O:St):jQ:=some (.normal,A,O)
def xeS(p:EV×St):jQ:=Prod.rec (motive:=fun _=>jQ) xeP p
def xeR(r:Option (EV×St)):jQ:=Option.rec (motive:=fun _=>jQ) none xeS r
abbrev On:=(EV->St->jQ)->(Nat->EV->St->jQ)->jQ
def onN(A:EV)(O:St)(f:EV->St->jQ)(g:Nat->EV->St->jQ):jQ:=f A O
def onE(i:Nat)(A:EV)(O:St)(f:EV->St->jQ)(g:Nat->EV->St->jQ):jQ:=g i A O
def onT(A:EV)(O:St)(f:EV->St->jQ)(g:Nat->EV->St->jQ):jQ:=some (.ret,A,O)
def onX(x:XE):EV->St->On:=XE.rec (motive:=fun _=>EV->St->On) onN onE onT x
def apm(A:EV)(O:St)(x:XE):On:=onX x A O
def onP(x:XE)(p:EV×St):On:=Prod.rec (motive:=fun _=>XE->On) apm p x
def onQ(q:XE×EV×St):On:=Prod.rec (motive:=fun _=>On) onP q
def amv(f:EV->St->jQ)(g:Nat->EV->St->jQ):jQ:=none
def onR(r:jQ):On:=Option.rec (motive:=fun _=>On) amv onQ r
def QR(i:Nat)(A:EV)(O:St):jQ:=some (.exit i,A,O)
def acC(A:EV)(O:St):jQ:=some (.normal,A,O)
def anG(X:QX)(m:Nat)(A:EV)(O:St):jQ:=some (.normal,A,O)
def anD(l:List XOp)(X:QX)(m:Nat)(A:EV)(O:St):jQ:=xeR (aeY l X A O)
def akq(l:As):EV:=List.rec (motive:=fun _=>EV) .nil (fun p _ ih=>Prod.rec (motive:=fun _=>EV->EV) (fun t v E=>.cons t v E) p ih) l
def EV.as:EV->As
 |.nil=>[]
 |.cons t v r=>(t,v)::r.as
def aaW(l:List XOp)(X:QX)(m:Nat)(A:EV)(O:St):jQ:=xeR (Option.rec (motive:=fun _=>Option (EV×St)) none (fun p=>Prod.rec (motive:=fun _=>Option (EV×St)) (fun A O=>some (akq A,O)) p) (aba l X.C X.call X.n A.as O))
def apb(_ _:KC)(a b:ED)(X:QX)(m:Nat)(A:EV)(O:St):jQ:=onR (a X m A O) (b X m) QR
def bIf(q:Bool)(a b:ED)(X:QX)(m:Nat)(A:EV)(O:St):jQ:=Bool.rec (b X m A O) (a X m A O) q
def bNo(a b:ED)(X:QX)(m:Nat)(A:EV)(O:St):jQ:=none
def afI(c:XA)(_ _:KC)(a b:ED)(X:QX)(m:Nat)(A:EV)(O:St):jQ:=Option.rec (motive:=fun _=>ED->ED->ED) bNo bIf (acK (avR c X A)) a b X m A O
def anE(id i:Nat)(A:EV)(O:St):jQ:=Bool.rec (QR i A O) (acC A O) (Nat.beq i id)
def alF(id:Nat)(_:KC)(b:ED)(X:QX)(m:Nat)(A:EV)(O:St):jQ:=onR (b X m A O) acC (anE id)
def lp0(k:List Nat)(b:ED)(X:QX)(m0:Nat)(A:EV)(O:St):jQ:=none
def lpS(_:Nat)(ih:List Nat->ED->QX->Nat->EV->St->jQ)(k:List Nat)(b:ED)(X:QX)(m0:Nat)(A:EV)(O:St):jQ:=keepR jQ k A (fun A=>onR (b X m0 A O) (ih k b X m0) QR)
def adr(m:Nat):List Nat->ED->QX->Nat->EV->St->jQ:=Nat.rec (motive:=fun _=>List Nat->ED->QX->Nat->EV->St->jQ) lp0 lpS m
def anC(k:List Nat)(_:KC)(b:ED)(X:QX)(m:Nat)(A:EV)(O:St):jQ:=adr m k b X m A O
def alG(k:List Nat)(id:Nat)(X:QX)(m:Nat)(A:EV)(O:St):jQ:=keepR jQ k A (fun A=>some (.exit id,A,O))
def anF(k:List Nat)(X:QX)(m:Nat)(A:EV)(O:St):jQ:=keepR jQ k A (fun A=>some (.ret,A,O))
def alH(_:KC)(b:ED)(X:QX)(m:Nat)(A:EV)(O:St):jQ:=b X m A O
def anB(X:QX)(m:Nat)(A:EV)(O:St):jQ:=none
def kCR(c:KC):ED:=KC.rec (motive:=fun _=>ED) anG anD anD aaW apb afI alF anC alG anF alH anB c
end
theorem XZ:∀(A:EV) (t:Nat),lkR A t=look A.as t
 |.nil,_=>rfl
 |.cons k v r,t=>by
  have ih:=XZ r t;show(Bool.rec (lkR r t) v (Nat.beq k t):AV)=if k=t then v else look r.as t;rw[ih];by_cases h:k=t
  ·subst h;simp
  ·rw[if_neg h,show Nat.beq k t=false by rw[Gv];simp[h]]
theorem wH(x:XA)(X:QX)(A:EV):avR x X A=avA X.C A.as x:=by
 cases x
 case t n=>exact XZ A n
 case c v=>rfl
 case g n=>rfl
theorem aj7(X:QX)(A:EV):(fun x=>avR x X A)=avA X.C A.as:=funext fun x=>wH x X A
theorem Sv{ρ:Type}(v:AV)(k:AV->ρ):Qp v k=k v:=by cases v<;>rfl
theorem acg(n:Int):ae6 n=wrap64 n:=by
 cases n with
 |ofNat m=>
  show(Bool.rec _ _ (Nat.ble m 9223372036854775807):Int)=match Nat.ble m 9223372036854775807 with|true=>_|false=>_
  cases Nat.ble m 9223372036854775807<;>rfl
 |negSucc m=>
  show(Bool.rec _ _ (Nat.ble m 9223372036854775807):Int)=match Nat.ble m 9223372036854775807 with|true=>_|false=>_
  cases Nat.ble m 9223372036854775807<;>rfl
theorem ach(n:Int):ae7 n=YI n:=by cases n<;>rfl
theorem aaF(k:IntKind)(n:Int):WT k n=k.wrap n:=by
 rw[<-UF];cases k
 case i64=>exact acg n
 case u8=>exact ach n
 all_goals rfl
theorem agG(x y:Int):ada x y=(x==y):=by rw[<-XM];cases x<;>cases y<;>rfl
theorem agH(x y:Int):VK x y=decide (x<=y):=by rw[<-XN];cases x<;>cases y<;>rfl
theorem agF(x y:Int):akJ x y=x+y:=by cases x<;>cases y<;>rfl
theorem agI(x y:Int):akK x y=x-y:=by
 cases x with
 |ofNat m=>cases y with
  |ofNat n=>
   show(Bool.rec _ _ (Nat.ble n m):Int)=_;cases h:Nat.ble n m
   ·rfl
   ·have:=Nat.le_of_ble_eq_true h;show((m-n:Nat):Int)=(m:Int)-(n:Int);omega
  |negSucc n=>rfl
 |negSucc m=>rfl
theorem ajP(b:Bool):ahG b= !b:=by cases b<;>rfl
theorem aaY(op:BinOp)(k:IntKind)(a b:Int):Qj op k a b=jR op k a b:=by
 rw[<-Jg];have e:∀z,WT k z=aaE k z:=fun z=>by rw[aaF,UF]
 have e1:∀x y,ada x y=aeE x y:=fun x y=>by rw[agG,XM]
 have e2:∀x y,VK x y=abr x y:=fun x y=>by rw[agH,XN]
 cases op<;>simp only[Qj,Kr,e,e1,e2,ajP,Xq,agF,agI]<;>rfl
theorem ZI(k:IntKind):ZH k=ah6 k:=by cases k<;>rfl
theorem afN(op:BinOp)(ek:Nat)(cst:Bool)(k:IntKind)(a:Int)(k':IntKind)(b:Int):afK op ek cst (.int k a) (.int k' b)=aei op ek cst (.int k a) (.int k' b):=by
 show(Bool.rec (Bool.rec none (Qj op k a b) (Nat.beq (ZH k) (ZH k'))) (oM op k a b) (Hl op):Option AV)=match Hl op with|true=>oM op k a b|false=>match kEq k k' with|true=>Kr op k a b|false=>none
 rw[ZI,ZI,aaY,<-Jg];unfold kEq;cases Hl op<;>cases Nat.beq (ah6 k) (ah6 k')<;>rfl
theorem acF(op:BinOp)(ek:Nat)(cst:Bool)(x y:AV):afK op ek cst x y=binOp op ek cst x y:=by
 rw[<-ajc];cases x
 case int k a=>
  cases y
  case int k' b=>exact afN op ek cst k a k' b
  all_goals first|rfl|(simp only[aei];rfl)
 case str s=>
  cases y
  case str t=>rfl
  all_goals first|rfl|(simp only[aei];rfl)
 all_goals first|rfl|(simp only[aei];rfl)
theorem afM(np:Bool)(op:BinOp)(ek:Nat)(cst:Bool)(x y:AV):afL np op ek cst x y=tX np op ek cst x y:=by
 cases np with
 |false=>exact acF op ek cst x y
 |true=>
  show(Bool.rec (afK op ek cst x y) none (TM x y):Option AV)=match TM x y with|true=>none|false=>binOp op ek cst x y
  cases TM x y with
  |true=>rfl
  |false=>exact acF op ek cst x y
theorem X6{α:Type}:∀(l:List α) (n:Nat),abL l n=l[n]?
 |[],_=>by simp[abL]
 |a::l,0=>rfl
 |a::l,n+1=>by
  have:=X6 l n;show abL l n=_;rw[this];simp
theorem aeg(v:AV):aaV v=jV v:=by
 rw[<-aef];cases v
 case int k n=>cases n<;>rfl
 all_goals rfl
def ak0(d:Option Nat)(v:AV)(A:EV):EV:=
 match d with
 |some d=>.cons d v A
 |none=>A
theorem ak1(d:Option Nat)(v:AV)(A:EV):(ak0 d v A).as=yg A.as d v:=by cases d<;>rfl
def andThen(r:Option (AV×St))(d:Option Nat)(ih:jb)(X:QX)(A:EV):Option (EV×St):=
 match r with
 |none=>none
 |some (v,O)=>ih X (ak0 d v A) O
def outA(r:Option Out)(call:bD):Option (AV×St):=
 match r with
 |some (.val v O')=>some (v,O')
 |some (.call f args O')=>call f args O'
 |none=>none
theorem FO(d:Option Nat)(v:AV)(ih:jb)(X:QX)(A:EV)(O:St):Po d v ih X A O=ih X (ak0 d v A) O:=by
 cases d with
 |none=>rfl
 |some d=>exact Sv v _
theorem Nr(r:Option AV)(d:Option Nat)(ih:jb)(X:QX)(A:EV)(O:St):UB r d ih X A O=andThen (outA (r.map (.val · O)) X.call) d ih X A:=by
 cases r with
 |none=>rfl
 |some v=>exact FO d v ih X A O
theorem adJ(r:Option (AV×St))(d:Option Nat)(ih:jb)(X:QX)(A:EV):ak8 r d ih X A=andThen r d ih X A:=by
 cases r with
 |none=>rfl
 |some p=>
  obtain⟨v,O⟩:=p;exact FO d v ih X A O
theorem ajU(r:Option Out)(d:Option Nat)(ih:jb)(X:QX)(A:EV):amz r d ih X A=andThen (outA r X.call) d ih X A:=by
 cases r with
 |none=>rfl
 |some o=>cases o with
  |val v O=>exact FO d v ih X A O
  |call f args O=>exact adJ _ d ih X A
theorem ads(X:QX)(A:EV):∀l:List XA,ajN X A l=l.map (avA X.C A.as)
 |[]=>rfl
 |x::l=>by
  show avR x X A::ajN X A l=_;rw[wH,ads X A l];rfl
theorem akT(i:XI)(d:Option Nat)(ih:jb)(X:QX)(A:EV)(O:St):kS i d ih X A O=andThen (outA (aj X.C (avA X.C A.as) X.n O i) X.call) d ih X A:=by
 have g:∀(j:XI),amz (aj X.C (fun x=>avR x X A) X.n O j) d ih X A=andThen (outA (aj X.C (avA X.C A.as) X.n O j) X.call) d ih X A:=fun j=>by rw[ajU,aj7]
 cases i
 case mv x=>
  show Po d (avR x X A) ih X A O=_;rw[FO,wH];rfl
 case pick c x y=>
  show UB (al5 (acK (avR c X A)) (avR x X A) (avR y X A)) d ih X A O=_;rw[Nr,wH,wH,wH]
  congr 2
  simp only[aj];cases avA X.C A.as c
  case bool b=>cases b<;>rfl
  all_goals rfl
 case bin op ek cst x y=>
  show UB (afL X.C.np op ek cst (avR x X A) (avR y X A)) d ih X A O=_;rw[Nr,wH,wH,afM];rfl
 case i2i k x=>
  show UB (anU k (avR x X A)) d ih X A O=_;rw[Nr,wH]
  congr 2
  simp only[aj];cases avA X.C A.as x
  case int k' n=>show some _=some _;rw[aaF]
  all_goals rfl
 case idxStr x i=>
  show UB (ao1 (avR x X A) (avR i X A)) d ih X A O=_;rw[Nr,wH,wH]
  congr 2
  simp only[aj];cases hx:avA X.C A.as x
  case str s=>
   show Option.map _ (anZ s (aaV (avA X.C A.as i)))=_;rw[aeg];cases jV (avA X.C A.as i)with
   |none=>rfl
   |some n=>
    show Option.map _ (ao0 (abL s n))=_;rw[X6];dsimp only;cases s[n]? <;>rfl
  all_goals (cases jV (avA X.C A.as i)<;>rfl)
 case extract x i=>
  show UB (anL (aoY (avR x X A)) i) d ih X A O=_;rw[Nr,wH]
  congr 2
  simp only[aj];cases avA X.C A.as x
  case tup l=>
   show Option.map _ (abL l i)=_;rw[X6];dsimp only;cases l[i]? <;>rfl
  all_goals rfl
 case callF f l=>
  show ak8 (X.call f (ajN X A l) O) d ih X A=_;rw[adJ,ads];rfl
 all_goals (refine Eq.trans ?_ (g _);rfl)
theorem aiT(t:Nat)(b:Bool)(A:EV):ae5 t b A=nI b (look A.as t):=by
 unfold ae5;rw[XZ];cases look A.as t
 case bool c=>cases b<;>cases c<;>rfl
 all_goals rfl
theorem agd(o:XOp)(l:List XOp)(ih:jb)(X:QX)(A:EV)(O:St):agc o l ih X A O=andThen (mF X.C X.call X.n o A.as O) o.dst ih X A:=by
 obtain⟨d,i,g,ls⟩:=o;cases g with
 |none=>
  show kS i d ih X A O=_;rw[akT];rfl
 |some p=>
  obtain⟨t,b⟩:=p;show(Bool.rec (Po d .undef ih X A O) (kS i d ih X A O) (ae5 t b A):Option (EV×St))=_;rw[aiT,akT,FO];have hw:jo ⟨d,i,some (t,b),ls⟩ A.as=nI b (look A.as t):=rfl;unfold mF;rw[hw];cases hb:nI b (look A.as t)
  ·rfl
  ·rfl
def aj6(r:Option (EV×St)):Option (As×St):=r.map fun p=>(p.1.as,p.2)
theorem X8:∀(l:List XOp) (X:QX) (A:EV) (O:St),aj6 (aeY l X A O)=dD X.C X.call X.n l A.as O
 |[],_,_,_=>rfl
 |o::l,X,A,O=>by
  show aj6 (agc o l (aeY l) X A O)=_;rw[agd];unfold dD;cases mF X.C X.call X.n o A.as O with
  |none=>rfl
  |some p=>
   obtain⟨v,O'⟩:=p;show aj6 (aeY l X (ak0 o.dst v A) O')=dD X.C X.call X.n l (yg A.as o.dst v) O';rw[X8 l,ak1]
theorem Md(ρ:Type):∀(k:List Nat) (A:EV) (kont:EV->ρ),∃E:EV,E.as=keepA k A.as/\keepR ρ k A kont=kont E
 |[],A,kont=>⟨.nil,rfl,rfl⟩
 |t::k,A,kont=>by
  obtain⟨E,hE,h⟩:=Md ρ k A (akU ρ t kont (lkR A t));refine⟨.cons t (lkR A t) E,?_,?_⟩
  ·show(t,lkR A t)::E.as=_;rw[hE,XZ];rfl
  ·show Qp (lkR A t) (ah8 ρ t (keepR ρ k) A kont)=_;rw[Sv];exact h
def asX(r:jQ):Option (XE×As×St):=r.map fun p=>(p.1,p.2.1.as,p.2.2)
def xeF(r:Option (As×St)):Option (XE×As×St):=r.map fun p=>(.normal,p.1,p.2)
theorem aci(r:Option (EV×St)):asX (xeR r)=xeF (aj6 r):=by
 cases r with
 |none=>rfl
 |some p=>obtain⟨A,O⟩:=p;rfl
theorem ae0:∀l:As,(akq l).as=l
 |[]=>rfl
 |(t,v)::l=>by
  show(t,v)::(akq l).as=_;rw[ae0 l]
theorem ZV(k:List Nat)(b:ED)(X:QX)(m0:Nat)(b':Ij)(h:∀A O,Le (asX (b X m0 A O)) (b' A.as O)):∀(m:Nat) (A:EV) (O:St),Le (asX (adr m k b X m0 A O)) (loopA (fun e O=>b' (keepA k e) O) m A.as O)
 |0,_,_=>Le.none
 |m+1,A,O=>by
  intro r hr;obtain⟨E,hE,hk⟩:=Md jQ k A (fun A=>onR (b X m0 A O) (adr m k b X m0) QR);change asX (keepR jQ k A (fun A=>onR (b X m0 A O) (adr m k b X m0) QR))=some r at hr;rw[hk]at hr;unfold loopA;have ih:=h E O;cases hb:b X m0 E O with
  |none=>rw[hb]at hr;cases hr
  |some q=>
   obtain⟨x,A',O'⟩:=q;rw[<-hE,ih _ (by rw[hb];rfl)]
   rw[hb]at hr;cases x with
   |normal=>exact ZV k b X m0 b' h m A' O' r hr
   |exit i=>exact hr
   |ret=>exact hr
theorem Fj:∀(c:KC) (X:QX) (m:Nat) (A:EV) (O:St),Le (asX (kCR c X m A O)) (dI X.C X.call X.n c A.as O)
 |.skip,_,_,_,_=>Le.rfl
 |.ops l,X,m,A,O=>by
  intro r hr;change asX (xeR (aeY l X A O))=some r at hr;rw[aci,X8]at hr;rw[Ue];cases ho:dD X.C X.call X.n l A.as O<;>rw[ho]at hr<;>exact hr
 |.plain l,X,m,A,O=>by
  intro r hr;change asX (xeR (aeY l X A O))=some r at hr;rw[aci,X8]at hr;rw[JK];cases ho:dD X.C X.call X.n l A.as O<;>rw[ho]at hr<;>exact hr
 |.drawn l,X,m,A,O=>by
  intro r hr;change asX (aaW l X m A O)=some r at hr;unfold aaW at hr;rw[aeo,aci]at hr;rw[ac0];cases ho:vw X.C X.call X.n l A.as O with
  |none=>rw[ho]at hr;cases hr
  |some p=>
   obtain⟨A',O'⟩:=p;rw[ho]at hr;change some (XE.normal,(akq A').as,O')=some r at hr;rw[ae0]at hr;exact hr
 |.seq a b,X,m,A,O=>by
  intro r hr;change asX (onR (kCR a X m A O) (kCR b X m) QR)=some r at hr;rw[Uf];have ih:=Fj a X m A O;cases ha:kCR a X m A O with
  |none=>rw[ha]at hr;cases hr
  |some q=>
   obtain⟨x,A',O'⟩:=q;rw[ih _ (by rw[ha];rfl)]
   rw[ha]at hr;cases x with
   |normal=>exact Fj b X m A' O' r hr
   |exit i=>exact hr
   |ret=>exact hr
 |.cond c a b,X,m,A,O=>by
  intro r hr;change asX (afI c a b (kCR a) (kCR b) X m A O)=some r at hr;unfold afI at hr;rw[wH]at hr;rw[Oi];cases hc:avA X.C A.as c<;>rw[hc]at hr
  case bool q=>
   cases q
   ·exact Fj b X m A O r hr
   ·exact Fj a X m A O r hr
  all_goals cases hr
 |.block id b,X,m,A,O=>by
  intro r hr;change asX (onR (kCR b X m A O) acC (anE id))=some r at hr;rw[JJ];have ih:=Fj b X m A O;cases ha:kCR b X m A O with
  |none=>rw[ha]at hr;cases hr
  |some q=>
   obtain⟨x,A',O'⟩:=q;rw[ih _ (by rw[ha];rfl)]
   rw[ha]at hr;cases x with
   |normal=>exact hr
   |exit i=>
    change asX (Bool.rec (QR i A' O') (acC A' O') (Nat.beq i id))=some r at hr;rw[Gv]at hr;by_cases hi:i=id
    ·simp[hi]at hr⊢;exact Option.some.inj hr
    ·simp[hi]at hr⊢;exact Option.some.inj hr
   |ret=>exact hr
 |.loop k b,X,m,A,O=>by
  intro r hr;show sH (fun e O=>dI X.C X.call X.n b (keepA k e) O) A.as O=some r;exact nO.mpr ⟨m,ZV k (kCR b) X m (dI X.C X.call X.n b) (fun A O=>Fj b X m A O) m A O r hr⟩
 |.exit k id,X,m,A,O=>by
  obtain⟨E,hE,hk⟩:=Md jQ k A (fun A=>some (.exit id,A,O));intro r hr;change asX (keepR jQ k A (fun A=>some (.exit id,A,O)))=some r at hr;rw[hk]at hr;show some (XE.exit id,keepA k A.as,O)=some r;rw[<-hE];exact hr
 |.ret k,X,m,A,O=>by
  obtain⟨E,hE,hk⟩:=Md jQ k A (fun A=>some (.ret,A,O));intro r hr;change asX (keepR jQ k A (fun A=>some (.ret,A,O)))=some r at hr;rw[hk]at hr;show some (XE.ret,keepA k A.as,O)=some r;rw[<-hE];exact hr
 |.scope b,X,m,A,O=>Fj b X m A O
 |.fail,_,_,_,_=>Le.none
open Go.RowKit
noncomputable section
def Jf(a b:Bool):Bool:=Bool.rec false b a
def clo(v:AV):Bool:=
 AV.rec (motive_1:=fun _=>Bool) (motive_2:=fun _=>Bool)
  (fun _=>true) (fun _ _=>true) (fun _=>true) true (fun _ _=>false) (fun _ ih=>ih) true true (fun _ _ ih=>ih) (fun _ _ ih=>ih)
  (fun _ _ _ _=>false) (fun _=>false) true (fun _ _ _ a b=>Jf a b) true (fun _ _ ih=>ih) true (fun _ ih=>ih) (fun _ ih=>ih) true (fun _ _ a b=>Jf a b) v
def ag9(l:LA):Bool:=List.rec (motive:=fun _=>Bool) true (fun v _ ih=>Jf (clo v) ih) l
theorem qy(a b:Bool):Jf a b=(a&&b):=by cases a<;>rfl
mutual
theorem ab5:∀v:AV,clo v=below 0 v
 |.bool _=>rfl
 |.int _ _=>rfl
 |.str _=>rfl
 |.nilp=>rfl
 |.ref _ _=>by simp[below];rfl
 |.eptr l=>by rw[below];exact Bc l
 |.nils=>rfl
 |.emp=>rfl
 |.sl _ l=>by rw[below];exact Bc l
 |.xsl _ l=>by rw[below];exact Bc l
 |.msl _ _ _ _=>by simp[below];rfl
 |.map _=>by simp[below];rfl
 |.nilMap=>rfl
 |.func _ x y=>by
  rw[below,<-Bc x,<-Bc y,<-qy];rfl
 |.nilFunc=>rfl
 |.iface _ v=>by rw[below];exact ab5 v
 |.nilIface=>rfl
 |.agg l=>by rw[below];exact Bc l
 |.tup l=>by rw[below];exact Bc l
theorem Bc:∀l:LA,(AV.rec_1 (motive_1:=fun _=>Bool) (motive_2:=fun _=>Bool)
  (fun _=>true) (fun _ _=>true) (fun _=>true) true (fun _ _=>false) (fun _ ih=>ih) true true (fun _ _ ih=>ih) (fun _ _ ih=>ih)
  (fun _ _ _ _=>false) (fun _=>false) true (fun _ _ _ a b=>Jf a b) true (fun _ _ ih=>ih) true (fun _ ih=>ih) (fun _ ih=>ih) true (fun _ _ a b=>Jf a b) l:Bool)=ae 0 l
 |[]=>rfl
 |v::l=>by
  rw[ae,<-ab5 v,<-Bc l,<-qy];rfl
end
theorem acO:∀l:LA,ag9 l=ae 0 l
 |[]=>rfl
 |v::l=>by
  show Jf (clo v) (ag9 l)=_;rw[qy,ab5,acO l,ae]
inductive WY where
 |prim (h:LA->St->Option (AV×St))
 |code (K:KF) (raw pure:Bool)
 |both (h:LA->St->Option (AV×St)) (K:KF) (raw pure:Bool)
 |rel (h:bD->LA->St->Option (AV×St))
abbrev Tr2:=FuncId->Option WY
def acz(l:LA):Nat->EV:=List.rec (motive:=fun _=>Nat->EV) (fun _=>.nil) (fun v _ ih i=>.cons i v (ih (Nat.succ i))) l
theorem YS:∀(l:LA) (i:Nat),(acz l i).as=mg i l
 |[],_=>rfl
 |v::l,i=>by
  show(i,v)::(acz l (i+1)).as=_;rw[YS l (i+1)];rfl
def acJ(C:Ctx)(call:bD)(m:Nat)(K:KF)(raw:Bool)(args:LA)(n:Nat)(O1:St):Option (AV×St):=
 match Nat.ble args.length K.ntmps with
 |false=>none
 |true=>match kCR K.body ⟨C,call,K.ntmps⟩ m (acz args 0) O1 with
  |none=>none
  |some q=>match q with
   |(x,e,O2)=>match x with
    |.exit _=>none
    |.normal=>match bI e.as O2 K.results with
     |none=>none
     |some vs=>match hand raw vs O2 with
      |none=>none
      |some p=>match p with
       |(vs,O3)=>some (bi vs,tidy n vs O3)
    |.ret=>match bI e.as O2 K.results with
     |none=>none
     |some vs=>match hand raw vs O2 with
      |none=>none
      |some p=>match p with
       |(vs,O3)=>some (bi vs,tidy n vs O3)
def ah9(O1:St)(r:Option (AV×St)):Option (AV×St):=
 match r with
 |none=>none
 |some p=>match p with
  |(v,O')=>match O' with
   |[]=>some (v,O1)
   |_::_=>none
def akd(C:Ctx)(call:bD)(m:Nat)(K:KF)(raw pure:Bool)(args:LA)(O:St):Option (AV×St):=
 match hand raw args O with
 |none=>none
 |some p=>match p with
  |(args1,O1)=>match Jf pure (ag9 args1)with
   |true=>ah9 O1 (acJ C call m K raw args1 0 [])
   |false=>acJ C call m K raw args1 O.length O1
def alR(e:Option WY)(C:Ctx)(call:bD)(m:Nat)(args:LA)(O:St):Option (AV×St):=
 match e with
 |none=>none
 |some t=>match t with
  |.prim h=>h args O
  |.code K raw pure=>akd C call m K raw pure args O
  |.both h K raw pure=>match h args O with
   |some r=>some r
   |none=>akd C call m K raw pure args O
  |.rel h=>h call args O
def bY(C:Ctx)(T:Tr2)(n:Nat):bD:=Nat.rec (motive:=fun _=>bD) (fun _ _ _=>none) (fun m ih f args O=>alR (T f) C ih m args O) n
end
def POK(C:Ctx)(f:FuncId)(h:LA->St->Option (AV×St)):Prop:=
 ∀args O v O',h args O=some (v,O')->∀g w args',VRs g args args'->WR g w O->GL C g->Does C.P f args' w fun v' w'=>∃g',Goes g O w g' O' w'/\VR g' v v'
def KOK(C:Ctx)(f:FuncId)(K:KF):Prop:=cF C.P f=some K.forget/\(∃fn,C.P.funcs[f]?=some fn/\(fn.name== "runtime.NumGoroutine")=false)/\K.ok=true
def EOK(C:Ctx)(f:FuncId):WY->Prop
 |.prim h=>POK C f h
 |.code K _ _=>KOK C f K
 |.both h K _ _=>POK C f h/\KOK C f K
 |.rel h=>∀call,fO C call->POK C f (h call)
structure akA(C:Ctx)(T:Tr2):Prop where
 ent:∀f e,T f=some e->EOK C f e
 gl:∀n l,C.gl n=some l->ae 0 l=true
theorem wB.refl(c:bD):wB c c:=fun _ _ _=>Le.rfl
theorem Rf {C:Ctx} {call:bD} (hcall:fO C call) (hdrawn:WX C call) {f:FuncId} {K:KF} {raw:Bool} (hcf:cF C.P f=some K.forget) (hnm:∃fn,C.P.funcs[f]?=some fn/\(fn.name== "runtime.NumGoroutine")=false) (hok:K.ok=true)
  {m:Nat} {args:LA} {O1:St} {v:AV} {O':St} {O0:St} (h:acJ C call m K raw args O0.length O1=some (v,O')) {g0 g1:Gh} {w0:World} {args':List Value} (hgo:Goes g0 O0 w0 g1 O1 w0) (hw0:WR g0 w0 O0) (hv:VRs g1 args args') (hg:GL C g1):
  Does C.P f args' w0 fun v' w'=>∃g',Goes g0 O0 w0 g' O' w'/\VR g' v v':=by
 obtain⟨fn,hfn,hname⟩:=hnm;simp only[cF,Option.bind_eq_bind,Option.bind_eq_some_iff,Option.pure_def,Option.some.injEq]at hcf;obtain⟨fn',hfn',body,hb,xrs,hxr,hK⟩:=hcf;rw[hfn]at hfn';cases hfn';obtain⟨nargs,ntmps,results,kbody⟩:=K;simp only[KF.forget,XF.mk.injEq]at hK;obtain⟨hn1,hn2,hn3,hn4⟩:=hK;subst hn3;unfold acJ at h;split at h
 ·cases h
 ·rename_i hle;have hlen:=Nat.le_of_ble_eq_true hle;dsimp only at hlen h;split at h
  ·cases h
  ·rename_i q hkc;obtain⟨x,E,O2⟩:=q;dsimp only at h;have h2:dI C call ntmps kbody (mg 0 args) O1=some (x,E.as,O2):=by
    have h1:=Fj kbody ⟨C,call,ntmps⟩ m (acz args 0) O1 _ (by rw[hkc];rfl)
    rwa[YS]at h1
   unfold KF.ok at hok;obtain⟨M,hM⟩:=Option.isSome_iff_exists.mp hok;have h3:=vM (C:=C) (call:=call) kbody _ M _ hM (args++List.replicate (ntmps-args.length) .undef) _ O1 (acv M ntmps args hlen);rw[h2]at h3;cases hs:kY C call kbody.forget (args++List.replicate (ntmps-args.length) .undef) O1 with
   |none=>rw[hs]at h3;exact h3.elim
   |some r=>
    obtain⟨x',e,Y⟩:=r;rw[hs]at h3;obtain⟨hx,hτ,hAg⟩:=h3;subst hx hτ;obtain⟨k,hev⟩:=Lt (C:=C) (cs:=fun _=>call) (L:=call) (fun _ _ _=>wB.refl call) (fun f a O r h=>⟨0,h⟩) kbody.forget hs;have hend:∀vs vs2 O3,bI E.as Y xrs=some vs->hand raw vs Y=some (vs2,O3)->v=bi vs2->O'=tidy O0.length vs2 O3->(x'=.normal\/x'=.ret)->Does C.P f args' w0 fun v' w'=>∃g',Goes g0 O0 w0 g' O' w'/\VR g' v v':=by
     intro vs vs2 O3 hres hh2 hv' hσ' hx;have hres':P7 e Y xrs=some vs:=by
      have:=TU (n:=ntmps) (O:=Y) (e:=e) (A:=E.as) xrs (by rcases hx with rfl|rfl<;>exact hAg)
      rw[this];exact hres
     have hrun:(callFunc f ⟨args'⟩).run C.P w0=.ok (.enter f ⟨args'⟩) w0:=by
      have h1:fn.name≠ "runtime.NumGoroutine":=by simpa using hname
      simp[callFunc,hfn,h1,hb]
     unfold Does;rw[hrun];simp only;refine calls_of_wp hfn hb ?_;have hl:=hv.length;have har:AR g1 (args++List.replicate (ntmps-args.length) .undef) {tmps:=(⟨args'⟩:Array Value)++Array.replicate (fn.ntmps-(⟨args'⟩:Array Value).size) undef,defers:=[]}:=by
      have h1:=hv.append (VRs.replicate (ntmps-args.length) (wZ g1));have:args'.length=args.length:=hl;simpa[AR,this,<-hn2]using h1
     rw[<-hn4]at hev;refine wp_mono (lC hcall hdrawn k body _ e O1 Y x' hev g1 w0 _ har hgo.wr hg) fun ex a2 w2 ⟨hex,hd,g2,ha2,hgo2⟩=>?_;obtain⟨vs',hr1,hr2⟩:=Hw (C:=C) hgo2.wr ha2 _ xrs hxr vs hres';obtain⟨g3,hgo3,hv3⟩:=um hgo2.wr _ hh2 hr2;obtain⟨g4,hgo4,hv4⟩:=Uy ((hgo.trans hgo2).trans hgo3) hw0 hv3;have hfin:a2.defers=[]/\∃v1,(Go.results fn a2.tmps).run C.P w2=.ok v1 w2/\∃v_1,Ending.returned v1=.returned v_1/\∃g',Goes g0 O0 w0 g' O' w2/\VR g' v v_1:=
      ⟨hd,_,PI fn a2.tmps w2 hr1,_,rfl,g4,by rw[hσ'];exact hgo4,by rw[hv'];exact WN vs2 vs' hv4⟩
     subst hex;rcases hx with rfl|rfl
     ·exact hfin
     ·exact hfin
    cases x' with
    |exit i=>cases h
    |normal=>
     dsimp only at h;split at h
     ·cases h
     ·rename_i vs hres;split at h
      ·cases h
      ·rename_i p hh2;obtain⟨vs2,O3⟩:=p;simp at h;exact hend vs vs2 O3 hres hh2 h.1.symm h.2.symm (.inl rfl)
    |ret=>
     dsimp only at h;split at h
     ·cases h
     ·rename_i vs hres;split at h
      ·cases h
      ·rename_i p hh2;obtain⟨vs2,O3⟩:=p;simp at h;exact hend vs vs2 O3 hres hh2 h.1.symm h.2.symm (.inr rfl)
theorem DU{g:Gh}{w w':World}{O:St}(hw:WR g w O){g':Gh}(hgo:Goes (g.cut 0) [] w g' [] w'):Goes g O w {g with im:=g'.im} O w'/\g'.le {g with im:=g'.im}:=by
 have hn:g'.n=0:=hgo.wr.n;have hp:g'.pl=g.pl:=hgo.le.pl;have hle:g'.le {g with im:=g'.im}:=⟨hp.symm,by simp[hn],fun o ho=>by omega,fun o ho=>by omega,fun _ _ _ h=>h⟩
 have hle':g.le {g with im:=g'.im}:=⟨rfl,Nat.le_refl _,fun _ _=>rfl,fun _ _=>rfl,fun b i v h=>hgo.le.im b i v h⟩;have hun:∀b,UL (g.cut 0) [] b:=fun b o x h=>by simp at h
 refine⟨⟨hle',⟨hw.n,hgo.wr.im,fun b i v hv=>(hgo.wr.uf b i v hv).imp (fun e=>⟨(congrFun hp b).symm.trans e.1,e.2⟩) id,fun o x hx=>?_,hw.inj⟩,hgo.os,hgo.tape,hgo.output,hgo.size,fun b hb hu=>⟨hu,(hgo.fr b hb (hun b)).2.1,fun i=>(hgo.fr b hb (hun b)).2.2 i⟩⟩,hle⟩;have ho:=hw.obj o x hx;cases x with
 |dead=>trivial
 |cells l fz=>
  obtain⟨c,e,fr,h1,h2,h3,h4,h5,h6⟩:=ho;have hb:g.ob o<w.heap.size:=(Array.getElem?_eq_some_iff.mp h1).1;obtain⟨_,f2,f3⟩:=hgo.fr (g.ob o) hb (hun _);refine⟨c,e,fr,f2.trans h1,h2,h3,fun i y hy=>?_,h5,fun i v hv=>h6 i v ?_⟩
  ·obtain⟨v,hv,hr⟩:=h4 i y hy;exact⟨v,hv,hr.mono hle'⟩
  ·have:=f3 i;exact this.symm.trans hv
 |map es=>
  obtain⟨ents,clock,h1,h2⟩:=ho;have hb:g.ob o<w.heap.size:=(Array.getElem?_eq_some_iff.mp h1).1;obtain⟨_,f2,f3⟩:=hgo.fr (g.ob o) hb (hun _);exact⟨ents,clock,f2.trans h1,h2.size,h2.clk,fun i k v hkv=>by
   obtain⟨e,he,hk,hv,hborn⟩:=h2.at_ i k v hkv;exact⟨e,he,hk.mono hle',hv.mono hle',hborn⟩⟩
theorem Does.mono{P:Program}{f:FuncId}{args:List Value}{w:World}{R R':Value->World->Prop}(h:Does P f args w R)(hr:∀v w',R v w'->R' v w'):Does P f args w R':=by
 unfold Does at h⊢;split at h
 ·exact h.mono fun e w'' ⟨v,he,hR⟩=>⟨v,he,hr _ _ hR⟩
 ·exact hr _ _ h
 ·exact h
theorem Uc {C:Ctx} {call:bD} (hm:C.P.follows .mixedOrders=true) (ih:fO C call) (hgl:∀n l,C.gl n=some l->ae 0 l=true) {f:FuncId} {K:KF} (hK:KOK C f K) {n:Nat} {raw pure:Bool} {args:LA} {O:St} {v:AV} {O':St}
  (h:akd C call n K raw pure args O=some (v,O')) {g:Gh} {w:World} {args':List Value} (ha:VRs g args args') (hw:WR g w O) (hg:GL C g):Does C.P f args' w fun v' w'=>∃g',Goes g O w g' O' w'/\VR g' v v':=by
 obtain⟨h1,h2,h3⟩:=hK;unfold akd at h;split at h
 ·cases h
 ·rename_i p hh;obtain⟨args1,O1⟩:=p;dsimp only at h;obtain⟨g1,hgo1,hv1⟩:=um hw raw hh ha;split at h
  ·rename_i hc;rw[qy,Bool.and_eq_true,acO]at hc;unfold ah9 at h;split at h
   ·cases h
   ·rename_i p hb;obtain⟨v1,Y⟩:=p;dsimp only at h;split at h
    ·simp at h;obtain⟨rfl,rfl⟩:=h;have hw1:=hgo1.wr;have hw0:WR (g1.cut 0) w []:=⟨rfl,hw1.im,hw1.uf,fun o x hx=>by simp at hx,fun o o' x x' hx=>by simp at hx⟩
     have hg1:=hg.mono hgo1.le;have:=Rf (O0:=[]) ih ⟨Ry hm ih,Su hm ih⟩ h1 h2 h3 hb (Goes.refl hw0) hw0 (hv1.cut hc.2) ⟨fun n l hl=>⟨(hg1.1 n l hl).1.cut (hgl n l hl),(hg1.1 n l hl).2⟩,hg1.2⟩;refine this.mono fun v' w' ⟨g',hgo',hr'⟩=>?_;obtain⟨hf,hle⟩:=DU hw1 hgo';exact⟨_,hgo1.trans hf,hr'.mono hle⟩
    ·cases h
  ·exact Rf ih ⟨Ry hm ih,Su hm ih⟩ h1 h2 h3 h hgo1 hw hv1 (hg.mono hgo1.le)
theorem A8{C:Ctx}{T:Tr2}(hm:C.P.follows .mixedOrders=true)(hT:akA C T):∀n,fO C (bY C T n)
 |0=>fun f args O v O' h=>by cases h
 |n+1=>by
  have ih:=A8 hm hT n;intro f args O v O' h g w args' ha hw hg;change alR (T f) C (bY C T n) n args O=some (v,O')at h;unfold alR at h;split at h
  ·cases h
  ·rename_i t ht;have hE:=hT.ent f t ht;split at h
   ·exact hE args O v O' h g w args' ha hw hg
   ·exact Uc hm ih hT.gl hE h ha hw hg
   ·split at h
    ·rename_i r hr;cases h;exact hE.1 args O v O' hr g w args' ha hw hg
    ·exact Uc hm ih hT.gl hE.2 h ha hw hg
   ·exact hE _ ih args O v O' h g w args' ha hw hg
theorem ul{g:Gh}{w w':World}{O:St}(h:WR g w O)(hb:Below w.heap.size w w'):Goes g O w g O w':=by
 refine⟨.refl g,⟨h.n,fun b i v hv=>?_,fun b i v hv=>?_,fun k y hy=>?_,h.inj⟩,hb.os,hb.tape,hb.output,hb.size,fun b hlt hu=>⟨hu,hb.block b hlt,fun _=>rfl⟩⟩
 ·rw[qW (hb.block b (h.im_lt hv))];exact h.im b i v hv
 ·rw[hb.block b (h.im_lt hv)];exact h.uf b i v hv
 ·exact OR.mono (h.obj k y hy) (.refl g) (h.lt hy) (fun hl=>hb.block _ (h.ob_lt hy hl)) (fun _ _ _ hv=>hv)
structure EG(P:Program)(f:FuncId):Prop where
 is:∃fn,P.funcs[f]?=some fn/\fn.name≠ "runtime.NumGoroutine"/\fn.body.isSome=true
theorem EG.enter{P:Program}{f:FuncId}(h:EG P f)(args:List Value)(w:World):(callFunc f ⟨args⟩).run P w=.ok (.enter f ⟨args⟩) w:=by
 obtain⟨fn,h1,h2,h3⟩:=h.is;obtain⟨b,hb⟩:=Option.isSome_iff_exists.mp h3;simp[callFunc,h1,h2,hb]
theorem Bd{P:Program}{f:FuncId}(hf:EG P f){args:List Value}{w:World}{R:Value->World->Prop}(h:Calls P f ⟨args⟩ w fun e w'=>∃v,e=.returned v/\R v w'):Does P f args w R:=by
 unfold Does;rw[hf.enter];exact h
theorem ab9 {P:Program} {f:FuncId} (hf:EG P f) {args:List Value} {w:World} {g:Gh} {O:St} (hw:WR g w O) {v:AV} {v':Value} (hv:VR g v v') (h:Calls P f ⟨args⟩ w fun e w'=>e=.returned v'/\Below w.heap.size w w'):
  Does P f args w fun v' w'=>∃g',Goes g O w g' O w'/\VR g' v v':=
 Bd hf (h.mono fun e w' ⟨he,hb⟩=>⟨v',he,g,ul hw hb,hv⟩)
def MO(F:LU->AV)(args:LA)(O:St):Option (AV×St):=
 match args with
 |[.str s]=>if Nat.ble s.length 1099511627776 then some (F s,O)else none
 |_=>none
theorem ajZ {C:Ctx} {f:FuncId} (hf:EG C.P f) (F:LU->AV) (F':LU->Value) (hF:∀g s,VR g (F s) (F' s)) (hc:∀(s:ByteArray) (w:World),s.size<=1099511627776->Calls C.P f #[.string s] w fun e w'=>e=.returned (F' s.data.toList)/\Below w.heap.size w w'):
  POK C f (MO F):=by
 intro args O v O' h g w args' ha hw hg;unfold MO at h;split at h
 ·rename_i s;split at h
  ·rename_i hle;simp at h;obtain⟨rfl,rfl⟩:=h;cases ha with
   |cons _ v1 _ l1 x y=>
    cases y;cases x;exact ab9 hf hw (hF g s) (hc ⟨⟨s⟩⟩ w (Nat.le_of_ble_eq_true hle))
  ·cases h
 ·cases h
theorem aey {g:Gh} {w w':World} {O:St} (h:WR g w O) {o:Nat} {l:LA} {tg:Option (TypeId×Bool)} (hx0:O[o]?=some (.cells l ⟨false,tg⟩)) (hos:w'.os=w.os) (htape:w'.tape=w.tape) (hout:w'.output=w.output) (hsz:w'.heap.size=w.heap.size)
  (hne:∀k,k≠g.ob o->w'.heap[k]?=w.heap[k]?):Goes g O w g (O.set o .dead) w':=by
 obtain⟨c,e,fr,h1,h2,h3,h4,h5,h6⟩:=h.obj o _ hx0;have him:∀i v,g.im (g.ob o) i≠some v:=fun i v hv=>absurd (h6 i v hv).1 (by simp)
 refine⟨.refl g,⟨by simp[h.n],fun b i v hv=>?_,fun b i v hv=>?_,fun k y hy=>?_,fun k k' y y' hy hy' hl hl' he=>?_⟩,hos,htape,hout,by omega,fun b hb hu=>⟨fun k y hy hl=>?_,hne b (fun e=>hu o _ hx0 rfl e.symm),fun _=>rfl⟩⟩
 ·have hb:b≠g.ob o:=fun hb=>him i v (hb▸hv);rw[qW (hne b hb)];exact h.im b i v hv
 ·have hb:b≠g.ob o:=fun hb=>him i v (hb▸hv);rw[hne b hb];exact h.uf b i v hv
 ·rcases jF hy with⟨hk,hz⟩|⟨rfl,_,rfl⟩
  ·exact OR.mono (h.obj k y hz) (.refl g) (h.lt hz) (fun hl=>hne _ fun e=>hk (h.inj k o y _ hz hx0 hl rfl e)) (fun _ _ _ hv=>hv)
  ·trivial
 ·rcases jF hy with⟨hk,hz⟩|⟨hk,_,rfl⟩
  ·rcases jF hy' with⟨hk',hz'⟩|⟨hk',_,rfl⟩
   ·exact h.inj k k' y y' hz hz' hl hl' he
   ·cases hl'
  ·cases hl
 ·rcases jF hy with⟨hk,hz⟩|⟨hk,_,rfl⟩
  ·exact hu k y hz hl
  ·cases hl
theorem aex {P:Program} {g:Gh} {w:World} {O:St} (h:WR g w O) {o:Nat} {l:LA} {tg:Option (TypeId×Bool)} (hl:O[o]?=some (.cells l ⟨false,tg⟩)) {off:Nat} {c:AV} {v:Value} (hc:VR g c v) (hb:off<l.length) (hf:c.flat=true):
  Goes g O w g (O.set o (.cells (splice l off [c]) ⟨false,tg⟩)) (w.setCell ⟨g.ob o,off,none⟩ v):=by
 obtain⟨c0,e0,fr,h1,h2,h3,h4,h5,h6⟩:=h.obj o _ hl;obtain⟨w',hrun,hgo⟩:=Gl (P:=P) h hl (off:=off) (cs:=[c]) (vs:=[v]) (.cons _ _ _ _ hc .nil) (by simp;omega) (by simpa using hf)
 have hrun2:=run_storeCells_cells (P:=P) (g.ob o) off [v] 0 w (fun j hj=>by rw[cell_of_heap h1,Array.getElem?_eq_getElem (by simp at hj;omega)];rfl) (fun j hj=>by
  have:=akt h5.1 c0.size (off+0+j) (by simp at hj;omega)
  simpa[World.frozen?,h1]using this) (VRs.one (.cons _ _ _ _ hc .nil) (by simpa using hf))
 rw[hrun]at hrun2;simp only[Result.ok.injEq,true_and]at hrun2;subst hrun2;exact hgo
theorem Zu(w:World)(b n:Nat):(w.freeze ⟨b,0,none⟩ n).os=w.os/\(w.freeze ⟨b,0,none⟩ n).tape=w.tape/\(w.freeze ⟨b,0,none⟩ n).output=w.output/\(w.freeze ⟨b,0,none⟩ n).heap.size=w.heap.size/\∀k,k≠b->(w.freeze ⟨b,0,none⟩ n).heap[k]?=w.heap[k]?:=by
 unfold World.freeze;split
 ·exact⟨rfl,rfl,rfl,rfl,fun _ _=>rfl⟩
 ·refine⟨rfl,rfl,rfl,by simp,fun k hk=>?_⟩
  simp only[Array.getElem?_modify];rw[if_neg (fun e=>hk e.symm)]
def EP:LA->Option LU
 |[]=>some []
 |v::l=>match v with
  |.int .u8 (.ofNat n)=>match Nat.ble n 255 with
   |true=>match EP l with
    |some bs=>some (UInt8.ofNat n::bs)
    |none=>none
   |false=>none
  |_=>none
theorem Rj:∀{l:LA} {s:LU},EP l=some s->s.length=l.length/\∀(j:Nat) (x:UInt8),s[j]?=some x->l[j]?=some (.int .u8 x.toNat)
 |[],s,h=>by
  simp[EP]at h;subst h;simp
 |v::l,s,h=>by
  unfold EP at h;split at h
  ·rename_i n;split at h
   ·rename_i hn;have hn:=Nat.le_of_ble_eq_true hn;split at h
    ·rename_i bs hbs;simp at h;subst h;obtain⟨e1,e2⟩:=Rj hbs;refine⟨by simp[e1],fun j x hx=>?_⟩
     cases j with
     |zero=>
      simp at hx;subst hx;simp;omega
     |succ j=>simpa using e2 j x (by simpa using hx)
    ·cases h
   ·cases h
  ·cases h
def UR(P:Program)(f:FuncId):Bool:=
 match P.funcs[f]? with
 |some fn=>!(fn.name== "runtime.NumGoroutine")
 |none=>false
def gX(P:Program)(gl:Nat->Option LA)(raw:FuncId->Bool)(prim:FuncId->Option (LA->St->Option (AV×St))):Ctx:=
 {P,gl,raw,fs:=fun f=>match UR P f with|true=>cF P f|false=>none,prim}
theorem uK(P:Program)(gl raw prim):aaI (gX P gl raw prim):=by
 intro f x h;simp only[gX]at h;split at h
 ·rename_i hk;refine⟨h,?_⟩;unfold UR at hk;split at hk
  ·rename_i fn hfn;exact⟨fn,hfn,by simpa using hk⟩
  ·cases hk
 ·cases h
theorem YZ {P:Program} (hm:P.follows .mixedOrders=true) {f:FuncId} (hf:EG P f) {n:Nat} {args:LA} {v:AV} (h:evF (gX P (fun _=>none) (fun _=>false) (fun _=>none)) n f args []=some (v,[])) (w:World) (args':List Value) (v':Value)
  (ha:∀g,VRs g args args') (hv:∀g v2,VR g v v2->v2=v'):Calls P f ⟨args'⟩ w fun e w'=>e=.returned v'/\Below w.heap.size w w':=by
 have hs:=EY (C:=gX P (fun _=>none) (fun _=>false) (fun _=>none)) hm (uK _ _ _ _) (fun f h hh=>by simp[gX]at hh) n f args [] v [] h
 have hw:WR ⟨fun _=>true,0,fun _=>0,fun _=>0,fun _ _=>none⟩ w []:=⟨rfl,fun b i v hv=>by simp at hv,fun b i v hv=>by simp at hv,fun o x hx=>by simp at hx,fun o o' x x' hx=>by simp at hx⟩
 have hd:=hs _ w args' (ha _) hw ⟨fun n l hl=>by simp[gX]at hl,.inr fun _=>rfl⟩
 unfold Does at hd;change(match(callFunc f ⟨args'⟩).run P w with|.ok (.enter f' azs) w'=>_|.ok (.value v) w'=>_|_=>False)at hd
 rw[hf.enter]at hd;refine Calls.mono hd fun e w' ⟨v2,he,g',hgo,hr⟩=>?_;have:=hv _ _ hr;subst this;refine⟨he,?_⟩;exact⟨hgo.os,hgo.tape,hgo.output,hgo.size,fun k hk=>(hgo.fr k hk (fun o x hx=>by simp at hx)).2.1⟩
noncomputable section
def fF(r:Option (AV×St))(v:AV):Bool:=
 match r with
 |none=>false
 |some p=>match p with
  |(v',O)=>match O with
   |[]=>eqQ v' v
   |_::_=>false
theorem Ea{r:Option (AV×St)}{v:AV}(h:fF r v=true):r=some (v,[]):=by
 unfold fF at h;split at h
 ·cases h
 ·split at h
  ·split at h
   ·rw[Xz _ _ h]
   ·cases h
def acl(C:Ctx)(f:FuncId)(args:LA)(v:AV):Prop:=POK C f fun azs O=>match Ji azs args with|true=>some (v,O)|false=>none
theorem ZK{C:Ctx}{call:bD}(hc:fO C call){f:FuncId}{args:LA}{v:AV}(hgl:∀n l,C.gl n=some l->ae 0 l=true)(hcl:ae 0 args=true)(h:fF (call f args []) v=true):acl C f args v:=by
 intro azs O v1 O' h1 g w args' ha hw hg;dsimp only at h1;split at h1
 ·rename_i he;have:=y9 _ _ he;subst this;cases h1;have h2:=Ea h;have hw0:WR (g.cut 0) w []:=⟨rfl,hw.im,hw.uf,fun o x hx=>by simp at hx,fun o o' x x' hx=>by simp at hx⟩
  refine(hc _ _ _ _ _ h2 (g.cut 0) w args' (ha.cut hcl) hw0 ⟨fun n l hl=>⟨(hg.1 n l hl).1.cut (hgl n l hl),(hg.1 n l hl).2⟩,hg.2⟩).mono fun v' w' ⟨g',hgo',hr'⟩=>?_;obtain⟨hf,hle⟩:=DU hw hgo';exact⟨_,hf,hr'.mono hle⟩
 ·cases h1
def memo(l:List (LA×AV))(azs:LA)(O:St):Option (AV×St):=
 match l with
 |[]=>none
 |p::l=>match p with
  |(args,v)=>match Ji azs args with
   |true=>some (v,O)
   |false=>memo l azs O
theorem ahz{C:Ctx}{f:FuncId}:POK C f (memo []):=fun args O v O' h=>by cases h
theorem aeU{C:Ctx}{f:FuncId}{args:LA}{v:AV}{l:List (LA×AV)}(h:acl C f args v)(hl:POK C f (memo l)):POK C f (memo ((args,v)::l)):=by
 intro azs O v1 O' h1 g w args' ha hw hg;unfold memo at h1;dsimp only at h1;cases he:Ji azs args with
 |true=>
  refine h azs O v1 O' ?_ g w args' ha hw hg;rw[he]at h1;dsimp only;rw[he];exact h1
 |false=>
  rw[he]at h1;exact hl azs O v1 O' h1 g w args' ha hw hg
def orP(h k:LA->St->Option (AV×St))(azs:LA)(O:St):Option (AV×St):=match h azs O with
 |some r=>some r
 |none=>k azs O
theorem ahQ{C:Ctx}{f:FuncId}{h k:LA->St->Option (AV×St)}(hh:POK C f h)(hk:POK C f k):POK C f (orP h k):=by
 intro azs O v1 O' h1 g w args' ha hw hg;unfold orP at h1;split at h1
 ·rename_i r hr;cases h1;exact hh azs O v1 O' hr g w args' ha hw hg
 ·exact hk azs O v1 O' h1 g w args' ha hw hg
end
theorem tq:eqQ (.agg [.str [1,2,3],.int .i64 5,.sl 1 [.str []]]) (.agg [.str [1,2,3],.int .i64 5,.sl 1 [.str []]])=true:=by decide
noncomputable section
theorem mi {C:Ctx} {call:bD} (hc:fO C call) (hgl:∀n l,C.gl n=some l->ae 0 l=true) {f:FuncId} {args:LA} {v:AV} (hcl:ae 0 args=true) (h:call f args []=some (v,[])) {g:Gh} {w:World} {O:St} {args':List Value} (ha:VRs g args args') (hw:WR g w O) (hg:GL C g):
  Does C.P f args' w fun v' w'=>∃g',Goes g O w g' O w'/\VR g' v v':=by
 have hw0:WR (g.cut 0) w []:=⟨rfl,hw.im,hw.uf,fun o x hx=>by simp at hx,fun o o' x x' hx=>by simp at hx⟩
 refine(hc _ _ _ _ _ h (g.cut 0) w args' (ha.cut hcl) hw0 ⟨fun n l hl=>⟨(hg.1 n l hl).1.cut (hgl n l hl),(hg.1 n l hl).2⟩,hg.2⟩).mono fun v' w' ⟨g',hgo',hr'⟩=>?_;obtain⟨hf,hle⟩:=DU hw hgo';exact⟨_,hf,hr'.mono hle⟩
def MN(args:LA)(O:St):Option (AV×St):=
 match args with
 |[.sl 0 []]=>some (.sl 0 [],O)
 |_=>none
theorem JC{C:Ctx}{call:bD}(hc:fO C call)(hgl:∀n l,C.gl n=some l->ae 0 l=true){f:FuncId}(h1:fF (call f [.nils] []) .nils=true)(h2:fF (call f [.emp] []) (.xsl 0 [])=true):POK C f MN:=by
 intro args O v O' h g w args' ha hw hg;unfold MN at h;split at h
 ·simp only[Option.some.injEq,Prod.mk.injEq]at h;obtain⟨rfl,rfl⟩:=h;cases ha with
  |cons _ v1 _ l1 x y=>
   cases y;cases x with
   |slNil=>
    refine(mi hc hgl (by rfl) (Ea h1) (.cons _ _ _ _ .nils .nil) hw hg).mono fun v' w' ⟨g',hgo,hr⟩=>⟨g',hgo,?_⟩
    cases hr;exact .slNil
   |slEmp a cap=>
    refine(mi hc hgl (by rfl) (Ea h2) (.cons _ _ _ _ (.emp a cap) .nil) hw hg).mono fun v' w' ⟨g',hgo,hr⟩=>⟨g',hgo,?_⟩
    cases hr;exact .slEmp _ _
   |sl _ _ b off cap hcr hle=>
    refine(mi hc hgl (by rfl) (Ea h2) (.cons _ _ _ _ (.emp ⟨b,off,none⟩ cap) .nil) hw hg).mono fun v' w' ⟨g',hgo,hr⟩=>⟨g',hgo,?_⟩
    cases hr;exact .slEmp _ _
 ·cases h
def ajV(args:LA)(O:St):Option (AV×St):=
 match args with
 |[.str a,.str b]=>some (.int .i64 (Lib.compareBytes a b),O)
 |_=>none
theorem ajY{C:Ctx}{f:FuncId}(he:∀args w,(callFunc f args).run C.P w=((Extern.BytealgCompare.compare args).run C.P w).andThen fun v w=>.ok (.value v) w):POK C f ajV:=by
 intro args O v O' h g w args' ha hw hg;unfold ajV at h;split at h
 ·rename_i a b;simp only[Option.some.injEq,Prod.mk.injEq]at h;obtain⟨rfl,rfl⟩:=h;cases ha with
  |cons _ v1 _ l1 x y=>
   cases y with
   |cons _ v2 _ l2 x2 y2=>
    cases y2;cases x;cases x2;unfold Does;have:(callFunc f ⟨[.string ⟨⟨a⟩⟩,.string ⟨⟨b⟩⟩]⟩).run C.P w=.ok (.value (.int .i64 (Lib.compareBytes a b))) w:=by
     rw[he];have:=Lib.run_compareString (P:=C.P) ⟨⟨a⟩⟩ ⟨⟨b⟩⟩ w;change(Sem.run C.P (Extern.BytealgCompare.compare #[.string ⟨⟨a⟩⟩,.string ⟨⟨b⟩⟩]) w).andThen _=_;rw[this];rfl
    rw[this];exact⟨g,.refl hw,.int _ _⟩
 ·cases h
theorem TK{C:Ctx}{call:bD}(hc:fO C call)(hgl:∀n l,C.gl n=some l->ae 0 l=true){f:FuncId}(F:LU->AV)(h:∀s:LU,s.length<=1099511627776->call f [.str s] []=some (F s,[])):POK C f (MO F):=by
 intro args O v O' h1 g w args' ha hw hg;unfold MO at h1;split at h1
 ·rename_i s;split at h1
  ·rename_i hle;simp only[Option.some.injEq,Prod.mk.injEq]at h1;obtain⟨rfl,rfl⟩:=h1;exact mi hc hgl (by rfl) (h s (Nat.le_of_ble_eq_true hle)) ha hw hg
  ·cases h1
 ·cases h1
def adC(F:LU->LU->AV)(args:LA)(O:St):Option (AV×St):=
 match args with
 |[.str s,.str t]=>match Jf (Nat.ble s.length 1099511627000) (Nat.ble t.length 1099511627000)with
  |true=>some (F s t,O)
  |false=>none
 |_=>none
theorem ai2{C:Ctx}{call:bD}(hc:fO C call)(hgl:∀n l,C.gl n=some l->ae 0 l=true){f:FuncId}(F:LU->LU->AV)(h:∀s t:LU,s.length<=1099511627000->t.length<=1099511627000->call f [.str s,.str t] []=some (F s t,[])):POK C f (adC F):=by
 intro args O v O' h1 g w args' ha hw hg;unfold adC at h1;split at h1
 ·rename_i s t;split at h1
  ·rename_i hle;rw[qy,Bool.and_eq_true]at hle;simp only[Option.some.injEq,Prod.mk.injEq]at h1;obtain⟨rfl,rfl⟩:=h1;exact mi hc hgl (by rfl) (h s t (Nat.le_of_ble_eq_true hle.1) (Nat.le_of_ble_eq_true hle.2)) ha hw hg
  ·cases h1
 ·cases h1
theorem amc{P:Program}{gl raw prim}{f:FuncId}{K:KF}(h1:cF P f=some K.forget)(h2:UR P f=true)(h3:K.ok=true):KOK (gX P gl raw prim) f K:=by
 refine⟨h1,?_,h3⟩;unfold UR at h2;split at h2
 ·rename_i fn hfn;exact⟨fn,hfn,by simpa using h2⟩
 ·cases h2
theorem XK{P:Program}{gl raw prim}{f:FuncId}{K:KF}(h1:cF P f=some K.forget)(h2:UR P f=true)(h3:K.ok=true)(hp:prim f=none)(hr:raw f=false):Has (gX P gl raw prim) f K:=by
 refine⟨?_,hp,hr,h3⟩;simp only[gX,h2,h1]
end
noncomputable section
abbrev MM:=FuncId->List (LA×AV)
def MOK(C:Ctx)(M:MM):Prop:=∀f,POK C f (memo (M f))
def M0:MM:=fun _=>[]
theorem anu(C:Ctx):MOK C M0:=fun f=>ahz
def iK(M:MM)(f:FuncId)(a:LA)(v:AV):MM:=fun g=>match Nat.beq g f with
 |true=>(a,v)::M f
 |false=>M g
theorem akv{C:Ctx}{M:MM}(h:MOK C M){f:FuncId}{a:LA}{v:AV}(hk:acl C f a v):MOK C (iK M f a v):=by
 intro g;unfold iK;cases hb:Nat.beq g f with
 |true=>
  have:=Nat.eq_of_beq_eq_true hb;subst this;exact aeU hk (h g)
 |false=>exact h g
def ahx(l:List (LA×AV))(azs:LA)(O:St):Option (AV×St):=match hand false azs O with
 |none=>none
 |some p=>match p with
  |(a,Y)=>memo l a Y
theorem ahy{C:Ctx}{M:MM}(h:MOK C M)(f:FuncId):POK C f (ahx (M f)):=by
 intro azs O v1 O' h1 g w args' ha hw hg;unfold ahx at h1;split at h1
 ·cases h1
 ·rename_i p hh;obtain⟨a,Y⟩:=p;obtain⟨g1,hgo,hv⟩:=um hw false hh ha;exact(h f a Y v1 O' h1 g1 w args' hv hgo.wr (hg.mono hgo.le)).mono fun v' w' ⟨g2,hgo2,hr⟩=>⟨g2,hgo.trans hgo2,hr⟩
end
instance:Inhabited (DataW Unit):=⟨.nil⟩
def Tab(W:World)(g:Nat)(l:LA):Prop:=
 ∃c e,W.heap[g]?=some (.cells c e (0,0))/\∀(i:Nat) (a:AV),l[i]?=some a->∃v,c[i]?=some v/\∀γ:Gh,VR γ a v
theorem XV {P:Program} {W:World}:∀{laid:List (String×DataW Unit)} {ps:List MemPlace},DataW.LaidVars P W laid ps->∀{n:String} {d:DataW Unit},(n,d)∈laid->
  ∃g t cs fuel p,P.globalNamed n=some g/\(P.globals[g]?).map (·.type)=some t/\W.var? P n=some cs/\DataW.trod (fun _=>()) P W 0 (fun _=>true) false fuel t cs.toList=some (d,p)/\∀x∈MemPlace.row ⟨g,0,none⟩ cs.size,x∈ps
 |[],_,_,_,_,hm=>by cases hm
 |(m,d')::r,ps,h,n,d,hm=>by
  obtain⟨g,t,cs,fuel,p,q,h1,h2,h3,h4,h5,rfl⟩:=h;rcases List.mem_cons.mp hm with he|hm
  ·cases he;exact⟨g,t,cs,fuel,p,h1,h2,h3,h4,fun x hx=>by simp[hx]⟩
  ·obtain⟨g',t',cs',fuel',p',k1,k2,k3,k4,k5⟩:=XV h5 hm;exact⟨g',t',cs',fuel',p',k1,k2,k3,k4,fun x hx=>by simp[k5 x hx]⟩
theorem ZM {P:Program} {W:World} {laid:List (String×DataW Unit)} (h:laidMet P laid W) {n:String} {t e:TypeId} {N g:Nat} {l:List (DataW Unit)} {la:LA} (hm:(n,.agg l)∈laid)
  (h1:P.globalNamed n=some g) (h2:(P.globals[g]?).map (·.type)=some t) (h3:P.underlying t=some (.array (N+1) e)) (h4:P.cellsOf e=1) (h5:P.cellsOf t=N+1) (hl:la.length=N+1)
  (hv:∀(i:Nat) (a:AV) fuel (x:Value) p d,la[i]?=some a->l[i]?=some d->DataW.trod (fun _=>()) P W 0 (fun _=>true) false fuel e [x]=some (d,p)->∀γ:Gh,VR γ a x):Tab W g la:=by
 obtain⟨ps,hL,_,hc⟩:=h;obtain⟨g',t',cs,fuel,p,k1,k2,k3,k4,k5⟩:=XV hL hm;obtain rfl:=Option.some.inj (h1.symm.trans k1);obtain rfl:=Option.some.inj (h2.symm.trans k2);obtain⟨xs,m,_,ex,hlen,hxl,hel⟩:=DataW.trod_array h3 k4;have el:l=xs.map (·.1):=by
  have:=(Prod.mk.inj ex).1;exact DataW.agg.inj this
 have hsz:cs.size=N+1:=by rw[<-h5,<-hlen];simp
 have h0:MemPlace.cell g 0∈ps:=k5 _ (by simp[MemPlace.row,hsz])
 obtain⟨⟨c,e',hh⟩,_⟩:=hc g 0 h0;have hcs:c=cs:=by
  unfold World.var? at k3;rw[h1]at k3;simp only[Option.bind_some,hh,Option.some.injEq]at k3;exact k3
 subst hcs;refine⟨c,e',hh,fun i a ha=>?_⟩;have hi:i<N+1:=by rw[<-hl];exact(List.getElem?_eq_some_iff.mp ha).1
 have hE:=hel i hi;rw[h4,Nat.mul_one]at hE;have hi2:i<c.size:=by omega
 have hd:((c.toList.drop i).take 1)=[c[i]]:=by
  apply List.ext_getElem?;intro j;cases j with
  |zero=>simp[List.getElem?_drop,hi2]
  |succ j=>simp[List.getElem?_take]
 rw[hd]at hE;have hx:i<xs.length:=by omega
 rw[List.getElem?_eq_getElem hx]at hE;refine⟨c[i],Array.getElem?_eq_getElem hi2,?_⟩;exact hv i a m c[i] xs[i].2 xs[i].1 ha (by rw[el];simp[hx]) hE
theorem CE {P:Program} {W:World} {laid:List (String×DataW Unit)} (h:laidMet P laid W) {n:String} {t e:TypeId} {N g:Nat} {k:IntKind} {l:List Int} (hm:(n,.agg (l.map fun i=>.lit (.int k i)))∈laid)
  (h1:P.globalNamed n=some g) (h2:(P.globals[g]?).map (·.type)=some t) (h3:P.underlying t=some (.array (N+1) e)) (h4:P.cellsOf e=1) (h5:P.cellsOf t=N+1) (hl:l.length=N+1) (h6:P.underlying e=some (.int k)):Tab W g (l.map fun i=>.int k i):=by
 refine ZM h hm h1 h2 h3 h4 h5 (by simp[hl]) fun i a fuel x p d ha hd ht γ=>?_
 obtain⟨z,e1,e2,_⟩:=DataW.trod_int h6 ht;rw[List.getElem?_map]at ha hd;cases hli:l[i]? with
 |none=>rw[hli]at ha;cases ha
 |some y=>
  rw[hli]at ha hd;simp only[Option.map_some,Option.some.injEq]at ha hd;subst ha hd;simp only[List.cons.injEq,and_true]at e1;simp only[Prod.mk.injEq,DataW.lit.injEq,Lit.int.injEq,true_and]at e2;rw[e1,e2.1];exact .int _ _
theorem aeI {P:Program} {W:World} {laid:List (String×DataW Unit)} (h:laidMet P laid W) {n:String} {t e:TypeId} {N g:Nat} {l:List LU} (hm:(n,.agg (l.map fun i=>.lit (.string i)))∈laid)
  (h1:P.globalNamed n=some g) (h2:(P.globals[g]?).map (·.type)=some t) (h3:P.underlying t=some (.array (N+1) e)) (h4:P.cellsOf e=1) (h5:P.cellsOf t=N+1) (hl:l.length=N+1) (h6:P.underlying e=some .string):Tab W g (l.map .str):=by
 refine ZM h hm h1 h2 h3 h4 h5 (by simp[hl]) fun i a fuel x p d ha hd ht γ=>?_
 obtain⟨z,e1,e2,_⟩:=DataW.trod_string h6 ht;rw[List.getElem?_map]at ha hd;cases hli:l[i]? with
 |none=>rw[hli]at ha;cases ha
 |some y=>
  rw[hli]at ha hd;simp only[Option.map_some,Option.some.injEq]at ha hd;subst ha hd;simp only[List.cons.injEq,and_true]at e1;simp only[Prod.mk.injEq,DataW.lit.injEq,Lit.string.injEq]at e2;rw[e1,e2.1];exact .str _
theorem Gg{W:World}{g:Nat}{k:IntKind}{l:List Int}{la:LA}(h:Tab W g (l.map fun i=>.int k i))(e:la=l.map fun i=>.int k i):Tab W g la:=e▸h
theorem aiH{W:World}{g:Nat}{l:List LU}{la:LA}(h:Tab W g (l.map .str))(e:la=l.map .str):Tab W g la:=e▸h
def Z8:Value->Bool
 |.int .u8 _=>false
 |_=>true
def gh0(T:Nat->Bool)(W:World):Gh:=⟨T,0,fun _=>0,fun _=>0,fun b i=>match T b with
 |true=>W.cell? ⟨b,i,none⟩
 |false=>(W.cell? ⟨b,i,none⟩).filter Z8⟩
theorem im0{T:Nat->Bool}{W:World}{b i:Nat}{v:Value}(h:W.cell? ⟨b,i,none⟩=some v)(hn:Z8 v=true):(gh0 T W).im b i=some v:=by
 show(match T b with|true=>W.cell? ⟨b,i,none⟩|false=>(W.cell? ⟨b,i,none⟩).filter Z8)=_
 cases T b with
 |true=>exact h
 |false=>exact Option.filter_eq_some_iff.mpr ⟨h,hn⟩
theorem akO{T:Nat->Bool}{W:World}{b i:Nat}(h:T b=true):(gh0 T W).im b i=W.cell? ⟨b,i,none⟩:=by
 show(match T b with|true=>W.cell? ⟨b,i,none⟩|false=>(W.cell? ⟨b,i,none⟩).filter Z8)=_
 rw[h]
theorem akN{T:Nat->Bool}{W:World}{b i:Nat}(h:T b=false):(gh0 T W).im b i=(W.cell? ⟨b,i,none⟩).filter Z8:=by
 show(match T b with|true=>W.cell? ⟨b,i,none⟩|false=>(W.cell? ⟨b,i,none⟩).filter Z8)=_
 rw[h]
theorem akw{g:Gh}{a:AV}{v:Value}(h:VR g a v)(hb:isByte a=false):Z8 v=true:=by
 cases h<;>first|rfl|skip
 rename_i k n;cases k<;>first|rfl|cases hb
theorem wr0{T:Nat->Bool}{W:World}(h:∀b,T b=true->∃c e,W.heap[b]?=some (.cells c e (0,0))):WR (gh0 T W) W []:=⟨rfl,fun b i v hv=>(by
 cases hT:T b with
 |false=>rw[akN hT]at hv;exact(Option.filter_eq_some_iff.mp hv).1
 |true=>rw[akO hT]at hv;exact hv),fun b i v hv=>(by
 cases hT:T b with
 |false=>exact .inl ⟨hT,fun j n hj=>by rw[akN hT]at hj;exact absurd (Option.filter_eq_some_iff.mp hj).2 (by simp[Z8])⟩
 |true=>
  obtain⟨c,e,hh⟩:=h b hT;exact .inr ⟨c,e,(0,0),hh,.inl rfl⟩),fun o x hx=>by simp at hx,fun o o' x x' hx=>by simp at hx⟩
def Ii(C:Ctx)(b:Nat):Bool:=(C.gl b).isSome
theorem acb{C:Ctx}{W:World}(tabs:∀g l,C.gl g=some l->Tab W g l):∀b,Ii C b=true->∃c e,W.heap[b]?=some (.cells c e (0,0)):=by
 intro b hb;obtain⟨l,hl⟩:=Option.isSome_iff_exists.mp hb;obtain⟨c,e,hh,_⟩:=tabs b l hl;exact⟨c,e,hh⟩
theorem gl0{C:Ctx}{W:World}(hn:C.np=true)(tabs:∀g l,C.gl g=some l->Tab W g l):GL C (gh0 (Ii C) W):=by
 refine⟨fun n l hl=>⟨?_,by show Ii C n=true;unfold Ii;rw[hl];rfl⟩,.inl hn⟩
 obtain⟨c,e,hh,hc⟩:=tabs n l hl;refine CR.of_get fun i a ha=>?_;obtain⟨v,h1,h2⟩:=hc i a ha;refine⟨v,?_,h2 _⟩;rw[akO (by unfold Ii;rw[hl];rfl)]
 unfold World.cell?;rw[hh];simpa using h1
def Rd(T:Nat->Bool)(P:Program)(W:World)(t:TypeId){α:Type}(Q:α->Prop)(f:α->LA):Prop:=
 ∀(H:Type) (enc:TypeId×Value->H) (sp:Nat->Bool) (held:Bool) (fuel:Nat) (cs:List Value) (x:DataW H×List MemPlace),DataW.trod enc P W 0 sp held fuel t cs=some x->∃a,Q a/\VRs (gh0 T W) (f a) cs
section
variable{T:Nat->Bool}{P:Program}{W:World}{t e:TypeId}
theorem FX{k:IntKind}(ht:P.underlying t=some (.int k)):Rd T P W t (fun n:Int=>(Lit.int k n).wf=true) (fun n=>[.int k n]):=by
 intro H enc sp held fuel cs x h;obtain⟨n,rfl,_,hw⟩:=DataW.trod_int ht h;exact⟨n,hw,.cons _ _ _ _ (.int _ _) .nil⟩
theorem ak4(ht:P.underlying t=some .bool):Rd T P W t (fun _:Bool=>True) (fun b=>[.bool b]):=by
 intro H enc sp held fuel cs x h;obtain⟨n,rfl,_⟩:=DataW.trod_bool ht h;exact⟨n,trivial,.cons _ _ _ _ (.bool _) .nil⟩
theorem Cc(ht:P.underlying t=some .string):Rd T P W t (fun s:LU=>s.length<=maxLen) (fun s=>[.str s]):=by
 intro H enc sp held fuel cs x h;obtain⟨⟨⟨s⟩⟩,rfl,_,hw⟩:=DataW.trod_string ht h;exact⟨s,hw,.cons _ _ _ _ (.str _) .nil⟩
theorem Vm{W:World}{a:Addr}{n:Nat}{cs:List Value}(h:W.cells? 0 a n=some cs):cs.length=n/\∀j,j<n->W.cell? (a.add j)=cs[j]? /\cs[j]?.isSome:=by
 unfold World.cells? at h;split at h
 ·have hl:=mapM_some_length h;refine⟨by simpa using hl,fun j hj=>?_⟩
  have hg:=mapM_some_get h j j (by simp[hj])
  refine⟨hg,?_⟩;rw[List.getElem?_eq_getElem (by rw[show cs.length=n by simpa using hl];exact hj)]
  rfl
 ·cases h
theorem cell_spot{W:World}{a:Addr}{v:Value}(h:W.cell? a=some v):a.spot=none:=by
 unfold World.cell? at h;split at h
 ·split at h
  ·cases h
  ·rename_i hs;cases hx:a.spot with
   |none=>rfl
   |some y=>rw[hx]at hs;simp at hs
 ·cases h
theorem O8{α:Type}{R:Nat->α->Prop}:∀(n:Nat),(∀i,i<n->∃x,R i x)->∃xs:List α,xs.length=n/\∀i (x:α),xs[i]?=some x->R i x
 |0,_=>⟨[],rfl,fun i x h=>by simp at h⟩
 |n+1,h=>by
  obtain⟨xs,h1,h2⟩:=O8 n fun i hi=>h i (by omega)
  obtain⟨y,hy⟩:=h n (by omega)
  refine⟨xs++[y],by simp[h1],fun i x hx=>?_⟩
  rw[List.getElem?_append]at hx;split at hx
  ·exact h2 i x hx
  ·have:i-xs.length=0:=by
    have:=(List.getElem?_eq_some_iff.mp hx).1;simpa using this
   rw[this]at hx;simp at hx;subst hx;have:i=n:=by omega
   subst this;exact hy
theorem acR{γ:Gh}{α:Type}{f:α->LA}{k:Nat}(hk:∀x,(f x).length=k){b:Nat}:∀(xs:List α) (off:Nat),(∀i (x:α),xs[i]?=some x->∀j a,(f x)[j]?=some a->∃v,γ.im b (off+i*k+j)=some v/\VR γ a v)->CR γ (xs.flatMap f) b off
 |[],off,_=>.nil _ _
 |x::xs,off,h=>by
  rw[List.flatMap_cons];refine CR.of_get fun i a ha=>?_;rw[List.getElem?_append]at ha;split at ha
  ·have:=h 0 x rfl i a ha;simpa using this
  ·rename_i hi;rw[hk]at ha hi;have ih:=acR hk xs (off+k) (fun i' x' hx' j a' ha'=>by
    have:=h (i'+1) x' (by simpa using hx') j a' ha'
    obtain⟨v,h1,h2⟩:=this;exact⟨v,by rw[<-h1];congr 1;rw[Nat.add_mul];omega,h2⟩)
   obtain⟨v,h1,h2⟩:=ih.get ha;exact⟨v,by rw[<-h1];congr 1;omega,h2⟩
theorem MQ {α:Type} {Q:α->Prop} {f:α->LA} {k:Nat} (ht:P.underlying t=some (.slice e)) (hc:P.cellsOf e=k) (hk:∀x,(f x).length=k) (hpos:0<k) (hu:∀x,∀a∈f x,isByte a=false) (he:Rd T P W e Q f):
  Rd T P W t (fun xs:List α=>xs.length<=maxLen/\∀x∈xs,Q x) (fun xs=>[.sl xs.length (xs.flatMap f)]):=by
 intro H enc sp held fuel cs x h;rcases DataW.trod_slice ht h with⟨rfl,_⟩|⟨a,len,cap,elems,rest,n,_,rfl,_,_,hle,hcap,hel,hat,_,_⟩
 ·exact⟨[],⟨Nat.zero_le _,fun x hx=>by cases hx⟩,.cons _ _ _ _ .slNil .nil⟩
 ·rw[hc]at hat
  have hs0:0<len->a.spot=none:=fun h0=>by
   have h1:=hat 0 h0;rw[List.getElem?_eq_getElem (by omega),Option.bind_eq_some_iff]at h1
   obtain⟨c1,hc1,_⟩:=h1;obtain⟨_,hg⟩:=Vm hc1;obtain⟨h2,h3⟩:=hg 0 hpos;obtain⟨v,hv⟩:=Option.isSome_iff_exists.mp h3;rw[hv]at h2;have:=cell_spot h2;simpa[Addr.add]using this
  have:∀i,i<len->∃y:α,Q y/\a.spot=none/\∀j av,(f y)[j]?=some av->∃v,(gh0 T W).im a.block (a.off+i*k+j)=some v/\VR (gh0 T W) av v:=by
   intro i hi;have hi2:i<elems.length:=by omega
   have h1:=hat i hi;rw[List.getElem?_eq_getElem hi2,Option.bind_eq_some_iff]at h1;obtain⟨c1,hc1,hy⟩:=h1;obtain⟨y,hq,hv⟩:=he H enc sp held n c1 _ hy;obtain⟨hl,hg⟩:=Vm hc1;have hs:=hs0 (by omega)
   refine⟨y,hq,hs,fun j av hav=>?_⟩;have hj:j<k:=by rw[<-hk y];exact(List.getElem?_eq_some_iff.mp hav).1
   obtain⟨v,h4,h5⟩:=hv.get hav;refine⟨v,im0 ?_ (akw h5 (hu y av (List.mem_of_getElem? hav))),h5⟩;rw[<-h4,<-(hg j hj).1];obtain⟨ab,ao,asp⟩:=a;simp at hs;subst hs;rw[addr_add,addr_add]
  obtain⟨xs,hxl,hx⟩:=O8 len this;refine⟨xs,⟨by omega,fun x hx'=>?_⟩,.cons _ _ _ _ ?_ .nil⟩
  ·obtain⟨i,hi,rfl⟩:=List.getElem_of_mem hx';exact(hx i _ (List.getElem?_eq_getElem hi)).1
  ·cases xs with
   |nil=>
    simp at hxl;subst hxl;exact .slEmp _ _
   |cons y ys=>
    have hs:=(hx 0 y rfl).2.1;have ea:a=⟨a.block,a.off,none⟩:=by cases a;simp_all
    rw[ea,<-hxl];refine .sl _ _ _ _ _ (acR hk _ _ fun i x hx' j av hav=>(hx i x hx').2.2 j av hav) (by omega)
def RdF(T:Nat->Bool)(P:Program)(W:World):List Field->Nat->{α:Type}->(α->Prop)->(α->LA)->Prop:=fun fs off α Q f=>
 ∀(H:Type) (enc:TypeId×Value->H) (sp:Nat->Bool) (held:Bool) (fuel:Nat) (cs:List Value),(∀g∈fs,(DataW.trod enc P W 0 sp held fuel g.type ((cs.drop g.offset).take (P.cellsOf g.type))).isSome)->cs.length=off+(fs.map fun g=>P.cellsOf g.type).sum->∃a,Q a/\VRs (gh0 T W) (f a) (cs.drop off)
theorem D7{off:Nat}:RdF T P W [] off (fun _:Unit=>True) (fun _=>[]):=by
 intro H enc sp held fuel cs _ hl;refine⟨(),trivial,?_⟩;rw[List.drop_eq_nil_of_le (by simp at hl;omega)]
 exact .nil
theorem gq {α β:Type} {Q:α->Prop} {f:α->LA} {Q':β->Prop} {f':β->LA} {g:Field} {fs:List Field} {off:Nat} (ho:g.offset=off) (h:Rd T P W g.type Q f) (hf:RdF T P W fs (off+P.cellsOf g.type) Q' f'):
  RdF T P W (g::fs) off (fun x:α×β=>Q x.1/\Q' x.2) (fun x=>f x.1++f' x.2):=by
 intro H enc sp held fuel cs hall hl;obtain⟨y,hy⟩:=Option.isSome_iff_exists.mp (hall g (by simp))
 obtain⟨a,hq,hv⟩:=h H enc sp held fuel _ _ hy;obtain⟨b,hq',hv'⟩:=hf H enc sp held fuel cs (fun g' hg'=>hall g' (by simp[hg'])) (by simp at hl;omega)
 refine⟨(a,b),⟨hq,hq'⟩,?_⟩;have:cs.drop off=(cs.drop off).take (P.cellsOf g.type)++cs.drop (off+P.cellsOf g.type):=by
  rw[<-List.drop_drop,List.take_append_drop]
 rw[this,<-ho];exact hv.append (by rw[ho];exact hv')
theorem wW{α:Type}{Q:α->Prop}{f:α->LA}{fs:Array Field}(ht:P.underlying t=some (.struct fs))(hc:P.cellsOf t=(fs.toList.map fun g=>P.cellsOf g.type).sum)(h:RdF T P W fs.toList 0 Q f):Rd T P W t Q f:=by
 intro H enc sp held fuel cs x hx;obtain⟨xs,n,_,_,hl,hxl,hat⟩:=DataW.trod_struct ht hx;have:=h H enc sp held n cs (fun g hg=>by
  obtain⟨i,hi,rfl⟩:=List.getElem_of_mem hg;have hi':i<fs.size:=by simpa using hi
  have h2:=hat i fs[i] (by simp[hi'])
  rw[List.getElem?_eq_getElem (by omega)]at h2
  rw[show fs.toList[i]=fs[i]from by simp,h2]
  rfl) (by rw[hl,hc];omega)
 simpa using this
theorem Rd.map{α β:Type}{Q:α->Prop}{f:α->LA}{Q':β->Prop}{f':β->LA}(h:Rd T P W t Q f)(g:α->β)(hq:∀a,Q a->Q' (g a))(hf:∀a,f' (g a)=f a):Rd T P W t Q' f':=by
 intro H enc sp held fuel cs x hx;obtain⟨a,h1,h2⟩:=h H enc sp held fuel cs x hx;exact⟨g a,hq a h1,by rw[hf];exact h2⟩
end
theorem Qg {T:Nat->Bool} {P:Program} {W:World} {t:TypeId} {fs:Array Field} {base:Nat} {v:Value} (ht:P.underlying t=some (.struct fs)) (hv:Value.okWide P W .any base t v) {α:Type} {Q:α->Prop} {f:α->LA} (hr:Rd T P W t Q f) {H:Type} {enc:TypeId×Value->H} {sp:Nat->Bool} {held:Bool} {d:DataW H} {ps:List MemPlace} (h:DataW.Trod enc P W 0 sp held t v d ps):
  ∃a,Q a/\VR (gh0 T W) (.agg (f a)) v:=by
 simp only[Value.okWide,ht]at hv;obtain⟨cs,rfl,_,_⟩:=hv;obtain⟨n,hn⟩:=h;obtain⟨a,hq,hx⟩:=hr H enc sp held n _ _ hn;exact⟨a,hq,.agg _ _ hx⟩
theorem J7 {T:Nat->Bool} {P:Program} {W:World} {t:TypeId} {base:Nat} {v:Value} (hna:∀cs,¬Value.okWide P W .any base t (.agg cs)) (hv:Value.okWide P W .any base t v) {α:Type} {Q:α->Prop} {f:α->AV} (hr:Rd T P W t Q (fun a=>[f a])) {H:Type} {enc:TypeId×Value->H} {sp:Nat->Bool} {held:Bool} {d:DataW H} {ps:List MemPlace} (h:DataW.Trod enc P W 0 sp held t v d ps):
  ∃a,Q a/\VR (gh0 T W) (f a) v:=by
 obtain⟨n,hn⟩:=h;obtain⟨a,hq,hx⟩:=hr H enc sp held n _ _ hn;refine⟨a,hq,?_⟩;have:v.cells.toList=[v]:=by
  cases v with
  |agg cs=>exact absurd hv (hna cs)
  |_=>rfl
 rw[this]at hx;cases hx with
 |cons _ _ _ _ x _=>exact x
theorem amn{P:Program}{W:World}{t:TypeId}{base:Nat}(ht:P.underlying t=some .string):∀cs,¬Value.okWide P W .any base t (.agg cs):=fun cs h=>by simp[Value.okWide,ht,Cell.okWide,Cell.ok]at h
theorem abJ{P:Program}{W:World}{t:TypeId}{base:Nat}{k:IntKind}(ht:P.underlying t=some (.int k)):∀cs,¬Value.okWide P W .any base t (.agg cs):=fun cs h=>by simp[Value.okWide,ht,Cell.okWide,Cell.ok]at h
theorem ahD{P:Program}{W:World}{t e:TypeId}{base:Nat}(ht:P.underlying t=some (.slice e)):∀cs,¬Value.okWide P W .any base t (.agg cs):=fun cs h=>by simp[Value.okWide,ht,Cell.okWide,Cell.ok]at h
theorem ab3 {C:Ctx} {call:bD} (hc:fO C call) {f:FuncId} (hf:EG C.P f) (hn:C.np=true) {azs:LA} {b:Bool} (h:call f azs []=some (.bool b,[])) {W:World} (tabs:∀g l,C.gl g=some l->Tab W g l) {args:List Value} (ha:VRs (gh0 (Ii C) W) azs args):
  Calls C.P f ⟨args⟩ W fun e w'=>e=.returned (.bool b)/\Below W.heap.size W w':=by
 have hd:=hc f azs [] (.bool b) [] h (gh0 (Ii C) W) W args ha (wr0 (acb tabs)) (gl0 hn tabs);unfold Does at hd;rw[hf.enter]at hd;refine Calls.mono hd fun e w' ⟨v2,he,g',hgo,hr⟩=>?_;cases hr;exact⟨he,hgo.os,hgo.tape,hgo.output,hgo.size,fun k hk=>(hgo.fr k hk (fun o x hx=>by simp at hx)).2.1⟩
theorem aki{g g':Gh}{a:AV}{v:Value}(h:UW a=true)(hv:VR g a v):VR g' a v:=by
 cases hv<;>first|(cases h;done)|constructor
theorem abP {C D:Ctx} {call:bD} (hc:fO C call) (hP:D.P=C.P) (hgl:D.gl=C.gl) (hs:∀n l,C.gl n=some l->l.all UW=true) {f:FuncId} {b:Bool} (h:call f [] []=some (.bool b,[])):
  POK D f fun args O=>match args with|[]=>some (.bool b,O)|_=>none:=by
 intro args O v O' h1 g w args' ha hw hg;dsimp only at h1;split at h1
 ·cases h1;cases ha;have hw2:WR ⟨fun _=>true,0,g.ob,g.bs,fun b i=>if g.pl b then g.im b i else none⟩ w []:=⟨rfl,fun b i v hv=>(by
   dsimp only at hv;split at hv
   ·exact hw.im b i v hv
   ·cases hv),fun b i v hv=>(by
   dsimp only at hv;split at hv
   ·rename_i hp;rcases hw.uf b i v hv with hq|hq
    ·rw[hp]at hq;cases hq.1
    ·exact .inr hq
   ·cases hv),fun o x hx=>by simp at hx,fun o o' x x' hx=>by simp at hx⟩
  have hd:=hc f [] [] (.bool b) [] h _ w [] .nil hw2 ⟨fun n l hl=>⟨?_,rfl⟩,.inr fun _=>rfl⟩
  ·rw[<-hP]at hd;have mono:∀v' w',(∃g',Goes ⟨fun _=>true,0,g.ob,g.bs,fun b i=>if g.pl b then g.im b i else none⟩ [] w g' [] w'/\VR g' (.bool b) v')->∃g',Goes g O w g' O w'/\VR g' (.bool b) v':=by
    rintro v' w' ⟨g',hgo,hr⟩;cases hr;exact⟨g,ul hw ⟨hgo.os,hgo.tape,hgo.output,hgo.size,fun k hk=>(hgo.fr k hk (fun o x hx=>by simp at hx)).2.1⟩,.bool _⟩
   unfold Does at hd⊢;split at hd
   ·exact Calls.mono hd fun e w' ⟨v2,he,hR⟩=>⟨v2,he,mono _ _ hR⟩
   ·exact mono _ _ hd
   ·exact hd
  ·obtain⟨h3,h4⟩:=hg.1 n l (by rw[hgl];exact hl)
   refine CR.of_get fun i a hi=>?_;obtain⟨v,h5,h6⟩:=h3.get hi;refine⟨v,?_,aki (List.all_eq_true.mp (hs n l hl) a (List.mem_of_getElem? hi)) h6⟩;dsimp only;rw[if_pos h4];exact h5
 ·cases h1
open Go.RowKit Go.ChangeShapes
theorem IW {H:Type} {enc:TypeId×Value->H} {P:Program} {W W':World} (hl:laidOutB P=true) (hb:Below W.heap.size W W'):∀{ts:List TypeId} {vs:List Value} {ds:List (DataW H)} {ps:List MemPlace},(ts.all fun t=>P.readableRec t&&decide (t<P.types.size))=true->
  DataW.TrodAll enc P W 0 (fun _=>true) true ts vs ds ps->(∀x∈ps,x.block<W.heap.size)->DataW.TrodAll enc P W' 0 (fun b=>decide (b<W.heap.size)) true ts vs ds ps
 |[],vs,ds,ps,_,h,_=>by
  obtain⟨rfl,rfl,rfl⟩:=trodAll_nil h;rfl
 |t::ts,vs,ds,ps,ht,h,hlt=>by
  obtain⟨v,vs',d,ds',p,q,rfl,rfl,rfl,h1,h2⟩:=trodAll_cons h;simp only[List.all_cons,Bool.and_eq_true,decide_eq_true_eq]at ht;exact trodAll_cons_mk (Below.trod hl ht.1.1 ht.1.2 h1 hb fun x hx=>hlt x (by simp[hx])) (IW hl hb (by simpa using ht.2) h2 fun x hx=>hlt x (by simp[hx]))
theorem YC{H:Type}{enc:TypeId×Value->H}{P:Program}{W:World}{b:Nat}{sp:Nat->Bool}{hd:Bool}:∀(fuel:Nat) (t:TypeId) (l:Lit) (p:List MemPlace),DataW.trod enc P W b sp hd fuel t []≠some (.lit l,p)
 |0,t,l,p,h=>by cases h
 |fuel+1,t,l,p,h=>by
  unfold DataW.trod at h;split at h;all_goals first
   |(cases h;done)
   |(rename_i h1;cases h1;done)
   |(rename_i h1 _;cases h1;done)
   | (split at h
      ·rw[Option.map_eq_some_iff]at h;obtain⟨x,_,e⟩:=h;cases e
      ·cases h)
theorem ahw{α β:Type}(f:α->Option β){l:List α}{x:β}(h:l.mapM f=some [x]):∃a,f a=some x:=by
 cases l with
 |nil=>simp at h
 |cons a r=>
  rw[List.mapM_cons]at h;cases ha:f a with
  |none=>rw[ha]at h;cases h
  |some y=>
   rw[ha]at h;simp only[Option.bind_eq_bind,Option.bind_some]at h;rw[Option.bind_eq_some_iff]at h;obtain⟨ys,_,e⟩:=h;cases e;exact⟨a,ha⟩
theorem YB{H:Type}{enc:TypeId×Value->H}{P:Program}{W:World}{b:Nat}{sp:Nat->Bool}{hd:Bool}(fuel:Nat)(t:TypeId)(l:Lit)(p:List MemPlace)(h:DataW.trod enc P W b sp hd fuel t []=some (.agg [.lit l],p)):False:=by
 cases fuel with
 |zero=>cases h
 |succ fuel=>
  unfold DataW.trod at h;split at h;all_goals first
   |(cases h;done)
   |(rename_i h1;cases h1;done)
   |(rename_i h1 _;cases h1;done)
   | (split at h
      ·rw[Option.map_eq_some_iff]at h;obtain⟨xs,h1,e⟩:=h;have e1:=congrArg (fun x=>match x.1 with|DataW.agg l=>l|_=>[]) e
       dsimp only at e1
       match xs,e1 with
       |_::_::_,e1=>simp at e1
       |[y],e1=>
        obtain⟨z,hz⟩:=ahw _ h1;have:y.1=.lit l:=by simpa using e1
        simp only[List.drop_nil,List.take_nil]at hz;obtain⟨y1,y2⟩:=y;dsimp only at this;subst this;exact YC _ _ _ _ hz
      ·cases h)
theorem aiJ {H:Type} {enc:TypeId×Value->H} {P:Program} {W:World} {b:Nat} {sp:Nat->Bool} {fuel:Nat} {u:TypeId} {cs:List Value} {d:DataW H} {p:List MemPlace} (h:DataW.trod enc P W b sp false fuel u cs=some (.ptr d,p)):
  ∃n e a cs' p',P.underlying u=some (.pointer e)/\cs=[.pointer (some a)]/\W.cells? b a (P.cellsOf e)=some cs'/\DataW.trod enc P W b sp false n e cs'=some (d,p'):=by
 cases fuel with
 |zero=>cases h
 |succ fuel=>
  unfold DataW.trod at h;split at h
  case h_6 e a he=>
   rw[Option.map_eq_some_iff]at h;obtain⟨x,hx,e1⟩:=h;rw[Option.bind_eq_some_iff]at hx;obtain⟨cs',h1,h2⟩:=hx;cases e1;exact⟨fuel,_,_,cs',x.2,he,rfl,h1,h2⟩
  all_goals first
   |(cases h;done)
   |(rw[Option.map_eq_some_iff]at h;obtain⟨x,_,e⟩:=h;cases e;done)
   |(split at h<;>first
    |(cases h;done)
    |(rw[Option.map_eq_some_iff]at h;obtain⟨x,_,e⟩:=h;cases e;done)
    |(rw[Option.bind_eq_some_iff]at h;obtain⟨y,_,h⟩:=h;rw[Option.map_eq_some_iff]at h;obtain⟨x,_,e⟩:=h;cases e;done)
    |(dsimp only at h;split at h<;>first
     |(cases h;done)
     |(rw[Option.bind_eq_some_iff]at h;obtain⟨y,_,h⟩:=h;split at h<;>first|(cases h;done)|(rw[Option.map_eq_some_iff]at h;obtain⟨x,_,e⟩:=h;cases e;done))))
theorem amm{P:Program}{W:World}{t e:TypeId}{base:Nat}(ht:P.underlying t=some (.pointer e)):∀cs,¬Value.okWide P W .any base t (.agg cs):=fun cs h=>by simp[Value.okWide,ht,Cell.okWide,Cell.ok]at h
theorem ZL {P:Program} {W:World} {laid:List (String×DataW Unit)} (h:laidMet P laid W) {n name:String} {s:LU} {t:TypeId} {ms:Array (String×TypeId)} {g:Nat} (hm:(n,.iface name (.ptr (.agg [.lit (.string s)])))∈laid)
  (h1:P.globalNamed n=some g) (h2:(P.globals[g]?).map (·.type)=some t) (h3:P.underlying t=some (.interface ms)):∃u,Tab W g [.iface u (.eptr [])]:=by
 obtain⟨ps,hL,_,hc⟩:=h;obtain⟨g',t',cs,fuel,p,k1,k2,k3,k4,k5⟩:=XV hL hm;obtain rfl:=Option.some.inj (h1.symm.trans k1);obtain rfl:=Option.some.inj (h2.symm.trans k2);have hv:∃n' u v p',cs.toList=[.iface u v]/\DataW.trod (fun _=>()) P W 0 (fun _=>true) false n' u v.cells.toList=some (.ptr (.agg [.lit (.string s)]),p'):=by
  generalize cs.toList=l at k4;cases fuel with
  |zero=>cases k4
  |succ fuel=>
   unfold DataW.trod at k4;rw[h3]at k4
   match l,k4 with
   |[.nilIface],k4=>cases k4
   |[.iface u v],k4=>
    dsimp only at k4;cases hn:P.typeName? 3 u with
    |none=>rw[hn]at k4;cases k4
    |some nm=>
     rw[hn]at k4;dsimp only at k4;rw[Option.map_eq_some_iff]at k4;obtain⟨x,hx,e⟩:=k4;cases x with
     |mk d q=>
      cases e;exact⟨fuel,u,v,_,rfl,hx⟩
 obtain⟨n',u,v,p',hcs,hv⟩:=hv;have hsz:cs.size=1:=by
  have:=congrArg List.length hcs;simpa using this
 have h0:MemPlace.cell g 0∈ps:=k5 _ (by simp[MemPlace.row,hsz])
 obtain⟨⟨c,e',hh⟩,hok⟩:=hc g 0 h0;have hccs:c=cs:=by
  unfold World.var? at k3;rw[h1]at k3;simp only[Option.bind_some,hh,Option.some.injEq]at k3;exact k3
 subst hccs;have c0:c[0]?=some (.iface u v):=by
  rw[<-Array.getElem?_toList,hcs];rfl
 have hok:=hok u v (by unfold World.cell?;rw[hh];exact c0)
 obtain⟨n2,e2,a,cs',p2,q1,q2,q3,q4⟩:=aiJ hv;have ev:v=.pointer (some a):=by
  cases v with
  |agg l=>exact absurd hok (amm q1 l)
  |_=>exact(List.cons.inj q2).1
 subst ev;have hsp:a.spot=none:=by
  cases hs:a.spot with
  |none=>rfl
  |some k=>
   exfalso;have hcell:W.cell? (a.add 0)=none:=by
    show W.cell? a=none;unfold World.cell?;rw[hs];split<;>rfl
   have:cs'=[]:=by
    unfold World.cells? at q3;rw[if_pos (Nat.zero_le _)]at q3;cases hn:P.cellsOf e2 with
    |zero=>rw[hn]at q3;simpa using q3.symm
    |succ m=>
     rw[hn,List.range_succ_eq_map]at q3;simp[hcell]at q3
   subst this;exact YB _ _ _ _ q4
 obtain⟨b,o,sp⟩:=a;dsimp only at hsp;subst hsp;exact⟨u,c,e',hh,fun i x hx=>by
  cases i with
  |zero=>
   simp only[List.getElem?_cons_zero,Option.some.injEq]at hx;subst hx;exact⟨_,c0,fun γ=>.iface _ _ _ (.eptr _ _ _ (.nil _ _))⟩
  |succ i=>simp at hx⟩
theorem EVA:type_of%@look_nil/\type_of%@Ho/\type_of%@Me/\type_of%@Hm/\type_of%@J8/\type_of%@Gs/\type_of%@MW/\type_of%@MV/\type_of%@H6/\type_of%@Ue/\type_of%@JK/\type_of%@Uf/\type_of%@Oi/\type_of%@JJ/\type_of%@HY/\type_of%@Nb/\type_of%@Ec/\type_of%@H5/\type_of%@GZ/\type_of%@Qn/\type_of%@Qo/\type_of%@RI/\type_of%@RJ/\type_of%@Qm/\type_of%@Qw/\type_of%@MJ/\type_of%@aa5/\type_of%@Ws/\type_of%@MI/\type_of%@aja/\type_of%@aj8/\type_of%@aj9/\type_of%@A7/\type_of%@yY/\type_of%@CY/\type_of%@Kt/\type_of%@Gx/\type_of%@KD/\type_of%@Ku/\type_of%@QW/\type_of%@KN/\type_of%@zN/\type_of%@Kv/\type_of%@KE/\type_of%@KA/\type_of%@Kz/\type_of%@Ky/\type_of%@Kw/\type_of%@KG/\type_of%@KH/\type_of%@KI/\type_of%@KJ/\type_of%@KL/\type_of%@AY/\type_of%@xI/\type_of%@wJ/\type_of%@xH/\type_of%@xJ/\type_of%@Dl/\type_of%@Gw/\type_of%@Dq/\type_of%@Dp/\type_of%@Dn/\type_of%@xm/\type_of%@AZ/\type_of%@uX/\type_of%@uV/\type_of%@qc/\type_of%@zO/\type_of%@YE/\type_of%@YD/\type_of%@Du/\type_of%@G6/\type_of%@GI/\type_of%@LC/\type_of%@GR/\type_of%@LJ/\type_of%@Dw/\type_of%@G9/\type_of%@GN/\type_of%@LH/\type_of%@Dv/\type_of%@G7/\type_of%@Dx/\type_of%@Ha/\type_of%@GH/\type_of%@Lu/\type_of%@KR/\type_of%@He/\type_of%@GU/\type_of%@LK/\type_of%@GM/\type_of%@LG/\type_of%@GK/\type_of%@LD/\type_of%@yZ/\type_of%@Bj/\type_of%@cells_func/\type_of%@G8/\type_of%@xn/\type_of%@zk/\type_of%@Ba/\type_of%@DT/\type_of%@vg/\type_of%@xx/\type_of%@GG/\type_of%@BG/\type_of%@BF/\type_of%@aj.eq_1/\type_of%@aj.eq_2/\type_of%@aj.eq_3/\type_of%@aj.eq_4/\type_of%@aj.eq_5/\type_of%@aj.eq_6/\type_of%@aj.eq_7/\type_of%@aj.eq_8/\type_of%@aj.eq_9/\type_of%@Qh/\type_of%@QU/\type_of%@QV/\type_of%@Ko/\type_of%@NG/\type_of%@J9/\type_of%@Kq/\type_of%@Xm/\type_of%@acE/\type_of%@Xp/\type_of%@Xo/\type_of%@Xn/\type_of%@Gu/\type_of%@Qi/\type_of%@Dk/\type_of%@EM/\type_of%@xE/\type_of%@QT/\type_of%@aj.eq_10/\type_of%@aj.eq_11/\type_of%@XP/\type_of%@aj.eq_13/\type_of%@aj.eq_14/\type_of%@aj.eq_15/\type_of%@aj.eq_16/\type_of%@aj.eq_18/\type_of%@aj.eq_19/\type_of%@aj.eq_20/\type_of%@aj.eq_21/\type_of%@aj.eq_22/\type_of%@aj.eq_23/\type_of%@aj.eq_24/\type_of%@aj.eq_25/\type_of%@aj.eq_26/\type_of%@aj.eq_27/\type_of%@aj.eq_28/\type_of%@aj.eq_29/\type_of%@aj.eq_30/\type_of%@aj.eq_31/\type_of%@aj.eq_32/\type_of%@aj.eq_33/\type_of%@aj.eq_34/\type_of%@aj.eq_35/\type_of%@aj.eq_36/\type_of%@aj.eq_37/\type_of%@qM/\type_of%@aj.eq_39/\type_of%@aj.eq_40/\type_of%@aj.eq_41/\type_of%@aj.eq_42/\type_of%@aj.eq_43/\type_of%@aj.eq_44/\type_of%@aj.eq_45/\type_of%@aj.eq_46/\type_of%@aj.eq_47/\type_of%@LZ:=
 ⟨@look_nil,@Ho,@Me,@Hm,@J8,@Gs,@MW,@MV,@H6,@Ue,@JK,@Uf,@Oi,@JJ,@HY,@Nb,@Ec,@H5,@GZ,@Qn,@Qo,@RI,@RJ,@Qm,@Qw,@MJ,@aa5,@Ws,@MI,@aja,@aj8,@aj9,@A7,@yY,@CY,@Kt,@Gx,@KD,@Ku,@QW,@KN,@zN,@Kv,@KE,@KA,@Kz,@Ky,@Kw,@KG,@KH,@KI,@KJ,@KL,@AY,@xI,@wJ,@xH,@xJ,@Dl,@Gw,@Dq,@Dp,@Dn,@xm,@AZ,@uX,@uV,@qc,@zO,@YE,@YD,@Du,@G6,@GI,@LC,@GR,@LJ,@Dw,@G9,@GN,@LH,@Dv,@G7,@Dx,@Ha,@GH,@Lu,@KR,@He,@GU,@LK,@GM,@LG,@GK,@LD,@yZ,@Bj,@cells_func,@G8,@xn,@zk,@Ba,@DT,@vg,@xx,@GG,@BG,@BF,@aj.eq_1,@aj.eq_2,@aj.eq_3,@aj.eq_4,@aj.eq_5,@aj.eq_6,@aj.eq_7,@aj.eq_8,@aj.eq_9,@Qh,@QU,@QV,@Ko,@NG,@J9,@Kq,@Xm,@acE,@Xp,@Xo,@Xn,@Gu,@Qi,@Dk,@EM,@xE,@QT,@aj.eq_10,@aj.eq_11,@XP,@aj.eq_13,@aj.eq_14,@aj.eq_15,@aj.eq_16,@aj.eq_18,@aj.eq_19,@aj.eq_20,@aj.eq_21,@aj.eq_22,@aj.eq_23,@aj.eq_24,@aj.eq_25,@aj.eq_26,@aj.eq_27,@aj.eq_28,@aj.eq_29,@aj.eq_30,@aj.eq_31,@aj.eq_32,@aj.eq_33,@aj.eq_34,@aj.eq_35,@aj.eq_36,@aj.eq_37,@qM,@aj.eq_39,@aj.eq_40,@aj.eq_41,@aj.eq_42,@aj.eq_43,@aj.eq_44,@aj.eq_45,@aj.eq_46,@aj.eq_47,@LZ⟩
end Go.Ev
