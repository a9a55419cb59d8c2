/- Code. No conditions. -/
import Derived.Test.YtaaomenfchndjaaGreatDoorCC
set_option linter.unusedVariables false
set_option linter.unusedSimpArgs false
set_option linter.defProp false
set_option maxRecDepth 100000
open _root_ renaming rfl→w8,List→W,Int→P,Nat→X,Option→R,if_pos→j0,decide_eq_true_eq→j6,if_neg→j8,Bool→L,trivial→E,UInt8→Z6,congrArg→y
open Go.Ev.AO renaming below→w9
open Go.Ev renaming splice→k9,EVX→N,below→j7,ofBytes→O,tidy→w,a03→j9,thrown→X1,hand→T,a96→X2,avA→D,a08→Z0,a94→Z1,a05→F,a97→Z2,a09→Z3,a02→Q,Ctx→H,Has→v,NVs→q,TOp→k
open Decidable renaming decide→I
open List renaming replicate→Y,find?_cons_of_pos→b,find?_append→a,find?_cons_of_neg→K,find?_cons→j,take_take→B,find?_nil→K0
open Min renaming min→t
open Go renaming FuncId→g
open Nat renaming beq→p,blt→c
namespace Go.Ev
open Option renaming some→J, none→U
open List renaming length→z
open Bool renaming false→eF, true→eT
open Go.IntKind renaming i64→r
variable{C:Ctx}{PK:PkI}
def alW(H:BldHas C){o:X}{Y:St}{w:LU}{qo:R X}(a:Ok Y)(hb:Bk Y o w qo):∃b c,ai C iq [.da o 0] Y=J (.dT,c)/\c[o]?=J (.cP [.da o 0,b] bT)/\z c=z Y/\Ok c/\(∀i x,i≠o->Y[i]?=J x->c[i]?=J x)/\((qo=U/\w=[]/\b=.cY)\/∃q,qo=J q/\q≠o/\w≠[]/\b=.dj q 0 (z w) 1/\c[q]?=J (.cP (O w) uT)):=by
 have e:=hb.lt;obtain⟨p,b,d,h2,h3⟩:=hb;rcases h2 with rfl|rfl
 ·refine⟨b,_,H.k7 Y o b d,bF d _,by simp,?_,λi x hi f=>aH f hi _,?_⟩;·refine a.bd o ?_;have:=aB0.mp a _ (a06 d);simp only[w9,ae,j7,aE1,Q,j6]at this⊢;exact⟨e,this.2⟩
  ·rcases h3 with h3|⟨q,e1,e2,e3,e4,e5⟩;·exact .inl h3
   ·exact .inr ⟨q,e1,e2,e3,e4,aH e5 e2 _⟩
 ·exact⟨b,Y,H.k8 Y o b d,d,w8,a,λ_ _ _ h=>h,h3⟩
def apF {o:X} {Y:St} {w cs:LU} {b:AV} {qo:R X} (a:Ok Y) (c:Y[o]?=J (.cP [.da o 0,b] bT)) (h3:(qo=U/\w=[]/\b=.cY)\/∃q,qo=J q/\q≠o/\w≠[]/\b=.dj q 0 (z w) 1/\Y[q]?=J (.cP (O w) uT)) (g:cs≠[]) (d:z w+z cs<=1099511627776):
  ∃S:St,uD Y 1 1 (J (5,eF)) b (z cs) (O cs)=J (.dj (z Y) 0 (z (w++cs)) 1,S++[.cP (O (w++cs)) uT])/\z S=z Y/\S[o]?=J (.cP [.da o 0,b] bT)/\(∀i x,qo≠J i->Y[i]?=J x->S[i]?=J x)/\Ok S:=by
 have f:¬z cs=0:=λe=>g (aB7 e);rcases h3 with⟨rfl,rfl,rfl⟩|⟨q,rfl,e2,e3,rfl,e5⟩;·refine⟨Y,?_,w8,c,λ_ _ _ h=>h,a⟩;rw[Nw _ _ (O cs) f (by simp at d;omega) (by simp at d;omega)];rfl
 ·refine⟨Y.set q .em,?_,by simp,aH c (λe=>e2 e.symm) _,λi x hi j=>aH j (λe=>hi (by rw[e])) _,a.bd q w8⟩;unfold uD;rw[j8 f];simp only[e5];rw[j0 ⟨E,by rw[aJ];omega,by omega,by omega⟩,Qn,j9];rfl
def IA (H:BldHas C) {o:X} {Y:St} {w:LU} {qo:R X} (s:LU) (m:Ok Y) (hb:Bk Y o w qo) (E:z w+z s<=1099511627776):
  ∃h f,ai C qL [.da o 0,.cU s] Y=J (.de [.cQ r (z s),.eb],h)/\Bk h o (w++s) f/\TrB o Y qo h f:=by
 have G:=hb.lt;obtain⟨b,g,t,a,c,u,v,d⟩:=alW H m hb;have F:T eF [.da o 0,.cU s] Y=J ([.da o 0,.cU s],Y):=w8;rw[H.nq.go F];by_cases hs:s=[]
 ·subst hs;have D:uD g 1 1 (J (5,eF)) b 0 []=J (b,g):=(by rcases d with⟨_,_,rfl⟩|⟨q,_,_,_,rfl,_⟩<;>rfl);have B:=FI g [.cQ r 0,.eb];rw[c]at B;have K:=set_self a;have fb:b.Q=eT:=(by rcases d with⟨_,_,rfl⟩|⟨q,_,_,_,rfl,_⟩<;>rfl);refine⟨g,qo,?_,?_,u,by rw[c];exact Z3 _,λi x hi _ k=>v i x hi k,λi e=>.inl e⟩;·dsimp only[bT]at*;rcases d with⟨_,_,rfl⟩|⟨q,_,_,_,rfl,_⟩<;>simp only[kU,t,a,D,B,K,k9,O,List.map_nil,X2,AV.Q,AV.cP,N,seval]
  ·rw[aB3];exact⟨_,b,a,.inr w8,d⟩
 ·obtain⟨S,a1,a2,a3,a4,a5⟩:=apF u a d hs E;have fl:=AQ s;rw[c]at a1;have A:=λL y=>gZ a3 L y;have sg:=λL=>aj a3 L;have n:Ok (S.set o (.cP [.da o 0,.dj (z Y) 0 (z (w++s)) 1] bT)++[.cP (O (w++s)) uT]):=by
   have:=(Ok.eD a5 (l:=[.cP (O (w++s)) uT]) (by simp[w9,nT])).bd o (x:=.cP [.da o 0,.dj (z Y) 0 (z (w++s)) 1] bT) (by
    simp only[w9,ae,j7,aE1,a02,j6,j9,Z1,X2];omega)
   rwa[A]at this
  have j:Bk (S.set o (.cP [.da o 0,.dj (z Y) 0 (z (w++s)) 1] bT)++[.cP (O (w++s)) uT]) o (w++s) (J (z Y)):=by refine⟨_,_,aj (bF a3 _) _,.inr w8,.inr ⟨_,w8,by omega,by simp[hs],w8,?_⟩⟩;rw[aU (by simp[a2,c])];rfl
  have p:TrB o Y qo (S.set o (.cP [.da o 0,.dj (z Y) 0 (z (w++s)) 1] bT)++[.cP (O (w++s)) uT]) (J (z Y)):=by refine⟨n,by simp[a2,c],λi x hi I k=>aj (aH (a4 i x I (v i x hi k)) hi _) _,λi e=>.inr ?_⟩;cases e;exact Z3 _
  obtain⟨t1,t2⟩:=aaI [.cQ r (z s),.eb] G p j;refine⟨_,_,?_,t2,t1⟩;dsimp only[bT,uT]at*;simp only[kU,t,a,a1,A,sg,fl,k9,AV.Q,AV.cP,N,seval]
def AY (H:BldHas C) {o:X} {Y:St} {w:LU} {qo:R X} (c:Z6) (h:Ok Y) (hb:Bk Y o w qo) (u:z w+1<=1099511627776):
  ∃d a,ai C ik [.da o 0,.cQ .u8 c.toNat] Y=J (.eb,d)/\Bk d o (w++[c]) a/\TrB o Y qo d a:=by
 have A:=hb.lt;obtain⟨b,F,p,m,g,q,s,t⟩:=alW H h hb;have v:T eF [.da o 0,.cQ .u8 c.toNat] Y=J ([.da o 0,.cQ .u8 c.toNat],Y):=w8;rw[H.mm.go v];obtain⟨S,a1,a2,a3,a4,a5⟩:=apF (cs:=[c]) q m t (by simp) u;rw[g]at a1;have n:=λL y=>gZ a3 L y;have sg:=λL=>aj a3 L;have j:Ok (S.set o (.cP [.da o 0,.dj (z Y) 0 (z (w++[c])) 1] bT)++[.cP (O (w++[c])) uT]):=by
  have:=(Ok.eD a5 (l:=[.cP (O (w++[c])) uT]) (by simp[w9,nT])).bd o (x:=.cP [.da o 0,.dj (z Y) 0 (z (w++[c])) 1] bT) (by
   simp only[w9,ae,j7,aE1,a02,j6,j9,Z1,X2];omega)
  rwa[n]at this
 have f:Bk (S.set o (.cP [.da o 0,.dj (z Y) 0 (z (w++[c])) 1] bT)++[.cP (O (w++[c])) uT]) o (w++[c]) (J (z Y)):=by refine⟨_,_,aj (bF a3 _) _,.inr w8,.inr ⟨_,w8,by omega,by simp,w8,?_⟩⟩;rw[aU (by simp[a2,g])];rfl
 have k:TrB o Y qo (S.set o (.cP [.da o 0,.dj (z Y) 0 (z (w++[c])) 1] bT)++[.cP (O (w++[c])) uT]) (J (z Y)):=by refine⟨j,by simp[a2,g],λi x hi B D=>aj (aH (a4 i x B (s i x hi D)) hi _) _,λi e=>.inr ?_⟩;cases e;exact Z3 _
 obtain⟨t1,t2⟩:=aaI [.eb] A k f;refine⟨_,_,?_,t2,t1⟩;have E:O [c]=[.cQ .u8 c.toNat]:=w8;have l1:[c].length=1:=w8;dsimp only[bT,uT]at*;rw[E,l1]at a1;simp only[rZ,p,m,a1,n,sg,k9,AV.Q,AV.cP,N,seval]
structure UB(C:Ctx):Prop extends BldHas C where
 gg:∀s:LU,s.length<=4096->∀O,Ok O->∃(q:LU) (e:Int),ai C zl [.cU s] O=some (.de [.cU q,.cQ .i64 e],O)/\q.length<=65536
 fa:∀n O,Ok O->∃s:LU,ai C UU [.cQ .i64 n] O=some (.cU s,O)/\s.length<=64
 nz:Has C fM DF
 m0:Has C Aw LZ
 m1:Has C xg mQ
def ahQ (H:UB C) {o:X} {Y:St} {w:LU} {qo:R X} (s:LU) (hs:z s<=4096) (a:Ok Y) (hb:Bk Y o w qo) (h:z w+65536<=1099511627776):
  ∃c d b,ai C Aw [.cU s,.da o 0] Y=J (dG [],c)/\Bk c o d b/\TrB o Y qo c b/\z d<=z w+65536:=by
 obtain⟨q,e,q1,q2⟩:=H.gg s hs Y a;obtain⟨S,g,r1,r2,r3⟩:=IA H.toBldHas q a hb (by omega);have f:T eF [.cU s,.da o 0] Y=J ([.cU s,.da o 0],Y):=w8;obtain⟨t1,t2⟩:=aaI [] hb.lt r3 r2;refine⟨_,_,g,?_,t2,t1,by rw[j9];omega⟩;rw[H.m0.go f];simp only[LZ,q1,r1,N,seval]
structure WE(o a b:Nat)(Y:St)(qo:Option Nat):Prop where
 na:a≠o
 nb:b≠o
 qa:qo≠some a
 qb:qo≠some b
 ca:Y[a]?=some (.cP [.dv (.func Aw) [] [.da o 0]] FZ)
 cb:Y[b]?=some (.cP [.dv (.func xg) [] [.da o 0,.da a 0,.da b 0]] FZ)
def TrB.qn{o i:X}{Y b:St}{qo a:R X}(t:TrB o Y qo b a)(hi:i<z Y)(h:qo≠J i):a≠J i:=λe=>by
 rcases t.q _ e with e|e;·exact h e
 ·omega
def WE.bE{o a b:X}{Y d:St}{qo c:R X}(h:WE o a b Y qo)(t:TrB o Y qo d c):WE o a b d c:=
 ⟨h.na,h.nb,t.qn (a00.mp h.ca).1 h.qa,t.qn (a00.mp h.cb).1 h.qb,t.bp _ _ h.na h.qa h.ca,t.bp _ _ h.nb h.qb h.cb⟩
def atO(C:H)(j:JV):Prop:=∀(o a b:X) (Y:St) (w:LU) (e:R X),Ok Y->Bk Y o w e->WE o a b Y e->j.w.hk->z w+j.w.hx*131076<=1099511627776+65538->
 ∃d f c,ai C xg [j.av,.da o 0,.da a 0,.da b 0] Y=J (dG [],d)/\Bk d o f c/\TrB o Y e d c/\z f+65538<=z w+j.w.hx*131076
def am5:∀j:JW,1<=j.hx|.mk _ _ _ _ is=>by show 1<=Tq is+1;omega
def ahP (H:UB C) (is:List JV) (hn:z is<=8192) (M:∀j∈is,atO C j) (o a b:Nat):∀(n i:Nat),i+n=z is->∀(Y:St) (w:LU) (qo:Option Nat),Ok Y->Bk Y o w qo->WE o a b Y qo->abV ((is.drop i).map (·.w))->z w+Tq ((is.drop i).map (·.w))*131076<=1099511627776->
  ∃B V t,aG C (ai C) 76 [1,3,34,35,36] jW [(1,.da o 0),(3,.da b 0),(34,.sl (z is) (aO is)),(35,.cQ r (z is)),(36,.cQ r i)] Y=J (.dq 1,[(1,.da o 0)],B)/\Bk B o V t/\TrB o Y qo B t/\z V<=z w+Tq ((is.drop i).map (·.w))*131076
 |0,i,hi,Y,w,qo,k,hb,N,E,F=>by refine⟨Y,w,qo,?_,hb,.ax k,by omega⟩;rw[aB (he:=w8)];have h:¬((i:Int)<(z is:Int)):=(by omega);simp only[jW,h,EVX,seval]
 |n+1,i,hi,Y,w,qo,k,hb,N,E,F=>by
  have h:((i:Int)<(z is:Int)):=(by omega);have h2:i<z is:=(by omega);have u:=wrS i (by omega);have S:(0:Int)<=(i:Int):=(by omega);have d2:=Dn is i h2;have sl:=jH is;have hj:is[i]∈is:=aD5 h2;have Z:is.drop i=is[i]::is.drop (i+1):=aB6 h2;generalize is[i]=j at*;generalize aO (is.drop (i+1))=R at*;rw[Z,aC9]at E F⊢;obtain⟨g1,g2⟩:=E;rw[Tq]at F⊢;have cp:=am5 j.w;have q:=JV.dt j;have P:=JV.Q j;have Q:(j.B++R).take 5=j.B:=by rw[<-q];simp
  have O:5<=z (j.B++R):=(by simp[q]);have s:j.B.take 5=j.B:=a98 (by rw[JV.dt];exact Z3 _);have aa:5<=z j.B:=by rw[JV.dt];exact Z3 _
  have T:∀a b c d e:AV,k9 [a,b,c,d,e] 0 j.B=j.B:=λa b c d e=>by simp[k9,q]
  have hL:([.cP j.B FZ]:St).all (w9 (z Y+1))=eT:=by simp only[Z0,aC6,aE1,w9];exact aP (Z2 _) _ j.aL
  have f:=TrB.H (o:=o) (qo:=qo) k hL;have m:=hb.H [.cP j.B FZ];have I:=N.bE f;have p:(Y++[AO.cP j.B FZ]:St)[z Y]?=J (.cP j.B FZ):=by rw[aU w8];rfl
  have s1:=λL y=>fV (w8:z Y=_) L y;have ne:z Y≠o:=by have:=hb.lt;omega
  have nq:qo≠J (z Y):=λe=>by have:=hb.n4 e;omega
  have key:∃g u q2,(if 0<(i:Int)then ai C ik [.da o 0,.cQ .u8 44] (Y++[AO.cP j.B FZ])=J (.eb,g)else g=Y++[AO.cP j.B FZ])/\Bk g o u q2/\TrB o (Y++[AO.cP j.B FZ]) qo g q2/\z u<=z w+1:=by
   split;·obtain⟨g,q2,e1,e2,e3⟩:=AY H.toBldHas 44 f.ok m (by omega);exact⟨g,_,q2,e1,e2,e3,by simp⟩
   ·exact⟨_,w,qo,w8,m,.ax f.ok,by omega⟩
  obtain⟨g,G,q2,x,k2,A,k4⟩:=key;have l:=I.bE A;have D:=A.bp _ _ ne nq p;obtain⟨W,w3,q3,e1,e2,e3,e4⟩:=M j hj o a b g G q2 A.ok k2 l g1 (by omega);have K:=l.bE e3;obtain⟨X,w4,q4,f1,f2,f3,f4⟩:=ahP H is hn M o a b n (i+1) (by omega) W w3 q3 e3.ok e2 K g2 (by omega);refine⟨X,w4,q4,?_,f2,((f.N A).N e3).N f3,by omega⟩;have cb:=l.cb;unfold JV.av at e1;rw[aB (he:=w8)];generalize hk:aG C (ai C) 76 [1,3,34,35,36] jW=kk at*;by_cases v:0<(i:Int);·rw[j0 v]at x;simp only[jW,h,h2,u,S,d2,sl,v,x,e1,f1,cb,D,s1,q,P,Q,O,s,T,kV,a90,AV.cP,EVX,seval]
  ·rw[j8 v]at x;subst x;simp only[jW,h,h2,u,S,d2,sl,v,e1,f1,cb,p,s1,q,P,Q,O,s,T,kV,a90,AV.cP,EVX,seval]
def amd (H:UB C) (is:List JV) (ns:List LU) (S:z ns=z is) (t:∀x∈ns,z x<=4096) (hn:z is<=8192) (IH:∀j∈is,atO C j) (c0 c1 c2:AV) (o a b v0:Nat) (hv:v0≠o):∀(n i:Nat),i+n=z is->∀(Y:St) (w:LU) (qo:Option Nat),Ok Y->Bk Y o w qo->WE o a b Y qo->qo≠J v0->Y[v0]?=J (.cP [c0,c1,c2,.sl (z ns) (ns.map .cU),.sl (z is) (aO is)] FZ)->abV ((is.drop i).map (·.w))->z w+Tq ((is.drop i).map (·.w))*131076<=1099511627776->
  ∃N w' A,aG C (ai C) 76 [1,2,3,4,53,54,55] mD [(1,.da o 0),(2,.da a 0),(3,.da b 0),(4,.da v0 0),(53,.sl (z is) (aO is)),(54,.cQ r (z is)),(55,.cQ r i)] Y=J (.dq 3,[(1,.da o 0)],N)/\Bk N o w' A/\TrB o Y qo N A/\z w'<=z w+Tq ((is.drop i).map (·.w))*131076
 |0,i,hi,Y,w,qo,m,hb,hw,_,_,P,Q=>by refine⟨Y,w,qo,?_,hb,.ax m,by omega⟩;rw[aB (he:=w8)];have h:¬((i:Int)<(z is:Int)):=(by omega);simp only[mD,h,EVX,seval]
 |n+1,i,hi,Y,w,qo,m,hb,hw,B,l,P,Q=>by
  have h:((i:Int)<(z is:Int)):=(by omega);have h2:i<z is:=(by omega);have g:i<z ns:=(by omega);have E:=wrS i (by omega);have p2:(0:Int)<=(i:Int):=(by omega);have d2:=Dn is i h2;have dr:=acX ns i g;have sl:=jH is;have sn:z (ns.map AV.cU)=z ns:=(by simp);have hj:is[i]∈is:=aD5 h2;have hx:ns[i].length<=4096:=t _ (aD5 g);have dn:is.drop i=is[i]::is.drop (i+1):=aB6 h2;generalize is[i]=j at*;generalize ns[i]=x at*;generalize hR:aO (is.drop (i+1))=R at*;rw[dn,aC9]at P Q⊢;obtain⟨g1,g2⟩:=P;rw[Tq]at Q⊢;have cp:=am5 j.w;have u:=JV.dt j;have jf:=JV.Q j;have jt:(j.B++R).take 5=j.B:=by rw[<-u];simp
  have je:5<=z (j.B++R):=(by simp[u]);have v:j.B.take 5=j.B:=a98 (by rw[JV.dt];exact Z3 _);have ab:5<=z j.B:=by rw[JV.dt];exact Z3 _
  have sp:∀a b c d e:AV,k9 [a,b,c,d,e] 0 j.B=j.B:=λa b c d e=>by simp[k9,u]
  have hL:([.cP j.B FZ]:St).all (w9 (z Y+1))=eT:=by simp only[Z0,aC6,aE1,w9];exact aP (Z2 _) _ j.aL
  have f:=TrB.H (o:=o) (qo:=qo) m hL;have q:=hb.H [.cP j.B FZ];have X:=hw.bE f;have O:(Y++[AO.cP j.B FZ]:St)[z Y]?=J (.cP j.B FZ):=by rw[aU w8];rfl
  have s1:=λL y=>fV (w8:z Y=_) L y;have ne:z Y≠o:=by have:=hb.lt;omega
  have nq:qo≠J (z Y):=λe=>by have:=hb.n4 e;omega
  have vl:v0<z Y:=(a00.mp l).1;have key:∃k E q2,(if 0<(i:Int)then ai C ik [.da o 0,.cQ .u8 44] (Y++[AO.cP j.B FZ])=J (.eb,k)else k=Y++[AO.cP j.B FZ])/\Bk k o E q2/\TrB o (Y++[AO.cP j.B FZ]) qo k q2/\z E<=z w+1:=by
   split;·obtain⟨k,q2,e1,e2,e3⟩:=AY H.toBldHas 44 f.ok q (by omega);exact⟨k,_,q2,e1,e2,e3,by simp⟩
   ·exact⟨_,w,qo,w8,q,.ax f.ok,by omega⟩
  obtain⟨k,ac,q2,K,k2,M,k4⟩:=key;have F:=X.bE M;obtain⟨Y3,w3,q3,t1,t2,t3,t4⟩:=ahQ H x hx M.ok k2 (by omega);have Z:=F.bE t3;obtain⟨Y4,q4,V,u2,W⟩:=AY H.toBldHas 58 t3.ok t2 (by omega);have p:=Z.bE W;have G:=(M.N t3).N W;have s:=G.bp _ _ ne nq O;have v2:=M.bp _ _ hv B (f.bp _ _ hv B l);have D:=G.qn (by simp;omega) B;have v4:=G.bp _ _ hv B (f.bp _ _ hv B l);obtain⟨Y5,w5,q5,e1,e2,e3,e4⟩:=IH j hj o a b Y4 _ q4 W.ok u2 p g1 (by grind);rw[j9,Z1,X2]at e4;have aa:=p.bE e3;have v5:=e3.bp _ _ hv D v4;have T:=e3.qn (a00.mp v4).1 D;obtain⟨Y6,w6,q6,f1,f2,f3,f4⟩:=amd H is ns S t hn IH c0 c1 c2 o a b v0 hv n (i+1) (by omega) Y5 w5 q5 e3.ok e2 aa T v5 g2 (by omega);refine⟨Y6,w6,q6,?_,f2,((f.N G).N e3).N f3,by omega⟩;have ca:=F.ca;have cb:=p.cb;have q58:((58:Z6).toNat:Int)=58:=w8;rw[q58]at V;unfold JV.av at e1;rw[aB (he:=w8)];generalize hk:aG C (ai C) 76 [1,2,3,4,53,54,55] mD=kk at*;by_cases I:0<(i:Int);·rw[j0 I]at K;simp only[mD,h,h2,g,E,p2,d2,dr,sl,sn,I,K,t1,V,e1,f1,ca,cb,s,v2,s1,u,jf,jt,je,v,sp,kV,a90,AV.cP,EVX,seval]
  ·rw[j8 I]at K;subst K;simp only[mD,h,h2,g,E,p2,d2,dr,sl,sn,I,t1,V,e1,f1,ca,cb,s,v2,s1,u,jf,jt,je,v,sp,kV,a90,AV.cP,EVX,seval]
set_option maxHeartbeats 1000000 in
def ae6(H:UB C):∀(m:Nat) (j:JV),SizeOf.sizeOf j.w<m->atO C j
 |0,j,I=>absurd I (by omega)
 |m+1,j,I=>by
  intro o a b Y w p B hb hw Z hl;obtain⟨k,n,t,ns,is,i,h3,h2,h4,rfl⟩:=j.ex;have E:∀x∈is,atO C x:=λx hx=>ae6 H m x (by have:=JV.lz k n t ns is i h3 h2 h4 x hx;omega);have ho:=hb.lt;have K:hand eF [(JV.mk k n t ns is i h3 h2 h4).av,.da o 0,.da a 0,.da b 0] Y=J ([(JV.mk k n t ns is i h3 h2 h4).av,.da o 0,.da a 0,.da b 0],Y):=by rw[iY,aN,(JV.nv _).nf,aN,aN,aN];rfl
  have ca:(JV.mk k n t ns is i h3 h2 h4).av=.cX [.cQ .u8 k,.cQ r n,.cU t,.sl (z ns) (ns.map .cU),.sl (z is) (aO is)]:=by unfold JV.av;rw[JV.bO]
  obtain⟨⟨T,V,g3⟩,F⟩:(z t<=4096/\(∀x∈ns,z x<=4096)/\(k≠4->k≠5->is.map (λx:JV=>x.w)=[]))/\abV (is.map λx:JV=>x.w):=Z;have ct:(JV.mk k n t ns is i h3 h2 h4).w.hx=Tq (is.map (·.w))+1:=w8;rw[ct]at hl⊢;have X:([.cP [.cQ .u8 k,.cQ r n,.cU t,.sl (z ns) (ns.map .cU),.sl (z is) (aO is)] FZ]:St).all (w9 (z Y+1))=eT:=by have:=aP (Z2 (z Y+1)) _ (JV.aL (JV.mk k n t ns is i h3 h2 h4));rw[JV.bO]at this;simp only[Z0,aC6,aE1,w9];exact this
  have c:=TrB.H (o:=o) (qo:=p) B X;have d:=hb.H [.cP [.cQ .u8 k,.cQ r n,.cU t,.sl (z ns) (ns.map .cU),.sl (z is) (aO is)] FZ];have l:=hw.bE c;have g:(Y++[AO.cP [.cQ .u8 k,.cQ r n,.cU t,.sl (z ns) (ns.map .cU),.sl (z is) (aO is)] FZ]:St)[z Y]?=J (.cP [.cQ .u8 k,.cQ r n,.cU t,.sl (z ns) (ns.map .cU),.sl (z is) (aO is)] FZ):=by rw[aU w8];rfl
  have s1:=λL y=>fV (w8:z Y=_) L y;have ne:z Y≠o:=(by omega);have D:p≠J (z Y):=λe=>by have:=hb.n4 e;omega
  have W:=l.ca;suffices hh:∃(S:St) (q:LU) (f:Option Nat),Bk S o q f/\TrB o (Y++[.cP [.cQ .u8 k,.cQ r n,.cU t,.sl (z ns) (ns.map .cU),.sl (z is) (aO is)] FZ]) p S f/\z q+65538<=z w+(Tq (is.map λx:JV=>x.w)+1)*131076/\ai C xg [(JV.mk k n t ns is i h3 h2 h4).av,.da o 0,.da a 0,.da b 0] Y=J (dG [],tidy (z Y) [] S) by obtain⟨S,q,f,x1,x2,x3,x4⟩:=hh;obtain⟨y1,y2⟩:=aaI [] ho (c.N x2) x1;exact⟨_,_,_,x4,y2,y1,x3⟩
  rw[ca]at K⊢;rw[H.m1.go K];by_cases M:k=1
  ·subst M;cases G:(n==1)with
   |true=>obtain⟨S,f,r1,r2,r3⟩:=IA H.toBldHas [116,114,117,101] c.ok d (by simp;omega);exact⟨S,_,f,r2,r3,by simp;omega,by simp only[mQ,G,r1,g,AV.cP,EVX,seval]⟩
   |false=>obtain⟨S,f,r1,r2,r3⟩:=IA H.toBldHas [102,97,108,115,101] c.ok d (by simp;omega);exact⟨S,_,f,r2,r3,by simp;omega,by simp only[mQ,G,r1,g,AV.cP,EVX,seval]⟩
  by_cases N:k=2;·subst N;obtain⟨x,x1,x2⟩:=H.fa n _ c.ok;obtain⟨S,f,r1,r2,r3⟩:=IA H.toBldHas x c.ok d (by omega);exact⟨S,_,f,r2,r3,by simp;omega,by simp only[mQ,x1,r1,g,AV.cP,EVX,seval]⟩
  by_cases O:k=3;·subst O;obtain⟨S,q,f,r1,r2,r3,r4⟩:=ahQ H t T c.ok d (by omega);exact⟨S,q,f,r2,r3,by omega,by simp only[mQ,r1,W,g,kV,AV.cP,a05,EVX,seval]⟩
  by_cases P:k=4;·subst P;obtain⟨s,q1,r1,r2,r3⟩:=AY H.toBldHas 91 c.ok d (by omega);obtain⟨R,w2,q2,e1,e2,e3,e4⟩:=ahP H is h2 E o a b (z is) 0 (by omega) s _ q1 r3.ok r2 (l.bE r3) F (by rw[j9,Z1,X2,aB8];omega);obtain⟨u,q3,f1,v,A⟩:=AY H.toBldHas 93 e3.ok e2 (by rw[j9,Z1,X2,aB8]at e4;omega);rw[j9,Z1,X2,aB8]at e4;have h:=r3.bp _ _ ne D g;rw[show(((91:Z6).toNat:Nat):Int)=91 from w8]at r1;rw[show(((93:Z6).toNat:Nat):Int)=93 from w8]at f1;simp only[aB1]at e1;exact⟨u,_,q3,v,(r3.N e3).N A,by rw[j9,Z1,X2];omega,by simp only[mQ,r1,e1,f1,h,g,AV.cP,bC,EVX,seval]⟩
  by_cases Q:k=5;·subst Q;have h5:=h3 w8;obtain⟨s,q1,r1,r2,r3⟩:=AY H.toBldHas 123 c.ok d (by omega);have h:=r3.bp _ _ ne D g;obtain⟨R,w2,q2,e1,e2,e3,e4⟩:=amd H is ns (by omega) V h2 E _ _ _ o a b (z Y) ne (z is) 0 (by omega) s _ q1 r3.ok r2 (l.bE r3) (r3.qn (by simp) D) h F (by rw[j9,Z1,X2,aB8];omega);rw[j9,Z1,X2,aB8]at e4;obtain⟨u,q3,f1,v,A⟩:=AY H.toBldHas 125 e3.ok e2 (by omega);rw[show(((123:Z6).toNat:Nat):Int)=123 from w8]at r1;rw[show(((125:Z6).toNat:Nat):Int)=125 from w8]at f1;simp only[aB1]at e1;exact⟨u,_,q3,v,(r3.N e3).N A,by rw[j9,Z1,X2];omega,by simp only[mQ,r1,e1,f1,h,g,AV.cP,bC,EVX,seval]⟩
  have n1:(k==1)=eF:=(by simpa using M);have n2:(k==2)=eF:=(by simpa using N);have n3:(k==3)=eF:=(by simpa using O);have n4:(k==4)=eF:=(by simpa using P);have n5:(k==5)=eF:=(by simpa using Q);exact⟨_,w,p,d,.ax c.ok,by omega,by simp only[mQ,n1,n2,n3,n4,n5,g,AV.cP,EVX,seval]⟩
def TrB.cD{o n:X}{O Y S:St}{d:R X}(h:TrB o Y U S d)(b:n=z O)(c:Y.take n=O)(f:n<=o):S.take n=O:=by
 subst b;apply aD6;intro i;rw[aE3];split
 ·rename_i hi;have a:(Y.take (z O))[i]?=J O[i]:=by rw[c];exact a01 hi
  rw[aE3,j0 hi]at a;rw[h.bp i _ (by omega) (λe=>by cases e) a,a01 hi]
 ·rw[aB9 (by omega)]
def aa3(H:UB C)(V:Nv C PK)(j:JV)(O:St)(a:Ok O):∃(s:LU) (e:P),ai C fM [j.av] O=J (.de [.cU s,.cQ r e],O)/\z s<=LB:=by
 have i:T eF [j.av] O=J ([j.av],O):=NVs.E (.cV j.nv .db) _;have g:Ok (O++[.cP j.B FZ]):=a.H (by rw[Z0,show w9 0 (.cP j.B FZ)=eT from j.aL];rfl);obtain⟨b,l,t⟩:=X5 V j _ g;have u:=λ(s:LU) (e:P)=>bu a (vs:=[.cU s,.cQ r e]) w8;have k:=JV.dt j;have d:j.B.take 5=j.B:=a98 (by rw[JV.dt];exact Z3 _);have o:5<=z j.B:=by rw[JV.dt];exact Z3 _
 cases b with
 |false=>refine⟨[],3,?_,lb0⟩;unfold JV.av at*;rw[H.nz.go i];simp only[DF,l,k,d,u,AV.cP,N,seval]
 |true=>
  obtain⟨x,n⟩:=t w8
  let B:St:=[.cP j.B FZ,.cP [.ep,.cY] bT,.cP [.dv (.func Aw) [] [.da (z O+1) 0]] FZ,.cP [.dv (.func xg) [] [.da (z O+1) 0,.da (z O+2) 0,.da (z O+3) 0]] FZ]
  have okB:Ok (O++B):=a.eD (by
   have:=aP (Z2 (z O+4)) _ j.aL;simp[B,w9,ae,j7,this])
  have m:Bk (O++B) (z O+1) [] U:=⟨.ep,.cY,by rw[aI];rfl,.inl w8,.inl ⟨w8,w8,w8⟩⟩;have v:WE (z O+1) (z O+2) (z O+3) (O++B) U:=⟨by omega,by omega,by simp,by simp,by rw[aI];rfl,by rw[aI];rfl⟩;obtain⟨S,w,A,e1,e2,e3,e4⟩:=ae6 H _ j (aK6 _) (z O+1) (z O+2) (z O+3) _ [] U okB m v n (by simp only[X2];omega);simp only[X2]at e4;have tk:S.take (z O)=O:=e3.cD w8 (by simp) (by omega);have fin:∃f,ai C gY [.da (z O+1) 0] S=J (.cU w,f)/\f.take (z O)=O:=by
   obtain⟨p,c,x1,x2,x3⟩:=e2;rcases x3 with⟨_,rfl,rfl⟩|⟨q,x3,x4,x5,rfl,x6⟩;·exact⟨S,H.md _ _ _ x1,tk⟩
   ·refine⟨_,H.me _ _ _ _ _ x1 x6 x5 (by omega),?_⟩;rcases e3.q q x3 with h|h;·cases h
    ·have y:z (O++B)=z O+4:=(by simp[B]);rw[eP _ _ _ (by omega),tk]
  obtain⟨f,s1,s2⟩:=fin;have tq:=jP (vs:=[.cU w,.cQ r 0]) a w8 s2;refine⟨w,0,?_,by simp only[LB];omega⟩;dsimp only[B,bT]at e1;unfold JV.av at*;rw[H.nz.go i];simp only[DF,l,e1,s1,tq,k,d,kV,AV.cP,AV.Q,k9,N,seval]
structure aaV(C:Ctx):Prop extends CopyHas C where
 f7:∀xs:List EL,xs≠[]->xs.length<=8192->∀O,Ok O->ai C gU [.sl xs.length (dU xs)] O=some (.dj O.length 0 xs.length 6,O++[.cP (dU xs) FZ])
 j1:VG C oL KG
 of:Has C lY BV
def Bf(Y:St)(lo n sz:X)(l:LA)(x:AV):Prop:=(n=0/\x=.cY)\/(0<n/\∃q,x=.dj q 0 n sz/\Y[q]?=J (.cP l FZ)/\lo<=q)
def Bf.cq{Y:St}{lo n sz:X}{l:LA}{x:AV}(h:Bf Y lo n sz l x):same x x=eT:=by
 rcases h with⟨_,rfl⟩|⟨_,q,rfl,_⟩;·rfl
 ·exact aj8 ..
theorem Bf.flat{Y:St}{lo n sz:X}{l:LA}{x:AV}(h:Bf Y lo n sz l x):x.Q=eT:=by rcases h with⟨_,rfl⟩|⟨_,q,rfl,_⟩<;>rfl
theorem Bf.D{Y a:St}{lo n sz:X}{l:LA}{x:AV}(h:Bf Y lo n sz l x)(k:∀q w,lo<=q->x=.dj q 0 n sz->Y[q]?=J w->a[q]?=J w):Bf a lo n sz l x:=by
 rcases h with h|⟨b,q,e,c,h2⟩;·exact .inl h
 ·exact .inr ⟨b,q,e,k q _ h2 e c,h2⟩
def UL {Y:St} {lo n sz bytes:X} {l:LA} {x:AV} (cs:LA) (h:Bf Y lo n sz l x) (b:z l=n*sz) (hb:(n+1)*bytes<=70368744177664) (c:n+1<=70368744177664) (hok:Ok Y):
  ∃S:St,uD Y sz bytes U x 1 cs=J (.dj (z Y) 0 (n+1) sz,S++[.cP (l++cs) FZ])/\z S=z Y/\(∀i w,x≠ .dj i 0 n sz\/i<lo->Y[i]?=J w->S[i]?=J w)/\Ok S:=by
 rcases h with⟨rfl,rfl⟩|⟨d,q,rfl,a,h2⟩;·refine⟨Y,?_,w8,λ_ _ _ h=>h,hok⟩;have:l=[]:=aB7 (by omega);subst this;rw[Nw _ U cs (by omega) (by omega) (by omega)];rfl
 ·refine⟨Y.set q .em,?_,by simp,λi w hi h=>aH h (by
   rcases hi with hi|hi;·exactλe=>hi (by rw[e])
   ·omega) _,hok.bd _ w8⟩
  exact Lt cs a (by omega) b hb c
structure OI(O:St)(xs:List EL)(i:Nat)(x1 x2:AV)(Y:St):Prop where
 ok:Ok Y
 bL:Y[O.length]?=some mY
 ej:Y[O.length+1]?=some (.cP (dU xs) FZ)
 v:Y[O.length+2]?=some (.cP [.cQ .u8 5,.cQ .i64 0,.cU [],x1,x2] FZ)
 a1:Bf Y (O.length+3) i 1 (nC (xs.take i)) x1
 a2:Bf Y (O.length+3) i 5 (yh (xs.take i)) x2
 ne:∀q,x1=.dj q 0 i 1->x2≠ .dj q 0 i 5
 bR:Y.take O.length=O
def afb(xs:W EL):ae 0 (nC xs)=eT:=by have:=xH (xs.map λx=>x.1.1);rwa[List.map_map]at this
def aeM (H:aaV C) (O:St) (xs:List EL) (hN:z xs<=8192):∀(n i:Nat),i+n=z xs->∀(x1 x2:AV) (Y:St),OI O xs i x1 x2 Y->
  (∃p s a,aG C (ai C) 51 [2,4,5,13,14,15] eQ [(2,.da (z O) 0),(4,.dj (z O+1) 0 (z xs) 6),(5,.da (z O+2) 0),(13,.dj (z O+1) 0 (z xs) 6),(14,.cQ r (z xs)),(15,.cQ r i)] Y=J (.dq 0,[(2,.da (z O) 0),(5,.da (z O+2) 0)],a)/\OI O xs (z xs) p s a)\/
  (∃a,aG C (ai C) 51 [2,4,5,13,14,15] eQ [(2,.da (z O) 0),(4,.dj (z O+1) 0 (z xs) 6),(5,.da (z O+2) 0),(13,.dj (z O+1) 0 (z xs) 6),(14,.cQ r (z xs)),(15,.cQ r i)] Y=J (.ea,[(2,.da (z O) 0),(3,.cQ r 7)],a)/\a[z O]?=J mY/\a.take (z O)=O)
 |0,i,hi,x1,x2,Y,I=>by
  have h:¬((i:Int)<(z xs:Int)):=by omega
  refine .inl ⟨x1,x2,Y,?_,by have:i=z xs:=by omega
                             subst this;exact I⟩
  rw[aB (he:=w8)];simp only[eQ,h,EVX,seval]
 |n+1,i,hi,x1,x2,Y,I=>by
  obtain⟨hok,hres,b,hv,E,g,ab,hpre⟩:=I;have G:i<z xs:=(by omega);have h:((i:Int)<(z xs:Int)):=(by omega);have pi:(0:Int)<=(i:Int):=(by omega);have u:=wrS i (by omega);have di:=Iw xs i G;have ht:xs.take (i+1)=xs.take i++[xs[i]]:=(by rw[aG0 G]);have lt:z (xs.take i)=i:=by simp;omega
  have K:=Og (xs.take i);have M:=Tj (xs.take i);rw[lt]at K M;have ca:∀l,AV.cP (.cX l)=l:=λ_=>w8;have nl:z O+2<z Y:=(a00.mp hv).1;have j:0<i->∃(y:EL),(dU xs).drop ((i-1)*6)=elC y++(dU (xs.drop i)):=λh0=>by have:=Iw xs (i-1) (by omega);rw[show i-1+1=i by omega]at this;exact⟨_,this⟩
  generalize hm:xs[i]=x at*;have af:Ok (Y++[.cP (elC x) FZ]):=hok.H (by rw[Z0,show w9 0 (.cP (elC x) FZ)=eT from NL x];rfl);have r0:=λL=>aj b L;have b0:=λL=>aj hv L;have c0:=λL=>aj hres L;have aa:=λL y=>gZ hres L y;have V:=λL=>aU (w8:z Y=_) L;have s1:=λL y=>fV (w8:z Y=_) L y;have eh:(elC x).head? =J (.cU x.1.1):=w8;have et:(elC x).drop 1=x.2.B:=w8;have ek:x.2.B.take 5=x.2.B:=a98 (by rw[JV.dt];exact Z3 _);have el:5<=z x.2.B:=by rw[JV.dt];exact Z3 _
  have jl:=JV.dt x.2;have jf:=JV.Q x.2;have ac:x1≠ .dj (z Y) 0 i 1:=λe=>by
   rcases E with⟨_,d⟩|⟨_,q,d,t,_⟩;·rw[d]at e;cases e
   ·rw[d]at e;have:=(a00.mp t).1;cases e;omega
  have ah:∀q,x2=.dj q 0 i 5->q<z Y:=λq e=>by
   rcases g with⟨_,d⟩|⟨_,q',d,t,_⟩;·rw[d]at e;cases e
   ·rw[d]at e;have:=(a00.mp t).1;cases e;exact this
  obtain⟨S1,n1,Z,v,n4⟩:=UL (bytes:=16) [.cU x.1.1] (E.D λq w hq e u=>aj u [AO.cP (elC x) FZ]) (by rw[K,aD2]) (by omega) (by omega) af;rw[<-Qm,j9,Z1,X2]at n1;rw[j9,Z1,X2]at Z;simp only[aC4]at n1 Z;have v1:=v _ _ (.inr (by omega)) (b0 [AO.cP (elC x) FZ]);have r1:=v _ _ (.inr (by omega)) (r0 [AO.cP (elC x) FZ]);have c1:=v _ _ (.inr (by omega)) (c0 [AO.cP (elC x) FZ]);have an:=v (z Y) _ (.inl ac) (by rw[V];rfl);have A:=λL=>aj v1 L;have m:=λL y=>gZ v1 L y;have f:=λL=>aj (bF v1 (.cP [.cQ .u8 5,.cQ r 0,.cU [],.dj (z Y+1) 0 (i+1) 1,x2] FZ)) L;have D:=λL=>aj (aH an (show z Y≠z O+2 by omega) (.cP [.cQ .u8 5,.cQ r 0,.cU [],.dj (z Y+1) 0 (i+1) 1,x2] FZ)) L;have S:Ok (S1.set (z O+2) (.cP [.cQ .u8 5,.cQ r 0,.cU [],.dj (z Y+1) 0 (i+1) 1,x2] FZ)++[AO.cP (nC (xs.take i++[x])) FZ]):=by
   have:=(n4.H (L:=[AO.cP (nC (xs.take i++[x])) FZ]) (by
    rw[Z0,show w9 0 (AO.cP (nC (xs.take i++[x])) FZ)=eT from afb _];rfl)).bd (z O+2) (x:=(.cP [.cQ .u8 5,.cQ r 0,.cU [],.dj (z Y+1) 0 (i+1) 1,x2] FZ)) (by
    have h2:j7 (z Y+1+1) x2=eT:=by have:=aB0.mp hok _ (a06 hv);simp only[w9,ae,j7,aE1,a02]at this;exact below_mono (by omega) x2 this.2.2.2.2
    simp only[w9,ae,j7,aE1,aE0,a02,j6,j9,Z1,X2,Z];exact⟨by omega,h2⟩)
   rwa[m]at this
  have L2:z (S1.set (z O+2) (.cP [.cQ .u8 5,.cQ r 0,.cU [],.dj (z Y+1) 0 (i+1) 1,x2] FZ))=z Y+1:=(by rw[a99,Z]);have F:Bf (S1.set (z O+2) (.cP [.cQ .u8 5,.cQ r 0,.cU [],.dj (z Y+1) 0 (i+1) 1,x2] FZ)++[AO.cP (nC (xs.take i++[x])) FZ]) (z O+3) i 5 (yh (xs.take i)) x2:=g.D λq w hq e u=>aj (aH (v q w (.inl λd=>ab q d e) (aj u _)) (by omega) _) _;have cpy:=OE H.toCopyHas x.2 _ S;have sx:=g.cq;obtain⟨T,X,N,P,m4⟩:=UL (bytes:=80) x.2.B F M (by omega) (by omega) S;rw[<-Vt,j9,L2,Z1,X2]at X;rw[j9,L2,Z1,X2]at N;simp only[aC4,aI8,Nat.reduceAdd]at X N;have v3:=P _ _ (.inr (by omega)) (f [AO.cP (nC (xs.take i++[x])) FZ]);have r3:=P _ _ (.inr (by omega)) (aj (aH r1 (show z O+1≠z O+2 by omega) (.cP [.cQ .u8 5,.cQ r 0,.cU [],.dj (z Y+1) 0 (i+1) 1,x2] FZ)) [AO.cP (nC (xs.take i++[x])) FZ]);have c3:=P _ _ (.inr (by omega)) (aj (aH c1 (show z O≠z O+2 by omega) (.cP [.cQ .u8 5,.cQ r 0,.cU [],.dj (z Y+1) 0 (i+1) 1,x2] FZ)) [AO.cP (nC (xs.take i++[x])) FZ]);have Q:=P (z Y+1) (AO.cP (nC (xs.take i++[x])) FZ) (.inl λe=>by have:=ah _ e;omega) (by rw[aU L2];rfl);have B:=λL=>aj v3 L;have o:=λL y=>gZ v3 L y;have al:T.take (z O)=O:=by
   apply aD6;intro k;rw[aE3];split
   ·rename_i W;have t:(Y.take (z O))[k]?=J O[k]:=by rw[hpre];exact a01 W
    rw[aE3,j0 W]at t;rw[P k _ (.inr (by omega)) (aj (aH (v k _ (.inr (by omega)) (aj t _)) (by omega) _) _),a01 W]
   ·rw[aB9 (by omega)]
  have ad:Ok (T.set (z O+2) (.cP [.cQ .u8 5,.cQ r 0,.cU [],.dj (z Y+1) 0 (i+1) 1,.dj (z Y+2) 0 (i+1) 5] FZ)++[AO.cP (yh (xs.take i++[x])) FZ]):=by
   have:=(m4.H (L:=[AO.cP (yh (xs.take i++[x])) FZ]) (by
    rw[Z0,show w9 0 (AO.cP (yh (xs.take i++[x])) FZ)=eT from iZ _];rfl)).bd (z O+2) (x:=(.cP [.cQ .u8 5,.cQ r 0,.cU [],.dj (z Y+1) 0 (i+1) 1,.dj (z Y+2) 0 (i+1) 5] FZ)) (by
    simp only[w9,ae,j7,aE1,aE0,a02,j6,j9,Z1,X2,N];omega)
   rwa[o]at this
  have I2:OI O xs (i+1) (.dj (z Y+1) 0 (i+1) 1) (.dj (z Y+2) 0 (i+1) 5) (T.set (z O+2) (.cP [.cQ .u8 5,.cQ r 0,.cU [],.dj (z Y+1) 0 (i+1) 1,.dj (z Y+2) 0 (i+1) 5] FZ)++[AO.cP (yh (xs.take i++[x])) FZ]):=by
   rw[<-ht]at Q⊢;refine⟨by rw[ht];exact ad,aj (aH c3 (by omega) _) _,aj (aH r3 (by omega) _) _,aj (bF v3 _) _,.inr ⟨by omega,_,w8,aj (aH Q (by omega) _) _,by omega⟩,.inr ⟨by omega,_,w8,?_,by omega⟩,λq e1 e2=>(by injection e1;injection e2;omega),?_⟩;·rw[aU (by rw[a99,N])];rfl
   ·rw[qO _ _ _ (by rw[a99,N];omega),eP _ _ _ (by omega),al]
  have ak:=aeM H O xs hN n (i+1) (by omega) _ _ _ I2
  have go:∀co,aG C (ai C) 51 [2,4,5,13,14,15] eQ [(2,.da (z O) 0),(4,.dj (z O+1) 0 (z xs) 6),(5,.da (z O+2) 0),(13,.dj (z O+1) 0 (z xs) 6),(14,.cQ r (z xs)),(15,.cQ r (i+1:Nat))] (T.set (z O+2) (.cP [.cQ .u8 5,.cQ r 0,.cU [],.dj (z Y+1) 0 (i+1) 1,.dj (z Y+2) 0 (i+1) 5] FZ)++[AO.cP (yh (xs.take i++[x])) FZ])=co->
    (aG C (ai C) 51 [2,4,5,13,14,15] eQ [(2,.da (z O) 0),(4,.dj (z O+1) 0 (z xs) 6),(5,.da (z O+2) 0),(13,.dj (z O+1) 0 (z xs) 6),(14,.cQ r (z xs)),(15,.cQ r i)] Y=co\/∃a,aG C (ai C) 51 [2,4,5,13,14,15] eQ [(2,.da (z O) 0),(4,.dj (z O+1) 0 (z xs) 6),(5,.da (z O+2) 0),(13,.dj (z O+1) 0 (z xs) 6),(14,.cQ r (z xs)),(15,.cQ r i)] Y=J (.ea,[(2,.da (z O) 0),(3,.cQ r 7)],a)/\a[z O]?=J mY/\a.take (z O)=O):=λco e=>by
   have c:=cpy;unfold JV.av at c;rw[aB (he:=w8)];generalize W:aG C (ai C) 51 [2,4,5,13,14,15] eQ=kk at*;by_cases hz:(i:Int)>0;·obtain⟨y,dy⟩:=j (by omega);have w1:IntKind.i64.wrap ((i:Int)-1)=((i-1:Nat):Int):=wrE (by omega);have l1:i-1<z xs:=(by omega);have p1:(0:Int)<=((i-1:Nat):Int):=(by omega);have hy:∀R,(elC y++R).head? =J (.cU y.1.1):=λ_=>w8;cases hd:decide (y.1.1=x.1.1)with|true=>refine .inr ⟨Y.set (z O) mY++[AO.cP (elC x) FZ],?_,aj (bF hres _) _,by rw[qO _ _ _ (by simp;omega),eP _ _ _ (Z3 _),hpre]⟩;dsimp only[mY]at*;simp only[hz,dy,w1,l1,p1,hy,hd,c0,aa,eQ,h,G,pi,di,b,r0,V,s1,eh,ca,yN,kH,rO,k9,a90,j9,aJ8,EVX,seval]|false=>refine .inl ?_;simp only[hz,dy,w1,l1,p1,hy,hd,eQ,h,G,pi,u,di,b,r0,b0,V,s1,eh,et,ek,jl,jf,n1,A,m,f,D,c,sx,X,B,o,e,ca,yN,kH,rO,k9,a90,j9,aJ8,EVX,seval]
   ·refine .inl ?_;simp only[hz,eQ,h,G,pi,u,di,b,b0,V,s1,eh,et,ek,jl,jf,n1,A,m,f,D,c,sx,X,B,o,e,ca,yN,kH,rO,k9,a90,j9,aJ8,EVX,seval]
  rcases ak with⟨p,s,a,e1,e2⟩|⟨a,e1,e2⟩
  ·rcases go _ e1 with e|e;·exact .inl ⟨p,s,a,e,e2⟩
   ·exact .inr e
  ·rcases go _ e1 with e|e;·exact .inr ⟨a,e,e2⟩
   ·exact .inr e
def ZJ(H:aaV C)(xs:W EL)(A:xs≠[])(M:z xs<=8192)(O:St)(h:Ok O):∃(j:JV) (e:Int),ai C lY [.sl (z xs) (dU xs)] O=J (.de [j.av,.cQ r e],O):=by
 have N:hand eF [.sl (z xs) (dU xs)] O=J ([.sl (z xs) (dU xs)],O):=NVs.E (.cV (.sl _ (yO xs)) .db) _;have cl:=H.f7 xs A M (O++[mY]) (h.H w8);have w:∀i:W EL,w9 0 (.cP (dU i) FZ)=eT:=yO;obtain⟨i,D,m⟩:=H.j1 (O++[mY,.cP (dU xs) FZ]) (h.H (by rw[Z0,Z0,w];rfl)) (z O+1) (by simp) U (z xs) (by omega) xs w8;unfold row at m;rw[cZ,cZ]at m;dsimp only[List.set,ahH]at m;have F:OI O i 0 .cY .cY (O++[mY,.cP (dU i) FZ,.cP [.cQ .u8 5,.cQ r 0,.cU [],.cY,.cY] FZ]):=by refine⟨h.H (by rw[Z0,Z0,w];rfl),by rw[aA];rfl,by rw[aI];rfl,by rw[aI];rfl,.inl ⟨w8,w8⟩,.inl ⟨w8,w8⟩,λq e=>(by cases e),by simp⟩
 have v:=aeM H O i (by omega) (z i) 0 (by omega) _ _ _ F;rw[D]at v;have n:O.set (z O) .em=O:=List.set_eq_of_length_le (Z3 _);have l:∀a b c:AO,(O++[a,b,c]:St)[z O+2]?=J c:=λa b c=>by rw[aI];rfl
 have fin:∃(j:JV) (e:Int) (x:RX),aG C (ai C) 51 [2,4,5,13,14,15] eQ [(2,.da (z O) 0),(4,.dj (z O+1) 0 (z xs) 6),(5,.da (z O+2) 0),(13,.dj (z O+1) 0 (z xs) 6),(14,.cQ r (z xs)),(15,.cQ r 0)] (O++[mY,.cP (dU i) FZ,.cP [.cQ .u8 5,.cQ r 0,.cU [],.cY,.cY] FZ])=x/\
   ((x=J (.ea,[(2,.da (z O) 0),(3,.cQ r 7)],(match x with|J (_,_,Y)=>Y|U=>[]))/\∀E,look E 2=.da (z O) 0->look E 3=.cQ r 7->iF (z O) [.eN 2 eT 5,.fT 3] (J (.ea,E,(match x with|J (_,_,Y)=>Y|U=>[])))=J (.de [j.av,.cQ r e],O))\/
    ∃g c,x=J (.dq 0,[(2,.da (z O) 0),(5,.da (z O+2) 0)],g)/\g[z O]?=J mY/\g[z O+2]?=J (.cP c FZ)/\z c=5/\c.all AV.Q=eT/\∀E,look E 2=.da (z O) 0->look E 3=.cQ r 0->iF (z O) [.eN 2 eT 5,.fT 3] (J (.ea,E,g.set (z O) (.cP c FZ)))=J (.de [j.av,.cQ r e],O)):=by
  simp only[aB1]at v;rcases v with⟨x1,x2,g,l1,l2⟩|⟨g,l1,l2,l3⟩
  ·obtain⟨hok,hres,B,hv,s,t,u,hpre⟩:=l2;have T:¬z xs=0:=λe=>A (aB7 e);rcases s with⟨e,_⟩|⟨_,q1,rfl,a1,a2⟩;·omega
   rcases t with⟨e,_⟩|⟨_,q2,rfl,b1,Q⟩;·omega
   rw[a98 (by omega)]at a1 b1;refine⟨adv i (by omega),0,_,l1,.inr ⟨g,_,w8,hres,hv,w8,w8,λE h2 h3=>?_⟩⟩;have:=ag1 (Y:=g.set (z O) (.cP [.cQ .u8 5,.cQ r 0,.cU [],.dj q1 0 (z xs) 1,.dj q2 0 (z xs) 5] FZ)) (o:=z O) (x:=.em) h w8 0 E h2 h3 (by rw[eP _ _ _ (Z3 _),hpre,n]) i (by omega) q1 q2 (by rw[D];exact bF hres _) (aH a1 (by omega) _) (aH b1 (by omega) _) (by omega) (by omega) (λe=>u q1 w8 (by rw[e]));rwa[n]at this
  ·refine⟨JV.ab,7,_,l1,.inl ⟨w8,λE h2 h3=>?_⟩⟩;have:=MB (Y:=g) (o:=z O) (x:=.em) h w8 7 E h2 h3 (by rw[l3,n]) l2;rwa[n]at this
 obtain⟨j,e,x,f1,k⟩:=fin;refine⟨j,e,?_⟩;rw[H.of.go N];generalize S:iF=R at*;rcases k with⟨k,p⟩|⟨g,c,k,I,K,y,L,p⟩;·generalize(match x with|J (_,_,Y)=>Y|U=>[])=g at*;rw[k]at f1;have G:=p [(2,.da (z O) 0),(3,.cQ r 7)] w8 w8;unfold mY at*;simp only[BV,cl,m,f1,G,l,k9,AV.cP,AV.Q,EVX,seval]
 ·rw[k]at f1;have t5:c.take 5=c:=a98 (by omega);have P:∀a b d e f:AV,k9 [a,b,d,e,f] 0 c=c:=λa b d e f=>by simp[k9,y]
  unfold mY at*;simp only[BV,cl,m,f1,l,I,K,y,L,t5,P,AV.cP,AV.Q,EVX,seval];refine p _ ?_ ?_<;>rfl
def XG:W Sh:=[.df,.cQ r,.cQ r,.ew [.df,.df]]
structure FP(C:Ctx)(PK:PkI):Prop where
 dc:bZ C PK GX (.pk [.df] .df)
 fa:bZ C PK Jl (.pk [.df,.cQ .i64,.cQ .i64] (.cQ .i64))
 bA:bZ C PK Ec (.pk [.df,.cQ .i64] .jv)
 eC:bZ C PK yR (.pk [.cQ .i64] (.de []))
 hO:bZ C PK yQ (.pk [] (.cQ .i64))
 of:bZ C PK Ym (.iB [.jv])
 ct:bZ C PK WH (.dp [.df,.jv] (.de [.cX XG,.cQ .i64]))
 i6:bZ C PK Dk (.dp [.df] (.de [.cQ .i64,.cQ .i64]))
 kr:bZ C PK kW (.dp [.jv] .cW)
 lE:Has C WI VA
 lB:Has C AP EX
 ht:Has C wQ Hq
 hq:Has C wP Ho
 lA:Has C AL EW
 g6:Has C AC QU
def jJ{f:g}{args:W Sh}{res:Sh}(h:bZ C PK f (.pk args res)){O:St}{o:X}{ms:W X}{azs:LA}(b:Ok O)(d:q azs)(e:PK.ok O o ms)(c:Mt V0 args azs):∃v a,ai C f (.da o 0::azs) O=J (v,a)/\M V0 res v/\Ok a/\z a=z O/\(∀i,i∉o::ms->a[i]?=O[i]?)/\PK.ok a o ms:=
 h O o ms azs azs O b (by rw[iY,aN,d.nf];rfl) b e c
def afv(n0 p:X)(os:W X)(Y:St)(x:AV):Prop:=x=.cY\/∃q rs,x=.dj q 0 (z rs) 4/\Y[q]?=J (.cP rs.flatten FZ)/\z rs<=LS/\MRs V0 XG rs/\q∉os/\q≠p/\n0<=q
structure SI(PK:PkI)(O0:St)(o p:Nat)(ms:List Nat)(x:AV)(Y:St):Prop where
 ok:Ok Y
 pk:PK.ok Y o ms
 lt:∀i∈o::ms,i<Y.length
 ge:∀i∈o::ms,O0.length<=i
 np:p∉o::ms
 gp:O0.length<=p
 s:∃a b,Y[p]?=some (.cP [.cQ .i64 a,.cQ .i64 b,x] FZ)
 e8:afv O0.length p (o::ms) Y x
 au:∀(i:Nat) (y:AO),O0[i]?=some y->Y[i]?=some y
def SI.pl{O0:St}{o p:X}{ms:W X}{x:AV}{Y:St}(h:SI PK O0 o p ms x Y):p<z Y:=by obtain⟨a,b,h⟩:=h.s;exact(a00.mp h).1
def SI.fe{O0:St}{o p:X}{ms:W X}{x:AV}{Y c:St}(h:SI PK O0 o p ms x Y)(g:Ok c)(h2:z c=z Y)(h3:∀i,i∉o::ms->c[i]?=Y[i]?)(h4:PK.ok c o ms):SI PK O0 o p ms x c:=by
 obtain⟨a,b,hs⟩:=h.s;refine⟨g,h4,λi hi=>by rw[h2];exact h.lt i hi,h.ge,h.np,h.gp,⟨a,b,by rw[h3 _ h.np];exact hs⟩,?_,λi y d=>?_⟩
 ·rcases h.e8 with j|⟨q,rs,e1,e2,e3,e4,e5,e,f⟩;·exact .inl j
  ·exact .inr ⟨q,rs,e1,by rw[h3 _ e5];exact e2,e3,e4,e5,e,f⟩
 ·rw[h3];·exact h.au i y d
  ·intro hi;have:=h.ge i hi;have:=(a00.mp d).1;omega
def SI.H{O0:St}{o p:X}{ms:W X}{x:AV}{Y:St}(h:SI PK O0 o p ms x Y)(L:St)(e:L.all (w9 (z Y+z L))=eT):SI PK O0 o p ms x (Y++L):=by
 obtain⟨a,b,hs⟩:=h.s;refine⟨h.ok.eD e,PK.fr h.pk λi hi=>by rw[aC1 (h.lt i hi)],λi hi=>by rw[j9];have:=h.lt i hi;omega,h.ge,h.np,h.gp,⟨a,b,aj hs L⟩,?_,λi y g=>aj (h.au i y g) L⟩;rcases h.e8 with f|⟨q,rs,e1,e2,e3,e4,e5,c,d⟩;·exact .inl f
 ·exact .inr ⟨q,rs,e1,aj e2 L,e3,e4,e5,c,d⟩
def SI.cg{O0:St}{o p:X}{ms:W X}{x:AV}{Y:St}(h:SI PK O0 o p ms x Y)(a b:P):SI PK O0 o p ms x (Y.set p (.cP [.cQ r a,.cQ r b,x] FZ)):=by
 obtain⟨j,k,hs⟩:=h.s;refine⟨h.ok.bd p ?_,PK.fr h.pk λi hi=>?_,λi hi=>by rw[a99];exact h.lt i hi,h.ge,h.np,h.gp,⟨a,b,bF hs _⟩,?_,λi y d=>?_⟩;·have:=aB0.mp h.ok _ (a06 hs);simp only[w9,ae,j7,aE0]at this⊢;exact this
 ·rw[aE2 (λe=>h.np (by rw[e];exact hi))]
 ·rcases h.e8 with g|⟨q,rs,e1,e2,e3,e4,e5,c,f⟩;·exact .inl g
  ·exact .inr ⟨q,rs,e1,aH e2 c _,e3,e4,e5,c,f⟩
 ·have:=h.gp;have:=(a00.mp d).1;exact aH (h.au i y d) (by omega) _
def SI.ih{O0:St}{o p n:X}{ms:W X}{x:AV}{S:St}(h:SI PK O0 o p ms x S)(vs:LA)(t:n<=z S)(g:p<n)(f:∀i∈o::ms,i<n)(s:z O0<=n):SI PK O0 o p ms x (w n vs S):=by
 unfold w;split;·exact h
 split
 ·rename_i d;rw[Q]at d;have e:z (S.take n)=n:=by simp;omega
  have c:∀i,i<n->(S.take n)[i]?=S[i]?:=λi hi=>by rw[aE3,j0 hi]
  obtain⟨a,b,hs⟩:=h.s;refine⟨?_,PK.fr h.pk λi hi=>c i (f i hi),λi hi=>by rw[e];exact f i hi,h.ge,h.np,h.gp,⟨a,b,by rw[c _ g];exact hs⟩,?_,λi y j=>?_⟩;·unfold Ok;rw[e];exact d.2
  ·rcases h.e8 with m|⟨q,rs,e1,e2,e3,e4,e5,k,l⟩;·exact .inl m
   ·refine .inr ⟨q,rs,e1,?_,e3,e4,e5,k,l⟩;have hb:=aB0.mp d.2 _ (a06 ((c _ g).trans hs));have:q<n:=by rw[e1]at hb;simp only[w9,ae,j7,aE1,aE0,j6]at hb;exact hb
    rw[c _ this];exact e2
  ·rw[c _ (by have:=(a00.mp j).1;omega)];exact h.au i y j
 ·exact h
def ayG(C:H)(PK:PkI)(f:g):Prop:=∀(a:St) (o p:X) (ms:W X) (Y:St),SI PK a o p ms .cY Y->z a<=z Y->∃b x,ai C f [.da o 0,.da p 0] Y=J (dG [],b)/\SI PK a o p ms x b/\z Y<=z b
def aph(C:H)(PK:PkI)(f:g):Prop:=∀(a:St) (o p:X) (ms:W X) (Y:St),SI PK a o p ms .cY Y->z a<=z Y->∃b,ai C f [.da o 0,.da p 0] Y=J (dG [],b)/\SI PK a o p ms .cY b/\z Y<=z b
def wF(s:LU)(h:z s<=LB){l:W Sh}{m:LA}(k:Mt V0 l m):Mt V0 (.df::l) (.cU s::m):=.cV _ _ _ _ (.df s h) k
def xI(n:P){l:W Sh}{m:LA}(k:Mt V0 l m):Mt V0 (.cQ r::l) (.cQ r n::m):=.cV _ _ _ _ (.cQ _ n) k
def QM{n:X}{vs:LA}{S:St}(h:n<=z S):n<=z (w n vs S):=by
 unfold w;split;·exact h
 split;·simp;omega
 ·exact h
end Go.Ev
namespace Go.Ev
open Option renaming some→J, none→U
open List renaming length→z
open Bool renaming false→eF, true→eT
open Go.IntKind renaming i64→r
variable{C:Ctx}{V:Val}
structure SnV where
 bU:Int
 bx:Int
 ay:List oZ
def SnV.B(s:SnV):LA:=[.cQ r s.bU,.cQ r s.bx,.sl (z s.ay) (s.ay.flatMap oZ.B)]
structure SnV.ok(s:SnV):Prop where
 dt:s.ay.length<=8192
 cS:∀p∈s.ay,DC p.aM/\p.C.length<=LB
def akw(d:LA)(h:Ms V [.df,.df] d):∃s,d=pC s/\z s.1<=LB/\z s.2<=LB:=by obtain⟨s,b,rfl,a,c⟩:=wR h;obtain⟨u,b,rfl,h3,h2⟩:=wR c;rw[Ac h2];exact⟨(s,u),w8,a,h3⟩
def auD(f:LA)(h:Ms V XG f):∃p,f=oZ.B p/\DC p.aM/\z p.C<=LB:=by obtain⟨s,b,rfl,a,c⟩:=wR h;obtain⟨n,b,rfl,h2⟩:=yD c;obtain⟨m,b,rfl,h3⟩:=yD h2;obtain⟨hs,b,rfl,d,hb,h4⟩:=CX akw h3;rw[Ac h4];exact⟨⟨s,n,m,hs⟩,w8,⟨d,hb⟩,a⟩
def aqO{v:AV}(h:M V (.cX [.cQ r,.cQ r,.ew XG]) v):∃s:SnV,v=.cX s.B/\s.ok:=by
 cases h with
 |cX _ v h=>obtain⟨a,b,rfl,c⟩:=yD h;obtain⟨e,b,rfl,h2⟩:=yD c;obtain⟨l,b,rfl,l1,q1,h3⟩:=CX auD h2;rw[Ac h3];exact⟨⟨a,e,l⟩,w8,l1,q1⟩
theorem oZ.af(p:oZ):q p.B:=.cV (.cU _) (.cV (.cQ _ _) (.cV (.cQ _ _) (.cV (rV _) .db)))
theorem oZ.aL(p:oZ):ae 0 p.B=eT:=p.af.cl
theorem SnV.af(s:SnV):q s.B:=.cV (.cQ _ _) (.cV (.cQ _ _) (.cV (.sl _ (dP (λp=>p.aL) s.ay)) .db))
structure ChkTot(C:Ctx):Prop where
 bS:VE C
 m3:∀hs:List PS,DC hs->∃(d:LU) (b:Bool),∀Y,ai C BF [.sl hs.length (hs.flatMap pC),.cU [115,104,97,50,53,54]] Y=some (.de [.cU d,.cW b],Y)
 rd:∀data:LU,data.length<=LB->∃(j:JV) (n e:Int),∀Y,ai C jE [.cU data] Y=some (.de [j.av,.cQ .i64 n,.cQ .i64 e],Y)
 sg:∀j:JV,∃(r:AV) (e:Int),M V0 ahU r/\∀Y,ai C xu [j.av] Y=some (.de [r,.cQ .i64 e],Y)
 tg:∀j:JV,∃(t:dV) (e:Int),t.ok/\∀Y,ai C qc [j.av] Y=some (.de [.cX t.B,.cQ .i64 e],Y)
 sn:∀j:JV,∃(s:SnV) (e:Int),s.ok/\∀Y,ai C AC [j.av] Y=some (.de [.cX s.B,.cQ .i64 e],Y)
 gS:∀a b:Int,∃ov:Bool,∀Y,ai C qM [.cQ .i64 a,.cQ .i64 b] Y=some (.cW ov,Y)
 ei:∀s:LU,s.length<=LB->∃d:LU,∀Y,ai C vJ [.cU s] Y=some (.cU d,Y)
 cN:∀(h:Bool) (l:List iH) (r:AV) (th:Int) (ids:List LU) (ks:List PS),xA l=false->uQ ids->DC ks->M V0 ahU r->∃b:Bool,∀Y o,Y[o]?=some (TD h l)->ai C lC [.da o 0,r,.cX (aC th ids),.sl ks.length (ks.flatMap pC)] Y=some (.cW b,Y)
def inf(h:L)(l:W iH)(o:X)(th:P)(ids:W LU)(ks:W PS)(pn:LU)(pv pl:P)(ph:AV)(now:P)(data:LU)(size:P):InF:=
 ⟨.da o 0,th,.sl (z ids) (ids.flatMap sC),.sl (z ks) (ks.flatMap pC),pn,pv,pl,ph,now,data,size⟩
structure jR where
 bU:Int
 bx:Int
 ks:List PS
 rt:mP
 sn:mP
 tg:mP
def jR.B(d:jR):LA:=[.cQ r d.bU,.cQ r d.bx,.sl (z d.ks) (d.ks.flatMap pC),.cQ r d.rt.th,.sl (z d.rt.V) (d.rt.V.flatMap sC),.cQ r d.sn.th,.sl (z d.sn.V) (d.sn.V.flatMap sC),.cQ r d.tg.th,.sl (z d.tg.V) (d.tg.V.flatMap sC)]
def jR.f8(d:jR):d.B=[.cQ r d.bU,.cQ r d.bx,.sl (z d.ks) (d.ks.flatMap pC),.cQ r d.rt.th,.sl (z d.rt.V) (d.rt.V.flatMap sC),.cQ r d.sn.th,.sl (z d.sn.V) (d.sn.V.flatMap sC),.cQ r d.tg.th,.sl (z d.tg.V) (d.tg.V.flatMap sC)]:=w8
theorem jR.af(d:jR):q d.B:=.cV (.cQ _ _) (.cV (.cQ _ _) (.cV (rV _) (.cV (.cQ _ _) (.cV (pG _) (.cV (.cQ _ _) (.cV (pG _) (.cV (.cQ _ _) (.cV (pG _) .db))))))))
def asZ (H:ChkTot C) (h:L) (l:W iH) (R:jR) (data:LU) (b1:xA l=eF) (w:uQ R.sn.V) (x:DC R.ks) (y:z data<=LB):
  ∃(S:SnV) (e1 e2 e3:P) (en:L) (ov:P->L),S.ok/\(∀now Y,ai C qM [.cQ r S.bx,.cQ r now] Y=J (.cW (ov now),Y))/\∀(now size:P) (O:St) (o:X),Ok O->O[o]?=J (TD h l)->
   ai C tX [.da o 0,.cX R.B,.cQ r now,.cU data,.cQ r size] O=
    J (.de [.cX (if XT size e1 e2 e3 en (ov now)=0 then S.B else zSn),.cQ .u8 (XT size e1 e2 e3 en (ov now))],O):=by
 obtain⟨j,n1,e1,q1⟩:=H.rd data y;obtain⟨N,e2,v,q2⟩:=H.sg j;obtain⟨en,q5⟩:=H.cN h l N R.sn.th R.sn.V R.ks b1 w x v;obtain⟨k,s,rfl,F⟩:=agf v;obtain⟨S,e3,t,q3⟩:=H.sn k;obtain⟨ov,q4⟩:=Classical.axiomOfChoice (λnow=>H.gS S.bx now);obtain⟨x0,x1,x2,x3,x4,D,g,i,m,n,q⟩:=j.h0;obtain⟨r0,r1,r2,r3,r4,E,b,c,d,e,f⟩:=k.h0;unfold JV.av at q1 q2 q3;rw[D]at q1 q2;rw[E]at q2 q3 q5;refine⟨S,e1,e2,e3,en,ov,t,q4,λnow size O o a u=>?_⟩;have A:o<z O:=(a00.mp u).1;have hI:(inf h l o R.sn.th R.sn.V R.ks [] 0 (-1) .cY now data size).ok (z O):=⟨.inr ⟨o,w8,A⟩,Ad _ (pG _),Ad _ (rV _),w8⟩;exact Wi H.bS a hI ⟨w8,w8⟩ ⟨w8,w8,w8,w8⟩
  {x0:=x0,x1:=x1,x2:=x2,x3:=x3,x4:=x4,n1:=n1,e1:=e1,r0:=r0,r1:=r1,r2:=r2,r3:=r3,r4:=r4,r5:=.sl (z s) (s.flatMap pC),e2:=e2,en:=en
   jj:=g,jl:=i,jr:=m,js:=n,jt:=q,ky:=b,kB:=c,kI:=d,kN:=e,kO:=f,kS:=Ad _ (rV s)
   rd:=λY _=>q1 Y,sg:=λ_ Y _=>q2 Y
   cN:=λ_ _ Y _ B=>q5 Y o (B o _ u)
   sv:=S.bU,sx:=S.bx,s2:=.sl (z S.ay) (S.ay.flatMap oZ.B),e3:=e3,ov:=ov now
   h2:=Ad _ (.sl _ (dP (λp=>p.aL) S.ay))
   sn:=λ_ _ Y _=>q3 Y,gS:=λY _=>q4 now Y}
  (KT _ _) (KT _ _) (KT _ _) (Ad _ (pG _)) (KT _ _) (Ad _ (pG _))
end Go.Ev
namespace Go.Ev
open Option renaming some→J, none→U
open List renaming length→z
open Bool renaming false→eF, true→eT
open Go.IntKind renaming i64→r
variable{C:Ctx}
def EE:dV:=⟨0,0,[],⟨[],[],0,[],0,[]⟩⟩
def X9:EE.ok:=⟨by decide,λ_ h=>(by cases h),⟨by decide,by decide,λ_ h=>(by cases h),by decide⟩,⟨λ_ h=>(by cases h),by decide,⟨λ_ h=>(by cases h),by decide,.ew _ [] (by decide) (.db _),⟨by decide,λ_ h=>(by cases h)⟩,.ew _ [] (by decide) (.db _),by decide⟩⟩⟩
def agH(T:dV)(c:P):dV:=if c=0 then T else EE
def avb(T:dV)(c:P):(if c=0 then T.B else zTn)=(agH T c).B:=by unfold agH;split<;>rfl
def avc{T:dV}(h:T.ok)(c:P):(agH T c).ok:=by
 unfold agH;split;·exact h
 ·exact X9
theorem dV.dt(t:dV):z t.B=9:=w8
def dV.fl(t:dV):t.B.all AV.Q=eT:=w8
def dV.tk(t:dV):t.B.take 9=t.B:=w8
def atK:SnV:=⟨0,0,[]⟩
def al3(S:SnV)(c:P):SnV:=if c=0 then S else atK
def av7(S:SnV)(c:P):(if c=0 then S.B else zSn)=(al3 S c).B:=by unfold al3;split<;>rfl
def av8{S:SnV}(h:S.ok)(c:P):(al3 S c).ok:=by
 unfold al3;split;·exact h
 ·exact⟨by decide,λ_ h=>by cases h⟩
theorem SnV.dt(t:SnV):z t.B=3:=w8
def SnV.fl(t:SnV):t.B.all AV.Q=eT:=w8
def SnV.tk(t:SnV):t.B.take 3=t.B:=w8
variable{V:Val}
structure jR.ok(r:jR):Prop where
 ks:DC r.ks
 rt:uQ r.rt.V
 sn:uQ r.sn.V
 tg:uQ r.tg.V
def akx(d:LA)(h:Ms V [.df] d):∃s,d=sC s/\z s<=LB:=by obtain⟨s,b,rfl,a,c⟩:=wR h;rw[Ac c];exact⟨s,w8,a⟩
def aqN{v:AV}(h:M V (.cX [.cQ r,.cQ r,.ew [.df,.df],.cQ r,.ew [.df],.cQ r,.ew [.df],.cQ r,.ew [.df]]) v):∃i:jR,v=.cX i.B/\i.ok:=by
 cases h with
 |cX _ v h=>obtain⟨a,b,rfl,c⟩:=yD h;obtain⟨e,b,rfl,h2⟩:=yD c;obtain⟨k,b,rfl,l1,q1,h3⟩:=CX akw h2;obtain⟨t1,b,rfl,h4⟩:=yD h3;obtain⟨i1,b,rfl,l2,q2,h5⟩:=CX akx h4;obtain⟨t2,b,rfl,h6⟩:=yD h5;obtain⟨i2,b,rfl,l3,q3,h7⟩:=CX akx h6;obtain⟨t3,b,rfl,h8⟩:=yD h7;obtain⟨f,b,rfl,l4,q4,d⟩:=CX akx h8;rw[Ac d];exact⟨⟨a,e,k,⟨t1,i1⟩,⟨t2,i2⟩,⟨t3,f⟩⟩,w8,⟨l1,q1⟩,⟨l2,q2⟩,⟨l3,q3⟩,⟨l4,q4⟩⟩
def ajD:jR:=⟨0,0,[],⟨0,[]⟩,⟨0,[]⟩,⟨0,[]⟩⟩
def acG(R:jR)(e:P):jR:=if e=0 then R else ajD
structure RootHas(C:Ctx):Prop extends ChkTot C where
 dF:Has C D8 DI
 o3:∀data:LU,data.length<=LB->∃(r:AV) (e:Int),M V0 ahU r/\∀Y,ai C Gv [.cU data] Y=some (.de [r,.cQ .i64 e],Y)
 o1:∀j:JV,∃(r:jR) (e:Int),r.ok/\∀Y,ai C MC [j.av] Y=some (.de [.cX r.B,.cQ .i64 e],Y)
def adt (H:RootHas C) (h:Bool) (l:List iH) (b1:xA l=eF) (data:LU) (A:z data<=LB):
  ∃(R:jR) (e:Int),R.ok/\∀(O:St) (o:Nat),Ok O->O[o]?=J (TD h l)->ai C D8 [.da o 0,.cU data] O=J (.de [.cX (acG R e).B,.cQ r e],O):=by
 obtain⟨cB,e1,y,q1⟩:=H.o3 data A;obtain⟨k,g,rfl,Z⟩:=agf y;obtain⟨R,e2,b,q2⟩:=H.o1 k;obtain⟨en,q3⟩:=H.cN h l _ R.rt.th R.rt.V R.ks b1 b.rt b.ks y;obtain⟨r0,r1,r2,r3,r4,F,⟨⟨i,S,n0⟩,K⟩,⟨⟨f1,T,n1⟩,M⟩,⟨⟨j,V,n2⟩,N⟩,⟨⟨m,W,n3⟩,P⟩,⟨⟨n,X,n4⟩,Q⟩⟩:=k.h0;unfold JV.av at q2;rw[F]at q1 q2 q3;simp only[a05,a88]at q1 q3;have p:∀(o:Nat) (Y:St),hand eF [.da o 0,.cU data] Y=J ([.da o 0,.cU data],Y):=λ_ _=>w8;have x:j7 0 (.sl (z g) (g.flatMap pC))=eT:=(rV g).cl;have pe:w9 0 (.cP [r0,r1,r2,r3,r4,.sl (z g) (g.flatMap pC)] FZ)=eT:=by simp only[w9,ae,K,M,N,P,Q,x,aD0]
 have pr:w9 0 (.cP R.B FZ)=eT:=R.af.cl;have zn:w9 0 (.cP [.cQ r 0,.cQ r 0,.cY,.cQ r 0,.cY,.cQ r 0,.cY,.cQ r 0,.cY] FZ)=eT:=w8;have q:=R.f8;have zc:acG R (-1)=ajD:=j8 (by decide);have refuse:∀(O:St) (e:Int) (L:St) (E:As),Ok O->look E 4=.da (z O) 0->look E 5=.cQ r e->(∃d,L=.cP [.cQ r 0,.cQ r 0,.cY,.cQ r 0,.cY,.cQ r 0,.cY,.cQ r 0,.cY] FZ::d)->iF (z O) [.eN 4 eT 9,.fT 5] (J (.ea,E,O++L))=J (.de [.cX ajD.B,.cQ r e],O):=by intro O e L E a h4 h5 B;obtain⟨d,rfl⟩:=B;have res:aZ E (O++.cP [.cQ r 0,.cQ r 0,.cY,.cQ r 0,.cY,.cQ r 0,.cY,.cQ r 0,.cY] FZ::d) [.eN 4 eT 9,.fT 5]=J [.cX [.cQ r 0,.cQ r 0,.cY,.cQ r 0,.cY,.cQ r 0,.cY,.cQ r 0,.cY],.cQ r e]:=(by simp only[aZ,h4,h5,aA,EVX,seval]);have D:hand eF [.cX [.cQ r 0,.cQ r 0,.cY,.cQ r 0,.cY,.cQ r 0,.cY,.cQ r 0,.cY],.cQ r e] (O++.cP [.cQ r 0,.cQ r 0,.cY,.cQ r 0,.cY,.cQ r 0,.cY,.cQ r 0,.cY] FZ::d)=J ([.cX ajD.B,.cQ r e],O++.cP [.cQ r 0,.cQ r 0,.cY,.cQ r 0,.cY,.cQ r 0,.cY,.cQ r 0,.cY] FZ::d):=w8;rw[oV res D,bu a w8];rfl
 by_cases s:e1=0
 case neg=>have t:(e1 !=0)=eT:=(by simpa using s);refine⟨R,e1,b,λO o a f=>?_⟩;rw[H.dF.go (p o O),acG,j8 s];generalize c:iF=w;simp only[DI,q1,t,i,f1,j,m,n,k9,aA,aI,cZ,EVX,seval];rw[<-c];exact refuse _ _ _ _ a w8 w8 ⟨_,w8⟩
 subst s;by_cases u:e2=0
 case neg=>have v:(e2 !=0)=eT:=(by simpa using u);refine⟨R,e2,b,λO o a f=>?_⟩;rw[H.dF.go (p o O),acG,j8 u];rw[q]at q2;generalize c:iF=w;simp only[DI,q1,q2,v,i,f1,j,m,n,k9,aA,aI,cZ,EVX,seval];rw[<-c];exact refuse _ _ _ _ a w8 w8 ⟨_,w8⟩
 subst u;rw[q]at q2;rw[show aC R.rt.th R.rt.V=[.cQ r R.rt.th,.sl (z R.rt.V) (R.rt.V.flatMap sC)]from w8]at q3;cases en with
 |false=>refine⟨R,4,b,λO o a f=>?_⟩;rw[H.dF.go (p o O),acG,j8 (by decide)];have q4:=λL=>q3 (O++L) o (aj f L);generalize c:iF=w;simp only[DI,q1,q2,q4,i,f1,j,m,n,k9,aA,aI,cZ,EVX,seval];rw[<-c];exact refuse _ _ _ _ a w8 w8 ⟨_,w8⟩|true=>refine⟨R,0,b,λO o a f=>?_⟩;rw[H.dF.go (p o O),acG,j0 w8];have q4:=λL=>q3 (O++L) o (aj f L);have I:=λL=>bu a (vs:=[.cX R.B,.cQ r 0]) (by rw[ae,j7,R.af.cl];rfl) L;have G:NVs [.cX R.B,.cQ r 0]:=.cV (.cX R.af) (.cV (.cQ _ _) .db);generalize c:iF=w;simp only[DI,q1,q2,q4,i,f1,j,m,n,k9,aA,aI,cZ,EVX,seval];rw[<-c];refine(Ia (vs:=[.cX R.B,.cQ r 0]) ?_ G).trans (by rw[I];rfl);rw[q];simp only[aZ,aA,EVX,seval]
end Go.Ev
namespace Go.Ev
open Option renaming some→J, none→U
open List renaming length→z
open Bool renaming false→eF, true→eT
open Go.IntKind renaming i64→r
variable{C:Ctx}
structure aQ where
 C:LU
 cm:Int
 aq:Int
 am:LU
def aQ.bL(f:aQ):LA:=[.cQ r f.cm,.cQ r f.aq,.cU f.am]
def aQ.cz(f:aQ):AV×AV:=(.cU f.C,.cX f.bL)
def ai1(file:LU)(cap:P):R PS->aQ|J p=>if cap<z p.2 then⟨file,cap,-2,[]⟩else⟨file,cap,z p.2,p.2⟩|U=>⟨file,cap,-1,[]⟩
def zX(fs:W PS)(file:LU)(cap:P):aQ:=ai1 file cap (fs.find? λp=>I (p.1=file))
def A7(Y:St)(fv:AV)(fs:W PS)(fo:R X):Prop:=(fs=[]/\fo=U/\fv=.eB 0 [])\/(∃q a,fo=J q/\fs≠[]/\fv=.dj q 0 (z fs) 2/\Y[q]?=J (.cP (fs.flatMap pC) a))\/(fo=U/\fv=.sl (z fs) (fs.flatMap pC))
def VF{a:Type}(Y:St)(v:AV)(sz:X)(c:a->LA)(xs:W a)(oo:R X):Prop:=(xs=[]/\oo=U/\v=.cY)\/∃q,oo=J q/\xs≠[]/\v=.dj q 0 (z xs) sz/\Y[q]?=J (.cP (xs.flatMap c) FZ)
def aho(Y:St)(ov:AV)(F:W aQ)(oo:R X):Prop:=VF Y ov 1 (λf=>[.cU f.C]) F oo
def A7.H{Y:St}{fv:AV}{fs:W PS}{fo:R X}(h:A7 Y fv fs fo)(L:St):A7 (Y++L) fv fs fo:=by
 rcases h with h|⟨q,e,a,b,c,d⟩|h;·exact .inl h
 ·exact .inr (.inl ⟨q,e,a,b,c,aj d L⟩)
 ·exact .inr (.inr h)
def A7.bl{Y:St}{fv:AV}{fs:W PS}{fo:R X}(h:A7 Y fv fs fo){n:X}(b:z Y<=n):j7 n fv=eT:=by
 rcases h with⟨_,_,rfl⟩|⟨q,a,_,_,rfl,d⟩|⟨_,rfl⟩;·rfl
 ·have:=(a00.mp d).1;simp only[j7,j6];omega
 ·exact aP (Z2 _) _ (dP (λ_=>w8) fs)
def akd (Y:St) (fv:AV) (fs:W PS) (fo:R X) (hf:A7 Y fv fs fo) (H:z fs<=1000) (file:LU) (cap:P):∀(n i:X) (G:St),i+n=z fs->
  ∃f,aG C (ai C) 39 [1,2,6,12,13,14] iG [(1,.cU file),(2,.cQ r cap),(6,.da (z Y) 0),(12,fv),(13,.cQ r (z fs)),(14,.cQ r i)] (Y++([.cP [.cQ r 0,.cQ r 0,.cU []] FZ]++G))=
   J (match(fs.drop i).find? (λp=>I (p.1=file))with|J p=>(.ea,[(6,.da (z Y) 0)],Y++([.cP (ai1 file cap (J p)).bL FZ]++f))|U=>(.dq 0,[(2,.cQ r cap),(6,.da (z Y) 0)],Y++([.cP [.cQ r 0,.cQ r 0,.cU []] FZ]++f))):=by
 intro n
 induction n with
 |zero=>intro i G hi;refine⟨G,?_⟩;rw[aB (he:=w8),aC0 (by omega)];have h:¬((i:P)<(z fs:P)):=(by omega);simp only[iG,h,K0,N,seval]
 |succ n l=>
  intro i G hi;rcases hf with⟨rfl,_,_⟩|⟨q,D,e1,e2,rfl,x⟩|⟨_,rfl⟩;·simp at hi
  all_goals
   have fl:=bz wB fs;have a:i<z fs:=(by omega);have e:=iy wB (a01 a);have w:fs.drop i=fs[i]::fs.drop (i+1):=aB6 a;rw[w];generalize fs[i]=p at*;rw[show pC p=[.cU p.1,.cU p.2]from w8]at e;simp only[a05,a88]at e;obtain⟨f,l⟩:=l (i+1) (G++[.cP [.cU p.1,.cU p.2] FZ]) (by omega);have h:((i:P)<(z fs:P)):=(by omega);have h3:(0:P)<=i:=(by omega);have B:=wrS i (by omega);have s:(Y++([.cP [.cQ r 0,.cQ r 0,.cU []] FZ]++G))[z Y]?=J (.cP [.cQ r 0,.cQ r 0,.cU []] FZ):=by rw[aA];rfl
   have u:∀y:AO,(Y++([AO.cP [.cQ r 0,.cQ r 0,.cU []] FZ]++G)).set (z Y) y=Y++([y]++G):=λy=>by rw[aS];rfl
   have m:Y++([.cP [.cQ r 0,.cQ r 0,.cU []] FZ]++(G++[.cP [.cU p.1,.cU p.2] FZ]))=(Y++([.cP [.cQ r 0,.cQ r 0,.cU []] FZ]++G))++[.cP [.cU p.1,.cU p.2] FZ]:=(by simp);first|have j:=aj x ([.cP [.cQ r 0,.cQ r 0,.cU []] FZ]++G)|have j:=trivial
   rw[m]at l;rw[aB (he:=w8)];generalize F:aG C (ai C) 39 [1,2,6,12,13,14] iG=k at*;generalize E:Y++([.cP [.cQ r 0,.cQ r 0,.cU []] FZ]++G)=T at*;have t:=λL=>aj s L;have v:=λL y=>gZ s L y;by_cases c:p.1=file
   ·subst c;rw[b (by simp)];refine⟨G++[.cP [.cU p.1,.cU p.2] FZ],?_⟩;by_cases g:cap<(z p.2:P);·simp only[iG,h,h3,a,e,fl,j,t,v,g,bC,aA,AV.cP,AV.Q,k9,N,seval];rw[u];simp[ai1,g,aQ.bL]
    ·simp only[iG,h,h3,a,e,fl,j,t,v,g,bC,aA,AV.cP,AV.Q,k9,N,seval];rw[u];simp[ai1,g,aQ.bL]
   ·rw[K (by simpa using c)];refine⟨f,?_⟩;rw[<-l];simp only[iG,h,h3,B,a,e,fl,j,c,aA,AV.cP,AV.Q,k9,N,seval]
def acW (l:Has C Bh wJ) (Y:St) (h:Ok Y) (s:X) (nm:AV) (m ov:AV) (fv:AV) (fs:W PS) (fo:R X) (hs:Y[s]?=J (.cP [nm,fv,m,ov] FZ)) (hf:A7 Y fv fs fo) (n:z fs<=1000) (file:LU) (cap:P):
  ai C Bh [.da s 0,.cU file,.cQ r cap] Y=J (.cX (zX fs file cap).bL,Y):=by
 have o:T eF [.da s 0,.cU file,.cQ r cap] Y=J ([.da s 0,.cU file,.cQ r cap],Y):=w8;rw[l.go o];obtain⟨t,d⟩:=akd (C:=C) Y fv fs fo hf n file cap (z fs) 0 [] (by omega);rw[show((0:X):P)=0 from w8,aB8,aB3]at d;have g:=λL=>aj hs L;have f:bC (Y++[.cP [.cQ r 0,.cQ r 0,.cU []] FZ]) 1 fv=J (z fs):=by rcases hf with⟨rfl,_,rfl⟩|⟨q,v,e1,e2,rfl,u⟩|⟨_,rfl⟩<;>rfl
 have i:=λ(a b:P) (c:LU)=>bu h (vs:=[.cX [.cQ r a,.cQ r b,.cU c]]) w8;unfold zX;cases e:fs.find? (λp=>I (p.1=file))with
 |some p=>rw[e]at d;unfold aQ.bL at d⊢;simp only[F,a88]at d;simp only[wJ,g,f,d,i,aZ,bK,aA,N,seval]|none=>rw[e]at d;have j:=λL:St=>aA Y (.cP [.cQ r 0,.cQ r 0,.cU []] FZ::L);have k:=λ(L:St) (y:AO)=>aS Y (.cP [.cQ r 0,.cQ r 0,.cU []] FZ::L) y;simp only[ai1,aQ.bL,F,a88]at d⊢;simp only[wJ,g,f,d,i,aZ,bK,aA,j,k,AV.cP,AV.Q,k9,N,seval]
def RN(n:LU):∀(F:W aQ) (i:X),(∀f,F.find? (λf=>I (f.C=n))=J f->∃k,oM (.cU n) (F.map aQ.cz) i=J (J (k,.cX f.bL)))/\(F.find? (λf=>I (f.C=n))=U->oM (.cU n) (F.map aQ.cz) i=J U)
 |[],i=>⟨λf h=>(by cases h),λ_=>w8⟩
 |g::F,i=>by
  obtain⟨a,h2⟩:=RN n F (i+1);have b:oM (.cU n) ((g::F).map aQ.cz) i=match I (n=g.C)with
   |eT=>J (J (i,.cX g.bL))|eF=>oM (.cU n) (F.map aQ.cz) (i+1):=by
   rw[aC9,aQ.cz,oM,ac5,nU];cases I (n=g.C)<;>rfl
  grind
structure kF(Y:St)(nm:LU)(fs:List PS)(F:List aQ)(s m:Nat)(fo oo:Option Nat):Prop where
 st:∃fv ov,Y[s]?=some (.cP [.cU nm,fv,.dz m,ov] FZ)/\A7 Y fv fs fo/\aho Y ov F oo
 mp:Y[m]?=some (.dz (F.map aQ.cz))
 dt:F.length<=1000000/\fs.length<=1000
 my:fo≠some s
 os:oo≠some s
 nD:∀q,fo=some q->oo≠some q
def kF.sm{Y:St}{nm fs F s m fo oo}(h:kF Y nm fs F s m fo oo):s≠m:=λe=>by grind [h.st,h.mp]
def kF.fm{Y:St}{nm fs F s m fo oo}(h:kF Y nm fs F s m fo oo):fo≠J m:=λe=>by
 obtain⟨f,ov,_,h2,_⟩:=h.st;rcases h2 with⟨_,h2,_⟩|⟨q,g,a,b,c,d⟩|⟨h2,_⟩;·rw[e]at h2;cases h2
 ·rw[e]at a;cases a;rw[h.mp]at d;cases d
 ·rw[e]at h2;cases h2
def kF.om{Y:St}{nm fs F s m fo oo}(h:kF Y nm fs F s m fo oo):oo≠J m:=λe=>by
 obtain⟨f,ov,_,_,h2⟩:=h.st;rcases h2 with⟨_,h2,_⟩|⟨q,a,b,c,d⟩;·rw[e]at h2;cases h2
 ·rw[e]at a;cases a;rw[h.mp]at d;cases d
def sD(fs:W PS)(F:W aQ)(file:LU)(cap:P):aQ×W aQ:=match F.find? (λf=>I (f.C=file))with|J f=>(f,F)|U=>(zX fs file cap,F++[zX fs file cap])
structure StoHas(C:Ctx):Prop where
 di:Has C Ju IR
 nB:Has C Bh wJ
 cd:Has C qV DN
def OB(H:StoHas C){Y:St}{s:X}{nm fv ov:AV}{m:X}(hs:Y[s]?=J (.cP [nm,fv,.dz m,ov] FZ)):ai C Ju [.da s 0] Y=J (.cW eT,Y):=by have a:=kK s Y;rw[H.di.go a];simp only[IR,hs,N,seval]
def adG (H:StoHas C) {Y:St} (d:Ok Y) {nm fs F s m fo oo} (h:kF Y nm fs F s m fo oo) (file:LU) (cap:P) (o:0<=cap/\cap<=65536) (f:aQ) (hf:F.find? (λf=>I (f.C=file))=J f):
  ai C qV [.da s 0,.cU file,.cQ r cap] Y=J (.de [.cU f.am,.cQ r f.aq,.cQ r 0],Y):=by
 have j:T eF [.da s 0,.cU file,.cQ r cap] Y=J ([.da s 0,.cU file,.cQ r cap],Y):=w8;obtain⟨n,ov,hs,_,_⟩:=h.st;have i:=h.mp;have q1:=OB H hs;obtain⟨k,q2⟩:=(RN file F 0).1 f hf;have e:¬cap<0:=by omega
 have g:¬(65536:P)<cap:=by omega
 have l:=λ(a:LU) (b c:P)=>bu d (vs:=[.cU a,.cQ r b,.cQ r c]) w8;rw[H.cd.go j];unfold aQ.bL at q2;simp only[DN,q1,q2,e,g,hs,i,mapOf,l,aA,aS,AV.cP,AV.Q,k9,N,seval]
theorem zt(fs:W PS)(file:LU)(cap:P):(zX fs file cap).C=file:=by
 unfold zX ai1;split;·split<;>rfl
 ·rfl
def ad8{n i:X}{x:AO}{S:St}(vs:LA)(hi:i<n)(h:S[i]?=J x)(hb:x.below n=eF):w n vs S=S:=by
 unfold w;split;·rfl
 ·rw[j8];intro a;rw[Q,aB0]at a;have:=a.2 x (a06 (i:=i) (by rw[aE3,j0 hi];exact h));rw[hb]at this;cases this
def aaD {b:Type} {Y:St} (a:Ok Y) {v:AV} {sz bytes:X} {c:b->LA} (k:∀x,z (c x)=sz) (hb:∀x,ae 0 (c x)=eT) {xs:W b} {oo:R X} (h:VF Y v sz c xs oo) (d:(z xs+1)*bytes<=70368744177664) (f:z xs+1<=70368744177664) (y:b):
  ∃S,uD Y sz bytes U v 1 (c y)=J (.dj (z Y) 0 (z xs+1) sz,S)/\z S=z Y+1/\S[z Y]?=J (.cP ((xs++[y]).flatMap c) FZ)/\(∀i x,oo≠J i->Y[i]?=J x->S[i]?=J x)/\Ok S:=by
 have nb:∀l:W b,ae 0 (l.flatMap c)=eT:=λl=>dP hb l;have fl:(xs++[y]).flatMap c=xs.flatMap c++c y:=by simp
 rcases h with⟨rfl,rfl,rfl⟩|⟨q,rfl,n,rfl,j⟩;·refine⟨Y++[.cP (c y) FZ],?_,by simp,by rw[aA,fl];rfl,λi x _ g=>aj g _,a.H (by simp only[Z0,aC6,w9,hb,aD0])⟩;unfold uD;rw[j8 (by decide)];simp only[X2,aC4]at d f⊢;rw[j0 ⟨d,f⟩]
 ·have m:=(a00.mp j).1;refine⟨Y.set q .em++[.cP ((xs++[y]).flatMap c) FZ],?_,by simp,by rw[aU (by simp)];rfl,λi x hi g=>aj (aH g (λe=>hi (by rw[e])) _) _,?_⟩;·unfold uD;rw[j8 (by decide)];simp only[j];rw[j0 ⟨E,bz k xs,d,f⟩,fl];simp
  ·refine Ok.H (Ok.bd a q w8) ?_;simp only[Z0,aC6,w9,nb,aD0]
def ae8(n:X)(F:W aQ):w9 n (.dz (F.map aQ.cz))=eT:=by
 have c:ae n ((F.map aQ.cz).map (·.1))=eT:=by
  induction F with
  |nil=>rfl|cons a l b=>rw[aC9,aC9,ae,b];rfl
 have h2:ae n ((F.map aQ.cz).map (·.2))=eT:=by
  clear c
  induction F with
  |nil=>rfl|cons a l b=>rw[aC9,aC9,ae,b];rfl
 rw[w9,c,h2];rfl
def adF (H:StoHas C) {Y:St} (D:Ok Y) {nm fs F s m fo oo} (h:kF Y nm fs F s m fo oo) (hF:z F<1000000) (file:LU) (cap:Int) (hc:0<=cap/\cap<=65536) (hf:F.find? (λf=>decide (f.C=file))=U):
  ∃w G,ai C qV [.da s 0,.cU file,.cQ r cap] Y=J (.de [.cU (zX fs file cap).am,.cQ r (zX fs file cap).aq,.cQ r 0],w)/\Ok w/\kF w nm fs (F++[zX fs file cap]) s m fo G/\z Y<=z w/\(∀i x,i≠s->i≠m->oo≠J i->Y[i]?=J x->w[i]?=J x)/\∀q,G=J q->z Y<=q:=by
 have Z:hand eF [.da s 0,.cU file,.cQ r cap] Y=J ([.da s 0,.cU file,.cQ r cap],Y):=w8;obtain⟨v,ov,hs,l,A⟩:=h.st;have N:=h.mp;have q1:=OB H hs;have q2:=(RN file F 0).2 hf;have V:¬cap<0:=by omega
 have W:¬(65536:Int)<cap:=by omega
 have u:=zt fs file cap;obtain⟨co,hr⟩:∃co,zX fs file cap=co:=⟨_,w8⟩;rw[hr]at u⊢;have sl:s<z Y:=(a00.mp hs).1;have ml:m<z Y:=(a00.mp N).1;have rb:w9 0 (.cP co.bL FZ)=eT:=w8;have ok0:Ok (Y++[.cP co.bL FZ]):=D.H (by rw[Z0,rb];rfl);have q3:=acW H.nB _ (D.H (L:=[.cP [.cQ r 0,.cQ r 0,.cU []] FZ]) w8) s _ _ ov v fs fo (aj hs _) (l.H _) h.dt.2 file cap;rw[hr]at q3;obtain⟨T0,g⟩:∃T,Y++[.cP co.bL FZ]=T:=⟨_,w8⟩;have l0:z T0=z Y+1:=by rw[<-g];simp
 have s0:T0[s]?=_:=g▸aj hs _;have Q:T0[m]?=_:=g▸aj N _;have x0:T0[z Y]?=J (.cP co.bL FZ):=by rw[<-g,aA];rfl
 rw[g]at ok0;have E:Ok (T0.set m (.dz ((F++[co]).map aQ.cz))):=Ok.bd ok0 m (ae8 _ _);obtain⟨t,j⟩:∃T,T0.set m (.dz ((F++[co]).map aQ.cz))=T:=⟨_,w8⟩;have l1:z t=z Y+1:=by rw[<-j,a99,l0]
 have s1:t[s]?=_:=j▸aH s0 h.sm _;have m1:t[m]?=J (.dz ((F++[co]).map aQ.cz)):=j▸bF Q _;have x1:t[z Y]?=J (.cP co.bL FZ):=j▸aH x0 (by omega) _;rw[j]at E;have B:aho t ov F oo:=by
  rcases A with k|⟨q,a,b,c,d⟩;·exact .inl k
  ·refine .inr ⟨q,a,b,c,?_⟩;have:T0[q]?=_:=g▸aj d _;exact j▸aH this (λe=>h.om (by rw[a,e])) _
 obtain⟨I,a1,l2,R,K,O⟩:=aaD (c:=λf:aQ=>[AV.cU f.C]) (sz:=1) (bytes:=16) E (λ_=>w8) (λ_=>w8) B (by omega) (by omega) co
 rw[l1]at a1 l2 R;have s2:=K s _ h.os s1;have m2:=K m _ h.om m1;have x2:=K (z Y) _ (λe=>by
  rcases A with⟨_,k,_⟩|⟨q,a,_,_,d⟩;·rw[k]at e;cases e
  ·rw[a]at e;cases e;have:=(a00.mp d).1;omega) x1
 obtain⟨S,o⟩:∃S,I.set s (.cP [.cU nm,v,.dz m,.dj (z Y+1) 0 (z F+1) 1] FZ)=S:=⟨_,w8⟩;have x3:S[z Y]?=J (.cP co.bL FZ):=o▸aH x2 (by omega) _;have s3:S[s]?=J (.cP [.cU nm,v,.dz m,.dj (z Y+1) 0 (z F+1) 1] FZ):=o▸bF s2 _;have m3:S[m]?=J (.dz ((F++[co]).map aQ.cz)):=o▸aH m2 (λe=>h.sm e.symm) _;have n3:S[z Y+1]?=J (.cP ((F++[co]).flatMap λf=>[.cU f.C]) FZ):=o▸aH R (by omega) _;have old:∀i x,i≠s->i≠m->oo≠J i->Y[i]?=J x->S[i]?=J x:=λi x M h2 h3 hx=>by have a0:T0[i]?=J x:=g▸aj hx _;have a1:t[i]?=J x:=j▸aH a0 h2 _;exact o▸aH (K i x h3 a1) M _
 have ty:=λvs:LA=>ad8 (n:=z Y) vs sl s3 (by simp[w9,ae,j7]);have e0:(F++[co]).map aQ.cz=F.map aQ.cz++[(.cU file,.cX co.bL)]:=by rw[List.map_append,<-u];rfl
 refine⟨S,J (z Y+1),?_,?_,?_,?_,old,λq e=>by cases e;omega⟩
 ·rw[H.cd.go Z];rw[u]at a1;have p:T0.set m (.dz (F.map aQ.cz++[(.cU file,.cX co.bL)]))=t:=by rw[<-e0];exact j
  unfold aQ.bL at q3 g x0 x3 p;have z0:=λL:St=>aA Y (.cP [.cQ r 0,.cQ r 0,.cU []] FZ::L);have z1:=λ(L:St) (y:AO)=>aS Y (.cP [.cQ r 0,.cQ r 0,.cU []] FZ::L) y;simp only[DN,q1,q2,q3,V,W,hs,N,s0,Q,x0,s1,s2,g,p,o,a1,x3,mapOf,ty,z0,z1,AV.cP,AV.Q,k9,EVX,seval]
 ·have:=Ok.bd O s (x:=.cP [.cU nm,v,.dz m,.dj (z Y+1) 0 (z F+1) 1] FZ) (by
   have fb:j7 (z I) v=eT:=(by exact l.bl (by omega));have M:m<z I:=(by omega);have h2:z Y+1<z I:=(by omega);simp[w9,ae,j7,fb,M,h2])
  rwa[o]at this
 ·refine⟨⟨v,_,s3,?_,.inr ⟨z Y+1,w8,by simp,by simp,n3⟩⟩,m3,⟨by simp;omega,h.dt.2⟩,h.my,λe=>by cases e;omega,λq e X=>?_⟩
  ·rcases l with k|⟨q,P,a,b,c,d⟩|k;·exact .inl k
   ·exact .inr (.inl ⟨q,P,a,b,c,old q _ (λe=>h.my (by rw[a,e])) (λe=>h.fm (by rw[a,e])) (h.nD q a) d⟩)
   ·exact .inr (.inr k)
  ·cases X;rcases l with⟨_,k,_⟩|⟨q,P,a,b,c,d⟩|⟨k,_⟩;·rw[k]at e;cases e
   ·rw[a]at e;cases e;have:=(a00.mp d).1;omega
   ·rw[k]at e;cases e
 ·rw[<-o,a99];omega
def Uniq(F:W aQ):Prop:=∀f∈F,F.find? (λg=>I (g.C=f.C))=J f
structure TelHas(C:Ctx):Prop extends StoHas C where
 told:Has C Jt IQ
 lh:Has C EK EJ
def nameB(b:Z6):L:=(97<=b.toNat&&b.toNat<=122)||(65<=b.toNat&&b.toNat<=90)||(48<=b.toNat&&b.toNat<=57)||b.toNat==46||b.toNat==95||b.toNat==45
def Xu(a:v C kw jV)(b:Z6)(O:St):ai C kw [.cQ .u8 b.toNat] O=J (.cW (nameB b),O):=by
 rw[a.go (NVs.E (.cV (.cQ _ _) .db) _)];simp only[jV,N,seval];repeat' (first|rw[aud]|rw[auc]|rw[azu]|rw[azt]);split<;>(try simp only[*,N,seval])
 all_goals (simp only[j6,decide_eq_false_iff_not,beq_iff_eq,beq_eq_false_iff_ne,ne_eq]at*;rw[a07,aC2,AV.cW.injEq,aL3];simp[nameB];omega)
def Ql (b:v C kw jV) (s:LU) (hs:z s<=64) (O:St):∀(n i:X),i+n=z s->
  aG C (ai C) 27 [0,17,18] vT [(0,.cU s),(17,.cQ r (z s)),(18,.cQ r i)] O=
   if(s.drop i).all nameB then J (.dq 0,[],O)else J (.ea,[(2,.cW eF)],O)
 |0,i,hi=>by rw[aB (he:=w8)];have h:¬((i:P)<(z s:P)):=(by omega);have a:s.drop i=[]:=aC0 (by omega);simp only[vT,h,a,N,seval]
 |n+1,i,hi=>by
  rw[aB (he:=w8)];generalize e:aG C (ai C) 27 [0,17,18] vT=k;have h:((i:P)<(z s:P)):=(by omega);have h2:i<z s:=(by omega);have hb:s[i]?=J s[i]:=a01 h2;have a:s.drop i=s[i]::s.drop (i+1):=aB6 h2;have f:=wrS i (by omega);have h3:(0:P)<=i:=(by omega);cases c:nameB s[i];·simp only[vT,h,a,h3,hb,c,aJ0,Xu b,N,seval]
  ·simp only[vT,h,a,h3,hb,f,c,aE0,Xu b,N,seval];rw[<-e,Ql b s hs O n (i+1) (by omega)]
def role(s:LU):L:=!s.isEmpty&&z s<=64&&s.head? !=J 46&&s.all nameB
def Fq(g:v C oK sN)(h:v C kw jV)(s:LU)(O:St):ai C oK [.cU s] O=J (.cW (role s),O):=by
 rw[g.go (NVs.E (.cV (.cU _) .db) _)];cases s with
 |nil=>simp only[sN,N,seval];rfl
 |cons b l=>
  have f:(b::l)≠[]:=(by simp);have hb:(b::l)[0]?=J b:=w8;have hr:role (b::l)=(z (b::l)<=64&&b.toNat !=46&&(b::l).all nameB):=by
   have:(b.toNat=46)↔(b=46):=by rw[<-aL8];rfl
   have e:(b==46)=(b.toNat==46):=by rw[aL3];simp[this]
   simp[role,bne,e]
  rw[hr];have d:=λc=>Ql h (b::l) c O (z (b::l)) 0 (by omega);generalize b::l=s at*;simp only[sN,f,N,seval];by_cases c:z s<=64
  ·have a:¬(64:P)<(z s:P):=(by omega);have d:=d c;simp only[aB8,aB1]at d;simp only[a,hb,N,seval];rw[apZ];split<;>rename_i h5<;>simp only[beq_iff_eq]at h5
   ·have:(b.toNat !=46)=eF:=by simp;omega
    simp only[this,Bool.and_false,aJ0,N,seval]
   ·have:(b.toNat !=46)=eT:=by simp;omega
    simp only[this,c,aE0,d,N,seval];cases s.all nameB<;>simp only[N,seval]
  ·have a:(64:P)<(z s:P):=(by omega);simp only[a,c,aJ0,N,seval]
def iD:LU:=[46,106,115,111,110]
def Zt(s:LU):AV:=if role s then .de [.cU (s++iD),.cQ r 0]else .de [.cU [],.cQ r 3]
def asb{s:LU}(h:role s=eT):z s<=64:=by simp[role]at h;exact h.1.1.2
def SA(b:v C sV zH)(hr:v C oK sN)(a:v C kw jV)(s:LU)(O:St):ai C sV [.cU s] O=J (Zt s,O):=by
 rw[b.go (NVs.E (.cV (.cU _) .db) _)];unfold Zt;cases h:role s;·simp only[zH,Fq hr a,h,N,seval]
 ·have hb:uJ .add s [46,106,115,111,110]=J (.cU (s++iD)):=ax3 (by have:=asb h;simp;omega);simp only[zH,Fq hr a,h,hb,N,seval]
def okD(fs:W PS):L:=fs.all λp=>I (z p.2<=65536)
def aiw(nm:LU)(fs:W PS):P:=if role nm=eF then 3 else if 256<z fs then 5 else if okD fs then 0 else 5
def arz (Y:St) (nm:LU) (fv:AV) (fs:W PS) (fo:R X) (hf:A7 Y fv fs fo) (A:z fs<=256):∀(n i:X) (G:St),i+n=z fs->G.all (w9 0)=eT->
  ∃b,b.all (w9 0)=eT/\aG C (ai C) 31 [0,1,14,15,16] vU [(0,.cU nm),(1,fv),(14,fv),(15,.cQ r (z fs)),(16,.cQ r i)] (Y++G)=
   J (if okD (fs.drop i)then(.dq 0,[(0,.cU nm),(1,fv)],Y++b)else(.ea,[(4,.ep),(5,.cQ r 5)],Y++b)):=by
 intro n
 induction n with
 |zero=>intro i G hi m;refine⟨G,m,?_⟩;rw[aB (he:=w8),aC0 (by omega)];have h:¬((i:P)<(z fs:P)):=(by omega);simp only[vU,h,okD,aC6,N,seval]
 |succ n g=>
  intro i G hi m;rcases hf with⟨rfl,_,_⟩|⟨q,w,e1,e2,rfl,s⟩|⟨_,rfl⟩;·simp at hi
  all_goals
   have fl:=bz wB fs;have a:i<z fs:=(by omega);have f:=iy wB (a01 a);have o:fs.drop i=fs[i]::fs.drop (i+1):=aB6 a;rw[o];generalize fs[i]=p at*;rw[show pC p=[.cU p.1,.cU p.2]from w8]at f;simp only[F,a88]at f;have e:(G++[AO.cP [.cU p.1,.cU p.2] FZ]).all (w9 0)=eT:=by rw[aK2,m];rfl
   obtain⟨b,t,g⟩:=g (i+1) (G++[.cP [.cU p.1,.cU p.2] FZ]) (by omega) e;have h:((i:P)<(z fs:P)):=(by omega);have h3:(0:P)<=i:=(by omega);have v:=wrS i (by omega);first|have l:=aj s G|have l:=E
   have d:Y++(G++[.cP [.cU p.1,.cU p.2] FZ])=(Y++G)++[.cP [.cU p.1,.cU p.2] FZ]:=(by simp);rw[d]at g;rw[aB (he:=w8)];generalize y:aG C (ai C) 31 [0,1,14,15,16] vU=k at*;generalize x:Y++G=T at*;by_cases c:z p.2<=65536;·have j:¬(65536:P)<(z p.2:P):=(by omega);refine⟨b,t,?_⟩;have:okD (p::fs.drop (i+1))=okD (fs.drop (i+1)):=(by simp[okD,c]);rw[this,<-g];simp only[vU,h,h3,v,a,f,fl,l,j,bC,aA,aS,AV.cP,AV.Q,k9,N,seval]
   ·have j:(65536:P)<(z p.2:P):=(by omega);refine⟨G++[.cP [.cU p.1,.cU p.2] FZ],e,?_⟩;have:okD (p::fs.drop (i+1))=eF:=(by simp[okD,c]);rw[this,d];simp only[vU,h,h3,a,f,fl,l,j,bC,aA,aS,AV.cP,AV.Q,k9,N,seval]
def Vw(C:H)(fv:AV)(fs:W PS)(fo:R X):Prop:=∀Y:St,Ok Y->A7 Y fv fs fo->∃b a L,ai C dB [fv] Y=J (b,Y++L)/\Ok (Y++L)/\A7 (Y++L) b fs a/\∀q,a=J q->z Y<=q
def kF.sl{Y:St}{nm fs F s m fo oo}(h:kF Y nm fs F s m fo oo):s<z Y:=by grind [kF]
def kF.ml{Y:St}{nm fs F s m fo oo}(h:kF Y nm fs F s m fo oo):m<z Y:=(a00.mp h.mp).1
def VF.H{f:Type}{Y:St}{v:AV}{sz:X}{c:f->LA}{xs:W f}{oo:R X}(h:VF Y v sz c xs oo)(L:St):VF (Y++L) v sz c xs oo:=by
 rcases h with h|⟨q,a,b,e,d⟩;·exact .inl h
 ·exact .inr ⟨q,a,b,e,aj d L⟩
def kF.H{Y:St}{nm fs F s m fo oo}(h:kF Y nm fs F s m fo oo)(L:St):kF (Y++L) nm fs F s m fo oo:=by obtain⟨a,ov,hs,hf,hv⟩:=h.st;exact⟨⟨a,ov,aj hs L,hf.H L,VF.H hv L⟩,aj h.mp L,h.dt,h.my,h.os,h.nD⟩
structure NewHas(C:Ctx):Prop extends TelHas C where
 dw:Has C kw jV
 er:Has C oK sN
 eM:Pn C KI Gg
def aoW (H:NewHas C) {Y:St} (i:Ok Y) (nm:LU) {fv:AV} {fs:W PS} {fo:R X} (hf:A7 Y fv fs fo) (p:Vw C fv fs fo) (F:z fs<=1000):
  (aiw nm fs≠0/\ai C KI [.cU nm,fv] Y=J (.de [.ep,.cQ r (aiw nm fs)],Y))\/
  (aiw nm fs=0/\∃s m b L,ai C KI [.cU nm,fv] Y=J (.de [.da s 0,.cQ r 0],Y++L)/\Ok (Y++L)/\kF (Y++L) nm fs [] s m b U/\z Y<=s/\z Y<=m/\∀q,b=J q->z Y<=q):=by
 have f:bC Y 1 fv=J (z fs):=by rcases hf with⟨rfl,_,rfl⟩|⟨q,y,e1,e2,rfl,x⟩|⟨_,rfl⟩<;>rfl
 have h:=λY=>Fq H.er H.dw nm Y;have G:=λL=>λe:P=>bu i (vs:=[.ep,.cQ r e]) w8 L;unfold aiw;rw[H.eM.go];cases hr:role nm;·left;rw[hr]at h;have v:=FI Y;rw[j0 w8];refine⟨by decide,?_⟩;simp only[Gg,h,v,nV,aZ,N,seval]
 ·rw[hr]at h;rw[j8 (by decide)];by_cases c:256<z fs;·left;have v:=FI Y;have k:(256:P)<(z fs:P):=(by omega);rw[j0 c];refine⟨by decide,?_⟩;simp only[Gg,h,f,k,v,nV,aZ,N,seval]
  ·rw[j8 c];have k:¬(256:P)<(z fs:P):=(by omega);obtain⟨g,E,j⟩:=arz (C:=C) Y nm fv fs fo hf (by omega) (z fs) 0 [] (by omega) w8;rw[show((0:X):P)=0 from w8,aB8,aB3]at j;cases A:okD fs;·left;rw[j8 (by decide)];rw[A,j8 (by decide)]at j;refine⟨by decide,?_⟩;simp only[Gg,h,f,k,j,G,nV,aZ,N,seval]
   ·right;rw[j0 w8];rw[A,j0 w8]at j;refine⟨w8,?_⟩;have t:Ok (Y++g):=i.H E;obtain⟨a,b,L,a1,a2,a3,a4⟩:=p _ t (hf.H g);obtain⟨T,o⟩:∃T,Y++g++L=T:=⟨_,w8⟩;have K:z T=z Y+z g+z L:=by rw[<-o];simp;omega
    rw[o]at a1 a2 a3;simp only[j9]at a4;have D:a.cP=[a]:=(by rcases a3 with⟨_,_,rfl⟩|⟨q,y,_,_,rfl,d⟩|⟨_,rfl⟩<;>rfl);have n:j7 (z T+1+1) a=eT:=(by exact a3.bl (by omega));have u:Ok ((T++[.dz []])++[.cP [.cU nm,a,.dz (z T),.cY] FZ]):=by have:Ok (T++[.dz []]):=a2.H w8;refine QJ this ?_;simp[w9,ae,j7,n];omega
    have w:tidy (z Y) [.da (z T+1) 0,.cQ r 0] (T++[.dz [],.cP [.cU nm,a,.dz (z T),.cY] FZ])=T++[.dz [],.cP [.cU nm,a,.dz (z T),.cY] FZ]:=qY (by simp[ae,j7];omega) _;have e1:T++[.dz [],.cP [.cU nm,a,.dz (z T),.cY] FZ]=Y++(g++L++[.dz [],.cP [.cU nm,a,.dz (z T),.cY] FZ]):=by rw[<-o];simp
    refine⟨z T+1,z T,b,g++L++[.dz [],.cP [.cU nm,a,.dz (z T),.cY] FZ],?_,by rw[<-e1];simpa using u,?_,by omega,by omega,λq e=>by have:=a4 q e;omega⟩;·rw[<-e1];simp only[Gg,h,f,k,j,a1,D,k9,w,nV,aZ,N,seval]
    ·rw[<-e1];have x:∀q,b=J q->q<z T:=λq e=>by
      rcases a3 with⟨_,l,_⟩|⟨I,y,l,_,_,d⟩|⟨l,_⟩;·rw[l]at e;cases e
      ·grind
      ·rw[l]at e;cases e
     refine⟨⟨a,.cY,by simp,a3.H _,.inl ⟨w8,w8,w8⟩⟩,by simp,⟨by simp,F⟩,λe=>?_,(λe=>nomatch e),(λq e B=>nomatch B)⟩;have:=x _ e;omega
def mayC(n:P):L:=I (0<=n)&&I (n<=65536)
def aiW(a:v C LJ Bv)(n:P)(Y:St):ai C LJ [.cQ r n] Y=J (.cW (mayC n),Y):=by
 have b:T eF [.cQ r n] Y=J ([.cQ r n],Y):=w8;rw[a.go b];unfold mayC;by_cases c:0<=n
 ·by_cases d:n<=65536;·simp only[Bv,c,d,N,seval]
  ·simp only[Bv,c,d,N,seval]
 ·simp only[Bv,c,N,seval];rfl
def qW(s:X)(R:jR)(o:X)(now rc sc:P):LA:=.da s 0::(R.B++[.da o 0,.cQ r now,.cQ r rc,.cQ r sc])
structure bH(Y:St)(h:Bool)(l:List iH)(R:jR)(now rc sc:Int)(nm:LU)(fs:List PS)(F:List aQ)(r s m o:Nat)(fo oo:Option Nat):Prop where
 rp:Y[r]?=some (.cP (qW s R o now rc sc) FZ)
 bU:Y[o]?=some (TD h l)
 st:kF Y nm fs F s m fo oo
 rs:r≠s
 rm:r≠m
 ro:oo≠some r
 vs:o≠s
 vm:o≠m
 vo:oo≠some o
 ck:mayC rc=true/\mayC sc=true
def yV(nm:LU)(fs:W PS)(rc sc:P)(e:P):P:=if aiw nm fs≠0 then aiw nm fs else if(mayC rc&&mayC sc)=eF then 1 else e
structure RNewHas(C:Ctx):Prop extends NewHas C,RootHas C where
 ke:Has C LJ Bv
 nh:Pn C N7 EU
def Rj(n:X):∀(a b:LA),ae n a=eT->ae n (a++b)=ae n b|[],_,_=>w8|x::a,b,h=>by rw[ae,Q]at h;rw[F,ae,h.1,Rj n a b h.2,aE0]
def aiV (H:RNewHas C) (h:Bool) (l:List iH) (R:jR) (e:Int) (data:LU)
  (V:∀(O:St) (o:Nat),Ok O->O[o]?=J (TD h l)->ai C D8 [.da o 0,.cU data] O=J (.de [.cX (acG R e).B,.cQ r e],O))
  {Y:St} (t:Ok Y) (o:Nat) (F:Y[o]?=J (TD h l)) (nm:LU) {fv:AV} {fs:List PS} {fo:Option Nat} (hf:A7 Y fv fs fo) (y:Vw C fv fs fo) (W:z fs<=1000) (now b0 b1 rc sc:Int):
  (yV nm fs rc sc e≠0/\ai C N7 [.cX [.cU nm,.cU data,fv],.da o 0,.cQ r now,.cX [.cQ r b0,.cQ r b1,.cQ r rc,.cQ r sc]] Y=J (.de [.ep,.cQ r (yV nm fs rc sc e)],Y))\/
  (yV nm fs rc sc e=0/\∃co s m c L,ai C N7 [.cX [.cU nm,.cU data,fv],.da o 0,.cQ r now,.cX [.cQ r b0,.cQ r b1,.cQ r rc,.cQ r sc]] Y=J (.de [.da co 0,.cQ r 0],Y++L)/\Ok (Y++L)/\bH (Y++L) h l R now rc sc nm fs [] co s m o c U/\z Y<=co/\z Y<=s/\z Y<=m/\∀q,c=J q->z Y<=q):=by
 have fb:j7 (z Y) fv=eT:=by
  rcases hf with⟨_,_,rfl⟩|⟨q,fz,_,_,rfl,d⟩|⟨_,rfl⟩;·rfl
  ·have:=(a00.mp d).1;simp only[j7,j6];omega
  ·exact aP (Z2 _) _ (dP (λ_=>w8) fs)
 have B:Ok (Y++[.cP [.cU nm,.cU data,fv] FZ,.cP [.cQ r b0,.cQ r b1,.cQ r rc,.cQ r sc] FZ]):=QJ t (by
  have:j7 (z Y+2) fv=eT:=below_mono (by omega) _ fb;simp[w9,ae,j7,this])
 have K:=λ(L:St) (e:Int)=>bu t (vs:=[.ep,.cQ r e]) w8 L;have u:=λn Y=>aiW H.ke n Y;have N:=aoW H.toNewHas B nm (hf.H _) y W;unfold yV;rw[H.nh.go];rcases N with⟨n1,g⟩|⟨n1,s,m,c,L,g,i,v,Z,n5,G⟩;·left;rw[j0 n1];refine⟨n1,?_⟩;have p:(aiw nm fs !=0)=eT:=(by simpa using n1);simp only[EU,g,p,K,nV,aZ,AV.cP,EVX,seval]
 ·rw[j8 (by rw[n1];decide)];have X:=g;rw[n1]at*;obtain⟨T,x⟩:∃T,(Y++[.cP [.cU nm,.cU data,fv] FZ,.cP [.cQ r b0,.cQ r b1,.cQ r rc,.cQ r sc] FZ])++L=T:=⟨_,w8⟩;rw[x]at g i v;have a:T=Y++([.cP [.cU nm,.cU data,fv] FZ,.cP [.cQ r b0,.cQ r b1,.cQ r rc,.cQ r sc] FZ]++L):=(by rw[<-x,aB2]);have x4:T[z Y]?=J (.cP [.cU nm,.cU data,fv] FZ):=by rw[a,aA];rfl
  have x7:T[z Y+1]?=J (.cP [.cQ r b0,.cQ r b1,.cQ r rc,.cQ r sc] FZ):=by rw[a,aI];rfl
  have A:T[o]?=J (TD h l):=by rw[a];exact aj F _
  have k:=λ(M:St) (e:Int)=>K ([.cP [.cU nm,.cU data,fv] FZ,.cP [.cQ r b0,.cQ r b1,.cQ r rc,.cQ r sc] FZ]++L++M) e;simp only[<-aB2,x]at k;have b:=k [];rw[aB3]at b;cases f:mayC rc&&mayC sc
  ·left;rw[j0 w8];refine⟨by decide,?_⟩;cases p:mayC rc;·simp only[EU,g,u,p,x7,b,nV,aZ,AV.cP,EVX,seval]
   ·rw[p,aE0]at f;simp only[EU,g,u,p,f,x7,b,nV,aZ,AV.cP,EVX,seval]
  ·rw[j8 (by decide)];rw[a02]at f;have cr:=V T o i A;by_cases ce:e=0
   ·right;refine⟨ce,?_⟩;subst ce;rw[acG,j0 w8]at cr;have P:=R.f8;have I:ae 0 R.B=eT:=R.af.cl;have rp:qW s R o now rc sc=[.da s 0,.cQ r R.bU,.cQ r R.bx,.sl (z R.ks) (R.ks.flatMap pC),.cQ r R.rt.th,.sl (z R.rt.V) (R.rt.V.flatMap sC),.cQ r R.sn.th,.sl (z R.sn.V) (R.sn.V.flatMap sC),.cQ r R.tg.th,.sl (z R.tg.V) (R.tg.V.flatMap sC),.da o 0,.cQ r now,.cQ r rc,.cQ r sc]:=w8;have sT:s<z T:=by obtain⟨Q,ov,hs,_⟩:=v.st;exact(a00.mp hs).1
    have aa:o<z T:=(a00.mp A).1;have tl:z Y+2<=z T:=by rw[a];simp
    simp only[j9,Z1,X2]at Z n5 G;have E:ae (z T+2) (qW s R o now rc sc)=eT:=by unfold qW;have S:s<z T+2:=(by omega);have h2:o<z T+2:=(by omega);have h3:=aP (Z2 (z T+2)) _ I;rw[ae,Rj _ _ _ h3];simp[ae,j7,S,h2]
    have D:Ok (T++[.cP R.B FZ,.cP (qW s R o now rc sc) FZ]):=QJ i (by
     have h3:=aP (Z2 (z T+2)) _ I;simp only[Z1,X2,Z0,aC6,w9,h3,E,aD0])
    have j:tidy (z Y) [.da (z T+1) 0,.cQ r 0] (T++[.cP R.B FZ,.cP (qW s R o now rc sc) FZ])=T++[.cP R.B FZ,.cP (qW s R o now rc sc) FZ]:=qY (by simp[ae,j7];omega) _;have e1:T++[.cP R.B FZ,.cP (qW s R o now rc sc) FZ]=Y++([.cP [.cU nm,.cU data,fv] FZ,.cP [.cQ r b0,.cQ r b1,.cQ r rc,.cQ r sc] FZ]++L++[.cP R.B FZ,.cP (qW s R o now rc sc) FZ]):=by rw[a];simp
    have y7:=λL=>aj x7 L;refine⟨z T+1,s,m,c,_,?_,by rw[<-e1];exact D,?_,by omega,by omega,by omega,λq e=>by have:=G q e;omega⟩;·rw[<-e1];rw[P]at cr j⊢;rw[rp]at j⊢;simp only[EU,g,u,f.1,f.2,cr,x4,x7,y7,j,nV,aZ,k9,AV.cP,AV.Q,EVX,seval]
    ·rw[<-e1];have ol:o<z Y:=(a00.mp F).1;exact⟨by rw[aI];rfl,aj A _,v.H _,by omega,by have:=v.ml;omega,by simp,by omega,by omega,by simp,f⟩
   ·left;refine⟨ce,?_⟩;have w:(e !=0)=eT:=(by simpa using ce);rw[acG,j8 ce]at cr;have zc:ajD.B=[.cQ r 0,.cQ r 0,.sl 0 [],.cQ r 0,.sl 0 [],.cQ r 0,.sl 0 [],.cQ r 0,.sl 0 []]:=w8;rw[zc]at cr;simp only[EU,g,u,f.1,f.2,cr,w,x4,x7,k,nV,aZ,k9,AV.cP,AV.Q,EVX,seval]
structure kZ where
 nm:LU
 am:LU
 fs:List PS
 h:Bool
 l:List iH
 aw:Int
 b0:Int
 b1:Int
 rc:Int
 sc:Int
def kZ.B(c:kZ):LA:=[.cU c.nm,.cU c.am,.sl (z c.fs) (c.fs.flatMap pC),.cW c.h,TB c.l,.cQ r c.aw,.cQ r c.b0,.cQ r c.b1,.cQ r c.rc,.cQ r c.sc]
theorem kZ.af(c:kZ):q c.B:=.cV (.cU _) (.cV (.cU _) (.cV (rV _) (.cV (.cW _) (.cV (X7 _) (.cV (.cQ _ _) (.cV (.cQ _ _) (.cV (.cQ _ _) (.cV (.cQ _ _) (.cV (.cQ _ _) .db)))))))))
theorem kF.au{Y S:St}{nm fs F s m fo oo}(h:kF Y nm fs F s m fo oo)(hs:S[s]?=Y[s]?)(j:S[m]?=Y[m]?)(hf:∀q,fo=J q->S[q]?=Y[q]?)(k:∀q,oo=J q->S[q]?=Y[q]?):kF S nm fs F s m fo oo:=by
 obtain⟨g,ov,a,b,c⟩:=h.st;refine⟨⟨g,ov,by rw[hs];exact a,?_,?_⟩,by rw[j];exact h.mp,h.dt,h.my,h.os,h.nD⟩
 ·rcases b with b|⟨q,i,b1,d,e,f⟩|b;·exact .inl b
  ·exact .inr (.inl ⟨q,i,b1,d,e,by rw[hf q b1];exact f⟩)
  ·exact .inr (.inr b)
 ·rcases c with c|⟨q,b1,d,e,f⟩;·exact .inl c
  ·exact .inr ⟨q,b1,d,e,by rw[k q b1];exact f⟩
theorem bH.au{Y S:St}{h l R now rc sc nm fs F f s m o fo oo}(a:bH Y h l R now rc sc nm fs F f s m o fo oo)(hr:S[f]?=Y[f]?)(d:S[o]?=Y[o]?)(hs:S[s]?=Y[s]?)(c:S[m]?=Y[m]?)(hf:∀q,fo=J q->S[q]?=Y[q]?)(b:∀q,oo=J q->S[q]?=Y[q]?):bH S h l R now rc sc nm fs F f s m o fo oo:=
 ⟨by rw[hr];exact a.rp,by rw[d];exact a.bU,a.st.au hs c hf b,a.rs,a.rm,a.ro,a.vs,a.vm,a.vo,a.ck⟩
theorem oZ.dt(h:oZ):z h.B=4:=w8
theorem oZ.below(h:oZ):ae 0 h.B=eT:=by simp only[oZ.B,ae,(rV h.aM).cl];rfl
def auU(l:W oZ):NV (.sl (z l) (l.flatMap oZ.B)):=.sl _ (dP oZ.below l)
def Tn:LA:=[.cU [],.cQ r 0,.cQ r 0,.cY]
def Uu (m:PE C dO 2) (l:W oZ) (u:z l<=1099511627776) (o:∀p∈l,z p.aM<=1099511627776) (file:LU) (O:St) (X:AO):∀(n i:Nat) (G:St),i+n=z l->
  ∃c,aG C (ai C) 36 [4,6,19,20,21] uY [(4,.da (z O+1) 0),(6,.cU file),(19,.sl (z l) (l.flatMap oZ.B)),(20,.cQ r (z l)),(21,.cQ r i)] (O++X::.cP Tn FZ::G)=
   match(l.drop i).find? (λp=>I (p.C=file))with
   |U=>J (.dq 0,[(4,.da (z O+1) 0)],O++X::.cP Tn FZ::c)|J p=>J (.ea,[(4,.da (z O+1) 0),(5,.cW eT)],O++X::.cP p.B FZ::c)
 |0,i,G,hi=>by rw[aB (he:=w8)];have h:¬((i:P)<(z l:P)):=(by omega);have b:l.drop i=[]:=aC0 (by omega);refine⟨G,?_⟩;simp only[uY,h,b,K0,N,seval]
 |n+1,i,G,hi=>by
  rw[aB (he:=w8)];have h:((i:P)<(z l:P)):=(by omega);have h2:i<z l:=(by omega);have hb:l[i]?=J l[i]:=a01 h2;have b:l.drop i=l[i]::l.drop (i+1):=aB6 h2;have v:=wrS i (by omega);have h3:(0:P)<=i:=(by omega);have fl:=bz oZ.dt l;have fd:=iy oZ.dt hb;have q:=o _ (aD5 h2);obtain⟨p,g⟩:∃p,p=l[i]:=⟨_,w8⟩;rw[<-g]at fd b q;have e:=λY=>m (z p.aM) (p.aM.flatMap pC) Y (bz wB _) q (aei (f:=pC) (λx=>w8) _);cases d:I (p.C=file);·obtain⟨c,w⟩:=Uu m l u o file O X n (i+1) (G++[.cP p.B FZ]) (by omega);refine⟨c,?_⟩;rw[b,j,d];dsimp only;rw[<-w];generalize t:aG C (ai C) 36 [4,6,19,20,21] uY=k;simp only[uY,h,h2,h3,v,d,fl,fd,oZ.B,F,aI6,aH4,aB2,j9,AV.cP,KL,N,seval]
  ·refine⟨G++[.cP p.B FZ],?_⟩;rw[b,j,d];dsimp only;generalize t:aG C (ai C) 36 [4,6,19,20,21] uY=k;simp only[uY,h,h2,h3,d,fl,fd,e,oZ.B,Tn,F,aI6,aH4,aB2,j9,AV.cP,KL,N,seval]
def XQ(s:SnV):AV:=.cX s.B
def aaF(s:SnV):NV (XQ s):=.cX (.cV (.cQ _ _) (.cV (.cQ _ _) (.cV (auU s.ay) .db)))
def nZ(s:SnV)(d:LU):R oZ:=if role d then s.ay.find? (λp=>I (p.C=d++iD))else U
def pI:LA:=[.cU [],.cQ r 0,.cQ r 0,.sl 0 []]
def aou:R oZ->AV|U=>.de [.cX pI,.cW eF]|J p=>.de [.cX p.B,.cW eT]
structure aaW(C:Ctx):Prop where
 dw:Has C kw jV
 bS:Has C oK sN
 hc:Has C sV zH
 f7:PE C dO 2
 ct:Has C abD Nu
 cm:Has C KA F7
structure Mc(s:SnV):Prop where
 ay:s.ay.length<=1099511627776
 aM:∀p∈s.ay,p.aM.length<=1099511627776
def asX(h:aaW C)(s:SnV)(hs:Mc s)(f:LU)(O:St)(c:Ok O):ai C abD [XQ s,.cU f] O=J (aou (nZ s f),O):=by
 rw[h.ct.go (NVs.E (.cV (aaF s) (.cV (.cU _) .db)) _)];unfold nZ XQ SnV.B;have d:=λ(vs:LA) (hv:ae 0 vs=eT) (L:St)=>bu c hv L;cases hr:role f;·have b:Zt f=.de [.cU [],.cQ r 3]:=(by simp[Zt,hr]);have t1:=d [.cX pI,.cW eF] w8;unfold pI at t1;simp only[Nu,SA h.hc h.bS h.dw,b,aZ,bK,dQ,aou,pI,t1,AV.cP,AV.Q,F,aI6,aH4,N,seval]
 ·have b:Zt f=.de [.cU (f++iD),.cQ r 0]:=(by simp[Zt,hr]);obtain⟨G,a⟩:=Uu h.f7 s.ay hs.ay hs.aM (f++iD) O (.cP [.cQ r s.bU,.cQ r s.bx,.sl (z s.ay) (s.ay.flatMap oZ.B)] FZ) (z s.ay) 0 [] (by omega);rw[aB8]at a;simp only[aB1,Tn]at a;rw[j0 w8];cases hf:s.ay.find? (λp=>I (p.C=f++iD))with|none=>rw[hf]at a;have t1:=d [.cX pI,.cW eF] w8;unfold pI at t1;simp only[Nu,SA h.hc h.bS h.dw,b,a,aZ,bK,dQ,aou,pI,t1,AV.cP,AV.Q,F,aI6,aH4,N,seval]|some p=>rw[hf]at a;have t1:=d [.cX p.B,.cW eT] (by simp only[ae,j7,oZ.below];rfl);unfold oZ.B at t1;simp only[Nu,SA h.hc h.bS h.dw,b,a,aZ,bK,aou,oZ.B,t1,AV.cP,F,N,seval]
def aa4(o:R oZ)(a:P):AV:=match o with|U=>.de [.cX pI,.cQ r 0,.cQ .u8 1]|J p=>if p.I<0 then .de [.cX p.B,.cQ r a,.cQ .u8 0]else if p.I>a then .de [.cX pI,.cQ r 0,.cQ .u8 3]else .de [.cX p.B,.cQ r p.I,.cQ .u8 0]
def avD{O:St}(c:Ok O)(a b:LA)(d:ae 0 a=eT)(hb:ae 0 b=eT)(x y:Fz):Ok (O++[.cP a x,.cP b y]):=
 QJ c (by simp[w9,aP (Z2 _) _ d,aP (Z2 _) _ hb])
def ae0(h:aaW C)(s:SnV)(hs:Mc s)(i:LU)(c:P)(O:St)(d:Ok O):ai C KA [XQ s,.cU i,.cQ r c] O=J (aa4 (nZ s i) c,O):=by
 rw[h.cm.go (NVs.E (.cV (aaF s) (.cV (.cU _) (.cV (.cQ _ _) .db))) _)];have f:=avD d [.cQ r s.bU,.cQ r s.bx,.sl (z s.ay) (s.ay.flatMap oZ.B)] Tn (by have:=(aaF s).cl;unfold XQ SnV.B at this;rw[j7]at this;exact this) w8 FZ FZ;have q:=asX h s hs i _ f;have g:=λ(vs:LA) (hv:ae 0 vs=eT) (L:St)=>bu d hv L;unfold XQ SnV.B Tn at*;have t1:=λa b=>g [.cX pI,.cQ r a,.cQ .u8 b] w8;unfold pI at t1;cases hf:nZ s i with
 |none=>rw[hf]at q;unfold aou pI at q;dsimp only at q;simp only[F7,q,aZ,bK,dQ,aa4,pI,t1,AV.cP,AV.Q,F,aI6,aH4,N,seval]
 |some p=>
  rw[hf]at q;have pc:p.B=[.cU p.C,.cQ r p.cy,.cQ r p.I,.sl (z p.aM) (p.aM.flatMap pC)]:=w8;unfold aou at q;dsimp only at q;rw[pc]at q;have t2:=λa b=>g [.cX p.B,.cQ r a,.cQ .u8 b] (by simp only[ae,j7,oZ.below];rfl);rw[pc]at t2;by_cases e:p.I<0;·simp only[F7,q,e,aZ,bK,aa4,pc,t2,AV.cP,AV.Q,F,aI6,aH4,N,seval]
  ·by_cases h2:c<p.I;·simp only[F7,q,e,h2,aZ,bK,dQ,aa4,pI,t1,AV.cP,AV.Q,F,aI6,aH4,N,seval]
   ·simp only[F7,q,e,h2,aZ,bK,aa4,pc,t2,AV.cP,AV.Q,F,aI6,aH4,N,seval]
noncomputable section
structure TSP(P:Program)(f:Nat)where
 k:TF
 p:(cTF P f).getD ⟨0,[],.eI⟩=k:=by conv=>lhs;reduce;simp only[RD,seval]
abbrev TsA(f:X):Type:=TSP Go.Proofs.Tryz.prog f
def FQ:TF:=(.mk ?k:TsA sW).1
def zB:TF:=(.mk ?k:TsA vI).1
def qG:TF:=(.mk ?k:TsA qK).1
def kP:TF:=(.mk ?k:TsA jF).1
end
def gJ:CFn:=⟨7,[(.eN 2 eT 3),(.eN 3 eF 1)],[o 2 (.eM [(.cQ r 0),(.cQ r 0),.cY] U),
 o 3 (.eM [(.cQ .u8 0)] U)],4,Ef,[(.t 2),(.t 3)],
 (.eA (.fu [.op (m 5 0),
 .op (o 6 (.gR qK [(.t 5)])),
 .op (u (.fR 3 (.t 2) (.t 6))),
 .op (u (.fR 1 (.t 3) (.c (.cQ .u8 0))))])
 .ea)⟩
def qQ:KC:=
 (.eA (.fu [m 4 2,
 o 5 (.e9 .neq 5 eT (.t 4) (.c .eb))])
 (.eJ (.t 5)
 (.fu [o 6 (.hZ [(.cQ r 0),(.cQ r 0),.cY] []),
 m 7 2,
 o 8 (.gR sW [(.t 7)]),
 u (.fR 3 (.t 0) (.t 6)),
 u (.fR 1 (.t 1) (.t 8))])
 .eI))
def fC:KFn:=⟨9,3,2,qQ.ad⟩
def kG:CFn:=⟨16,[(.eN 8 eT 9),(.eN 9 eF 1)],[o 6 (.jp (.t 2)),
 o 8 (.eM [(.cQ r 0),(.cQ r 0),.cY,.cY,.cY,(.cQ r 0),.cY,(.cQ r 0),(.cU [])] U),
 o 9 (.eM [(.cQ .u8 0)] U)],10,Jq,[(.t 8),(.t 9)],
 (.eA (.fu [.op (m 11 0),
 .op (m 12 1),
 .op (o 13 (.iv eT 2 (.t 6))),
 .op (m 14 3),
 .op (o 15 (.gR jF [(.t 11),(.t 12),(.t 13),(.t 14)])),
 .op (u (.fR 9 (.t 8) (.t 15))),
 .op (u (.fR 1 (.t 9) (.c (.cQ .u8 0))))])
 .ea)⟩
def wI:KC:=
 (.eA (.fu [m 4 2,
 o 5 (.e9 .neq 5 eT (.t 4) (.c .eb))])
 (.eJ (.t 5)
 (.fu [o 6 (.hZ [(.cQ r 0),(.cQ r 0),.cY,.cY,.cY,(.cQ r 0),.cY,(.cQ r 0),(.cU [])] []),
 m 7 2,
 o 8 (.gR sW [(.t 7)]),
 u (.fR 9 (.t 0) (.t 6)),
 u (.fR 1 (.t 1) (.t 8))])
 .eI))
def iV:KFn:=⟨9,3,2,wI.ad⟩
def oW(C:H)(ct:Bq)(n:X):W k->As->St->R (TX×As×St)
 |[],A,O=>J (.du,A,O)
 |.op o::l,A,O=>match lK o A with
  |eT=>match aF C (D C A) n O o.i with
   |J (.ev v b)=>oW C ct n l (Dx A o.ba v) b|J (.fI f args b)=>match ct f args b with|J (.ea v,a)=>oW C ct n l (Dx A o.ba v) a|J (.f9 v,a)=>J (.f9 v,A,a)|U=>U
   |U=>U
  |eF=>oW C ct n l (Dx A o.ba .dT) O
 |.iQ x::l,A,O=>match D C A x with|.dx t v=>J (.f9 (.dx t v),A,O)|_=>U
 |.ij d t x::l,A,O=>match D C A x with
  |.dx c v=>match p c t with|eT=>oW C ct n l (Dx A (J d) (.de [v,.cW eT])) O|eF=>U
  |_=>U
def D5(C:H)(call:bY)(ct:Bq)(n:X):TC->As->St->R (TX×As×St)
 |.eI,A,O=>J (.du,A,O)|.fu l,A,O=>oW C ct n l A O|.eO l,A,O=>match zU C call n l A O with|J (d,e)=>J (.du,d,e)|U=>U
 |.eA a b,A,O=>match D5 C call ct n a A O with|J (.du,d,e)=>D5 C call ct n b d e|f=>f
 |.eJ c a b,A,O=>match D C A c with|.cW eT=>D5 C call ct n a A O|.cW eF=>D5 C call ct n b A O|_=>U
 |.ea,A,O=>J (.ea,A,O)|.eC,_,_=>U
def ad6(n:X):W k->L|[]=>eT|.op o::l=>Ws n o.ba&&ad6 n l|.iQ _::l=>ad6 n l|.ij d _ _::l=>Ws n (J d)&&ad6 n l
def tok(n:X):TC->L|.fu l=>ad6 n l|.eO l=>afZ n l|.eA a b=>tok n a&&tok n b|.eJ _ a b=>tok n a&&tok n b|_=>eT
structure AgF(n:Nat)(e:Env)(A:As):Prop where
 dt:e.length=n
 az:∀t,e.getD t .dT=look A t
def AgF.ag{n:X}{e A}(h:AgF n e A)(m:X):Ag n m e A:=⟨h.dt,λt _=>h.az t⟩
def AgF.of{n:X}{e A}(a:z e=n)(h:∀m,Ag n m e A):AgF n e A:=⟨a,λt=>(h (bit t)).az t (by rw[Dt];simp)⟩
def AgF.cn{n:X}{e A}(h:AgF n e A){d:R X}(a:Ws n d=eT)(v:AV):AgF n (put e d v) (Dx A d v):=
 .of (by rw[Oj,h.dt]) λm=>Ag.cn (h.ag _) a v
def ayJ(n:X):R (TX×Env×St)->R (TX×As×St)->Prop|U,U=>True|J (x,e,O),J (b,A,a)=>x=b/\O=a/\AgF n e A|_,_=>False
def QN{C:H}{ct:Bq}{n:X}:∀(l:W k) (e:Env) (A:As) (O:St),ad6 n l=eT->AgF n e A->ayJ n (CJ C ct l e O) (oW C ct n l A O)
 |[],e,A,O,_,h=>⟨w8,w8,h⟩
 |.op o::l,e,A,O,b,h=>by
  rw[ad6,Q]at b;unfold CJ oW;rw[Ag.hK (h.ag _)];cases lK o A with
  |false=>exact QN l _ _ O b.2 (h.cn b.1 _)
  |true=>
   dsimp only;rw[Ag.nA (h.ag _)];cases aF C (D C A) n O o.i with
   |none=>trivial
   |some x=>cases x with
    |ev v c=>exact QN l _ _ c b.2 (h.cn b.1 _)
    |fI f args c=>
     dsimp only;cases ct f args c with
     |none=>trivial
     |some j=>
      obtain⟨a,g⟩:=j;cases a with
      |ea v=>exact QN l _ _ g b.2 (h.cn b.1 _)|f9 v=>exact⟨w8,w8,h⟩
 |.iQ x::l,e,A,O,b,h=>by unfold CJ oW;rw[anC x (h.ag _).dR];cases D C A x<;>first|exact E|exact⟨w8,w8,h⟩
 |.ij d t x::l,e,A,O,b,h=>by
  rw[ad6,Q]at b;unfold CJ oW;rw[anC x (h.ag _).dR];cases D C A x with
  |dx i v=>
   dsimp only;cases p i t with
   |true=>exact QN l _ _ O b.2 (h.cn b.1 _)|false=>trivial
  |_=>trivial
def afe{C:H}{call:bY}{ct:Bq}{n:X}:∀(c:TC) (e:Env) (A:As) (O:St),tok n c=eT->AgF n e A->ayJ n (evT C call ct c e O) (D5 C call ct n c A O)
 |.eI,e,A,O,_,h=>⟨w8,w8,h⟩|.ea,e,A,O,_,h=>⟨w8,w8,h⟩|.eC,e,A,O,_,h=>E|.fu l,e,A,O,g,h=>QN l e A O g h
 |.eO l,e,A,O,g,h=>by
  unfold evT D5 wK zU;have q:=λN=>agO (C:=C) (call:=call) (N:=N) l e A O g (h.ag _);cases i:zV C call l e O with
  |none=>
   cases h2:qH C call n l A O with
   |none=>trivial|some R=>have:=q 0;rw[i,h2]at this;exact this.elim
  |some R=>
   cases h2:qH C call n l A O with
   |none=>have:=q 0;rw[i,h2]at this;exact this.elim
   |some j=>
    obtain⟨f,Y,rs,u⟩:=R;obtain⟨t,y,k,w⟩:=j;have q0:=q 0;rw[i,h2]at q0;obtain⟨a,b,c,d⟩:=q0;subst a b;have e0:AgF n f t:=.of c.dt λN=>by simp_all
    dsimp only;rw[d];cases fQ C n u l k with
    |true=>exact⟨w8,w8,e0⟩|false=>trivial
 |.eA a b,e,A,O,g,h=>by
  rw[tok,Q]at g;unfold evT D5;have q:=afe (C:=C) (call:=call) (ct:=ct) a e A O g.1 h;cases i:evT C call ct a e O with
  |none=>rw[i]at q;cases h2:D5 C call ct n a A O with|none=>trivial|some R=>rw[h2]at q;exact q.elim
  |some R=>rw[i]at q;cases h2:D5 C call ct n a A O with
   |none=>rw[h2]at q;exact q.elim
   |some j=>
    rw[h2]at q;obtain⟨x,s,o⟩:=R;obtain⟨B,m,p⟩:=j;obtain⟨rfl,rfl,q3⟩:=q;cases x with
    |du=>exact afe b s m o g.2 q3|ea=>exact⟨w8,w8,q3⟩|f9 v=>exact⟨w8,w8,q3⟩
 |.eJ c a b,e,A,O,g,h=>by
  rw[tok,Q]at g;unfold evT D5;rw[anC c (h.ag _).dR];cases D C A c with
  |cW x=>cases x with|true=>exact afe a e A O g.1 h|false=>exact afe b e A O g.2 h
  |_=>trivial
def ab4(n:X)(args:LA)(h:z args<=n):AgF n (args++Y (n-z args) .dT) (oH 0 args):=
 .of (by simp;omega) λm=>afH m n args h
def TS(n0:X)(rs:W XR)(A:As)(O:St):R (AV×St):=match aZ A O rs with|U=>U|J vs=>match T eF vs O with|U=>U|J (vs,a)=>J (dG vs,w n0 vs a)
def VI(n0:X)(rs:W XR):R (TX×As×St)->R (Ans×St)|U=>U|J (.f9 v,_,a)=>J (.f9 v,w n0 [v] a)|J (_,A,a)=>match TS n0 rs A a with|J (v,b)=>J (.ea v,b)|U=>U
theorem ak6{n:X}{e:Env}{A:As}(h:AgF n e A)(O0:St)(rs:W XR)(O:St):ahR O0 rs e O=TS (z O0) rs A O:=by unfold ahR TS;rw[YI rs (h.ag _)];rfl
def agN {C:H} {call:bY} {ct:Bq} {x:TF} (hok:tok x.W x.ap=eT) {args:LA} {O:St} {args1:LA} {O1:St} (d:T eF args O=J (args1,O1)) (b:Nat.ble (z args1) x.W=eT):
  runT C call ct x args O=VI (z O) x.an (D5 C call ct x.W x.ap (oH 0 args1) O1):=by
 unfold runT;rw[d];dsimp only;rw[b];dsimp only;have q:=afe (C:=C) (call:=call) (ct:=ct) x.ap _ _ O1 hok (ab4 x.W args1 (aD3 b));cases a:evT C call ct x.ap (args1++Y (x.W-z args1) .dT) O1 with
 |none=>rw[a]at q;cases h2:D5 C call ct x.W x.ap (oH 0 args1) O1 with|none=>rfl|some j=>rw[h2]at q;exact q.elim
 |some j=>rw[a]at q;cases h2:D5 C call ct x.W x.ap (oH 0 args1) O1 with|none=>rw[h2]at q;exact q.elim|some e=>rw[h2]at q;obtain⟨y,h,g⟩:=j;obtain⟨i,f,c⟩:=e;obtain⟨rfl,rfl,q3⟩:=q;grind [VI,ak6]
def apU(n:X)(a:LA)(f m:X)(v:AV)(h:z a<=n)(hr:f<n)(e:m<n):AgF n (((a++Y (n-z a) AV.dT).set f v).set m v) ((m,v)::(f,v)::oH 0 a):=by have b:=ab4 n a h;have c:=b.cn (d:=J f) (by simpa[Ws]using hr) v;exact c.cn (d:=J m) (by simpa[Ws]using e) v
def yU:XC->L|.eA a b=>yU a&&yU b|.eJ _ a b=>yU a&&yU b|.eG _ b=>yU b|.fg b=>yU b|.fL _=>eF|_=>eT
def yz{C:H}{call:bY}{n:X}:∀(x:XC) (e:Env) (O:St),yU x=eT->evC C call n x e O=qg C call x e O
 |.eI,_,_,_=>w8|.fu _,_,_,_=>w8|.eO _,_,_,_=>w8
 |.eA a b,e,O,h=>by
  rw[yU,Q]at h;unfold evC qg;rw[yz a e O h.1];cases qg C call a e O with
  |none=>rfl
  |some j=>
   obtain⟨x,f,d⟩:=j;cases x with
   |du=>exact yz b f d h.2|dq i=>rfl|ea=>rfl
 |.eJ c a b,e,O,h=>by
  rw[yU,Q]at h;unfold evC qg;cases av C e c with
  |cW x=>cases x with|true=>exact yz a e O h.1|false=>exact yz b e O h.2
  |_=>rfl
 |.eG id b,e,O,h=>by rw[yU]at h;unfold evC qg;rw[yz b e O h];rfl
 |.dq _,_,_,_=>w8|.ea,_,_,_=>w8|.fg b,e,O,h=>by rw[yU]at h;unfold evC qg;exact yz b e O h
 |.eC,_,_,_=>w8
noncomputable def SC(C:H)(call:bY)(ct:Bq)(x:CFn)(k:KFn)(K:KC)(n0:X)(args1:LA)(O1:St):R (AV×St):=
 match fK C call x.W x.dr (oH 0 args1) O1 with
 |U=>U|J (a,c)=>match D5 C call ct x.W x.ap ((x.d,.dv (.func x.hw) [] (x.ck.map (D C a)))::a) c with|U=>U|J (tx,b,d)=>match gu C (O9 ct) k.W K ((k.m,X1 tx)::(k.r,X1 tx)::oH 0 (x.ck.map (D C a))) d with|J (.dq _,_,_)=>U|U=>U|J (_,_,e)=>TS n0 x.an b e
def am1(x:CFn)(k:KFn)(K:KC):L:=(live k.W 0 K 0 λ_=>0).isSome&&yU k.ap&&afZ x.W x.dr&&tok x.W x.ap&&c x.d x.W&&c k.r k.W&&c k.m k.W&&Nat.ble (z x.ck) k.W
def aiG {C:Ctx} {call:bY} {ct:Bq} {x:CFn} {k:KFn} {K:KC} (v:K.ad=k.ap) (hok:am1 x k K=eT) {args:LA} {O:St} {args1:LA} {O1:St} (A:hand eF args O=J (args1,O1)) (B:Nat.ble (z args1) x.W=eT):
  C9 C call ct x k args O=SC C call ct x k K (z O) args1 O1:=by
 simp only[am1,a02,Nat.blt_eq]at hok;obtain⟨⟨⟨⟨⟨⟨⟨D,E⟩,F⟩,G⟩,H⟩,I⟩,L⟩,P⟩:=hok;unfold C9 SC;rw[A];dsimp only;have q:=λN=>aaA (C:=C) (call:=call) (N:=N) x.dr _ _ O1 F ((ab4 x.W args1 (aD3 B)).ag _);cases j:wG C call x.dr (args1++Y (x.W-z args1) .dT) O1 with
 |none=>
  cases h2:fK C call x.W x.dr (oH 0 args1) O1 with
  |none=>rfl|some cB=>have:=q 0;rw[j,h2]at this;exact this.elim
 |some cB=>
  cases h2:fK C call x.W x.dr (oH 0 args1) O1 with
  |none=>have:=q 0;rw[j,h2]at this;exact this.elim
  |some e=>
   obtain⟨e0,f⟩:=cB;obtain⟨b,o⟩:=e;have q0:=q 0;rw[j,h2]at q0;obtain⟨a,c⟩:=q0;subst a;have m:AgF x.W e0 b:=.of c.dt λN=>by simp_all
   have t:x.ck.map (av C e0)=x.ck.map (avA C b):=List.map_congr_left λy _=>anC y (m.ag _).dR;dsimp only;rw[t];have u:=m.cn (d:=J x.d) (by simpa[Ws]using H) (.dv (.func x.hw) [] (x.ck.map (avA C b)));have q2:=afe (C:=C) (call:=call) (ct:=ct) x.ap _ _ f G u;unfold put Dx at q2;dsimp only at q2;generalize e0.set x.d (.dv (.func x.hw) [] (x.ck.map (avA C b)))=e1 at q2⊢;generalize(x.d,AV.dv (.func x.hw) [] (x.ck.map (avA C b)))::b=l at q2⊢;cases h3:evT C call ct x.ap e1 f with
   |none=>
    rw[h3]at q2;cases h4:D5 C call ct x.W x.ap l f with
    |none=>rfl|some cB=>rw[h4]at q2;exact q2.elim
   |some cB=>
    rw[h3]at q2;cases h4:D5 C call ct x.W x.ap l f with
    |none=>rw[h4]at q2;exact q2.elim
    |some e=>
     rw[h4]at q2;obtain⟨tx,e2,g⟩:=cB;obtain⟨Q,R,p⟩:=e;obtain⟨rfl,rfl,q3⟩:=q2;dsimp only;rw[yz _ _ _ E,<-v];have n:=apU k.W (x.ck.map (avA C b)) k.r k.m (X1 tx) (by simpa using aD3 P) I L;rw[aD8]at n;obtain⟨M,w⟩:=aE5.mp D;have q4:=BJ (C:=C) (call:=O9 ct) K _ M _ w _ _ g (n.ag M);revert q4;cases qg C (O9 ct) K.ad (((x.ck.map (avA C b)++Y (k.W-z x.ck) AV.dT).set k.r (X1 tx)).set k.m (X1 tx)) g<;>cases gu C (O9 ct) k.W K ((k.m,X1 tx)::(k.r,X1 tx)::oH 0 (x.ck.map (avA C b))) g;·intro _;rfl
     ·intro h;exact h.elim
     ·intro h;exact h.elim
     ·rename_i cB e;obtain⟨y,e3,T⟩:=cB;obtain⟨V,S,s⟩:=e;rintro⟨h5,h6,_⟩;subst h5 h6;cases y with|dq i=>rfl|du=>exact ak6 q3 O x.an _|ea=>exact ak6 q3 O x.an _
def aao{C:H}{call:bY}{T:g->R TF}{f:g}{x:TF}(h:T f=J x)(n:X)(args:LA)(O:St):sS C call T (n+1) f args O=runT C call (sS C call T n) x args O:=by rw[sS,h]
def afU{C:H}{call:bY}{T:g->R TF}{f:g}(h:T f=U)(n:X){args:LA}{O:St}{v:AV}{O':St}(a:call f args O=J (v,O')):sS C call T n f args O=J (.ea v,O'):=by
 cases n with
 |zero=>rw[sS,a]|succ n=>rw[sS,h];dsimp only;rw[a]
def an3{C:H}{ct:Bq}{f:g}{args:LA}{O:St}{v:AV}{O':St}(h:ct f args O=J (.ea v,O')):O9 ct f args O=J (v,O'):=by rw[O9,h]
variable{call:bY}{ct:Bq}{n:Nat}
abbrev TR:=R (TX×As×St)
def outT(ct:Bq)(d:R X)(A:As)(x:R Out)(k:As->St->TR):TR:=match x with
 |J (.ev v b)=>k (Dx A d v) b|J (.fI f args b)=>match ct f args b with|J (.ea v,a)=>k (Dx A d v) a|J (.f9 v,a)=>J (.f9 v,A,a)|U=>U
 |U=>U
def yX(d:X)(A:As)(v:AV)(O:St)(k):outT ct (J d) A (J (.ev v O)) k=k ((d,v)::A) O:=w8
def xE(A:As)(v:AV)(O:St)(k):outT ct U A (J (.ev v O)) k=k A O:=w8
def awV(d:R X)(A:As)(f:R (Ans×St))(k:As->St->TR):TR:=match f with|J (.ea v,a)=>k (Dx A d v) a|J (.f9 v,a)=>J (.f9 v,A,a)|U=>U
def xC(d:R X)(A:As)(f:g)(args:LA)(O:St)(k):outT ct d A (J (.fI f args O)) k=awV d A (ct f args O) k:=w8
def zN(d:X)(A:As)(v:AV)(O:St)(k):awV (J d) A (J (.ea v,O)) k=k ((d,v)::A) O:=w8
def Bz(d:R X)(A:As)(v:AV)(O:St)(k):awV d A (J (.f9 v,O)) k=J (.f9 v,A,O):=w8
def He(A:As)(O:St):oW C ct n [] A O=J (.du,A,O):=w8
def aaf(d:X)(i:XI)(l:W k)(A:As)(O:St):oW C ct n (.op (o d i)::l) A O=outT ct (J d) A (aF C (D C A) n O i) (oW C ct n l):=w8
def ada(i:XI)(l:W k)(A:As)(O:St):oW C ct n (.op (u i)::l) A O=outT ct U A (aF C (D C A) n O i) (oW C ct n l):=w8
def aae(d s:X)(l:W k)(A:As)(O:St):oW C ct n (.op (m d s)::l) A O=oW C ct n l ((d,look A s)::A) O:=w8
def asT(d t:X)(A:As)(x:AV)(k:As->TR):TR:=match x with
 |.dx a v=>match p a t with|eT=>k ((d,.de [v,.cW eT])::A)|eF=>U
 |_=>U
def QO(d:X)(t:TypeId)(x:XA)(l:W k)(A:As)(O:St):oW C ct n (.ij d t x::l) A O=asT d t A (D C A x) λA=>oW C ct n l A O:=by rw[oW];unfold asT;cases D C A x<;>rfl
def IW(d t:X)(A:As)(v:AV)(k):asT d t A (.dx t v) k=k ((d,.de [v,.cW eT])::A):=by unfold asT;dsimp only;rw[aL6]
def pnT(A:As)(O:St)(x:AV):TR:=match x with|.dx t v=>J (.f9 (.dx t v),A,O)|_=>U
def Pg(x:XA)(l:W k)(A:As)(O:St):oW C ct n (.iQ x::l) A O=pnT A O (D C A x):=by rw[oW];unfold pnT;cases D C A x<;>rfl
def G5(A:As)(O:St)(t:TypeId)(v:AV):pnT A O (.dx t v)=J (.f9 (.dx t v),A,O):=w8
def asC(d:TR)(k:As->St->TR):TR:=match d with|J (.du,A,O)=>k A O|d=>d
def oO(A:As)(O:St)(k):asC (J (.du,A,O)) k=k A O:=w8
def BP(A:As)(O:St)(k):asC (J (.ea,A,O)) k=J (.ea,A,O):=w8
def BO(v:AV)(A:As)(O:St)(k):asC (J (.f9 v,A,O)) k=J (.f9 v,A,O):=w8
def Ha(a b:TC)(A:As)(O:St):D5 C call ct n (.eA a b) A O=asC (D5 C call ct n a A O) (D5 C call ct n b):=by grind [D5,asC]
def am6(x:AV)(a b:TR):TR:=match x with|.cW eT=>a|.cW eF=>b|_=>U
def Cb(c:XA)(a b:TC)(A:As)(O:St):D5 C call ct n (.eJ c a b) A O=am6 (D C A c) (D5 C call ct n a A O) (D5 C call ct n b A O):=by rw[D5];grind [am6]
def vX(a b:TR):am6 (.cW eT) a b=a:=w8
def oI(a b:TR):am6 (.cW eF) a b=b:=w8
def G8(l:W k)(A:As)(O:St):D5 C call ct n (.fu l) A O=oW C ct n l A O:=w8
def Cc(A:As)(O:St):D5 C call ct n .eI A O=J (.du,A,O):=w8
def G9(A:As)(O:St):D5 C call ct n .ea A O=J (.ea,A,O):=w8
def drT(d:R (As×St)):TR:=match d with|J (A,O)=>J (.du,A,O)|U=>U
def BA(A:As)(O:St):drT (J (A,O))=J (.du,A,O):=w8
def BR(l:W XOp)(A:As)(O:St):D5 C call ct n (.eO l) A O=drT (zU C call n l A O):=by rw[D5];grind [drT]
end Go.Ev
namespace Go.Ev
open Option renaming some→J, none→U
open List renaming length→z
open Bool renaming false→eF, true→eT
open Go.IntKind renaming i64→r
variable{C:Ctx}{call:bY}{ct:Bq}
def TT(f:g):R TF:=match p f sW with|eT=>J FQ|eF=>match p f vI with|eT=>J zB|eF=>match p f qK with|eT=>J qG|eF=>match p f jF with|eT=>J kP|eF=>U
def EC(c:P):AV:=.dx 174 (.cX [.cQ .u8 c])
def caught_is(n:X)(c:P){O:St}(b:Ok O):sS C call TT (n+1) sW [EC c] O=J (.ea (.cQ .u8 c),O):=by rw[aao (x:=FQ) w8,agN (args1:=[EC c]) (O1:=O) (by rfl) (by rfl) (by rfl)];have d:=λL=>bu b (vs:=[.cQ .u8 c]) w8 L;unfold EC;simp only[FQ,Ha,Cb,G8,Cc,G9,oI,oO,He,aaf,ada,aae,Pg,QO,IW,G5,yX,xE,VI,TS,aZ,d,AV.cP,AV.Q,k9,N,seval]
end Go.Ev
namespace Go.Ev
open Option renaming some→J, none→U
open List renaming length→z
open Bool renaming false→eF, true→eT
open Go.IntKind renaming i64→r
variable{C:Ctx}
def akc (H:RNewHas C) (hf:v C sV zH) (n:X) {h l R now rc sc nm fs F q s m o fo oo} (rl:LU) (b:P) {O:St} (j:Ok O) (a:bH O h l R now rc sc nm fs F q s m o fo oo) (hr:role rl=eT) {d:LU} {z:P} {S:St} (i:ai C qV [.da s 0,.cU (rl++iD),.cQ r b] O=J (.de [.cU d,.cQ r z,.cQ r 0],S)) (g:w O.length [.cU d,.cQ r z] S=S):
  sS C (ai C) TT (n+1) vI [.da q 0,.cU rl,.cQ r b] O=J (.ea (.de [.cU d,.cQ r z]),S):=by
 rw[aao (x:=zB) w8,agN (args1:=[.da q 0,.cU rl,.cQ r b]) (O1:=O) (by rfl) (by rfl) (by rfl)];have q1:=afU (C:=C) (call:=ai C) (T:=TT) (f:=sV) w8 n (SA hf H.er H.dw rl O);have e:Zt rl=.de [.cU (rl++iD),.cQ r 0]:=by simp[Zt,hr]
 rw[e]at q1;have q2:=afU (C:=C) (call:=ai C) (T:=TT) (f:=qV) w8 n i;have rp:=a.rp;unfold qW at rp;simp only[zB,q1,q2,rp,g,Ha,Cb,G8,Cc,G9,oI,oO,He,aaf,aae,Pg,G5,yX,xC,zN,VI,TS,aZ,AV.cP,k9,N,seval]
structure Req(O S:St)(s m:Nat)(F F':List aQ)(oo oo':Option Nat):Prop where
 ok:Ok S
 dt:O.length<=S.length
 bp:∀i x,i≠s->i≠m->oo≠some i->O[i]?=some x->S[i]?=some x
 eM:∀q,oo'=some q->oo=some q\/O.length<=q
 hz:(S.take O.length=O/\F'=F/\oo'=oo)\/∃x,S[s]?=some x/\x.below O.length=false
def Req.ax{O:St}(h:Ok O)(s m:X)(F:W aQ)(oo:R X):Req O O s m F F oo oo:=
 ⟨h,Z3 _,λ_ _ _ _ _ h=>h,λ_ h=>.inl h,.inl ⟨aK8,w8,w8⟩⟩
def ab9{n k:X}(h:n<=k){x:AO}(a:x.below k=eF):x.below n=eF:=by
 cases b:x.below n;·rfl
 ·rw[AO.Y h x b]at a;cases a
def Req.b3{O L S:St}{s m F g oo e}(q:Req (O++L) S s m F g oo e):Req O S s m F g oo e:=by
 have f:z O<=z (O++L):=by simp
 refine⟨q.ok,aF2 f q.dt,λi x a b c d=>q.bp i x a b c (aj d _),λk h=>?_,?_⟩
 ·rcases q.eM k h with h|h;·exact .inl h
  ·exact .inr (aF2 f h)
 ·rcases q.hz with⟨a,b,c⟩|⟨x,a,b⟩
  ·refine .inl ⟨?_,b,c⟩;have:=y (List.take (z O)) a;rw[B,aJ3 f,List.take_left']at this;·exact this
   ·rfl
  ·exact .inr ⟨x,a,ab9 f b⟩
theorem Req.ac{O S T:St}{s m F j oo f}(q:Req O S s m F j oo f)(hs:s<z O)(ok:Ok T)(n:z S<=z T)(h:∀i x,i<z O->S[i]?=J x->T[i]?=J x):Req O T s m F j oo f:=by
 refine⟨ok,aF2 q.dt n,λi x a b c d=>h i x (a00.mp d).1 (q.bp i x a b c d),q.eM,?_⟩;rcases q.hz with⟨a,b,c⟩|⟨x,a,b⟩
 ·refine .inl ⟨?_,b,c⟩;refine aD6 λk=>?_;rw[aE3];split
  ·next g=>
   have e:O[k]?=J O[k]:=a01 g;have e2:S[k]?=O[k]?:=by have:=y (λl=>l[k]?) a;rw[aE3,j0 g]at this;exact this
   rw[e];exact h k _ g (by rw[e2,e])
  ·next g=>exact(aB9 (by omega)).symm
 ·exact .inr ⟨x,h s x hs a,b⟩
def Req.N{O S T:St}{s m F t g oo j f}(p:Req O S s m F t oo j)(q:Req S T s m t g j f)(hs:s<z O)(w:s≠m):Req O T s m F g oo f:=by
 refine⟨q.ok,aF2 p.dt q.dt,λi x a b c d=>q.bp i x a b (λe=>?_) (p.bp i x a b c d),λk h=>?_,?_⟩
 ·have:=(a00.mp d).1;rcases p.eM i e with e|e;·exact c e
  ·omega
 ·rcases q.eM k h with h|h;·exact p.eM k h
  ·exact .inr (aF2 p.dt h)
 ·rcases q.hz with⟨a,b,c⟩|⟨x,a,b⟩
  ·have tk:∀k x,k<z S->S[k]?=J x->T[k]?=J x:=λk x v e=>by have:=y (λl=>l[k]?) a;rw[aE3,j0 v]at this;rw[this,e]
   rcases p.hz with⟨n,o,u⟩|⟨x,n,o⟩;·refine .inl ⟨?_,by rw[b,o],by rw[c,u]⟩;have:=y (List.take (z O)) a;rw[B,aJ3 p.dt,n]at this;exact this
   ·exact .inr ⟨x,tk s x (aG2 hs p.dt) n,o⟩
  ·exact .inr ⟨x,a,ab9 p.dt b⟩
structure ajM(n:Nat)(r s m o:Nat)(fo oo:Option Nat):Prop where
 r:r<n
 s:s<n
 m:m<n
 o:o<n
 fo:∀q,fo=some q->q<n
 oo:∀q,oo=some q->q<n
def bH.lt{Y:St}{h l R now rc sc nm fs F x s m o fo oo}(a:bH Y h l R now rc sc nm fs F x s m o fo oo):ajM (z Y) x s m o fo oo:=by
 obtain⟨i,ov,f,h2,h3⟩:=a.st.st;refine⟨(a00.mp a.rp).1,(a00.mp f).1,(a00.mp a.st.mp).1,(a00.mp a.bU).1,λq e=>?_,λq e=>?_⟩
 ·rcases h2 with⟨_,h,_⟩|⟨g,j,b1,c,d,b⟩|⟨h,_⟩;·rw[h]at e;cases e
  ·rw[b1]at e;cases e;exact(a00.mp b).1
  ·rw[h]at e;cases e
 ·rcases h3 with⟨_,h,_⟩|⟨g,b1,c,d,b⟩;·rw[h]at e;cases e
  ·rw[b1]at e;cases e;exact(a00.mp b).1
def bH.bB{Y S:St}{h l R now rc sc nm fs F d s m o fo oo}(a:bH Y h l R now rc sc nm fs F d s m o fo oo)(b:∀i x,(i=d\/i=s\/i=m\/i=o\/fo=J i\/oo=J i)->Y[i]?=J x->S[i]?=J x):bH S h l R now rc sc nm fs F d s m o fo oo:=by
 have k:=a.lt;have e:∀i,i<z Y->(i=d\/i=s\/i=m\/i=o\/fo=J i\/oo=J i)->S[i]?=Y[i]?:=λi hi c=>by have:=a01 hi;rw[this];exact b i _ c this
 exact a.au (e d k.r (.inl w8)) (e o k.o (by simp)) (e s k.s (by simp)) (e m k.m (by simp)) (λq h=>e q (k.fo q h) (by simp[h])) (λq h=>e q (k.oo q h) (by simp[h]))
def bH.eD{Y:St}{h l R now rc sc nm fs F d s m o fo oo}(a:bH Y h l R now rc sc nm fs F d s m o fo oo)(L:St):bH (Y++L) h l R now rc sc nm fs F d s m o fo oo:=a.bB λi x _ h=>aj h L
def Req.kh{O S:St}{h l R now rc sc nm fs F d i s m o fo oo c}(a:bH O h l R now rc sc nm fs F i s m o fo oo)(q:Req O S s m F d oo c)(b:kF S nm fs d s m fo c):bH S h l R now rc sc nm fs d i s m o fo c:=by
 have k:=a.lt;have f:c≠J i:=λe=>by
  rcases q.eM i e with e|e;·exact a.ro e
  ·have:=k.r;omega
 have no:c≠J o:=λe=>by
  rcases q.eM o e with e|e;·exact a.vo e
  ·have:=k.o;omega
 exact⟨q.bp i _ a.rs a.rm a.ro a.rp,q.bp o _ a.vs a.vm a.vo a.bU,b,a.rs,a.rm,f,a.vs,a.vm,no,a.ck⟩
def Req.e7 {O S:St} {h l R now rc sc nm fs F e f s m o fo oo c} (d:Ok O) (a:bH O h l R now rc sc nm fs F f s m o fo oo) (q:Req O S s m F e oo c) (b:bH S h l R now rc sc nm fs e f s m o fo c) (vs:LA) (hv:ae 0 vs=eT):
  ∃S',w (z O) vs S=S'/\bH S' h l R now rc sc nm fs e f s m o fo c/\Req O S' s m F e oo c:=by
 rcases q.hz with⟨e1,e2,e3⟩|⟨x,e1,e2⟩
 ·refine⟨O,jP d hv e1,?_,?_⟩;·rw[e2,e3];exact a
  ·rw[e2,e3];exact .ax d _ _ _ _
 ·exact⟨S,ad8 vs a.lt.s e1 e2,b,q⟩
def adE (H:StoHas C) {O:St} (c:Ok O) {h l R now rc sc nm fs F y s m o fo oo} (a:bH O h l R now rc sc nm fs F y s m o fo oo) (j:z F<1000000) (file:LU) (cap:P) (d:0<=cap/\cap<=65536):
  ∃S b,ai C qV [.da s 0,.cU file,.cQ r cap] O=J (.de [.cU (sD fs F file cap).1.am,.cQ r (sD fs F file cap).1.aq,.cQ r 0],S)/\bH S h l R now rc sc nm fs (sD fs F file cap).2 y s m o fo b/\Req O S s m F (sD fs F file cap).2 oo b/\∀vs,w (z O) vs S=S:=by
 unfold sD;cases hf:F.find? (λf=>I (f.C=file))with
 |some f=>exact⟨O,oo,adG H c a.st file cap d f hf,a,.ax c _ _ _ _,λvs=>bP O vs⟩
 |none=>
  obtain⟨S,b,q1,q2,q3,q4,q5,q6⟩:=adF H c a.st j file cap d hf;have fr:∃x,S[s]?=J x/\x.below (z O)=eF:=by
   obtain⟨u,ov,i,_,h3⟩:=q3.st;rcases h3 with⟨h3,_⟩|⟨k,b1,p,g,t⟩;·simp at h3
   ·refine⟨_,i,?_⟩;have:=q6 k b1;have n:¬k<z O:=(by omega);rw[g];simp[w9,ae,j7,n]
  have q:Req O S s m F (F++[zX fs file cap]) oo b:=⟨q2,q4,q5,λk e=>.inr (q6 k e),.inr fr⟩;obtain⟨x,e1,e2⟩:=fr;exact⟨S,b,q1,q.kh a q3,q,λvs=>ad8 vs a.lt.s e1 e2⟩
def fetch_any (H:RNewHas C) (f:StoHas C) (hf:v C sV zH) (n:X) {h l R now rc sc nm fs F i s m o fo oo} (rl:LU) (b:P) {O:St} (d:Ok O) (a:bH O h l R now rc sc nm fs F i s m o fo oo) (e:z F<1000000) (g:0<=b/\b<=65536) (hr:role rl=eT):
  ∃S c,sS C (ai C) TT (n+1) vI [.da i 0,.cU rl,.cQ r b] O=J (.ea (.de [.cU (sD fs F (rl++iD) b).1.am,.cQ r (sD fs F (rl++iD) b).1.aq]),S)/\bH S h l R now rc sc nm fs (sD fs F (rl++iD) b).2 i s m o fo c/\Req O S s m F (sD fs F (rl++iD) b).2 oo c:=by
 obtain⟨S,c,q1,q2,q3,q4⟩:=adE f d a e (rl++iD) b g;exact⟨S,c,akc H hf n rl b d a hr q1 (q4 _),q2,q3⟩
structure Dz where
 sn:LU->Int->SnV×Int
 ro:oZ->mP->List PS->LU->Int->dV×Int
structure F6(C:Ctx)(h:Bool)(l:List iH)(R:jR)(now:Int)(K:Dz):Prop where
 o2:∀d z,d.length<=LB->(K.sn d z).1.ok
 sn:∀d z (O:St) (o:Nat),d.length<=LB->Ok O->O[o]?=some (TD h l)->ai C tX [.da o 0,.cX R.B,.cQ .i64 now,.cU d,.cQ .i64 z] O=some (.de [.cX (K.sn d z).1.B,.cQ .u8 (K.sn d z).2],O)
 ps:∀d z,(K.sn d z).2≠0->(K.sn d z).1=atK
 pq:∀p a ks d z,(K.ro p a ks d z).2≠0->(K.ro p a ks d z).1=EE
 nj:∀p a ks d z,d.length<=LB->(K.ro p a ks d z).1.ok
 ro:∀p a ks d z (O:St) (o:Nat),DC p.aM->uQ a.V->DC ks->d.length<=LB->Ok O->O[o]?=some (TD h l)->ai C D6 [.da o 0,.cX p.B,.cX a.B,.sl ks.length (ks.flatMap pC),.cQ .i64 now,.cU d,.cQ .i64 z] O=some (.de [.cX (K.ro p a ks d z).1.B,.cQ .u8 (K.ro p a ks d z).2],O)
def EH(fs:W PS)(F:W aQ):Prop:=∀f∈F,f=zX fs f.C f.cm
def ES(fs:W PS):Prop:=∀p∈fs,z p.2<=LB
def ai2(fs:W PS)(file:LU)(cap:P):(zX fs file cap).cm=cap:=by
 unfold zX ai1;split;·split<;>rfl
 ·rfl
def anT{fs:W PS}(h:ES fs)(file:LU)(cap:P):(zX fs file cap).am.length<=LB:=by
 unfold zX;cases hf:fs.find? (λp=>I (p.1=file))with
 |none=>exact Z2 _
 |some p=>
  unfold ai1;dsimp only;split;·exact Z2 _
  ·exact h p (aI4 hf)
def ag6{fs:W PS}{F:W aQ}(a:EH fs F)(file:LU)(cap:P):EH fs (sD fs F file cap).2/\(sD fs F file cap).1=zX fs file (sD fs F file cap).1.cm:=by
 unfold sD;cases hf:F.find? (λf=>I (f.C=file))with
 |some f=>have b:=a f (aI4 hf);have h2:f.C=file:=(by simpa using aL2 hf);rw[h2]at b;exact⟨a,b⟩
 |none=>
  refine⟨λf h=>?_,by dsimp only;rw[ai2]⟩;rcases aE4.mp h with h|h;·exact a f h
  ·rw[aC7.mp h,zt,ai2]
def MJ(fs:W PS)(F:W aQ)(file:LU)(cap:P):(sD fs F file cap).2.length<=z F+1:=by
 unfold sD;split;·exact aM0 _
 ·simp
def MI{fs:W PS}{F:W aQ}(b:ES fs)(a:EH fs F)(file:LU)(cap:P):(sD fs F file cap).1.am.length<=LB:=by rw[(ag6 a file cap).2];exact anT b _ _
def oP:LU:=[115,110,97,112,115,104,111,116]
def aW(K:Dz)(fs:W PS)(sc:P)(F:W aQ):(SnV×P)×W aQ:=
 let g:=sD fs F (oP++iD) sc
 (K.sn g.1.am g.1.aq,g.2)
structure Ye(C:Ctx):Prop extends RNewHas C where
 oa:StoHas C
 hc:Has C sV zH
 hF:Has C pY tH
 ct:aaW C
def SK(b:v C pY tH){h l R now rc sc nm fs F d s m o fo oo}{O:St}(a:bH O h l R now rc sc nm fs F d s m o fo oo):ai C pY [.da d 0] O=J (.cW eT,O):=by have c:=kK d O;have rp:=a.rp;unfold qW at rp;rw[b.go c];simp only[tH,rp,N,seval]
def Wv{n0:X}{rs:W XR}{A:As}{O:St}{vs:LA}(h:aZ A O rs=J vs)(hv:q vs):TS n0 rs A O=J (dG vs,w n0 vs O):=by unfold TS;rw[h];dsimp only;rw[hv.E]
def aa2(c:P)(v:AV):Ans:=if c=0 then .ea v else .f9 (EC c)
def XU (H:Ye C) (n:Nat) {h l R now rc sc nm fs F cB s m o fo oo K} (Z:F6 C h l R now K) (hd:ES fs) (I:EH fs F) {O:St} (v:Ok O) (a:bH O h l R now rc sc nm fs F cB s m o fo oo) (Y:F.length<1000000):
  ∃S d,sS C (ai C) TT (n+2) qK [.da cB 0] O=J (aa2 (aW K fs sc F).1.2 (.cX (aW K fs sc F).1.1.B),S)/\bH S h l R now rc sc nm fs (aW K fs sc F).2 cB s m o fo d/\Req O S s m F (aW K fs sc F).2 oo d:=by
 have k:=a.lt;have hc:0<=sc/\sc<=65536:=by have:=a.ck.2;unfold mayC at this;simpa using this
 have N:Ok (O++[.cP [.cQ r 0,.cQ r 0,.cY] FZ]):=v.H w8;obtain⟨S,d,q1,b,q⟩:=fetch_any H.toRNewHas H.oa H.hc n oP sc N (a.eD _) Y hc (by decide);have e1:(sD fs F (oP++iD) sc).2=(aW K fs sc F).2:=w8;rw[e1]at b q;obtain⟨g,M⟩:∃g,sD fs F (oP++iD) sc=g:=⟨_,w8⟩;have e2:(aW K fs sc F).1=K.sn g.1.am g.1.aq:=by rw[<-M];rfl
 have dl:g.1.am.length<=LB:=by rw[<-M];exact MI hd I _ _
 rw[e2];rw[M]at q1;have q2:=Z.sn g.1.am g.1.aq S o dl q.ok b.bU;generalize K.sn g.1.am g.1.aq=t at*;obtain⟨t,c⟩:=t;dsimp only at*;have kb:=b.lt;have z:S[O.length]?=J (.cP [.cQ r 0,.cQ r 0,.cY] FZ):=q.bp _ _ (by have:=k.s;omega) (by have:=k.m;omega) (λe=>by have:=k.oo _ e;omega) (by rw[aA];rfl);have A:w9 0 (.cP t.B FZ)=eT:=t.af.cl;have rp:=b.rp;have mk:=SK H.hF (a.eD [.cP [.cQ r 0,.cQ r 0,.cY] FZ]);have D:=afU (C:=C) (call:=ai C) (T:=TT) (f:=pY) w8 (n+1) mk;have qb:=q.b3;have p:Ok (S++[.cP t.B FZ]):=q.ok.H (by rw[Z0,A];rfl);rw[aao (x:=qG) w8,agN (args1:=[.da cB 0]) (O1:=O) (by rfl) (by rfl) (by rfl)];have zS:=λL=>aj z L;have pS:=λL y=>gZ z L y;have w:=λL=>aj rp L;have j:(O++[.cP [.cQ r 0,.cQ r 0,.cY] FZ])[cB]?=_:=aj a.rp _;have V:=R.f8;have W:t.B=[.cQ r t.bU,.cQ r t.bx,.sl t.ay.length (t.ay.flatMap oZ.B)]:=w8;unfold qW at rp w j;rw[V]at rp w j q2;rw[W]at q2 p A⊢;simp only[a05,a88]at rp w j;unfold oP at q1;by_cases u:c=0
 ·subst u;have P:Ok ((S.set O.length (.cP [.cQ r t.bU,.cQ r t.bx,.sl t.ay.length (t.ay.flatMap oZ.B)] FZ))++[.cP [.cQ r t.bU,.cQ r t.bx,.sl t.ay.length (t.ay.flatMap oZ.B)] FZ]):=(Ok.bd q.ok _ (AO.Y (Z2 _) _ A)).H (by rw[Z0,A];rfl)
  have bT:bH (S.set O.length (.cP [.cQ r t.bU,.cQ r t.bx,.sl t.ay.length (t.ay.flatMap oZ.B)] FZ)) h l R now rc sc nm fs (aW K fs sc F).2 cB s m o fo d:=b.bB λi x hi e=>aH e (λX=>by
   subst X;rcases hi with e|e|e|e|e|e;·have:=k.r;omega
   ·have:=k.s;omega
   ·have:=k.m;omega
   ·have:=k.o;omega
   ·have:=k.fo _ e;omega
   ·rcases q.eM _ e with e|e;·have:=k.oo _ e;omega
    ·simp at e;omega) _
  have qT:=qb.ac k.s P (by simp) (λi x hi e=>aj (aH e (by omega) _) _);obtain⟨E,t1,t2,t3⟩:=qT.e7 v a (bT.eD _) [.cX [.cQ r t.bU,.cQ r t.bx,.sl t.ay.length (t.ay.flatMap oZ.B)]] (by rw[ae,j7];rw[w9]at A;rw[A];rfl);refine⟨E,d,?_,t2,t3⟩;have sg:=bF z (.cP [.cQ r t.bU,.cQ r t.bx,.sl t.ay.length (t.ay.flatMap oZ.B)] FZ);have Q:=λL=>aj sg L;simp only[qG,D,q1,q2,rp,j,zS,pS,BR,BA,Ha,Cb,G8,Cc,G9,vX,oI,oO,BP,BO,He,aaf,ada,aae,Pg,QO,IW,G5,yX,xE,xC,zN,Bz,VI,AV.cP,AV.Q,k9,EVX,seval];rw[Wv (vs:=[.cX [.cQ r t.bU,.cQ r t.bx,.sl t.ay.length (t.ay.flatMap oZ.B)]]) (by simp only[aZ,Q,EVX,seval]) (.cV (.cX t.af) .db),t1];rfl
 ·have B:(c !=0)=eT:=(by simpa using u);obtain⟨E,t1,t2,t3⟩:=(qb.ac k.s p (by simp) (λi x hi e=>aj e _)).e7 v a (b.eD _) [EC c] w8;refine⟨E,d,?_,t2,t3⟩;unfold EC at t1;simp only[qG,D,q1,q2,rp,j,B,t1,aa2,u,EC,BR,BA,Ha,Cb,G8,Cc,G9,vX,oI,oO,BP,BO,He,aaf,ada,aae,Pg,QO,IW,G5,yX,xE,xC,zN,Bz,VI,AV.cP,AV.Q,k9,EVX,seval]
def vO(K:Dz)(fs:W PS)(rl:LU)(a:mP)(ks:W PS)(p:oZ)(b:P)(F:W aQ):(dV×P)×W aQ:=
 let g:=sD fs F (rl++iD) b
 (K.ro p a ks g.1.am g.1.aq,g.2)
def dS(K:Dz)(fs:W PS)(rc sc:P)(rl:LU)(a:mP)(ks:W PS)(F:W aQ):(dV×P)×W aQ:=
 let s:=aW K fs sc F
 if s.1.2=0 then
  match nZ s.1.1 rl with
  |U=>((EE,1),s.2)|J p=>if p.I<0 then vO K fs rl a ks p rc s.2 else if rc<p.I then((EE,3),s.2)else vO K fs rl a ks p p.I s.2
 else((EE,s.1.2),s.2)
def SnV.ok.ff{s:SnV}(h:s.ok):Mc s:=⟨by have:=h.dt;omega,λp a=>by have:=(h.cS p a).1.1;omega⟩
def Ah{C h l R now K}(b:F6 C h l R now K){fs F}(c:ES fs)(a:EH fs F)(sc:P):(aW K fs sc F).1.1.ok/\EH fs (aW K fs sc F).2/\(aW K fs sc F).2.length<=z F+1:=
 ⟨b.o2 _ _ (MI c a _ _),(ag6 a _ _).1,MJ _ _ _ _⟩
def WS{s:SnV}{d:LU}{p:oZ}(h:nZ s d=J p):role d=eT/\p∈s.ay/\p.C=d++iD:=by
 unfold nZ at h;split at h;·next hr=>exact⟨hr,aI4 h,by simpa using aL2 h⟩
 ·cases h
def VN(t:dV):w9 0 (.cP t.B FZ)=eT:=t.af.cl
def Sj{l:LA}(h:q l)(i k:X)(O:St):T eF (.da i k::l) O=J (.da i k::l,O):=by show(match eX O 12 (.da i k::l)with|J (l,fs)=>J (l,freeze O fs)|U=>U)=_;rw[show eX O 12 (.da i k::l)=bI O (eX O 11) (.da i k::l)from w8,aN,axJ,h.nf];rfl
def ajt (H:Ye C) (n:Nat) {h l R now rc sc nm fs F cB s m o fo oo K} (hK:F6 C h l R now K) (hd:ES fs) (aa:EH fs F) {O:St} (A:Ok O) (a:bH O h l R now rc sc nm fs F cB s m o fo oo) (hF:z F+1<1000000) (rl:LU) (u:mP) (ks:List PS) (ha:uQ u.V) (hk:DC ks):
  ∃S v,sS C (ai C) TT (n+3) jF [.da cB 0,.cU rl,.cX u.B,.sl (z ks) (ks.flatMap pC)] O=J (aa2 (dS K fs rc sc rl u ks F).1.2 (.cX (dS K fs rc sc rl u ks F).1.1.B),S)/\bH S h l R now rc sc nm fs (dS K fs rc sc rl u ks F).2 cB s m o fo v/\Req O S s m F (dS K fs rc sc rl u ks F).2 oo v:=by
 have k:=a.lt;have ac:u.B=[.cQ r u.th,.sl (z u.V) (u.V.flatMap sC)]:=w8;have ab:w9 0 (.cP u.B FZ)=eT:=u.below;have zb:w9 0 (.cP [.cQ r 0,.cQ r 0,.cY,.cY,.cY,.cQ r 0,.cY,.cQ r 0,.cU []] FZ)=eT:=w8;have aw:Ok (O++[.cP u.B FZ,.cP [.cQ r 0,.cQ r 0,.cY,.cY,.cY,.cQ r 0,.cY,.cQ r 0,.cU []] FZ]):=A.H (by simp only[Z0,aC6,ab,zb,aD0]);obtain⟨S,v,q1,b,q⟩:=XU H n hK hd aa aw (a.eD _) (by omega);obtain⟨ah,ay,aR⟩:=Ah hK hd aa sc;have cap:=λO A=>ae0 H.ct (aW K fs sc F).1.1 ah.ff rl rc O A;have ax:0<=rc/\rc<=65536:=by have:=a.ck.1;unfold mayC at this;simpa using this
 have rP:dS K fs rc sc rl u ks F=(let s:=aW K fs sc F
  if s.1.2=0 then
   match nZ s.1.1 rl with
   |U=>((EE,1),s.2)|J p=>if p.I<0 then vO K fs rl u ks p rc s.2 else if rc<p.I then((EE,3),s.2)else vO K fs rl u ks p p.I s.2
  else((EE,s.1.2),s.2)):=w8
 dsimp only at rP;rw[rP];clear rP;generalize aW K fs sc F=sp at*;obtain⟨⟨sv,c⟩,F1⟩:=sp;dsimp only at*;have kb:=b.lt;have qb:=q.b3;have kp:∀i x,i<z O+2->i≠cB->i≠s->i≠m->i≠o->oo≠J i->(O++[.cP u.B FZ,.cP [.cQ r 0,.cQ r 0,.cY,.cY,.cY,.cQ r 0,.cY,.cQ r 0,.cU []] FZ])[i]?=J x->S[i]?=J x:=λi x _ _ h2 h3 _ h5 e=>q.bp i x h2 h3 h5 e;have aM:z O+2<=z S:=by have:=q.dt;simpa using this
 have x0:S[z O]?=J (.cP u.B FZ):=q.bp _ _ (by have:=k.s;omega) (by have:=k.m;omega) (λe=>by have:=k.oo _ e;omega) (by rw[aA];rfl);have x1:S[z O+1]?=J (.cP [.cQ r 0,.cQ r 0,.cY,.cY,.cY,.cQ r 0,.cY,.cQ r 0,.cU []] FZ):=q.bp _ _ (by have:=k.s;omega) (by have:=k.m;omega) (λe=>by have:=k.oo _ e;omega) (by rw[aI];rfl);have V:v≠J (z O)/\v≠J (z O+1):=by
  refine⟨λe=>?_,λe=>?_⟩<;>rcases q.eM _ e with e|e;·have:=k.oo _ e;omega
  ·rw[j9]at e;simp only[Z1,X2]at e;omega
  ·have:=k.oo _ e;omega
  ·rw[j9]at e;simp only[Z1,X2]at e;omega
 have Rc:=R.f8;have Sc:sv.B=[.cQ r sv.bU,.cQ r sv.bx,.sl (z sv.ay) (sv.ay.flatMap oZ.B)]:=w8;have rp:=b.rp;unfold qW at rp;rw[Rc]at rp;simp only[a05,a88]at rp;have W:=λL=>aj rp L;have run:=(aao (C:=C) (call:=ai C) (T:=TT) (f:=jF) (x:=kP) w8 (n+2) [.da cB 0,.cU rl,.cX u.B,.sl (z ks) (ks.flatMap pC)] O).trans (agN (args1:=[.da cB 0,.cU rl,.cX u.B,.sl (z ks) (ks.flatMap pC)]) (O1:=O) (by rfl) (Sj (.cV (.cU _) (.cV (aak u) (.cV (rV ks) .db))) _ _ _) (by rfl));by_cases G:c=0
 case neg=>rw[j8 G];obtain⟨w,t1,t2,t3⟩:=qb.e7 A a b [EC c] w8;refine⟨w,v,?_,t2,t3⟩;unfold aa2 at q1⊢;rw[j8 G]at q1⊢;unfold EC at q1 t1⊢;rw[run];simp only[kP,q1,t1,BR,BA,Ha,Cb,G8,Cc,G9,vX,oI,oO,BP,BO,He,aaf,ada,aae,Pg,QO,IW,G5,yX,xE,xC,zN,Bz,VI,AV.cP,AV.Q,k9,EVX,seval]
 rw[j0 G];unfold aa2 at q1;rw[j0 G,Sc]at q1;have X:w9 0 (.cP sv.B FZ)=eT:=sv.af.cl;have af:Ok (S++[.cP sv.B FZ]):=q.ok.H (by rw[Z0,X];rfl);have E:=cap _ af;unfold XQ at E;rw[Sc]at E;have bad:∀e:Int,e≠0->aa4 (nZ sv rl) rc=.de [.cX pI,.cQ r 0,.cQ .u8 e]->∃w v,sS C (ai C) TT (n+3) jF [.da cB 0,.cU rl,.cX u.B,.sl (z ks) (ks.flatMap pC)] O=J (.f9 (EC e),w)/\bH w h l R now rc sc nm fs F1 cB s m o fo v/\Req O w s m F F1 oo v:=by intro e he B;rw[B]at E;have aL:w9 0 (.cP pI FZ)=eT:=w8;have D:Ok (S++[.cP sv.B FZ,.cP pI FZ]):=q.ok.H (by simp only[Z0,aC6,X,aL,aD0]);obtain⟨w,t1,t2,t3⟩:=(qb.ac k.s D (by simp) (λi x hi e=>aj e _)).e7 A a (b.eD _) [EC e] w8;refine⟨w,v,?_,t2,t3⟩;have an:(e !=0)=eT:=(by simpa using he);rw[Sc]at t1;unfold EC pI at*;rw[run];simp only[kP,q1,E,W,an,t1,aA,aS,BR,BA,Ha,Cb,G8,Cc,G9,vX,oI,oO,BP,BO,He,aaf,ada,aae,Pg,QO,IW,G5,yX,xE,xC,zN,Bz,VI,AV.cP,AV.Q,k9,EVX,seval]
 have good:∀(p:oZ) (t:Int),nZ sv rl=J p->(0<=t/\t<=65536)->aa4 (nZ sv rl) rc=.de [.cX p.B,.cQ r t,.cQ .u8 0]->∃w v,sS C (ai C) TT (n+3) jF [.da cB 0,.cU rl,.cX u.B,.sl (z ks) (ks.flatMap pC)] O=J (aa2 (vO K fs rl u ks p t F1).1.2 (.cX (vO K fs rl u ks p t F1).1.1.B),w)/\bH w h l R now rc sc nm fs (vO K fs rl u ks p t F1).2 cB s m o fo v/\Req O w s m F (vO K fs rl u ks p t F1).2 oo v:=by
  intro p t M hm B;rw[B]at E;obtain⟨pr,pm,_⟩:=WS M;have aq:=(ah.cS p pm).1;have pb:w9 0 (.cP p.B FZ)=eT:=p.aL;have N:Ok (S++[.cP sv.B FZ,.cP p.B FZ]):=q.ok.H (by simp only[Z0,aC6,X,pb,aD0]);obtain⟨j,o2,Z,g2,I⟩:=fetch_any H.toRNewHas H.oa H.hc (n+1) rl t N (b.eD _) (by omega) hm pr;have dl:(sD fs F1 (rl++iD) t).1.am.length<=LB:=MI hd ay _ _;have e1:(vO K fs rl u ks p t F1).1=K.ro p u ks (sD fs F1 (rl++iD) t).1.am (sD fs F1 (rl++iD) t).1.aq:=w8;have e2:(vO K fs rl u ks p t F1).2=(sD fs F1 (rl++iD) t).2:=w8;rw[e1,e2];have q2:=hK.ro p u ks _ (sD fs F1 (rl++iD) t).1.aq j o aq ha hk dl I.ok g2.bU;generalize sD fs F1 (rl++iD) t=g at*;generalize K.ro p u ks g.1.am g.1.aq=tv at*;obtain⟨tv,d⟩:=tv;dsimp only at*;have ub:=g2.rp;unfold qW at ub;rw[Rc]at ub;simp only[a05,a88]at ub;have ba:=λL=>aj ub L;have Q:s≠z S+1/\m≠z S+1/\v≠J (z S+1):=⟨by have:=kb.s;omega,by have:=kb.m;omega,λe=>by have:=kb.oo _ e;omega⟩;have y0:j[z O]?=J (.cP u.B FZ):=I.bp _ _ (by have:=k.s;omega) (by have:=k.m;omega) V.1 (aj x0 _);have y1:=I.bp _ _ (by have:=k.s;omega) (by have:=k.m;omega) V.2 (aj x1 _);have y2:j[z S+1]?=J (.cP p.B FZ):=I.bp _ _ (Ne.symm Q.1) (Ne.symm Q.2.1) Q.2.2 (by rw[aI];rfl);have tb:=VN tv;have qU:Req O j s m F g.2 oo o2:=(qb.ac k.s N (by simp) (λi x hi e=>aj e _)).N I k.s b.st.sm;have pc:p.B=[.cU p.C,.cQ r p.cy,.cQ r p.I,.sl (z p.aM) (p.aM.flatMap pC)]:=w8;have aD:=λL=>aj y0 L;have ak:=λL=>aj y2 L;have aE:=λL=>aj y1 L;have aK:=λL y=>gZ y1 L y;rw[ac]at y0 aD q2;have aX:k9 [.cQ r 0,.cQ r 0,.cY,.cY,.cY,.cQ r 0,.cY,.cQ r 0,.cU []] 0 tv.B=tv.B:=w8;by_cases P:d=0
  ·subst P;have D:Ok (j.set (z O+1) (.cP tv.B FZ)++[.cP tv.B FZ]):=(Ok.bd I.ok _ (AO.Y (Z2 _) _ tb)).H (by rw[Z0,tb];rfl)
   have ku:=g2.lt;have bT:bH (j.set (z O+1) (.cP tv.B FZ)) h l R now rc sc nm fs g.2 cB s m o fo o2:=g2.bB λi x hi e=>aH e (λe'=>by
    subst e';rcases hi with e|e|e|e|e|e;·have:=k.r;omega
    ·have:=k.s;omega
    ·have:=k.m;omega
    ·have:=k.o;omega
    ·have:=k.fo _ e;omega
    ·rcases I.eM _ e with e|e;·exact V.2 e
     ·rw[j9]at e;simp only[Z1,X2]at e;omega) _
   have qT:=qU.ac k.s D (by simp) (λi x hi e=>aj (aH e (by omega) _) _);obtain⟨w,t1,t2,t3⟩:=qT.e7 A a (bT.eD _) [.cX tv.B] (by rw[ae,j7];rw[w9]at tb;rw[tb];rfl);refine⟨w,o2,?_,t2,t3⟩;have sg:=bF y1 (.cP tv.B FZ);have az:=λL=>aj sg L;rw[Sc]at Z;rw[pc]at Z E y2 ak q2;rw[run];simp only[kP,q1,E,W,Z,q2,ub,y0,aE,aK,y2,dV.dt,dV.tk,dV.fl,aA,aS,aa2,BR,BA,Ha,Cb,G8,Cc,G9,vX,oI,oO,BP,BO,He,aaf,ada,aae,Pg,QO,IW,G5,yX,xE,xC,zN,Bz,VI,AV.cP,AV.Q,k9,EVX,seval];rw[Wv (vs:=[.cX tv.B]) (by simp only[aZ,az,dV.dt,dV.tk,EVX,seval]) (.cV (.cX tv.af) .db),t1];rfl
  ·have ad:(d !=0)=eT:=(by simpa using P);have D:Ok (j++[.cP tv.B FZ]):=I.ok.H (by rw[Z0,tb];rfl);obtain⟨w,t1,t2,t3⟩:=(qU.ac k.s D (by simp) (λi x hi e=>aj e _)).e7 A a (g2.eD _) [EC d] w8;refine⟨w,o2,?_,t2,t3⟩;rw[Sc]at Z;rw[pc]at Z E y2 ak q2;unfold EC at t1;rw[run];simp only[kP,q1,E,W,Z,q2,ub,y0,y2,dV.dt,dV.fl,aA,aS,ad,t1,aa2,P,EC,BR,BA,Ha,Cb,G8,Cc,G9,vX,oI,oO,BP,BO,He,aaf,ada,aae,Pg,QO,IW,G5,yX,xE,xC,zN,Bz,VI,AV.cP,AV.Q,k9,EVX,seval]
 cases M:nZ sv rl with
 |none=>exact bad 1 (by decide) (by rw[M];rfl)
 |some p=>
  by_cases Y:p.I<0;·simp only[Y,if_true];exact good p rc M ax (by rw[M];simp[aa4,Y])
  ·by_cases c2:rc<p.I;·simp only[Y,c2,if_true,if_false];exact bad 3 (by decide) (by rw[M];simp[aa4,Y,c2])
   ·simp only[Y,c2,if_false];exact good p p.I M (by omega) (by rw[M];simp[aa4,Y,c2])
def aj1{C h l R now K}(f:F6 C h l R now K){fs F}(m:ES fs)(d:EH fs F)(rc sc:P)(rl:LU)(b:mP)(ks:W PS)(o:uQ b.V)(s:DC ks):(dS K fs rc sc rl b ks F).1.1.ok/\EH fs (dS K fs rc sc rl b ks F).2/\(dS K fs rc sc rl b ks F).2.length<=z F+2/\((dS K fs rc sc rl b ks F).1.2≠0->(dS K fs rc sc rl b ks F).1.1=EE):=by
 obtain⟨s1,s2,s3⟩:=Ah f m d sc;unfold dS;dsimp only;generalize aW K fs sc F=n at*;obtain⟨⟨sv,c⟩,F1⟩:=n;dsimp only at*;have q:∀p a,nZ sv rl=J p->(vO K fs rl b ks p a F1).1.1.ok/\EH fs (vO K fs rl b ks p a F1).2/\(vO K fs rl b ks p a F1).2.length<=z F+2/\((vO K fs rl b ks p a F1).1.2≠0->(vO K fs rl b ks p a F1).1.1=EE):=λp a g=>
  ⟨f.nj _ _ _ _ _ (MI m s2 _ _),(ag6 s2 _ _).1,by have:=MJ fs F1 (rl++iD) a;unfold vO;dsimp only;omega,λe=>f.pq _ _ _ _ _ e⟩
 by_cases k:c=0
 ·rw[j0 k];cases g:nZ sv rl with
  |none=>exact⟨X9,s2,by dsimp only;omega,λ_=>w8⟩
  |some p=>
   dsimp only;by_cases i:p.I<0;·rw[j0 i];exact q p _ g
   ·rw[j8 i];by_cases j:rc<p.I;·rw[j0 j];exact⟨X9,s2,by dsimp only;omega,λ_=>w8⟩
    ·rw[j8 j];exact q p _ g
 ·rw[j8 k];exact⟨X9,s2,by dsimp only;omega,λ_=>w8⟩
def abo{n0:X}{rs:W XR}{A:As}{O:St}{vs vs':LA}(h:aZ A O rs=J vs)(hv:T eF vs O=J (vs',O)):TS n0 rs A O=J (dG vs',w n0 vs' O):=by unfold TS;rw[h];dsimp only;rw[hv]
def afB (H:Ye C) (n:Nat) {h l R now rc sc nm fs F cB s m o fo oo K} (P:F6 C h l R now K) (hd:ES fs) (A:EH fs F) {O:St} (u:Ok O) (a:bH O h l R now rc sc nm fs F cB s m o fo oo) (Z:F.length<1000000):
  ∃S f,C9 C (ai C) (sS C (ai C) TT (n+2)) gJ fC [.da cB 0] O=J (.de [.cX (aW K fs sc F).1.1.B,.cQ .u8 (aW K fs sc F).1.2],S)/\bH S h l R now rc sc nm fs (aW K fs sc F).2 cB s m o fo f/\Req O S s m F (aW K fs sc F).2 oo f:=by
 have k:=a.lt;have E:Ok (O++[.cP [.cQ r 0,.cQ r 0,.cY] FZ,.cP [.cQ .u8 0] FZ]):=u.H w8;obtain⟨S,f,q1,b,q⟩:=XU H n P hd A E (a.eD _) Z;have sz:(aW K fs sc F).1.2≠0->(aW K fs sc F).1.1=atK:=P.ps _ _;generalize aW K fs sc F=sp at*;obtain⟨⟨sv,c⟩,F1⟩:=sp;dsimp only at*;have kb:=b.lt;have qb:=q.b3;have x0:S[O.length]?=J (.cP [.cQ r 0,.cQ r 0,.cY] FZ):=q.bp _ _ (by have:=k.s;omega) (by have:=k.m;omega) (λe=>by have:=k.oo _ e;omega) (by rw[aA];rfl);have x1:S[O.length+1]?=J (.cP [.cQ .u8 0] FZ):=q.bp _ _ (by have:=k.s;omega) (by have:=k.m;omega) (λe=>by have:=k.oo _ e;omega) (by rw[aI];rfl);have I:∀i,i<2->f≠J (O.length+i):=by
  intro i hi e;rcases q.eM _ e with e|e;·have:=k.oo _ e;omega
  ·rw[j9]at e;simp only[Z1,X2]at e;omega
 have v:sv.B=[.cQ r sv.bU,.cQ r sv.bx,.sl sv.ay.length (sv.ay.flatMap oZ.B)]:=w8;have p:w9 0 (.cP sv.B FZ)=eT:=sv.af.cl;have fin:∀(cs:LA) (d:Int),ae 0 cs=eT->∃t,w O.length [.cX sv.B,.cQ .u8 c] ((S.set O.length (.cP cs FZ)).set (O.length+1) (.cP [.cQ .u8 d] FZ))=t/\bH t h l R now rc sc nm fs F1 cB s m o fo f/\Req O t s m F F1 oo f:=by
  intro cs d B;have G:Ok ((S.set O.length (.cP cs FZ)).set (O.length+1) (.cP [.cQ .u8 d] FZ)):=Ok.bd (Ok.bd q.ok _ (by rw[w9];exact aP (Z2 _) _ B)) _ w8;have bT:bH ((S.set O.length (.cP cs FZ)).set (O.length+1) (.cP [.cQ .u8 d] FZ)) h l R now rc sc nm fs F1 cB s m o fo f:=b.bB λi x hi e=>by
   have:∀j,j<2->i≠O.length+j:=λj hj X=>by
    subst X;rcases hi with e|e|e|e|e|e;·have:=k.r;omega
    ·have:=k.s;omega
    ·have:=k.m;omega
    ·have:=k.o;omega
    ·have:=k.fo _ e;omega
    ·exact I j hj e
   exact aH (aH e (this 0 (by decide)) _) (this 1 (by decide)) _
  have qT:=qb.ac k.s G (by simp) (λi x hi e=>aH (aH e (by omega) _) (by omega) _);exact qT.e7 u a bT _ (by rw[ae,j7];rw[w9]at p;rw[p];rfl)
 have L:=λ(y:AO) (z:AO)=>aH (bF x0 y) (by omega:O.length≠O.length+1) z;have M:=λ(y:AO) (z:AO)=>bF (aH x1 (by omega:O.length+1≠O.length) y) z;have N:=λ(y:AO)=>aH x1 (by omega:O.length+1≠O.length) y;have T:=aiG (C:=C) (call:=ai C) (ct:=sS C (ai C) TT (n+2)) (x:=gJ) (k:=fC) (K:=qQ) w8 (by rfl) (args:=[.da cB 0]) (O:=O) (args1:=[.da cB 0]) (O1:=O) w8 w8;rw[T];by_cases g:c=0
 ·subst g;unfold aa2 at q1;rw[j0 w8,v]at q1;obtain⟨t,t1,t2,t3⟩:=fin sv.B 0 (by rw[w9]at p;exact p);refine⟨t,f,?_,t2,t3⟩;rw[v]at t1;unfold SC;simp only[gJ,fC,qQ,q1,x0,N,X1,BR,BA,Ha,Cb,G8,Cc,G9,vX,oI,oO,BP,BO,He,aaf,ada,aae,Pg,QO,IW,G5,yX,xE,xC,zN,Bz,VI,AV.cP,AV.Q,k9,EVX,seval];refine(Wv (vs:=[.cX sv.B,.cQ .u8 0]) ?_ (.cV (.cX sv.af) (.cV (.cQ _ _) .db))).trans ?_;·rw[v];simp only[aZ,L,M,EVX,seval]
  ·rw[v,t1];rfl
 ·have Q:(c !=0)=eT:=(by simpa using g);unfold aa2 at q1;rw[j8 g]at q1;obtain⟨t,t1,t2,t3⟩:=fin [.cQ r 0,.cQ r 0,.cY] c w8;have sv0:=sz g;subst sv0;refine⟨t,f,?_,t2,t3⟩;have W:∀Y,Ok Y->O9 (sS C (ai C) TT (n+2)) sW [EC c] Y=J (.cQ .u8 c,Y):=λY D=>an3 (C:=C) (caught_is (n+1) c D);have V:=W S q.ok;have z9:atK.B=[.cQ r 0,.cQ r 0,.sl 0 []]:=w8;rw[z9]at t1⊢;unfold EC at*;unfold SC;simp only[gJ,fC,qQ,q1,x0,N,V,X1,BR,BA,Ha,Cb,G8,Cc,G9,vX,oI,oO,BP,BO,He,aaf,ada,aae,Pg,QO,IW,G5,yX,xE,xC,zN,Bz,VI,AV.cP,AV.Q,k9,EVX,seval];refine(abo (vs:=[.cX [.cQ r 0,.cQ r 0,.cY],.cQ .u8 c]) (vs':=[.cX [.cQ r 0,.cQ r 0,.sl 0 []],.cQ .u8 c]) ?_ w8).trans ?_;·simp only[aZ,L,M,EVX,seval]
  ·rw[t1];rfl
def apl (H:Ye C) (n:Nat) {h l R now rc sc nm fs F cB s m o fo oo K} (P:F6 C h l R now K) (V:ES fs) (u:EH fs F) {O:St} (v:Ok O) (a:bH O h l R now rc sc nm fs F cB s m o fo oo) (hF:F.length+1<1000000) (rl:LU) (f:mP) (ks:List PS) (Q:uQ f.V) (W:DC ks):
  ∃S g,C9 C (ai C) (sS C (ai C) TT (n+3)) kG iV [.da cB 0,.cU rl,.cX f.B,.sl ks.length (ks.flatMap pC)] O=J (.de [.cX (dS K fs rc sc rl f ks F).1.1.B,.cQ .u8 (dS K fs rc sc rl f ks F).1.2],S)/\bH S h l R now rc sc nm fs (dS K fs rc sc rl f ks F).2 cB s m o fo g/\Req O S s m F (dS K fs rc sc rl f ks F).2 oo g:=by
 have k:=a.lt;have Z:f.B=[.cQ r f.th,.sl f.V.length (f.V.flatMap sC)]:=w8;have X:w9 0 (.cP f.B FZ)=eT:=f.below;have zb:w9 0 (.cP [.cQ r 0,.cQ r 0,.cY,.cY,.cY,.cQ r 0,.cY,.cQ r 0,.cU []] FZ)=eT:=w8;have E:Ok (O++[.cP f.B FZ,.cP [.cQ r 0,.cQ r 0,.cY,.cY,.cY,.cQ r 0,.cY,.cQ r 0,.cU []] FZ,.cP [.cQ .u8 0] FZ]):=v.H (by simp only[Z0,aC6,X,zb];rfl);obtain⟨S,g,q1,b,q⟩:=ajt H n P V u E (a.eD _) hF rl f ks Q W;have sz:=(aj1 P V u rc sc rl f ks Q W).2.2.2;generalize dS K fs rc sc rl f ks F=sp at*;obtain⟨⟨tv,c⟩,F1⟩:=sp;dsimp only at*;have kb:=b.lt;have qb:=q.b3;have x1:S[O.length+1]?=J (.cP [.cQ r 0,.cQ r 0,.cY,.cY,.cY,.cQ r 0,.cY,.cQ r 0,.cU []] FZ):=q.bp _ _ (by have:=k.s;omega) (by have:=k.m;omega) (λe=>by have:=k.oo _ e;omega) (by rw[aI];rfl);have x2:S[O.length+2]?=J (.cP [.cQ .u8 0] FZ):=q.bp _ _ (by have:=k.s;omega) (by have:=k.m;omega) (λe=>by have:=k.oo _ e;omega) (by rw[aI];rfl);have I:∀i,i<3->g≠J (O.length+i):=by
  intro i hi e;rcases q.eM _ e with e|e;·have:=k.oo _ e;omega
  ·rw[j9]at e;simp only[Z1,X2]at e;omega
 have w:=VN tv;have fin:∀(cs:LA) (d:Int),ae 0 cs=eT->∃t,tidy O.length [.cX tv.B,.cQ .u8 c] ((S.set (O.length+1) (.cP cs FZ)).set (O.length+2) (.cP [.cQ .u8 d] FZ))=t/\bH t h l R now rc sc nm fs F1 cB s m o fo g/\Req O t s m F F1 oo g:=by
  intro cs d B;have G:Ok ((S.set (O.length+1) (.cP cs FZ)).set (O.length+2) (.cP [.cQ .u8 d] FZ)):=Ok.bd (Ok.bd q.ok _ (by rw[w9];exact aP (Z2 _) _ B)) _ w8;have bT:bH ((S.set (O.length+1) (.cP cs FZ)).set (O.length+2) (.cP [.cQ .u8 d] FZ)) h l R now rc sc nm fs F1 cB s m o fo g:=b.bB λi x hi e=>by
   have:∀j,j<3->i≠O.length+j:=λj hj e'=>by
    subst e';rcases hi with e|e|e|e|e|e;·have:=k.r;omega
    ·have:=k.s;omega
    ·have:=k.m;omega
    ·have:=k.o;omega
    ·have:=k.fo _ e;omega
    ·exact I j hj e
   exact aH (aH e (this 1 (by decide)) _) (this 2 (by decide)) _
  have qT:=qb.ac k.s G (by simp) (λi x hi e=>aH (aH e (by omega) _) (by omega) _);exact qT.e7 v a bT _ (by rw[ae,j7];rw[w9]at w;rw[w];rfl)
 have L:=λ(y:AO) (z:AO)=>aH (bF x1 y) (by omega:O.length+1≠O.length+2) z;have M:=λ(y:AO) (z:AO)=>bF (aH x2 (by omega:O.length+2≠O.length+1) y) z;have N:=λ(y:AO)=>aH x2 (by omega:O.length+2≠O.length+1) y;have aa:k9 [.cQ r 0,.cQ r 0,.cY,.cY,.cY,.cQ r 0,.cY,.cQ r 0,.cU []] 0 tv.B=tv.B:=w8;have c1:=aiG (C:=C) (call:=ai C) (ct:=sS C (ai C) TT (n+3)) (x:=kG) (k:=iV) (K:=wI) w8 (by rfl) (args:=[.da cB 0,.cU rl,.cX f.B,.sl ks.length (ks.flatMap pC)]) (O:=O) (args1:=[.da cB 0,.cU rl,.cX f.B,.sl ks.length (ks.flatMap pC)]) (O1:=O) (Sj (.cV (.cU _) (.cV (aak f) (.cV (rV ks) .db))) _ _ _) w8;rw[c1];rw[Z]at q1⊢;by_cases p:c=0
 ·subst p;unfold aa2 at q1;rw[j0 w8]at q1;obtain⟨t,t1,t2,t3⟩:=fin tv.B 0 (by rw[w9]at w;exact w);refine⟨t,g,?_,t2,t3⟩;unfold SC;simp only[kG,iV,wI,q1,x1,N,dV.dt,dV.fl,X1,aA,BR,BA,Ha,Cb,G8,Cc,G9,vX,oI,oO,BP,BO,He,aaf,ada,aae,Pg,QO,IW,G5,yX,xE,xC,zN,Bz,VI,AV.cP,AV.Q,k9,EVX,seval];refine(Wv (vs:=[.cX tv.B,.cQ .u8 0]) ?_ (.cV (.cX tv.af) (.cV (.cQ _ _) .db))).trans ?_;·simp only[aZ,L,M,dV.dt,dV.tk,EVX,seval]
  ·rw[t1];rfl
 ·have T:(c !=0)=eT:=(by simpa using p);unfold aa2 at q1;rw[j8 p]at q1;obtain⟨t,t1,t2,t3⟩:=fin [.cQ r 0,.cQ r 0,.cY,.cY,.cY,.cQ r 0,.cY,.cQ r 0,.cU []] c w8;have sv0:=sz p;subst sv0;refine⟨t,g,?_,t2,t3⟩;have cc:∀Y,Ok Y->O9 (sS C (ai C) TT (n+3)) sW [EC c] Y=J (.cQ .u8 c,Y):=λY D=>an3 (C:=C) (caught_is (n+2) c D);have cS:=cc S q.ok;have z9:EE.B=[.cQ r 0,.cQ r 0,.sl 0 [],.sl 0 [],.sl 0 [],.cQ r 0,.sl 0 [],.cQ r 0,.cU []]:=w8;rw[z9]at t1⊢;unfold EC at*;unfold SC;simp only[kG,iV,wI,q1,x1,N,cS,X1,aA,BR,BA,Ha,Cb,G8,Cc,G9,vX,oI,oO,BP,BO,He,aaf,ada,aae,Pg,QO,IW,G5,yX,xE,xC,zN,Bz,VI,AV.cP,AV.Q,k9,EVX,seval];refine(abo (vs:=[.cX [.cQ r 0,.cQ r 0,.cY,.cY,.cY,.cQ r 0,.cY,.cQ r 0,.cU []],.cQ .u8 c]) (vs':=[.cX [.cQ r 0,.cQ r 0,.sl 0 [],.sl 0 [],.sl 0 [],.cQ r 0,.sl 0 [],.cQ r 0,.cU []],.cQ .u8 c]) ?_ w8).trans ?_;·simp only[aZ,L,M,EVX,seval]
  ·rw[t1];rfl
structure ant where
 b4:Int
 C:LU
 ak:mP
 al:List PS
def ant.B(a:ant):LA:=[.cQ .u8 a.b4,.cU a.C,.cQ r a.ak.th,.sl (z a.ak.V) (a.ak.V.flatMap sC),.sl (z a.al) (a.al.flatMap pC)]
theorem ant.dt(a:ant):z a.B=5:=w8
theorem ant.af(a:ant):q a.B:=.cV (.cQ _ _) (.cV (.cU _) (.cV (.cQ _ _) (.cV (pG _) (.cV (rV _) .db))))
def lsN:W PS->X->X|[],n=>n|h::l,n=>if n<40000 then lsN l (n+50+t 40000 (z h.1)+t 40000 (z h.2))else n
def arh:∀(l:W PS) (n:X),n<=lsN l n
 |[],n=>Z3 _
 |h::l,n=>by
  unfold lsN;split;·exact aF2 (by omega) (arh l _)
  ·exact Z3 _
theorem Yy:∀(l:W PS) (n:X),lsN l n<40000->n+50*z l<=lsN l n/\∀x∈l,z x.1<40000/\z x.2<40000
 |[],n,h=>⟨by simp[lsN],λs hs=>by cases hs⟩
 |p::l,n,h=>by
  unfold lsN at*;split at h;·next c=>rw[j0 c];have a:=arh l (n+50+t 40000 (z p.1)+t 40000 (z p.2));have b:=Yy l _ h;grind
  ·omega
def U6(nm data:LU)(fs:W PS):L:=I (40000<=lsN fs (t 40000 (z data)+t 40000 (z nm)))
def ZY{nm data:LU}{fs:W PS}(h:U6 nm data fs=eF):z fs<=1000/\z data<=LB/\∀x∈fs,z x.2<=LB:=by have h:lsN fs (t 40000 (z data)+t 40000 (z nm))<40000:=Nat.not_le.mp (of_decide_eq_false h);grind [Yy,LB]
def azn(b:P)(a:P):Sz eF (.cQ r b) (.cQ r a)=J (.cQ r (if a<b then a else b)):=w8
def amH(a:X):Sz eF (.cQ r 40000) (.cQ r (a:P))=J (.cQ r ((t 40000 a:X):P)):=by rw[azn];grind
def Px (nm data:LU) (fs:W PS) (O:St):∀(n i acc:X),i+n=z fs->acc<=200000->(acc<40000->50*i<=acc)->
  aG C (ai C) 47 [1,3,4] gm [(1,.da (z O) 0),(3,.cQ r acc),(4,.cQ r i)] (O++[.cP [.cU nm,.cU data,.sl (z fs) (fs.flatMap pC)] FZ])=J (.dq 0,[(3,.cQ r (lsN (fs.drop i) acc:X))],O++[.cP [.cU nm,.cU data,.sl (z fs) (fs.flatMap pC)] FZ])
 |0,i,acc,hi,e,hb=>by rw[aB (he:=w8)];have h:¬((i:P)<(z fs:P)):=(by omega);have b:fs.drop i=[]:=aC0 (by omega);simp only[gm,h,b,lsN,bC,aA,N,seval]
 |n+1,i,acc,hi,e,f=>by
  rw[aB (he:=w8)];have h:((i:P)<(z fs:P)):=(by omega);have h2:i<z fs:=(by omega);have hb:fs[i]?=J fs[i]:=a01 h2;have b:fs.drop i=fs[i]::fs.drop (i+1):=aB6 h2;have h3:(0:P)<=i:=(by omega);have fl:=bz wB fs;have fd:=iy wB hb;obtain⟨p,c⟩:∃p,p=fs[i]:=⟨_,w8⟩;rw[<-c]at fd b;have pc:pC p=[.cU p.1,.cU p.2]:=w8;rw[b,lsN];by_cases d:acc<40000;·have a:((acc:P)<40000):=(by omega);have j:=wrS i (by omega);have m:IntKind.i64.wrap ((acc:P)+50)=((acc+50:X):P):=wrE (by omega);have o:IntKind.i64.wrap (((acc+50:X):P)+((t 40000 (z p.1):X):P))=((acc+50+t 40000 (z p.1):X):P):=wrE (by omega);have q:IntKind.i64.wrap (((acc+50+t 40000 (z p.1):X):P)+((t 40000 (z p.2):X):P))=((acc+50+t 40000 (z p.1)+t 40000 (z p.2):X):P):=wrE (by omega);have l:=Px nm data fs O n (i+1) (acc+50+t 40000 (z p.1)+t 40000 (z p.2)) (by omega) (by omega) (by omega);rw[j0 d,<-l];generalize s:aG C (ai C) 47 [1,3,4] gm=k at*;simp only[gm,h,h2,h3,a,j,m,o,q,amH,fl,fd,pc,bC,F,aA,N,seval]
  ·have a:¬((acc:P)<40000):=(by omega);rw[j8 d];simp only[gm,h,a,bC,aA,N,seval]
def OZ(d:v C xh wS)(nm data:LU)(fs:W PS)(O:St)(a:Ok O):ai C xh [.cX [.cU nm,.cU data,.sl (z fs) (fs.flatMap pC)]] O=J (.cW (U6 nm data fs),O):=by
 rw[d.go (NVs.E (.cV (.cX (.cV (.cU _) (.cV (.cU _) (.cV (rV _) .db)))) .db) _)];have c:=Px (C:=C) nm data fs O (z fs) 0 (t 40000 (z data)+t 40000 (z nm)) (by omega) (by omega) (by omega);simp only[aB1,aB8]at c;have f:=λb=>bu a (vs:=[.cW b]) w8;have g:IntKind.i64.wrap (((t 40000 (z data):X):P)+((t 40000 (z nm):X):P))=((t 40000 (z data)+t 40000 (z nm):X):P):=wrE (by omega);have e:I ((40000:P)<=(lsN fs (t 40000 (z data)+t 40000 (z nm)):P))=U6 nm data fs:=by unfold U6;rw[aL3];simp;omega
 simp only[wS,c,e,f,amH,g,bC,aA,AV.cP,N,seval]
def aqx(n:X){l:LA}(h:q l){d:LA}(hr:q d)(O:St):T eF (.eB n l::d) O=J (.sl n l::d,O):=by rw[iY,aN,arC,h.nf,hr.nf];rfl
end Go.Ev
namespace Go.Ev
open Option renaming some→J, none→U
open List renaming length→z
open Bool renaming false→eF, true→eT
open Go.IntKind renaming i64→r
variable{C C1:Ctx}
def Req.k6 {O L S T:St} {h l R now rc sc nm fs F d y s m o fo oo c} (f:Ok O) (a:bH O h l R now rc sc nm fs F y s m o fo oo) (q:Req (O++L) S s m F d oo c) (b:bH S h l R now rc sc nm fs d y s m o fo c) (g:Ok T) (n:z S<=z T) (j:∀i x,S[i]?=J x->(i<z O\/z O+z L<=i)->T[i]?=J x) (vs:LA) (hv:ae 0 vs=eT):
  ∃S',w (z O) vs T=S'/\bH S' h l R now rc sc nm fs d y s m o fo c/\Req O S' s m F d oo c:=by
 have k:=a.lt;have bT:bH T h l R now rc sc nm fs d y s m o fo c:=b.bB λi x hi e=>j i x e (by
  grind [Req,ajM])
 exact(q.b3.ac k.s g n (λi x hi e=>j i x e (.inl hi))).e7 f a bT vs hv
def Req.eR{O L S:St}{h l R now rc sc nm fs F c f s m o fo oo b}(a:bH O h l R now rc sc nm fs F f s m o fo oo)(q:Req (O++L) S s m F c oo b)(i:X){x:AO}(d:L[i]?=J x):S[z O+i]?=J x:=by have k:=a.lt;grind [Req,ajM]
structure aaK(C C1:Ctx):Prop where
 h9:Ye C1
 kl:∀a O v,C9 C1 (ai C1) (sS C1 (ai C1) TT 8) gJ fC a O=some v->ai C gQ a O=some v
 bS:∀a O v,C9 C1 (ai C1) (sS C1 (ai C1) TT 8) kG iV a O=some v->ai C xk a O=some v
 di:Has C pY tH
 ie:Has C oz Hm
structure CaseOk(C1:Ctx)(h:Bool)(l:List iH)(R:jR)(now:Int)(K:Dz)(fs:List PS):Prop where
 e6:F6 C1 h l R now K
 dF:R.ok
 am:ES fs
def PG (H:aaK C C1) {h l R now rc sc nm fs F i s m o fo oo K} (e:CaseOk C1 h l R now K fs) (c:EH fs F) {O:St} (d:Ok O) (a:bH O h l R now rc sc nm fs F i s m o fo oo) (f:z F<1000000):
  ∃S b,ai C gQ [.da i 0] O=J (.de [.cX (aW K fs sc F).1.1.B,.cQ .u8 (aW K fs sc F).1.2],S)/\bH S h l R now rc sc nm fs (aW K fs sc F).2 i s m o fo b/\Req O S s m F (aW K fs sc F).2 oo b:=by
 obtain⟨S,b,q1,q2,q3⟩:=afB H.h9 6 e.e6 e.am c d a f;exact⟨S,b,H.kl _ _ _ q1,q2,q3⟩
def alI (H:aaK C C1) {h l R now rc sc nm fs F q s m o fo oo K} (f:CaseOk C1 h l R now K fs) (d:EH fs F) {O:St} (e:Ok O) (a:bH O h l R now rc sc nm fs F q s m o fo oo) (g:z F+1<1000000) (rl:LU) (c:mP) (ks:W PS) (i:uQ c.V) (j:DC ks):
  ∃S b,ai C xk [.da q 0,.cU rl,.cX c.B,.sl (z ks) (ks.flatMap pC)] O=J (.de [.cX (dS K fs rc sc rl c ks F).1.1.B,.cQ .u8 (dS K fs rc sc rl c ks F).1.2],S)/\bH S h l R now rc sc nm fs (dS K fs rc sc rl c ks F).2 q s m o fo b/\Req O S s m F (dS K fs rc sc rl c ks F).2 oo b:=by
 obtain⟨S,b,q1,q2,q3⟩:=apl H.h9 5 f.e6 f.am d e a g rl c ks i j;exact⟨S,b,H.bS _ _ _ q1,q2,q3⟩
def rW:LU:=[116,97,114,103,101,116,115]
def ajO (H:aaK C C1) {h l R now rc sc nm fs F N s m o fo oo K} (j:CaseOk C1 h l R now K fs) (g:EH fs F) {O:St} (f:Ok O) (a:bH O h l R now rc sc nm fs F N s m o fo oo) (A:z F+1<1000000):
  ∃S d,ai C oz [.da N 0] O=J (.de [.cX (dS K fs rc sc rW R.tg R.ks F).1.1.B,.cQ .u8 (dS K fs rc sc rW R.tg R.ks F).1.2],S)/\bH S h l R now rc sc nm fs (dS K fs rc sc rW R.tg R.ks F).2 N s m o fo d/\Req O S s m F (dS K fs rc sc rW R.tg R.ks F).2 oo d:=by
 have B:=kK N O;have k:Ok (O++[.cP [.cQ r 0,.cQ r 0,.cY,.cY,.cY,.cQ r 0,.cY,.cQ r 0,.cU []] FZ]):=f.H w8;obtain⟨S,d,q1,b,q⟩:=alI H j g k (a.eD _) A rW R.tg R.ks j.dF.tg j.dF.ks;generalize dS K fs rc sc rW R.tg R.ks F=D at*;obtain⟨⟨tv,c⟩,F1⟩:=D;dsimp only at*;have x0:S[z O]?=J _:=q.eR a 0 w8;have u:=VN tv;have mk:=SK H.di (a.eD [.cP [.cQ r 0,.cQ r 0,.cY,.cY,.cY,.cQ r 0,.cY,.cQ r 0,.cU []] FZ]);have n:Ok (S.set (z O) (.cP tv.B FZ)):=Ok.bd q.ok _ (AO.Y (Z2 _) _ u);obtain⟨w,t1,t2,t3⟩:=q.k6 f a b n (by simp) (λi x e hi=>aH e (by simp at hi;omega) _) [.cX tv.B,.cQ .u8 c] (by rw[ae,j7];rw[w9]at u;rw[u];rfl);refine⟨w,d,?_,t2,t3⟩;have rp:=a.rp;have v:=R.f8;unfold qW at rp;rw[v]at rp;simp only[a05,a88]at rp;have p:=λL=>aj rp L;have E:R.tg.B=[.cQ r R.tg.th,.sl (z R.tg.V) (R.tg.V.flatMap sC)]:=w8;unfold rW at q1;rw[E]at q1;have t:k9 [.cQ r 0,.cQ r 0,.cY,.cY,.cY,.cQ r 0,.cY,.cQ r 0,.cU []] 0 tv.B=tv.B:=w8;have sg:=bF x0 (.cP tv.B FZ);have nvs:NVs [.cX tv.B,.cQ .u8 c]:=.cV (.cX tv.af) (.cV (.cQ _ _) .db);rw[H.ie.go B];generalize y:iF=G;simp only[Hm,mk,q1,p,x0,t,dV.dt,dV.fl,AV.cP,EVX,seval];rw[<-y];refine(Ia (vs:=[.cX tv.B,.cQ .u8 c]) ?_ nvs).trans (by rw[t1];rfl);simp only[aZ,sg,dV.dt,dV.tk,EVX,seval]
structure afr(C:Ctx):Prop extends TelHas C where
 hF:Has C pY tH
 o0:Has C fU Hl
def Xa(fs:W PS)(F:W aQ)(file:LU)(cap:P):∃a,(sD fs F file cap).2=F++a:=by
 unfold sD;cases F.find? (λf=>I (f.C=file))with
 |some f=>exact⟨[],(aB3 _).symm⟩|none=>exact⟨_,w8⟩
def UZ(fs:W PS)(F X:W aQ)(file:LU)(cap c:P):sD fs ((sD fs F file cap).2++X) file c=((sD fs F file cap).1,(sD fs F file cap).2++X):=by
 unfold sD;cases hf:F.find? (λf=>I (f.C=file))with
 |some f=>dsimp only;rw[a,hf];rfl|none=>dsimp only;rw[a,a,hf,b (by simpa using zt fs file cap)];rfl
def UA(F:W aQ):Prop:=F.Pairwise λf g=>f.C≠g.C
def UA.dd:∀{F:W aQ},UA F->Uniq F
 |[],_,_,h=>by cases h
 |g::F,d,f,h=>by
  obtain⟨c,h2⟩:=List.pairwise_cons.mp d;rcases aC8.mp h with rfl|h;·exact b (by simp)
  ·rw[K (by simpa using c f h)];exact UA.dd h2 f h
def UA.ne{F:W aQ}(h:UA F){i j:X}(c:i<j){f g:aQ}(hi:F[i]?=J f)(hj:F[j]?=J g):f.C≠g.C:=by obtain⟨a,rfl⟩:=a00.mp hi;obtain⟨b,rfl⟩:=a00.mp hj;exact List.pairwise_iff_getElem.mp h i j a b c
def YW{fs:W PS}{F:W aQ}(h:UA F)(file:LU)(cap:P):UA (sD fs F file cap).2:=by
 unfold sD;cases hf:F.find? (λf=>I (f.C=file))with
 |some f=>exact h|none=>refine List.pairwise_append.mpr ⟨h,List.pairwise_singleton _ _,λf b g c=>?_⟩;rw[aC7.mp c,zt];have:=List.find?_eq_none.mp hf f b;simpa using this
def xZ(K:Dz)(fs:W PS)(sc:P)(F X:W aQ):aW K fs sc ((aW K fs sc F).2++X)=((aW K fs sc F).1,(aW K fs sc F).2++X):=by unfold aW;rw[UZ]
def Vr{F:W aQ}(h:UA F)(K:Dz)(fs:W PS)(sc:P):UA (aW K fs sc F).2:=YW h _ _
def al6{F:W aQ}(h:UA F)(K:Dz)(fs:W PS)(rc sc:P)(rl:LU)(a:mP)(ks:W PS):UA (dS K fs rc sc rl a ks F).2:=by
 have b:=Vr h K fs sc;unfold dS;dsimp only;split
 ·split;·exact b
  ·split;·exact YW b _ _
   ·split;·exact b
    ·exact YW b _ _
 ·exact b
end Go.Ev
