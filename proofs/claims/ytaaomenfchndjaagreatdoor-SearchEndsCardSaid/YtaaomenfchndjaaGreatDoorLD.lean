/- What the law wants alone. No conditions. -/
import Derived.Test.YtaaomenfchndjaaGreatDoorTI
import Derived.Test.YtaaomenfchndjaaGreatDoorCG
set_option linter.unusedVariables false
set_option linter.unusedSimpArgs false
set_option linter.defProp false
set_option maxHeartbeats 8000000
set_option maxRecDepth 1000000
open _root_ renaming rfl→w8,Int→I,beq_self_eq_true→Q,List→w9,if_pos→V,if_neg→W,Nat→X,absurd→j9,UInt8→X1
open Go.Ev renaming EVX→k9,splice→j0,look→X2,a88→Z1,a05→Z2,a08→Z3,hand→K0,Has→B,KsA→b
open List renaming set→j6,getElem?_take_of_lt→j7,nodup_nil→g,mem_of_getLast?→Z0,getElem_map→Z6
open Go.Ev.AO renaming below→j8
open Go renaming FuncId→a
namespace Go.Ev
open Option renaming some→J, none→U
open Bool renaming true→eT, false→eF
open List renaming length→z
open Go.IntKind renaming i64→r
abbrev wo:a:=3
abbrev P9:a:=212
abbrev Jp:a:=273
abbrev Ua:a:=285
abbrev Eb:a:=286
abbrev abA:a:=287
abbrev Zo:a:=316
abbrev zC:a:=319
abbrev P8:a:=345
noncomputable section
end
noncomputable section
def fH:KC:=(.mk ?k:LsA 3 [] 0).1
attribute [local irreducible] fH
def iJ:KC:=(.mk ?k:LsA 3 [fH] 1).1
attribute [local irreducible] iJ
def bG:KF:=(.mk ?k:b 3 [fH,iJ]).1
end
end Go.Ev
namespace Go.Proofs.YtaaomenfchndjaaGreatDoor
open Option renaming some→J, none→U
open Bool renaming true→eT, false→eF
open List renaming length→z
open Go.IntKind renaming i64→r
open Go.Ev Go.RowKit
section
variable{u1 u2:TypeId}
def aya:bZ (C0 u1 u2) cO Eb (.pk [bg] .cW):=sB2 _ (a06 (i:=6) w8)
def ay7:bZ (C0 u1 u2) cO P8 (.pk [bg] .jv):=sB3 _ (a06 (i:=14) w8)
def ay9:bZ (C0 u1 u2) cO Jp (.dp [bg] .cW):=sB3 _ (a06 (i:=10) w8)
def azQ:bZ (C0 u1 u2) cO abA (.dp [.jv] (.de [.cX [wH,.ew [bg,aT,gz,.cW,gz,gz],aT,gz,aT,bg],aT])):=sB8 _ (a06 (i:=2) w8)
end
end Go.Proofs.YtaaomenfchndjaaGreatDoor
namespace Go.Ev
open Option renaming some→J, none→U
open Bool renaming true→eT, false→eF
open List renaming length→z
open Go.IntKind renaming i64→r
def OL(T:dV):Prop:=∀g∈T.bi,g.hs≠[]
structure atP(pth:Bool)(roles depth:Int)(x:jo):Prop where
 dt:x.bb=[]\/(x.bb.length:Int)<=roles
 lp:x.bb≠[]->x.bb.head? =some rW/\1<=depth
 m9:x.bb.Nodup
 jx:∀v∈x.bb,Nm v
 b4:(x.b4=1/\x.gv=0/\x.cE=0/\x.bS=[]/\x.bb≠[])\/
  (x.b4=2/\x.gv=0/\x.cE=0/\x.bS=[]/\x.br=kL/\(x.bb≠[]\/pth=false))\/
  (x.b4=3/\x.gv=2/\x.cE=0/\x.bS=[]/\x.br=kL/\(x.bb.length:Int)=max 0 roles)\/
  (x.b4=3/\x.gv=3/\x.cE=0/\x.bS=[]/\x.br=kL/\max 0 depth<=(x.bb.length:Int))\/
  (x.b4=3/\x.gv=4/\x.cE≠0/\x.bS≠[]/\x.br=kL/\((x.bS=QA/\x.bb=[])\/(x.bS=oP/\x.bb.length=1)\/(x.bb.getLast? =some x.bS)))
structure ape(roles depth:Int)(ws:List Wp)(vs:List (List UInt8)):Prop where
 i1:∀w∈ws,Nm w.C/\w.L<=vs.length+1
 i2:∀v∈vs,Nm v
 m9:vs.Nodup
 dt:vs=[]\/(vs.length:Int)<=roles
 st:(vs=[]/\∃w,ws=[w]/\w.C=rW/\w.L=1)\/(vs≠[]/\vs.head? =some rW/\1<=depth)
def ape.lp{roles depth:I}{a:w9 Wp}{vs:w9 (w9 X1)}(h:ape roles depth a vs):vs≠[]->vs.head? =J rW/\1<=depth:=λk=>by
 rcases h.st with⟨e,_⟩|⟨_,e⟩;·exact j9 e k
 ·exact e
def alB{z:mG}(R:∀T,∀s∈z.go T,Nm s.C){n:X}{f:w9 Wp}{F:w9 aQ}{cB:jo×w9 aQ}(hI:ape z.O z.L f [])(h:uB z n f [] F=J cB):atP eT z.O z.L cB.1:=by
 refine JO (zz:=z) (I:=λf vs _=>ape z.O z.L f vs) (Q:=λcB=>atP eT z.O z.L cB.1) (λf vs F hI _=>?_) n f [] F cB hI h;have E:=hI.lp;obtain⟨i1,i2,p,q,G⟩:=hI;have O:max 0 z.O=(vs.length:Int)\/¬z.O<=vs.length:=by
  by_cases c:z.O<=vs.length
  ·refine .inl ?_;rcases q with e|e;·subst e;simp at c⊢;omega
   ·omega
  ·exact .inr c
 unfold qX;cases o:f.getLast? with
 |none=>
  refine⟨q,E,p,i2,.inr (.inl ⟨w8,w8,w8,w8,w8,.inl λe=>?_⟩)⟩;rcases G with⟨_,w,e,_⟩|⟨N,_⟩;·rw[e]at o;cases o
  ·exact N e
 |some w=>
  have S:w∈f:=Z0 o;obtain⟨M,wd⟩:=i1 w S;have dl:∀w∈f.dropLast,Nm w.C/\w.L<=vs.length+1:=λw A=>i1 w ((List.dropLast_sublist f).subset A);dsimp only;by_cases k:w.C∈vs
  ·rw[V k];refine⟨dl,i2,p,q,.inr ?_⟩;rcases G with⟨e,_⟩|e;·rw[e]at k;cases k
   ·exact e
  rw[W k];by_cases C:z.O<=vs.length;·rw[V C];exact⟨q,E,p,i2,.inr (.inr (.inl ⟨w8,w8,w8,w8,w8,(O.resolve_right λh=>h C).symm⟩))⟩
  rw[W C];by_cases H:z.L<w.L;·rw[V H];exact⟨q,E,p,i2,.inr (.inr (.inr (.inl ⟨w8,w8,w8,w8,w8,by show max 0 z.L<=(vs.length:Int);omega⟩)))⟩
  rw[W H];have ne:vs++[w.C]≠[]:=(by simp);have v2:∀v∈vs++[w.C],Nm v:=λv hv=>by
   rcases aE4.mp hv with hv|hv;·exact i2 v hv
   ·rw[aC7.mp hv];exact M
  have B:(vs++[w.C]).Nodup:=by rw[List.nodup_append];refine⟨p,by simp,λa P b hb e=>?_⟩;rw[aC7.mp hb]at e;exact k (e▸P)
  have l2:((vs++[w.C]).length:Int)<=z.O:=by rw[a03];simp;omega
  have h2:(vs++[w.C]).head? =J rW/\1<=z.L:=by
   rcases G with⟨e,x,e1,e2,e3⟩|⟨e,h,d⟩;·subst e;rw[e1]at o;obtain rfl:x=w:=(by simpa using o);exact⟨by rw[<-e2];rfl,by omega⟩
   ·cases vs with|nil=>exact j9 w8 e|cons a l=>exact⟨h,d⟩
  by_cases y:vs=[]/\(aW z.K z.fs z.sc F).1.2≠0;·rw[V y];exact⟨.inr l2,λ_=>h2,B,v2,.inr (.inr (.inr (.inr ⟨w8,w8,y.2,by show oP≠[];decide,w8,.inr (.inl ⟨w8,by show(vs++[w.C]).length=1;rw[y.1];rfl⟩)⟩)))⟩
  rw[W y];generalize JS z w (oN z vs F)=t;have u:∀j:w9 Wp,(∀i∈j,Nm i.C/\i.L<=(vs++[w.C]).length+1)->ape z.O z.L j (vs++[w.C]):=λj h=>⟨h,v2,B,.inr l2,.inr ⟨ne,h2⟩⟩;have L:((vs++[w.C]).length:Int)=vs.length+1:=by rw[a03];simp
  have m:∀i∈f.dropLast,Nm i.C/\i.L<=(vs++[w.C]).length+1:=λi A=>⟨(dl i A).1,by rw[L];have:=(dl i A).2;omega⟩;unfold FK;by_cases D:t.1.2≠0
  ·rw[V D];by_cases K:w.C≠rW/\skp t.1.2=eT;·rw[V K];exact u _ m
   ·rw[W K];refine⟨.inr l2,λ_=>h2,B,v2,.inr (.inr (.inr (.inr ⟨w8,w8,D,λe=>?_,w8,.inr (.inr (by show(vs++[w.C]).getLast? =J w.C;simp))⟩)))⟩;have:=M.1;rw[show w.C=[]from e]at this;exact j9 this (by decide)
  ·rw[W D];cases z.fd t.1.1 with
   |some cB=>exact⟨.inr l2,λ_=>h2,B,v2,.inl ⟨w8,w8,w8,w8,ne⟩⟩
   |none=>
    refine u _ λx g=>?_;unfold QQ at g;rcases aE4.mp g with g|g
    ·split at g;·cases g
     ·exact m x g
    ·obtain⟨s,hs,rfl⟩:=aE8.mp g;refine⟨R _ s (List.mem_reverse.mp hs),?_⟩;show w.L+1<=_;rw[L];omega
def alk{a:Bool}{R:jR}{now:I}{z:mG}(d:∀T,∀s∈z.go T,Nm s.C){n:X}{F:w9 aQ}{f:jo×w9 aQ}(h:uG a R now z n F=J f):atP a z.O z.L f.1:=by
 unfold uG at h;by_cases b:a=eF;·rw[V b]at h;cases h;exact⟨.inl w8,λh=>j9 w8 h,g,(λ_ h=>by cases h),.inr (.inl ⟨w8,w8,w8,w8,w8,.inr b⟩)⟩
 rw[W b]at h;by_cases c:R.bx<=now;·rw[V c]at h;cases h;exact⟨.inl w8,λh=>j9 w8 h,g,(λ_ h=>by cases h),.inr (.inr (.inr (.inr ⟨w8,w8,by show(10:I)≠0;decide,by show QA≠[];decide,w8,.inl ⟨w8,w8⟩⟩)))⟩
 rw[W c]at h;obtain rfl:a=eT:=by simpa using b
 exact alB d ⟨λw e=>by rw[aC7.mp e];exact⟨⟨by show role rW=eT;decide,by show rW≠oP;decide⟩,by show(1:I)<=_;simp⟩,(λ_ h=>by cases h),g,.inl w8,.inl ⟨w8,_,w8,w8,w8⟩⟩ h
def ave{P:dV->Prop}{K:Dz}(hr:∀p a ks d s,P (K.ro p a ks d s).1)(c:P EE)(fs:w9 PS)(rc sc:I)(rl:w9 X1)(e:mP)(ks:w9 PS)(F:w9 aQ):P (dS K fs rc sc rl e ks F).1.1:=by
 have q:∀p b,P (vO K fs rl e ks p b (aW K fs sc F).2).1.1:=λp b=>hr _ _ _ _ _;unfold dS;dsimp only;split
 ·split;·exact c
  ·split;·exact q _ _
   ·split;·exact c
    ·exact q _ _
 ·exact c
def alH(d:w9 AV):Prop:=∃n hs j,d=rC n hs j/\hs≠[]
def alm{b:Bool}{R:jR}{now:Int}{z:mG}(m:∀p a ks d s,OL (z.K.ro p a ks d s).1)(hf:∀T x,z.fd T=J x->∃t∈T.bi,x=rC t.n t.hs t.j){n:X}{F:w9 aQ}{x:jo×w9 aQ}(h:uG b R now z n F=J x):x.1.b4=1->alH x.1.br:=by
 unfold uG at h;split at h;·cases h;intro e;cases e
 split at h;·cases h;intro e;cases e
 refine JO (zz:=z) (I:=λ_ _ _=>True) (Q:=λx=>x.1.b4=1->alH x.1.br) (λu vs F _ _=>?_) n _ _ F x trivial h;unfold qX;cases u.getLast? with
 |none=>intro e;cases e
 |some w=>
  dsimp only;by_cases c:w.C∈vs;·rw[V c];trivial
  rw[W c];by_cases f:z.O<=vs.length;·rw[V f];intro e;cases e
  rw[W f];by_cases i:z.L<w.L;·rw[V i];intro e;cases e
  rw[W i];by_cases j:vs=[]/\(aW z.K z.fs z.sc F).1.2≠0;·rw[V j];intro e;cases e
  rw[W j];have q:OL (JS z w (oN z vs F)).1.1:=ave (P:=OL) m (λ_ h=>by cases h) _ _ _ _ _ _ _;generalize JS z w (oN z vs F)=t at*;unfold FK;by_cases k:t.1.2≠0
  ·rw[V k];by_cases l:w.C≠rW/\skp t.1.2=eT;·rw[V l];trivial
   ·rw[W l];intro e;cases e
  ·rw[W k];cases e:z.fd t.1.1 with|none=>trivial|some x=>intro _;obtain⟨g,o,rfl⟩:=hf _ _ e;exact⟨_,_,_,w8,q g o⟩
noncomputable section
def dX:KC:=(.mk ?k:LsA 319 [] 0).1
attribute [local irreducible] dX
def nN:KF:=(.mk ?k:b 319 [dX]).1
def zI:KF:=(.mk ?k:b 316 []).1
def DK:KF:=(.mk ?k:b 212 []).1
def GU:KF:=(.mk ?k:b 150 []).1
def Pq:KF:=(.mk ?k:b 286 []).1
def J7:KC:=(.mk ?k:LsA 156 [] 0).1
attribute [local irreducible] J7
def OH:KF:=(.mk ?k:b 156 [J7]).1
def jk:KC:=(.mk ?k:LsA 285 [] 0).1
attribute [local irreducible] jk
def Ls:KF:=(.mk ?k:b 285 [jk]).1
def zg:KF:=(.mk ?k:b 224 []).1
end
variable{C:Ctx}{PK:PkI}
structure HsHas(C:Ctx)(PK:PkI):Prop where
 er:Has C oK sN
 hW:Has C kw jV
 ei:bZ C PK Jp (.dp [.df] .cW)
 kq:bZ C PK kW (.dp [.jv] .cW)
 of:Has C zC nN
def amr (H:HsHas C PK) (k n0:Int) (t:w9 X1) (ns:w9 (w9 X1)) (is:w9 JV) (hl:z ns<=z is) (hs:z is<=8192) (V:∀x∈ns,z x<=LB) (q1 lo:Nat) (Q:q1<lo):∀(n i:Nat),i+n=z ns->∀(Y:St) (x:AV) (l:w9 PS),Ok Y->lo<=z Y->Rx Y lo x l->z l=i->Y[q1]?=J (.cP [.cQ .u8 k,.cQ r n0,.cU t,.sl (z ns) (ns.map .cU),.sl (z is) (aO is)] ⟨eF,U⟩)->
  ∃p:St,Ok p/\(∀j,j<lo->p[j]?=Y[j]?)/\lo<=z p/\((∃e:Int,e≠0/\aG C (ai C) 58 [1,4,27,28,29] dX [(1,.da q1 0),(4,x),(27,.sl (z ns) (ns.map .cU)),(28,.cQ r (z ns)),(29,.cQ r i)] Y=J (.ea,[(2,.cY),(3,.cQ r e)],p))\/
   ∃(K:AV) (G:w9 PS),aG C (ai C) 58 [1,4,27,28,29] dX [(1,.da q1 0),(4,x),(27,.sl (z ns) (ns.map .cU)),(28,.cQ r (z ns)),(29,.cQ r i)] Y=J (.dq 0,[(4,K)],p)/\Rx p lo K G/\z G=z ns)
 |0,i,hi,Y,x,l,ok,s,R,ll,D=>by have h:¬((i:Int)<(z ns:Int)):=(by omega);refine⟨Y,ok,λ_ _=>w8,s,.inr ⟨x,l,?_,R,by omega⟩⟩;rw[aB (he:=w8)];simp only[dX,h,k9,seval]
 |n+1,i,hi,Y,x,l,ok,s,R,ll,D=>by
  have h:((i:Int)<(z ns:Int)):=(by omega);have h2:i<z ns:=(by omega);have d:i<z is:=(by omega);have h3:(0:Int)<=i:=(by omega);have hw:=wrS i (by omega);have fn:(ns.map AV.cU).drop i=.cU ns[i]::(ns.map AV.cU).drop (i+1):=(by rw[aB6 (by rw[aD8];exact h2),Z6]);have I:z (ns.map AV.cU)=z ns*1:=by rw[aD8];omega
  have N:=jH is;obtain⟨jj,-,F⟩:=Xk is i d;obtain⟨q,E,o,c,a,a1,a3,a2,a4,ej⟩:=jj.ex;have W:=JV.bO q E o c a a1 a3 a2 a4;rw[ej,W]at F;have nl:=V ns[i] (aD5 h2);generalize ns[i]=w at*;have A:=λY=>Fq H.er H.hW w Y;cases hr:role w;·rw[hr]at A;refine⟨Y,ok,λ_ _=>w8,s,.inl ⟨3,by decide,?_⟩⟩;rw[aB (he:=w8)];simp only[dX,h,h2,h3,fn,I,A,aD2,k9,seval]
  rw[hr]at A;have O:NVs [.cQ .u8 q,.cQ r E,.cU o,.sl (z c) (c.map .cU),.sl (z a) (aO a)]:=W▸JV.af _;have cb:∀m,j8 m (.cP [.cQ .u8 q,.cQ r E,.cU o,.sl (z c) (c.map .cU),.sl (z a) (aO a)] ⟨eF,U⟩)=eT:=λm=>AO.Y (a97 _) _ O.cl;have g:Ok (Y++[.cP [.cQ .u8 q,.cQ r E,.cU o,.sl (z c) (c.map .cU),.sl (z a) (aO a)] ⟨eF,U⟩]):=ok.H (by rw[Z3,cb];rfl);have M:=λL=>aU (w8:z Y=_) L;have s0:=λL y=>fV (w8:z Y=_) L y;have fr:∀(L:St) j,j<lo->(Y++L)[j]?=Y[j]?:=λL j hj=>aC1 (by omega);by_cases S:q=3
  ·have tl:z o<=LB:=a4.1;obtain⟨v,q2,m2⟩:=fA H.ei (.cV (.cU o) .db) (.cV _ _ _ _ (.df _ tl) .db) g;obtain⟨b,rfl⟩:=zD m2;have f:((q:Int) !=3)=eF:=(by simp[S]);cases b;·refine⟨_,g,fr _,by simp;omega,.inl ⟨3,by decide,?_⟩⟩;rw[aB (he:=w8)];simp only[dX,h,h2,d,h3,fn,I,N,F,A,D,M,s0,f,q2,AV.cP,AV.Q,j0,aD2,Z2,Z1,k9,seval]
   ·obtain⟨v1,T,b1,X,Z,b4,b5⟩:=(R.eD [.cP [.cQ .u8 q,.cQ r E,.cU o,.sl (z c) (c.map .cU),.sl (z a) (aO a)] ⟨eF,U⟩]).hu g (w,o) (by omega) (by simp;omega);have P:∀j,j<lo->T[j]?=Y[j]?:=λj hj=>by rw[b4 j hj,fr _ j hj]
    obtain⟨p,c1,c2,c3,B⟩:=amr H k n0 t ns is hl hs V q1 lo Q n (i+1) (by omega) T v1 (l++[(w,o)]) X b5 Z (by simp[ll]) (by rw[P _ Q];exact D);refine⟨p,c1,λj hj=>by rw[c2 j hj,P j hj],c3,?_⟩;have st:∀cB,aG C (ai C) 58 [1,4,27,28,29] dX [(1,.da q1 0),(4,v1),(27,.sl (z ns) (ns.map .cU)),(28,.cQ r (z ns)),(29,.cQ r ((i+1:Nat):Int))] T=cB->aG C (ai C) 58 [1,4,27,28,29] dX [(1,.da q1 0),(4,x),(27,.sl (z ns) (ns.map .cU)),(28,.cQ r (z ns)),(29,.cQ r i)] Y=cB:=λcB e=>by rw[aB (he:=w8)];generalize aa:aG C (ai C) 58 [1,4,27,28,29] dX=kk at*;simp only[dX,h,h2,d,h3,hw,fn,I,N,F,A,D,M,s0,f,q2,b1,e,AV.cP,AV.Q,j0,aD2,Z2,Z1,k9,seval]
    rcases B with⟨e,u,B⟩|⟨K,G,B,c5⟩;·exact .inl ⟨e,u,st _ B⟩
    ·exact .inr ⟨K,G,st _ B,c5⟩
  ·have f:((q:Int) !=3)=eT:=(by simp[S]);refine⟨_,g,fr _,by simp;omega,.inl ⟨10,by decide,?_⟩⟩;rw[aB (he:=w8)];simp only[dX,h,h2,d,h3,fn,I,N,F,A,D,M,s0,f,AV.cP,AV.Q,j0,aD2,Z2,Z1,k9,seval]
def aqW{C:Ctx}{av:XA->AV}{n0 sz bytes:X}{z:w9 AV}{l c:XA}{O:St}:aF C av n0 O (.gj z sz bytes l c)=match av l,av c with|.cQ _ l,.cQ _ c=>if 0<=l/\l<=c/\c<=9223372036854775807/\bytes*c<=140737488355328 then J (.ev (.dj O.length 0 l.toNat sz) (O++[.cP (rep z l.toNat) ⟨eF,U⟩]))else U|_,_=>U:=w8
def ao3(H:HsHas C PK)(j:JV)(O:St)(d:Ok O):∃(hs:w9 PS) (e:I),ai C zC [j.av] O=J (.de [.sl (z hs) (hs.flatMap pC),.cQ r e],O)/\z hs<=8192/\(e=0->hs≠[]):=by
 obtain⟨k,n,t,ns,is,a1,a3,a2,a4,rfl⟩:=j.ex;obtain⟨a,W⟩:∃a,a=JV.mk k n t ns is a1 a3 a2 a4:=⟨_,w8⟩;have F:=JV.bO k n t ns is a1 a3 a2 a4;rw[<-W]at F⊢;have T:∀m,j8 m (.cP a.B ⟨eF,U⟩)=eT:=λm=>AO.Y (a97 _) _ a.af.cl;have w:Ok (O++[.cP a.B ⟨eF,U⟩]):=d.H (by rw[Z3,T];rfl);obtain⟨v,q1,Z⟩:=fA H.kq (.cV a.nv .db) (.cV _ _ _ _ (.jv a) .db) w;obtain⟨b1,rfl⟩:=zD Z;have ty:∀e L,tidy (z O) [.sl 0 [],.cQ r e] (O++L)=O:=λe L=>bu d w8 L;have no:∀(e:I) (E:As) (L:St),X2 E 2=.cY->X2 E 3=.cQ r e->iF (z O) [.fT 2,.fT 3] (J (.ea,E,O++L))=J (.de [.sl 0 [],.cQ r e],O):=λe E L h2 h3=>by refine(oV (vs:=[.cY,.cQ r e]) (vs':=[.sl 0 [],.cQ r e]) (O3:=O++L) (by simp only[aZ,h2,h3]) w8).trans ?_;rw[ty];rfl
 have go:∀(e:I),e≠0->ai C zC [a.av] O=J (.de [.sl 0 [],.cQ r e],O)->∃(hs:w9 PS) (e:I),ai C zC [a.av] O=J (.de [.sl (z hs) (hs.flatMap pC),.cQ r e],O)/\z hs<=8192/\(e=0->hs≠[]):=λe B h=>⟨[],e,h,by decide,λh=>j9 h B⟩;unfold JV.av at*;have p:=H.of.go (NVs.E (.cV (.cX a.af) .db) O);rw[F]at p q1 w go⊢;cases b1;·refine go 3 (by decide) (p.trans ?_);generalize o:iF=u at no⊢;simp only[nN,q1,AV.cP,k9,seval];exact no _ _ _ w8 w8
 by_cases Q:k=5
 ·have c:((k:I) !=5)=eF:=(by simp[Q]);by_cases h4:(z ns:I)>4;·refine go 5 (by decide) (p.trans ?_);generalize o:iF=u at no⊢;simp only[nN,q1,c,h4,bC,AV.cP,k9,seval];exact no _ _ _ w8 w8
  ·by_cases A:z ns=0;·have g:((z ns:I)==0)=eT:=(by simp[A]);refine go 4 (by decide) (p.trans ?_);generalize o:iF=u at no⊢;simp only[nN,q1,c,h4,g,bC,AV.cP,k9,seval];exact no _ _ _ w8 w8
   ·have g:((z ns:I)==0)=eF:=(by simpa using A);have K:(0:I)<=(z ns:I):=(by omega);have M:(z ns:I)<=9223372036854775807:=(by omega);have N:(32:I)*(z ns:I)<=140737488355328:=by omega
    obtain⟨T0,b⟩:∃T0,T0=O++[AO.cP [.cQ .u8 k,.cQ r n,.cU t,.sl (z ns) (ns.map .cU),.sl (z is) (aO is)] ⟨eF,U⟩,.cP [] ⟨eF,U⟩]:=⟨_,w8⟩;have ok0:Ok T0:=b▸d.H (by
     have:=T 0;rw[F]at this;rw[Z3,Z3,AO.Y (a97 _) _ this];rfl)
    have V:Rx T0 (z O+1) (.dj (z O+1) 0 0 2) []:=⟨z O+1,w8,by rw[b,aI];rfl,by omega⟩;obtain⟨y,d1,d2,d3,d4⟩:=amr H k n t ns is a1 a2 a4.2 (z O) (z O+1) (by omega) (z ns) 0 (by omega) T0 _ [] ok0 (by rw[b];simp) V w8 (by rw[b,aA];rfl);simp only[aB1]at d4;have pre:∀S:St,(∀i,i<z O+1->S[i]?=T0[i]?)->z O+1<=z S->S.take (z O)=O:=λS X hl=>by
     apply aD6;intro i;by_cases P:i<z O;·rw[j7 P,X i (by omega),b,aC1 P]
     ·rw[aB9 (by rw[aD7];omega),aB9 (by omega)]
    subst b;rcases d4 with⟨e,B,G⟩|⟨x',l,G,⟨q,rfl,R,Y⟩,D⟩
    ·refine go e B (p.trans ?_);generalize o:iF=u;simp only[nN,q1,c,h4,g,aqW,K,M,N,G,bC,AV.cP,and_self,aH2,k9,seval];rw[<-o];refine(oV (vs:=[.cY,.cQ r e]) (vs':=[.sl 0 [],.cQ r e]) (O3:=y) ?_ w8).trans ?_;·simp only[aZ,k9,seval]
     ·rw[jP d w8 (pre y d2 d3)];rfl
    ·refine⟨l,0,p.trans ?_,by omega,λ_ e=>A (by rw[<-D,e];rfl)⟩;generalize o:iF=u;simp only[nN,q1,c,h4,g,aqW,K,M,N,G,bC,AV.cP,and_self,aH2,k9,seval];rw[<-o];have nv:NVs (l.flatMap pC):=λv hv=>by obtain⟨s,_,hs⟩:=aH6.mp hv;exact(NVs.cV (.cU s.1) (.cV (.cU s.2) .db)) v hs
     refine(oV (vs:=[.dj q 0 (z l) 2,.cQ r 0]) (vs':=[.sl (z l) (l.flatMap pC),.cQ r 0]) (O3:=y.set q (.cP (l.flatMap pC) ⟨eT,U⟩)) ?_ ?_).trans ?_;·simp only[aZ,k9,seval]
     ·rw[iY,aN,Eo R (bz wB l) nv,aN,GZ,mg,<-qf R];rfl
     ·rw[jP d (by rw[ae,show below 0 (.sl (z l) (l.flatMap pC))=eT from nv.cl];rfl) (pre _ (λi hi=>by rw[aE2 (by omega),d2 i hi]) (by simp;omega))];rfl
 ·have c:((k:I) !=5)=eT:=(by simp[Q]);refine go 10 (by decide) (p.trans ?_);generalize o:iF=u at no⊢;simp only[nN,q1,c,AV.cP,k9,seval];exact no _ _ _ w8 w8
structure PcHas(C:Ctx):Prop where
 ow:Has C P9 DK
 eC:Has C yR GU
 b9:Has C Eb Pq
 hO:Has C yQ OH
def PkC(Y:St)(o:X)(k e:I):Prop:=∃(n:I) (t:w9 X1) (a b c:AV),Y[o]?=J (.cP [.cQ .u8 k,.cQ r n,.cU t,a,b,c,.cQ r e] ⟨eF,U⟩)/\a.Q=eT/\b.Q=eT/\c.Q=eT
def akS{Y:St}{o:X}{ms:w9 X}(h:cO.ok Y o ms):∃k e,PkC Y o k e:=by
 rcases h with⟨j,m,b,e,-,-,a,-⟩|⟨e,-,-,a⟩;·obtain⟨k,n,t,ns,is,a1,a3,a2,a4,rfl⟩:=j.ex;rw[JV.bO]at a;exact⟨k,e,n,t,_,_,_,a,w8,w8,w8⟩
 ·exact⟨0,e,0,[],_,_,_,a,w8,w8,w8⟩
def Qq(k e:I):I:=if e=0 then if k=5 then 0 else 10 else e
def ak7(H:PcHas C){Y:St}(l:Ok Y){o:X}{k e:I}(h:PkC Y o k e):ai C P9 [.da o 0] Y=J (.cQ r (Qq k e),Y):=by
 obtain⟨n,t,a,b,c,j,p,fb,q⟩:=h;have m:K0 eF [.da o 0] Y=J ([.da o 0],Y):=w8;have i:=λ(e:I)=>bu l (vs:=[.cQ r e]) w8 [];simp only[aB3]at i;rw[H.ow.go m];unfold Qq;by_cases g:e=0
 ·have d:((e:I)==0)=eT:=(by simp[g]);by_cases h5:k=5;·have f:((k:I) !=5)=eF:=(by simp[h5]);rw[V g,V h5];simp only[DK,j,f,g,i,k9,seval]
  ·have f:((k:I) !=5)=eT:=(by simp[h5]);rw[V g,W h5];simp only[DK,j,d,f,i,k9,seval]
 ·have d:((e:I)==0)=eF:=(by simp[g]);rw[W g];simp only[DK,j,d,i,k9,seval]
def auy(H:PcHas C){Y:St}(a:Ok Y){o:X}{k e:I}(h:PkC Y o k e)(hb:Qq k e≠0)(s:w9 X1):ai C Eb [.da o 0,.cU s] Y=J (.cW eF,Y):=by
 have q:=ak7 H a h;have b:(Qq k e !=0)=eT:=by simp[hb]
 have c:=bu a (vs:=[.cW eF]) w8 [];rw[aB3]at c;rw[H.b9.go (Sj (NVs.cV (.cU s) .db) o 0 Y)];simp only[Pq,q,b,c,k9,seval]
def aq3(H:PcHas C){Y:St}(a:Ok Y){o:X}{k e:I}(h:PkC Y o k e)(hb:Qq k e≠0):ai C yQ [.da o 0] Y=J (.cQ r (Qq k e),Y):=by
 have q:=ak7 H a h;have b:(Qq k e !=0)=eT:=by simp[hb]
 have d:K0 eF [.da o 0] Y=J ([.da o 0],Y):=w8;have c:=bu a (vs:=[.cQ r (Qq k e)]) w8 [];rw[aB3]at c;rw[H.hO.go d];simp only[OH,q,b,c,k9,seval]
def aul(H:PcHas C){Y:St}(d:Ok Y){o:X}{k e:I}(h:PkC Y o k e)(x:I)(u:x≠0):∃(l:St) (m:I),ai C yR [.da o 0,.cQ r x] Y=J (.de [],l)/\PkC l o k m/\Qq k m≠0:=by
 have q:=ak7 H d h;obtain⟨n,t,a,b,c,i,p,fb,s⟩:=h;by_cases hb:Qq k e=0
 ·have f:(Qq k e==0)=eT:=by simp[hb]
  have j:Ok (Y.set o (.cP [.cQ .u8 k,.cQ r n,.cU t,a,b,c,.cQ r x] ⟨eF,U⟩)):=Ok.bd d o (by
   have:=aB0.mp d _ (a06 i);simp only[j8,ae,below,aE1,aE0]at this⊢;exact this)
  have g:=bu j (vs:=[]) w8 [];rw[aB3,a99]at g;refine⟨_,x,?_,⟨n,t,a,b,c,bF i _,p,fb,s⟩,by unfold Qq;rw[W u];exact u⟩;rw[H.eC.go (Sj (NVs.cV (.cQ _ _) .db) o 0 Y)];simp only[GU,q,f,i,g,j0,AV.cP,AV.Q,k9,seval]
 ·have f:(Qq k e==0)=eF:=(by simp[hb]);have g:=bu d (vs:=[]) w8 [];rw[aB3]at g;refine⟨Y,e,?_,⟨n,t,a,b,c,i,p,fb,s⟩,hb⟩;rw[H.eC.go (Sj (NVs.cV (.cQ _ _) .db) o 0 Y)];simp only[GU,q,f,g,k9,seval]
end Go.Ev
namespace Go.Ev
open Option renaming some→J, none→U
open Bool renaming true→eT, false→eF
open List renaming length→z
open Go.IntKind renaming i64→r
variable{C:Ctx}
structure RcHas(C:Ctx):Prop extends HsHas C cO,PcHas C where
 iB:bZ C cO Ym (.iB [.jv])
 fa:bZ C cO Jl (.pk [.df,.cQ .i64,.cQ .i64] (.cQ .i64))
 bA:bZ C cO Ec (.pk [.df,.cQ .i64] .jv)
 gf:bZ C cO yR (.pk [.cQ .i64] (.de []))
 ln:bZ C cO Eb (.pk [.df] .cW)
 mS:bZ C cO P8 (.pk [.df] .jv)
 hy:bZ C cO yQ (.pk [] (.cQ .i64))
 lI:Has C Zo zI
def ahj:w9 AV:=[.cQ r 0,.cY,.cQ .u8 0,.cQ r 0,.cU [],.cY,.cY]
def aey{v:AV}(h:M V0 .jv v):∃j:JV,v=j.av:=by
 cases h with
 |jv j=>exact⟨j,w8⟩
def KC.ci:KC->KC|.eA a _=>a|k=>k
def KC.e:KC->KC|.eA _ b=>b|k=>k
def aAv(a b:KC):(KC.eA a b).ci=a:=w8
def aAu(a b:KC):(KC.eA a b).e=b:=w8
def aAx{O S:St}(d:z O<=z S)(c:∀i,(h:i<z O)->S[i]?=J O[i]):S.take (z O)=O:=by
 apply aD6;intro i;by_cases b:i<z O;·rw[j7 b,c i b,a01 b]
 ·rw[aB9 (by rw[aD7];omega),aB9 (by omega)]
def aAw{O a:St}(c:Ok O)(N:X){zr:w9 AV}(old:∀i,(h:i<z O)->a[i]?=J O[i])(s2:a[z O+1]?=J (.cP zr ⟨eF,U⟩))(S:St)(rr j:w9 AV)(x:I)(E:As)(b:∀(i:X) (y:AO),a[i]?=J y->S[i]?=J y)(f:NVs j)(d:∀T,K0 eF [.cX rr,.cQ r x] T=J ([.cX j,.cQ r x],T))(e:z rr=N)(e2:X2 E 2=.da (z O+1) 0)(e3:X2 E 3=.cQ r x):iF (z O) [.eN 2 eT N,.fT 3] (J (.ea,E,S.set (z O+1) (.cP rr ⟨eF,U⟩)))=J (.de [.cX j,.cQ r x],O):=by
 have g:=bF (b _ _ s2) (.cP rr ⟨eF,U⟩);have tk:rr.take N=rr:=a98 (by omega);refine(oV (vs:=[.cX rr,.cQ r x]) (vs':=[.cX j,.cQ r x]) ?_ (d _)).trans ?_;·simp only[aZ,e2,e3,g,tk,e,aB8,k9,seval]
 ·rw[jP c (by rw[ae,show below 0 (.cX j)=eT from f.cl];rfl) (aAx (by rw[a99];have:=(a00.mp (b _ _ s2)).1;omega) λi h=>by rw[aE2 (by omega)];exact b i _ (old i h))];rfl
def aAz{b T L:St}{o:X}{ms:w9 X}{zr:w9 AV}(c:T=b++L)(d:Ok T)(a:∀i∈o::ms,z b<=i/\i<z T)(e:cO.ok T o ms)(g:ae 0 zr=eT):RI b o (z T) ms zr (T++[.cP zr ⟨eF,U⟩]):=
 ⟨d.H (by rw[Z3,j8,g];rfl),cO.fr e λi hi=>by rw[aC1 (a i hi).2],λi hi=>by have:=(a i hi).2;rw[a03];omega,λi hi=>(a i hi).1,λhi=>by have:=(a _ hi).2;omega,by rw[c];simp,by rw[aU w8];rfl,λi y f=>aj (c▸aj f _) _⟩
def aAA:KC:=zI.ap.e.e.e.e.e.e.e.e.e
def aAD:aAA=zI.ap.e.e.e.e.e.e.e.e.e:=w8
def aAC:zI.ap=.eA zI.ap.ci (.eA zI.ap.e.ci (.eA zI.ap.e.e.ci (.eA zI.ap.e.e.e.ci (.eA zI.ap.e.e.e.e.ci (.eA zI.ap.e.e.e.e.e.ci (.eA zI.ap.e.e.e.e.e.e.ci (.eA zI.ap.e.e.e.e.e.e.e.ci (.eA zI.ap.e.e.e.e.e.e.e.e.ci aAA)))))))):=w8
def aoB(H:RcHas C)(j:JV)(O:St)(P:Ok O):∃(cB:w9 AV) (e:Int),ai C Zo [j.av] O=J (.de [.cX cB,.cQ r e],O)/\∃(n:Int) (hs:w9 PS) (s:JV),cB=rC n hs s/\hs.length<=8192/\(e=0->hs≠[]):=by
 have zr:kL=rC 0 [] JV.ab:=by rw[rC,JV.be];rfl
 obtain⟨a,b,c,d,e,y0,y1,z1,z2,z3,z4,z5⟩:=fO j;have jb:∀m,j8 m (.cP j.B ⟨eF,U⟩)=eT:=λm=>AO.Y (a97 _) _ j.af.cl;obtain⟨k,D⟩:∃k,k=O++[AO.cP j.B ⟨eF,U⟩,.cP ahj ⟨eF,U⟩]:=⟨_,w8⟩;have A:Ok k:=D▸P.H (by rw[Z3,Z3,jb];rfl);have l2:k.length=O.length+2:=by rw[D];simp
 have s2:k[O.length+1]?=J (.cP ahj ⟨eF,U⟩):=by rw[D,aI];rfl
 obtain⟨v,u,m1⟩:=fA H.kq (.cV j.nv .db) (.cV _ _ _ _ (.jv j) .db) A;obtain⟨b1,rfl⟩:=zD m1;have hg:=H.lI.go (NVs.E (.cV (.cX j.af) .db) O);have old:∀i,(h:i<O.length)->k[i]?=J O[i]:=λi h=>D▸aj (a01 h) _;have fin:=aAw P 7 old s2;have zh:∀(x:Int) (T:St),K0 eF [.cX ahj,.cQ r x] T=J ([.cX kL,.cQ r x],T):=λ_ _=>w8;have zn:∀(S:St) (x:Int) (E:As),(∀(i:Nat) (y:AO),k[i]?=J y->S[i]?=J y)->X2 E 2=.da (O.length+1) 0->X2 E 3=.cQ r x->iF O.length [.eN 2 eT 7,.fT 3] (J (.ea,E,S.set (O.length+1) (.cP ahj ⟨eF,U⟩)))=J (.de [.cX kL,.cQ r x],O):=λS x E hS=>fin S ahj kL x E hS sK.af (zh x) w8;unfold JV.av at hg u⊢;cases b1;·refine⟨kL,3,hg.trans ?_,0,[],JV.ab,zr,by decide,λh=>by cases h⟩;have z:=zn k 3;rw[D]at z u;rw[y1]at u⊢;unfold ahj at*;generalize hE:iF=eR at z⊢;simp only[zI,u,aA,aI,cZ,j6,j0,AV.cP,Z2,Z1,k9,seval];simp only[cZ,j6]at z;rw[y1]at z;exact z _ (λ_ _ h=>h) w8 w8
 obtain⟨L,o,ms,f1,f2,f3,f4⟩:=H.iB _ [.cX j.B] [.cX j.B] _ A (NVs.E (.cV (.cX j.af) .db) _) A (.cV _ _ _ _ (.jv j) .db);obtain⟨T,hT⟩:∃T,T=k++L:=⟨_,w8⟩;rw[<-hT]at f1 f2 f3 f4;have I0:=aAz (zr:=ahj) hT f2 f3 f4 w8;obtain⟨v1,Y1,n1,n2,n3,n4,n5,n6⟩:=jJ (azs:=[.cU [108,101,110,103,116,104],.cQ r 0,.cQ r 1099511627776]) H.fa I0.ok (.cV (.cU _) (.cV (.cQ _ _) (.cV (.cQ _ _) .db))) I0.pk (wF _ (by simp[LB]) (xI _ (xI _ .db)));obtain⟨x,rfl⟩:=BK n2;have I1:=I0.fe n3 n4 n5 n6;have R1:=I1.r;have I2:=I1.cg [.cQ r x,.cY,.cQ .u8 0,.cQ r 0,.cU [],.cY,.cY] w8;obtain⟨v2,Y2,o1,o2,o3,o4,o5,o6⟩:=jJ (azs:=[.cU [104,97,115,104,101,115],.cQ r 4]) H.bA I2.ok (.cV (.cU _) (.cV (.cQ _ _) .db)) I2.pk (wF _ (by simp[LB]) (xI _ .db));obtain⟨h,rfl⟩:=aey o2;have I3:=I2.fe o3 o4 o5 o6;have R3:=I3.r;obtain⟨hs,eh,qh,N,p⟩:=ao3 H.toHsHas h Y2 I3.ok;have bh:ae 0 [.cQ r x,.sl hs.length (hs.flatMap pC),.cQ .u8 0,.cQ r 0,.cU [],.cY,.cY]=eT:=by simp only[ae,below,aE0,aE1];exact(rV hs).cl
 have F:=I3.cg [.cQ r x,.sl hs.length (hs.flatMap pC),.cQ .u8 0,.cQ r 0,.cU [],.cY,.cY] bh;obtain⟨v3,Y3,t,g2,g3,g4,g5,g6⟩:=jJ (azs:=[.cQ r eh]) H.gf F.ok (.cV (.cQ _ _) .db) F.pk (xI _ .db);have G:=F.fe g3 g4 g5 g6;obtain⟨v4,Y4,l,k2,k3,k4,k5,k6⟩:=jJ (azs:=[.cU [99,117,115,116,111,109]]) H.ln G.ok (.cV (.cU _) .db) G.pk (wF _ (by simp[LB]) .db);obtain⟨b2,rfl⟩:=zD k2;have w:=G.fe k3 k4 k5 k6;have R6:=w.r;have zc:ahj=[.cQ r 0,.cY,.cQ .u8 0,.cQ r 0,.cU [],.cY,.cY]:=w8;have hO:k=O++[AO.cP [a,b,c,d,e] ⟨eF,U⟩,.cP [.cQ r 0,.cY,.cQ .u8 0,.cQ r 0,.cU [],.cY,.cY] ⟨eF,U⟩]:=by rw[D,y1,zc]
 have ab:h.av=.cX h.B:=w8;have en:∀(E:As) (Y B:St) (V W X Z c5 c6 c7:AV) (n:Int) (hs:w9 PS) (s:JV) (f:Int),ai C yQ [.da o 0] Y=J (.cQ r f,B)->RI k o T.length ms [V,W,X,Z,c5,c6,c7] B->X2 E 2=.da (O.length+1) 0->X2 E 4=.da o 0->X2 E 5=.da T.length 0->[V,W,X,Z,c5,c6,c7].all AV.Q=eT->hs.length<=8192->(f=0->hs≠[])->(∀T,K0 eF [.cX [V,W,X,Z,c5,c6,c7],.cQ r 0] T=J ([.cX (rC n hs s),.cQ r 0],T))->∃(cB:w9 AV) (e:Int),iF O.length [.eN 2 eT 7,.fT 3] (gu C (ai C) 39 aAA E Y)=J (.de [.cX cB,.cQ r e],O)/\∃(n:Int) (hs:w9 PS) (s:JV),cB=rC n hs s/\hs.length<=8192/\(e=0->hs≠[]):=λE Y B V W X Z c5 c6 c7 n hs s f d1 I e2 e4 e5 hf hl p hh=>by
  have R:=I.r;have K:=I.au _ _ s2;rw[zc]at K;simp only[Z3,aC6,a02]at hf;rw[aAD];by_cases h0:f=0;·subst h0;refine⟨_,0,?_,n,hs,s,w8,hl,p⟩;have z:=λE=>fin B _ (rC n hs s) 0 E I.au (.cV (.cQ _ _) (.cV (rV hs) s.af)) hh w8;generalize hE:iF=eR at z⊢;simp only[zI,aAu,e2,e4,e5,d1,R,K,hf,j0,AV.cP,Z1,k9,seval];exact z _ (by simp only[k9,seval]) (by simp only[k9,seval])
  ·have hb:(f !=0)=eT:=(by simp[h0]);refine⟨kL,f,?_,0,[],JV.ab,zr,by decide,λh=>j9 h h0⟩;have z:=zn B f;rw[zc]at z;generalize hE:iF=eR at z⊢;simp only[zI,aAu,e2,e4,d1,hb,K,j0,AV.cP,Z1,k9,seval];exact z _ I.au (by simp only[k9,seval]) (by simp only[k9,seval])
 have bad:eh≠0->b2=eF/\∀(f:Int) (Y:St),ai C yQ [.da o 0] Y4=J (.cQ r f,Y)->f≠0:=λM=>by obtain⟨kk,ek,pc⟩:=akS F.pk;obtain⟨B,e',w1,w2,w3⟩:=aul H.toPcHas F.ok pc eh M;rw[w1]at t;injection t with t;injection t with _ t;subst t;have w4:=auy H.toPcHas G.ok w2 w3 [99,117,115,116,111,109];rw[w4]at l;injection l with l;injection l with l aa;injection l with l;subst l aa;refine⟨w8,λf Y q=>?_⟩;rw[aq3 H.toPcHas G.ok w2 w3]at q;injection q with q;injection q with q _;injection q with _ q;rw[<-q];exact w3
 rw[hO]at u f1;rw[zc]at R1 n1;rw[y1]at hg u f1⊢;rw[hg,show zI.an=[.eN 2 eT 7,.fT 3]from w8,show zI.W=39 from w8,aAC];cases b2
 ·obtain⟨v6,Y6,d1,d2,d3,d4,d5,d6⟩:=jJ (azs:=[]) H.hy w.ok .db w.pk .db;obtain⟨f,rfl⟩:=BK d2;simp only[zI,aAv,aAu,u,f1,n1,R1,o1,R3,qh,t,l,aA,j0,AV.cP,AV.Q,Z2,Z1,k9,seval];refine en _ _ _ _ _ _ _ _ _ _ x hs JV.ab f d1 (w.fe d3 d4 d5 d6) w8 w8 w8 w8 N (λh=>p (aI2 λM=>(bad M).2 _ _ d1 h)) (λT=>by
   rw[iY];simp only[aN,bK,GZ,Oh,dQ,(rV hs).nf,mg];rw[rC,JV.be];rfl)
 ·obtain⟨v5,Y5,a1,a2,a3,a4,a5,a6⟩:=jJ (azs:=[.cU [99,117,115,116,111,109]]) H.mS w.ok (.cV (.cU _) .db) w.pk (wF _ (by simp[LB]) .db);obtain⟨Q,rfl⟩:=aey a2;obtain⟨a',b',c',d',e',y2,y3,u1,u2,u3,u4,u5⟩:=fO Q;have I7:=w.fe a3 a4 a5 a6;have R7:=I7.r;have nr:NVs (rC x hs Q):=.cV (.cQ _ _) (.cV (rV hs) Q.af);have hh:=λT=>NVs.E (.cV (.cX nr) (.cV (.cQ r 0) .db)) T;have b8:ae 0 (rC x hs Q)=eT:=nr.cl;rw[rC,y3]at b8 hh;have I8:=I7.cg [.cQ r x,.sl hs.length (hs.flatMap pC),a',b',c',d',e'] b8;obtain⟨v6,Y6,d1,d2,d3,d4,d5,d6⟩:=jJ (azs:=[]) H.hy I8.ok .db I8.pk .db;obtain⟨f,rfl⟩:=BK d2;rw[y2]at a1;simp only[zI,aAv,aAu,u,f1,n1,R1,o1,R3,qh,t,l,a1,R7,u1,u2,u3,u4,u5,aA,j0,AV.cP,Z2,Z1,k9,seval];refine en _ _ _ _ _ _ _ _ _ _ x hs Q f d1 (I8.fe d3 d4 d5 d6) ?_ ?_ ?_ ?_ N (λ_=>p (aI2 λM=>Bool.noConfusion (bad M).1)) (by rw[rC,y3];exact hh);·rfl
  ·rfl
  ·rfl
  ·simp only[Z3,aC6,u1,u2,u3,u4,u5,aD0];rfl
structure LsHas(C:Ctx):Prop extends RcHas C where
 eh:bZ C cO vG (.dp [.df] .cW)
 dy:Has C Ua Ls
def amF (H:LsHas C) (k n0:Int) (t:w9 X1) (ns:w9 (w9 X1)) (is:w9 JV) (hl:z ns<=z is) (hs:z is<=8192) (hn:∀x∈ns,z x<=LB) (q1 lo:Nat) (h1:q1<lo):∀(n i:Nat),i+n=z ns->∀(Y:St) (x:AV) (l:w9 TgV),Ok Y->lo<=z Y->Bf Y lo (z l) 8 (l.flatMap TgV.B) x->z l<=i->(∀g∈l,g.hs≠[])->Y[q1]?=J (.cP [.cQ .u8 k,.cQ r n0,.cU t,.sl (z ns) (ns.map .cU),.sl (z is) (aO is)] ⟨eF,U⟩)->
  ∃f:St,Ok f/\(∀j,j<lo->f[j]?=Y[j]?)/\lo<=z f/\((∃e:Int,e≠0/\aG C (ai C) 40 [1,4,10,11,12] jk [(1,.da q1 0),(4,x),(10,.sl (z ns) (ns.map .cU)),(11,.cQ r (z ns)),(12,.cQ r i)] Y=J (.ea,[(2,.cY),(3,.cQ r e)],f))\/
   ∃(O:AV) (A:w9 TgV),aG C (ai C) 40 [1,4,10,11,12] jk [(1,.da q1 0),(4,x),(10,.sl (z ns) (ns.map .cU)),(11,.cQ r (z ns)),(12,.cQ r i)] Y=J (.dq 0,[(4,O)],f)/\Bf f lo (z A) 8 (A.flatMap TgV.B) O/\z A<=z ns/\∀g∈A,g.hs≠[])
 |0,i,hi,Y,x,l,ok,p,R,ll,ne,M=>by have h:¬((i:Int)<(z ns:Int)):=(by omega);refine⟨Y,ok,λ_ _=>w8,p,.inr ⟨x,l,?_,R,by omega,ne⟩⟩;rw[aB (he:=w8)];simp only[jk,h,k9,seval]
 |n+1,i,hi,Y,x,l,ok,p,R,ll,ne,M=>by
  have h:((i:Int)<(z ns:Int)):=(by omega);have h2:i<z ns:=(by omega);have o:i<z is:=(by omega);have h3:(0:Int)<=i:=(by omega);have hw:=wrS i (by omega);have fn:(ns.map AV.cU).drop i=.cU ns[i]::(ns.map AV.cU).drop (i+1):=(by rw[aB6 (by rw[aD8];exact h2),Z6]);have W:z (ns.map AV.cU)=z ns*1:=by rw[aD8];omega
  have lI:=jH is;obtain⟨jj,-,P⟩:=Xk is i o;obtain⟨b1,b2,b3,b4,b5,y0,y1,z1,z2,z3,z4,z5⟩:=fO jj;have nl:=hn ns[i] (aD5 h2);generalize ns[i]=w at*;obtain⟨v,Z,mp⟩:=fA H.eh (.cV (.cU w) .db) (.cV _ _ _ _ (.df _ nl) .db) ok;obtain⟨b,rfl⟩:=zD mp;obtain⟨cN,e,N,d,a,u,rfl,ac,V⟩:=aoB H.toRcHas jj Y ok;obtain⟨E,F,G,I,K,u0,u1,t1,t2,t3,t4,t5⟩:=fO u;have D:rC d a u=[.cQ r d,.sl (z a) (a.flatMap pC),E,F,G,I,K]:=(by rw[rC,u1]);have rb:∀m,j8 m (.cP (rC d a u) ⟨eF,U⟩)=eT:=λm=>AO.Y (a97 _) _ (acB _ _ _);have s:Ok (Y++[.cP (rC d a u) ⟨eF,U⟩]):=ok.H (by rw[Z3,rb];rfl);rw[D]at N s;have g0:=λL=>aU (w8:z Y=_) L;have s0:=λL y=>fV (w8:z Y=_) L y;rw[y0]at N;rw[y1]at P;have fr:∀(L:St) j,j<lo->(Y++L)[j]?=Y[j]?:=λL j hj=>aC1 (by omega);cases b;·refine⟨Y,ok,λ_ _=>w8,p,.inl ⟨3,by decide,?_⟩⟩;rw[aB (he:=w8)];simp only[jk,h,h2,h3,fn,W,Z,aD2,k9,seval]
  by_cases c:e=0
  ·subst c;have T:=V w8;obtain⟨S,ap,sl,sk,so⟩:=UL (bytes:=128) (TgV.B ⟨w,d,a,u⟩) (R.D λq w _ _ e=>aj e [.cP [.cQ r d,.sl (z a) (a.flatMap pC),E,F,G,I,K] ⟨eF,U⟩]) (bz TgV.dt l) (by omega) (by omega) s;obtain⟨g,Q⟩:∃g:TgV,g=⟨w,d,a,u⟩:=⟨_,w8⟩;have gc:g.B=[.cU w,.cQ r d,.sl (z a) (a.flatMap pC),E,F,G,I,K]:=(by rw[Q,TgV.B,D]);rw[<-Q]at ap;have e1:l.flatMap TgV.B++g.B=(l++[g]).flatMap TgV.B:=(by simp);rw[e1]at ap;have aa:z S=z Y+1:=by rw[sl];simp
   have lx:z (Y++[AO.cP [.cQ r d,.sl (z a) (a.flatMap pC),E,F,G,I,K] ⟨eF,U⟩])=z Y+1:=(by simp);rw[lx,gc]at ap;have bl:j8 0 (.cP ((l++[g]).flatMap TgV.B) ⟨eF,U⟩)=eT:=dP TgV.aL _;have X:Ok (S++[.cP ((l++[g]).flatMap TgV.B) ⟨eF,U⟩]):=so.H (by rw[Z3,AO.Y (a97 _) _ bl];rfl);have kT:∀j,j<lo->(S++[AO.cP ((l++[g]).flatMap TgV.B) ⟨eF,U⟩])[j]?=Y[j]?:=λj hj=>by have e0:Y[j]?=J Y[j]:=a01 (by omega);rw[e0,aj (sk j _ (.inr hj) (aj e0 _)) _]
   have RT:Bf (S++[.cP ((l++[g]).flatMap TgV.B) ⟨eF,U⟩]) lo (z (l++[g])) 8 ((l++[g]).flatMap TgV.B) (.dj (z Y+1) 0 (z l+1) 8):=.inr ⟨by simp,z Y+1,by simp,by rw[aU aa];rfl,by omega⟩
   obtain⟨f,d1,d2,d3,d4⟩:=amF H k n0 t ns is hl hs hn q1 lo h1 n (i+1) (by omega) _ _ (l++[g]) X (by simp;omega) RT (by simp;omega) (λy B=>by
    rcases aE4.mp B with B|B;·exact ne y B
    ·rw[aC7.mp B,Q];exact T) (by rw[kT _ h1];exact M)
   refine⟨f,d1,λj hj=>by rw[d2 j hj,kT j hj],d3,?_⟩;have st:∀cN,aG C (ai C) 40 [1,4,10,11,12] jk [(1,.da q1 0),(4,.dj (z Y+1) 0 (z l+1) 8),(10,.sl (z ns) (ns.map .cU)),(11,.cQ r (z ns)),(12,.cQ r ((i+1:Nat):Int))] (S++[.cP ((l++[g]).flatMap TgV.B) ⟨eF,U⟩])=cN->aG C (ai C) 40 [1,4,10,11,12] jk [(1,.da q1 0),(4,x),(10,.sl (z ns) (ns.map .cU)),(11,.cQ r (z ns)),(12,.cQ r i)] Y=cN:=λcN e=>by rw[aB (he:=w8)];generalize ab:aG C (ai C) 40 [1,4,10,11,12] jk=kk at*;simp only[jk,h,h2,o,h3,hw,fn,W,lI,P,M,Z,N,g0,s0,ap,e,j0,AV.cP,t1,t2,t3,t4,t5,aD2,Z2,Z1,k9,seval]
   rcases d4 with⟨e,c,d4⟩|⟨O,A,d4,d5⟩;·exact .inl ⟨e,c,st _ d4⟩
   ·exact .inr ⟨O,A,st _ d4,d5⟩
  ·have hb:(e !=0)=eT:=(by simp[c]);refine⟨_,s,fr _,by simp;omega,.inl ⟨e,c,?_⟩⟩;rw[aB (he:=w8)];simp only[jk,h,h2,o,h3,fn,W,lI,P,M,Z,N,hb,g0,s0,j0,AV.cP,t1,t2,t3,t4,t5,aD2,Z2,Z1,k9,seval]
def auv{Y:St}{lo:X}{x:AV}{l:w9 TgV}(R:Bf Y lo (z l) 8 (l.flatMap TgV.B) x)(e:I):∃T:St,K0 eF [x,.cQ r e] Y=J ([.sl (z l) (l.flatMap TgV.B),.cQ r e],T)/\(∀j,j<lo->T[j]?=Y[j]?)/\z T=z Y:=by
 rcases R with⟨a,rfl⟩|⟨a,q,rfl,b,c⟩;·have:l=[]:=aB7 a;subst this;exact⟨Y,w8,λ_ _=>w8,w8⟩
 ·have nv:NVs (l.flatMap TgV.B):=λv hv=>by obtain⟨s,_,hs⟩:=aH6.mp hv;exact s.af v hs
  refine⟨Y.set q (.cP (l.flatMap TgV.B) ⟨eT,U⟩),?_,λj hj=>aE2 (by omega),a99⟩;rw[iY,aN,Eo b (bz TgV.dt l) nv,aN,GZ,mg,<-qf b];rfl
def amG(H:LsHas C)(j:JV)(O:St)(f:Ok O):∃(l:w9 TgV) (e:Int),ai C Ua [j.av] O=J (.de [.sl (z l) (l.flatMap TgV.B),.cQ r e],O)/\z l<=8192/\∀g∈l,g.hs≠[]:=by
 obtain⟨k,n,t,ns,is,a1,a3,a2,a4,rfl⟩:=j.ex;obtain⟨a,B⟩:∃a,a=JV.mk k n t ns is a1 a3 a2 a4:=⟨_,w8⟩;have y:=JV.bO k n t ns is a1 a3 a2 a4;rw[<-B]at y⊢;have F:∀m,j8 m (.cP a.B ⟨eF,U⟩)=eT:=λm=>AO.Y (a97 _) _ a.af.cl;obtain⟨T0,c⟩:∃T0,T0=O++[AO.cP a.B ⟨eF,U⟩]:=⟨_,w8⟩;have ok0:Ok T0:=c▸f.H (by rw[Z3,F];rfl);have pre:∀S:St,(∀i,i<z O+1->S[i]?=T0[i]?)->z O+1<=z S->S.take (z O)=O:=λS D E=>by
  apply aD6;intro i;by_cases x:i<z O;·rw[j7 x,D i (by omega),c,aC1 x]
  ·rw[aB9 (by rw[aD7];omega),aB9 (by omega)]
 have u:=H.dy.go (NVs.E (.cV (.cX a.af) .db) O);have w:T0[z O]?=J (.cP a.B ⟨eF,U⟩):=by rw[c,aA];rfl
 unfold JV.av;rw[y]at u w c⊢;obtain⟨q,d1,d2,d3,d4⟩:=amF H k n t ns is a1 a2 a4.2 (z O) (z O+1) (by omega) (z ns) 0 (by omega) T0 .cY [] ok0 (by rw[c];simp) (.inl ⟨w8,w8⟩) (a09 _) (λ_ h=>by cases h) w;simp only[aB1]at d4;rcases d4 with⟨e,L,p⟩|⟨I,o,p,R,E,ne⟩
 ·refine⟨[],e,u.trans ?_,by decide,λ_ h=>by cases h⟩;have v:tidy (z O) [.sl 0 [],.cQ r e] q=O:=jP f w8 (pre q d2 d3);rw[c]at p;generalize s:iF=A;simp only[Ls,p,bC,AV.cP,k9,seval];rw[<-s];refine(oV (vs:=[.cY,.cQ r e]) (vs':=[.sl 0 [],.cQ r e]) (O3:=q) ?_ w8).trans ?_;·simp only[aZ,k9,seval]
  ·rw[v];rfl
 ·refine⟨o,0,u.trans ?_,by omega,ne⟩;obtain⟨b,u1,u2,M⟩:=auv R 0;have bl:below 0 (.sl (z o) (o.flatMap TgV.B))=eT:=dP TgV.aL _;have v:tidy (z O) [.sl (z o) (o.flatMap TgV.B),.cQ r 0] b=O:=jP f (by rw[ae,bl];rfl) (pre b (λi hi=>by rw[u2 i hi,d2 i hi]) (by omega));rw[c]at p;generalize s:iF=A;simp only[Ls,p,bC,AV.cP,k9,seval];rw[<-s];refine(oV (vs:=[I,.cQ r 0]) ?_ u1).trans ?_;·simp only[aZ,k9,seval]
  ·rw[v];rfl
structure avU(C:Ctx):Prop extends LsHas C where
 dc:bZ C cO GX (.pk [.df] .df)
 i6:bZ C cO Dk (.dp [.df] (.de [.cQ .i64,.cQ .i64]))
 bv:bZ C cO abA (.dp [.jv] (.de [.cX ae3,.cQ .i64]))
 tof:Has C qc zg
def aa1:w9 AV:=[.cQ r 0,.cQ r 0,.cY,.cY,.cY,.cQ r 0,.cY,.cQ r 0,.cU []]
def aAy:KC:=zg.ap.e.e.e.e.e.e
def aAB:KC:=aAy.e.e.e.e.e.e
def aAE:zg.ap=.eA zg.ap.ci (.eA zg.ap.e.ci (.eA zg.ap.e.e.ci (.eA zg.ap.e.e.e.ci (.eA zg.ap.e.e.e.e.ci (.eA zg.ap.e.e.e.e.e.ci aAy))))):=w8
def aAG:aAy=.eA zg.ap.e.e.e.e.e.e.ci (.eA zg.ap.e.e.e.e.e.e.e.ci (.eA zg.ap.e.e.e.e.e.e.e.e.ci (.eA zg.ap.e.e.e.e.e.e.e.e.e.ci (.eA zg.ap.e.e.e.e.e.e.e.e.e.e.ci (.eA zg.ap.e.e.e.e.e.e.e.e.e.e.e.ci aAB))))):=w8
def aAF:aAB=zg.ap.e.e.e.e.e.e.e.e.e.e.e.e:=w8
def ayq(H:avU C)(j:JV)(O:St)(R:Ok O):∃(T:dV) (e:Int),ai C qc [j.av] O=J (.de [.cX T.B,.cQ r e],O)/\OL T:=by
 obtain⟨a,b,c,d,e,y0,y1,z1,z2,z3,z4,z5⟩:=fO j;have jb:∀m,j8 m (.cP j.B ⟨eF,U⟩)=eT:=λm=>AO.Y (a97 _) _ j.af.cl;have Z:aa1=[.cQ r 0,.cQ r 0,.cY,.cY,.cY,.cQ r 0,.cY,.cQ r 0,.cU []]:=w8;obtain⟨t,K⟩:∃t,t=O++[AO.cP j.B ⟨eF,U⟩,.cP aa1 ⟨eF,U⟩]:=⟨_,w8⟩;have G:Ok t:=K▸R.H (by rw[Z3,Z3,jb];rfl);have l2:t.length=O.length+2:=by rw[K];simp
 have s2:t[O.length+1]?=J (.cP aa1 ⟨eF,U⟩):=by rw[K,aI];rfl
 obtain⟨v,w,m1⟩:=fA H.kq (.cV j.nv .db) (.cV _ _ _ _ (.jv j) .db) G;obtain⟨b1,rfl⟩:=zD m1;have hg:=H.tof.go (NVs.E (.cV (.cX j.af) .db) O);have old:∀i,(h:i<O.length)->t[i]?=J O[i]:=λi h=>K▸aj (a01 h) _;have fin:=aAw R 9 old s2;have zn:∀(S:St) (x:Int) (E:As),(∀(i:Nat) (y:AO),t[i]?=J y->S[i]?=J y)->X2 E 2=.da (O.length+1) 0->X2 E 3=.cQ r x->iF O.length [.eN 2 eT 9,.fT 3] (J (.ea,E,S.set (O.length+1) (.cP aa1 ⟨eF,U⟩)))=J (.de [.cX EE.B,.cQ r x],O):=λS x E hS=>fin S aa1 EE.B x E hS EE.af (λ_=>w8) w8;have aa:OL EE:=λ_ h=>by cases h
 unfold JV.av at hg w⊢;cases b1;·refine⟨EE,3,hg.trans ?_,aa⟩;have z:=zn t 3;rw[K]at z w;rw[y1]at w⊢;unfold aa1 at*;generalize hE:iF=eR at z⊢;simp only[zg,w,aA,aI,cZ,j6,j0,AV.cP,Z2,Z1,k9,seval];simp only[cZ,j6]at z;rw[y1]at z;exact z _ (λ_ _ h=>h) w8 w8
 obtain⟨L,o,ms,f1,f2,f3,f4⟩:=H.iB _ [.cX j.B] [.cX j.B] _ G (NVs.E (.cV (.cX j.af) .db) _) G (.cV _ _ _ _ (.jv j) .db);obtain⟨T,hT⟩:∃T,T=t++L:=⟨_,w8⟩;rw[<-hT]at f1 f2 f3 f4;have I0:=aAz (zr:=aa1) hT f2 f3 f4 w8;have en:∀(E:As) (Y:St) (c1 c2 c3 c4 c5 c6 c7 c8 c9:AV) (f:dV),OL f->X2 E 2=.da (O.length+1) 0->X2 E 4=.da o 0->X2 E 5=.da T.length 0->RI t o T.length ms [c1,c2,c3,c4,c5,c6,c7,c8,c9] Y->[c1,c2,c3,c4,c5,c6,c7,c8,c9].all AV.Q=eT->(∀T,K0 eF [.cX [c1,c2,c3,c4,c5,c6,c7,c8,c9],.cQ r 0] T=J ([.cX f.B,.cQ r 0],T))->∃(T:dV) (e:Int),iF O.length [.eN 2 eT 9,.fT 3] (gu C (ai C) 61 aAB E Y)=J (.de [.cX T.B,.cQ r e],O)/\OL T:=λE Y c1 c2 c3 c4 c5 c6 c7 c8 c9 f rn e2 e4 e5 I hf hh=>by
  obtain⟨v14,P,W,g,k,n,p,q⟩:=jJ (azs:=[]) H.hy I.ok .db I.pk .db;obtain⟨ee,rfl⟩:=BK g;have s:=I.fe k n p q;have F:=s.r;have D:=s.au _ _ s2;rw[Z]at D;simp only[Z3,aC6,a02]at hf;rw[aAF];by_cases h0:ee=0;·subst h0;refine⟨f,0,?_,rn⟩;have z:=λE=>fin P _ f.B 0 E s.au f.af hh w8;generalize hE:iF=eR at z⊢;simp only[zg,aAu,e2,e4,e5,W,F,D,hf,j0,AV.cP,Z1,k9,seval];exact z _ (by simp only[k9,seval]) (by simp only[k9,seval])
  ·have hb:(ee !=0)=eT:=(by simp[h0]);refine⟨EE,ee,?_,aa⟩;have z:=zn P ee;rw[Z]at z;generalize hE:iF=eR at z⊢;simp only[zg,aAu,e2,e4,W,D,hb,j0,AV.cP,Z1,k9,seval];exact z _ s.au (by simp only[k9,seval]) (by simp only[k9,seval])
 have md:∀(E:As) (Y:St),X2 E 2=.da (O.length+1) 0->X2 E 4=.da o 0->X2 E 5=.da T.length 0->RI t o T.length ms aa1 Y->∃(T:dV) (e:Int),iF O.length [.eN 2 eT 9,.fT 3] (gu C (ai C) 61 aAy E Y)=J (.de [.cX T.B,.cQ r e],O)/\OL T:=λE Y e2 e4 e5 N=>by
  obtain⟨v3,Y3,n3,g,k,n,p,q⟩:=jJ (azs:=[.cU [118,101,114,115,105,111,110],.cQ r 1,.cQ r 1099511627776]) H.fa N.ok (.cV (.cU _) (.cV (.cQ _ _) (.cV (.cQ _ _) .db))) N.pk (wF _ (by simp[LB]) (xI _ (xI _ .db)));obtain⟨x,rfl⟩:=BK g;have I3:=N.fe k n p q;have R3:=I3.r;rw[Z]at R3;have I4:=I3.cg [.cQ r x,.cQ r 0,.cY,.cY,.cY,.cQ r 0,.cY,.cQ r 0,.cU []] w8;obtain⟨v4,Y4,n4,g,k,n,p,q⟩:=jJ (azs:=[.cU [101,120,112,105,114,101,115]]) H.dc I4.ok (.cV (.cU _) .db) I4.pk (wF _ (by simp[LB]) .db);obtain⟨ah,rfl,ac⟩:=ace g;have I5:=I4.fe k n p q;have R5:=I5.r;obtain⟨v5,n5,g⟩:=fA H.i6 (.cV (.cU ah) .db) (.cV _ _ _ _ (.df _ ac) .db) I5.ok;obtain⟨v5,x2,rfl,w6⟩:=OY g;obtain⟨M,rfl⟩:=BK w6;have I6:=I5.cg [.cQ r x,.cQ r M,.cY,.cY,.cY,.cQ r 0,.cY,.cQ r 0,.cU []] w8;obtain⟨v6,Y6,n6,g,k,n,p,q⟩:=jJ (azs:=[.cQ r x2]) H.gf I6.ok (.cV (.cQ _ _) .db) I6.pk (xI _ .db);have I7:=I6.fe k n p q;obtain⟨v7,Y7,n7,g,k,n,p,q⟩:=jJ (azs:=[.cU [116,97,114,103,101,116,115],.cQ r 256]) H.bA I7.ok (.cV (.cU _) (.cV (.cQ _ _) .db)) I7.pk (wF _ (by simp[LB]) (xI _ .db));obtain⟨h,rfl⟩:=aey g;have I8:=I7.fe k n p q;have R8:=I8.r;obtain⟨l,x3,n8,aq,Q⟩:=amG H.toLsHas h Y7 I8.ok;have bl:below 0 (.sl l.length (l.flatMap TgV.B))=eT:=dP TgV.aL _;have nl:NV (.sl l.length (l.flatMap TgV.B)):=.sl _ (dP TgV.aL l);have I9:=I8.cg [.cQ r x,.cQ r M,.sl l.length (l.flatMap TgV.B),.cY,.cY,.cQ r 0,.cY,.cQ r 0,.cU []] (by simp only[ae,bl];rfl);obtain⟨v9,Y9,n9,g,k,n,p,q⟩:=jJ (azs:=[.cQ r x3]) H.gf I9.ok (.cV (.cQ _ _) .db) I9.pk (xI _ .db);have A:=I9.fe k n p q;obtain⟨v10,ak,V,g,k,n,p,q⟩:=jJ (azs:=[.cU [100,101,108,101,103,97,116,105,111,110,115]]) H.ln A.ok (.cV (.cU _) .db) A.pk (wF _ (by simp[LB]) .db);obtain⟨b2,rfl⟩:=zD g;have u:=A.fe k n p q;rw[aAG];cases b2
  ·simp only[zg,aAv,aAu,e4,e5,n3,R3,n4,R5,n5,n6,n7,R8,n8,n9,V,j0,AV.cP,Z2,Z1,k9,seval];refine en _ _ _ _ _ _ _ _ _ _ _ ⟨x,M,l,⟨[],[],0,[],0,[]⟩⟩ Q ?_ ?_ ?_ u w8 (λT=>by
    rw[iY];simp only[aN,bK,GZ,Oh,dQ,nl.nf,mg];rfl)<;>simp only[e2,e4,e5,k9,seval]
  ·obtain⟨v15,al,ad,g,k,n,p,q⟩:=jJ (azs:=[.cU [100,101,108,101,103,97,116,105,111,110,115],.cQ r 8192]) H.bA u.ok (.cV (.cU _) (.cV (.cQ _ _) .db)) u.pk (wF _ (by simp[LB]) (xI _ .db));obtain⟨h2,rfl⟩:=aey g;have s:=u.fe k n p q;have F:=s.r;obtain⟨v16,X,g⟩:=fA H.bv (.cV h2.nv .db) (.cV _ _ _ _ (.jv h2) .db) s.ok;obtain⟨v16,x4,rfl,w6⟩:=OY g;obtain⟨d,rfl⟩:∃d:Hw,v16=.cX d.B:=by
    cases w6 with
    |cX _ v w7=>obtain⟨d,rfl,-⟩:=aau _ w7;exact⟨d,w8⟩
   have dc:d.B=[.sl d.al.length (d.al.flatMap pC),.sl d.O.length (d.O.flatMap RoV.B),.cQ r d.cf,.sl d.V.length (d.V.flatMap sC),.cQ r d.cp,.cU d.bR]:=w8;rw[dc]at X;have B:=s.cg [.cQ r x,.cQ r M,.sl l.length (l.flatMap TgV.B),.sl d.al.length (d.al.flatMap pC),.sl d.O.length (d.O.flatMap RoV.B),.cQ r d.cf,.sl d.V.length (d.V.flatMap sC),.cQ r d.cp,.cU d.bR] (by
    have t1:=d.af.cl;rw[dc]at t1;rw[ae,ae,ae,bl,t1];rfl)
   obtain⟨v17,an,af,g,k,n,p,q⟩:=jJ (azs:=[.cQ r x4]) H.gf B.ok (.cV (.cQ _ _) .db) B.pk (xI _ .db);have ab:=B.fe k n p q;simp only[zg,aAv,aAu,e4,e5,n3,R3,n4,R5,n5,n6,n7,R8,n8,n9,V,ad,X,F,af,j0,AV.cP,Z2,Z1,k9,seval];refine en _ _ _ _ _ _ _ _ _ _ _ ⟨x,M,l,d⟩ Q ?_ ?_ ?_ ab w8 (λT=>NVs.E (.cV (.cX (dV.af ⟨x,M,l,d⟩)) (.cV (.cQ _ _) .db)) T)<;>simp only[e2,e4,e5,k9,seval]
 have hO:t=O++[AO.cP [a,b,c,d,e] ⟨eF,U⟩,.cP [.cQ r 0,.cQ r 0,.cY,.cY,.cY,.cQ r 0,.cY,.cQ r 0,.cU []] ⟨eF,U⟩]:=by rw[K,y1,Z]
 rw[hO]at w f1;rw[y1]at hg w f1⊢;obtain⟨v1,Y1,n1,g,k,n,p,q⟩:=jJ (azs:=[.cU [95,116,121,112,101]]) H.dc I0.ok (.cV (.cU _) .db) I0.pk (wF _ (by simp[LB]) .db);obtain⟨s1,rfl,-⟩:=ace g;have I1:=I0.fe k n p q;rw[Z]at n1;rw[hg,show zg.an=[.eN 2 eT 9,.fT 3]from w8,show zg.W=61 from w8,aAE];by_cases hx:s1=[116,97,114,103,101,116,115];·subst hx;simp only[zg,aAv,aAu,w,f1,n1,eq_self,aA,AV.cP,Z2,Z1,k9,seval];exact md _ _ w8 w8 w8 I1
 ·obtain⟨v2,Y2,fa,g,k,n,p,q⟩:=jJ (azs:=[.cQ r 13]) H.gf I1.ok (.cV (.cQ _ _) .db) I1.pk (xI _ .db);have N:=I1.fe k n p q;simp only[zg,aAv,aAu,w,f1,n1,hx,fa,aA,AV.cP,Z2,Z1,k9,seval];exact md _ _ w8 w8 w8 N
def atl{t T:dV}(h:t.B=T.B)(d:OL T):OL t:=by
 unfold dV.B at h;injection h with _ h;injection h with _ h;injection h with h _;injection h with j h2;intro g f;obtain⟨i,hi,rfl⟩:=aL5.mp f;have c:i<z T.bi:=by omega
 have e1:=iy TgV.dt (a01 hi);have e2:=iy TgV.dt (a01 c);have ne:=d _ (aD5 c);rw[h2,e2]at e1;generalize t.bi[i]=a at*;generalize T.bi[i]=b at*;unfold TgV.B rC at e1;simp only[Z2]at e1;injection e1 with _ e1;injection e1 with _ e1;injection e1 with e1 _;injection e1 with e1 _;intro e;rw[e]at e1;exact ne (aB7 e1)
def YF:w9 AV:=[.cQ r 0,.cY,.cQ .u8 0,.cQ r 0,.cU [],.cY,.cY]
def aic{d:w9 AV}(a:NVs d)(O:St):K0 eF [.cX d,.cX YF] O=J ([.cX d,.cX kL],O):=by rw[iY,aN,(NV.cX a).nf];simp only[YF,aN,bK,GZ,Oh,dQ,mg];rfl
def aoG(a:B C jZ mi)(d:B C fF fD)(f:B C iW pJ)(O:St)(b:Ok O):ai C jZ [.cX kL,.cX YF] O=J (.cW eT,O):=by
 have q:=acF a d f 0 [] (by decide) JV.ab O b;have e:rC 0 [] JV.ab=kL:=by rw[rC,JV.be];rfl
 rw[e]at q;have c:NV (.cX kL):=.cX sK.af;exact(a.go (aic sK.af O)).trans ((a.go (NVs.E (.cV c (.cV c .db)) O)).symm.trans q)
def ao4(a:B C fF fD)(l:w9 PS)(ne:l≠[])(O:St):ai C fF [.sl (z l) (l.flatMap pC),.sl 0 []] O=J (.cW eF,O):=by
 rw[a.go (NVs.E (.cV (rV l) (.cV (.sl 0 w8) .db)) _)];have h:((z l:I) !=0)=eT:=by have:z l≠0:=λh=>ne (aB7 h);simpa using this
 simp only[fD,h,bC,k9,seval]
def avi(g:B C jZ mi)(i:B C fF fD)(n:I)(hs:w9 PS)(j:JV)(ne:hs≠[])(O:St)(e:Ok O):ai C jZ [.cX (rC n hs j),.cX YF] O=J (.cW eF,O):=by
 rw[g.go (aic (acC n hs j) O)];have q:=ao4 i hs ne;have f:=λL=>bu e (vs:=[.cW eF]) w8 L;obtain⟨a,b,c,d,e0,x0,k,l,m,o,p,z5⟩:=fO j;have rc:rC n hs j=[.cQ r n,.sl (z hs) (hs.flatMap pC),a,b,c,d,e0]:=by unfold rC;rw[k]
 rw[rc];unfold kL;by_cases h:n=0;·subst h;simp only[mi,q,f,aA,aI,AV.cP,Q,Z2,k9,seval]
 ·have hb:(n==0)=eF:=(by simpa using h);simp only[mi,hb,f,aA,aI,AV.cP,Z2,k9,seval]
end Go.Ev
namespace Go.Ev
open Option renaming some→J, none→U
open Bool renaming true→eT, false→eF
open List renaming length→z
open Go.IntKind renaming i64→r
variable{C C1:Ctx}
def ajv (Y:St) (x0:X) (pv b:AV) (r0 r1 r2 r3 r4 r5 g j l m a:AV) (vs:w9 (w9 X1)) (t:z vs<=80000000) (nd:vs.Nodup) (i:X) (hi:i<z vs) (f:Y[x0]?=J (.cP [r0,r1,r2,r3,r4,r5,g,j,l,m,a,.sl (z vs) (vs.flatMap sC)] ⟨eF,U⟩)):∀(n k:X),k+n=i->
  aG C (ai C) 275 [1,5,9,10,11] fH [(1,pv),(5,b),(9,.da x0 0),(10,.cQ r i),(11,.cQ r k)] Y=J (.dq 2,[(1,pv),(5,b),(9,.da x0 0),(10,.cQ r i)],Y)
 |0,k,p=>by have h:¬((k:I)<(i:I)):=(by omega);rw[aB (he:=w8)];simp only[fH,h,k9,seval]
 |n+1,k,p=>by
  have h:((k:I)<(i:I)):=(by omega);have h2:k<z vs:=(by omega);have h3:(0:I)<=k:=(by omega);have h4:(0:I)<=i:=(by omega);have v:=wrS k (by omega);have sl:∀s,z (sC s)=1:=λ_=>w8;have c:=iy sl (a01 h2);have d:=iy sl (a01 hi);have y:=bz sl vs;have ne:¬vs[k]=vs[i]:=λe=>by exact List.pairwise_iff_getElem.mp nd k i h2 hi (by omega) e
  generalize vs[k]=w at*;generalize vs[i]=u at*;rw[show sC w=[.cU w]from w8,aD2]at c;rw[show sC u=[.cU u]from w8,aD2]at d;have x:=ajv Y x0 pv b r0 r1 r2 r3 r4 r5 g j l m a vs t nd i hi f n (k+1) (by omega);rw[aB (he:=w8)];generalize q:aG C (ai C) 275 [1,5,9,10,11] fH=A at*;simp only[fH,h,h2,hi,h3,h4,v,c,d,y,f,ne,x,Z2,Z1,k9,seval]
def atz (hr:B C oK sN) (k:B C kw jV) (Y:St) (x0:X) (pv b:AV) (r0 r1 r2 r3 r4 r5 d e f g a:AV) (vs:w9 (w9 X1)) (l:z vs<=80000000) (nd:vs.Nodup) (nm:∀v∈vs,Nm v) (c:Y[x0]?=J (.cP [r0,r1,r2,r3,r4,r5,d,e,f,g,a,.sl (z vs) (vs.flatMap sC)] ⟨eF,U⟩)):∀(n i:X),i+n=z vs->
  aG C (ai C) 275 [1,5,9,10] iJ [(1,pv),(5,b),(9,.da x0 0),(10,.cQ r i)] Y=J (.dq 0,[(1,pv),(5,b),(9,.da x0 0)],Y)
 |0,i,hi=>by have h:¬((i:I)<(z vs:I)):=(by omega);rw[aB (he:=w8)];simp only[iJ,h,c,bC,k9,seval]
 |n+1,i,hi=>by have h:((i:I)<(z vs:I)):=(by omega);have h2:i<z vs:=(by omega);have h3:(0:I)<=i:=(by omega);have t:=wrS i (by omega);have sl:∀s,z (sC s)=1:=λ_=>w8;have j:=iy sl (a01 h2);have x:=bz sl vs;have q:=Fq hr k vs[i];rw[(nm _ (aD5 h2)).1]at q;have m:=ajv (C:=C) Y x0 pv b r0 r1 r2 r3 r4 r5 d e f g a vs l nd i h2 c i 0 (by omega);simp only[aB1]at m;generalize vs[i]=w at*;rw[show sC w=[.cU w]from w8,aD2]at j;have u:=atz hr k Y x0 pv b r0 r1 r2 r3 r4 r5 d e f g a vs l nd nm c n (i+1) (by omega);rw[aB (he:=w8)];generalize p:aG C (ai C) 275 [1,5,9,10] iJ=y at*;simp only[iJ,h,h2,h3,t,j,x,c,q,m,u,bC,Z2,Z1,k9,seval]
def au4(H:ajN C){x:jo}(f1:x.b4=1->alH x.br)(b:x.b4≠1->x.br=kL)(O:St)(a:Ok O):ai C jZ [.cX x.br,.cX YF] O=J (.cW (x.b4 !=1),O):=by
 by_cases h:x.b4=1;·obtain⟨n,hs,j,e,ne⟩:=f1 h;rw[e,h];exact avi H.br H.aM n hs j ne O a
 ·rw[b h,show(x.b4 !=1)=eT by simpa using h];exact aoG H.br H.aM H.ev O a
def Yu (H:ahn C C1) (hN:∀(h:Bool) (l:w9 iH),xA l=eF->∀(R:jR),R.ok->∃b:IB,(∀d,OL (b.T d))/\∀now:I,F6 C1 h l R now (b.K now)) (hr:Has C oK sN) (ha:Has C kw jV) (hO:Has C wo bG) (c:kZ) (path:w9 X1) (b:Nj) (O:St) (Z:Ok O):
  ai C wo [.cX c.B,.cU path,.cX b.B] O=J (.cW eT,O):=by
 have cb:j8 0 (.cP c.B ⟨eF,U⟩)=eT:=c.af.cl;have bb:j8 0 (.cP b.B ⟨eF,U⟩)=eT:=w8;have aa:Ok (O++[.cP c.B ⟨eF,U⟩,.cP b.B ⟨eF,U⟩]):=Z.H (by simp only[Z3,aC6,cb,bb,aD0]);have ty:=λb=>bu Z (vs:=[.cW b]) w8;have j:=aax H.hV c path _ aa;have m:=H.g8 _ aa;have bc:b.B=[.cQ r b.O,.cQ r b.L,.cQ r b.rc,.cQ r b.sc]:=w8;have cc:c.B=[.cU c.nm,.cU c.am,.sl c.fs.length (c.fs.flatMap pC),.cW c.h,.sl c.l.length (c.l.flatMap iH.B),.cQ r c.aw,.cQ r c.b0,.cQ r c.b1,.cQ r c.rc,.cQ r c.sc]:=w8;have hn:K0 eF [.cX c.B,.cU path,.cX b.B] O=J ([.cX c.B,.cU path,.cX b.B],O):=NVs.E (.cV (.cX c.af) (.cV (.cU _) (.cV (.cX (aan b)) .db))) O;rw[hO.go hn];cases cl:Qi c path
 case true=>rw[cl]at j;rw[bc]at j m⊢;rw[cc]at j m⊢;simp only[bG,j,m,ty,aA,AV.cP,k9,seval]
 rw[cl]at j;obtain⟨v1,v2,v3,v4,v5,v6⟩:=JC cl;obtain⟨R,e,ak,mk⟩:=amL H.eM cl;obtain⟨bv,ne,hK⟩:=hN c.h c.l v1 R ak;rcases mk bv hK c.aw c.fs v3 v5 _ aa with⟨m1,o⟩|⟨m1,p,T,o,N⟩;·have af:(yV c.nm c.fs c.rc c.sc e !=0)=eT:=(by simpa using m1);change ai C dJ [.cX c.B] _=_ at o;rw[bc]at j m o⊢;rw[cc]at j m o⊢;simp only[bG,j,m,af,o,ty,aA,AV.cP,k9,seval]
 change ai C dJ [.cX c.B] _=_ at o;have lT:=N.dt;have l1:(O++[AO.cP c.B ⟨eF,U⟩,.cP b.B ⟨eF,U⟩]).length=O.length+2:=by simp
 rw[l1]at lT;have pl:∀i,p.b9 i->O.length+2<=i/\i<T.length:=λi hi=>⟨by have:=N.ah i hi;rw[l1]at this;exact this,Rp.lt N.az hi⟩;have old:∀i x,i<O.length+2->(O++[AO.cP c.B ⟨eF,U⟩,.cP b.B ⟨eF,U⟩])[i]?=J x->T[i]?=J x:=λi x hi h=>by rw[QL N.bR (by rw[l1];exact hi)];exact h
 have bT:T[O.length+1]?=J (.cP b.B ⟨eF,U⟩):=old _ _ (by omega) (by rw[aI];rfl);obtain⟨ac,go,fd,⟨gn,gf,gp⟩,step⟩:=Ov H.jN path v6;obtain⟨x,F,S,al,k1,s1,t1,ad,Y,sm1⟩:=step N.bN (by rw[N.F];decide) N.ok N.az b
 have lS:=t1.dt;have vl:=sm1.bb;have P:=alk gn Y;have FD:=alm (λp a ks d s=>by
  show OL (agH (bv.T d) _);unfold agH;split;·exact ne d
  ·exactλ_ h=>by cases h) gf Y
 change atP ac (TA b.O) (TA b.L) x at P;change x.b4=1->alH x.br at FD;have nx:=jo.af x sm1.br.af;have xb:j8 0 (.cP x.B ⟨eF,U⟩)=eT:=nx.cl;have ab:Ok (S++[.cP x.B ⟨eF,U⟩]):=t1.ok.H (by rw[Z3,xb];rfl);have u:∀i x,i<O.length+2->T[i]?=J x->S[i]?=J x:=λi x hi h=>t1.bp i x (λhh=>by have:=(pl _ hh).1;omega) h;have bS:=u _ _ (by omega) bT;have g:=λL=>aj bS L;have f0:x.b4≠1->x.br=kL:=λh=>by
  rcases P.b4 with k|k|k|k|k;·exact j9 k.1 h
  ·exact k.2.2.2.2.1
  ·exact k.2.2.2.2.1
  ·exact k.2.2.2.2.1
  ·exact k.2.2.2.2.1
 have q21:=au4 H.cq FD f0 _ ab;have f:tidy O.length [.cW eT] (S++[.cP x.B ⟨eF,U⟩])=O:=jP Z w8 (by
  apply aD6;intro i;by_cases h:i<O.length;·have e0:O[i]?=J O[i]:=a01 h;rw[j7 h,aj (u i _ (by omega) (old i _ (by omega) (aj e0 _))) _,e0]
  ·rw[aB9 (by rw[aD7];omega),aB9 (by omega)])
 obtain⟨a1,a2,a3,a4,a5,a6,a7,rc,y,A,B,D,z5,E,G⟩:=seven sm1.br;have xc:x.B=[.cQ .u8 x.b4,.cQ .u8 x.gv,.cQ .u8 x.cE,.cU x.bS,a1,a2,a3,a4,a5,a6,a7,.sl x.bb.length (x.bb.flatMap sC)]:=by unfold jo.B;rw[rc];rfl
 have X:(S++[AO.cP x.B ⟨eF,U⟩])[S.length]?=J (.cP x.B ⟨eF,U⟩):=by rw[aA];rfl
 rw[rc]at q21;rw[xc]at q21 X f s1;have q:=atz hr ha _ S.length (.cU path) (.da (O.length+1) 0) _ _ _ _ _ _ _ _ _ _ _ x.bb (by omega) P.m9 P.jx X x.bb.length 0 (by omega);simp only[aB1]at q;have t:=λL=>aU (w8:S.length=_) L;have sx:=λL z=>fV (w8:S.length=_) L z;have z:((0:I) !=0)=eF:=w8;have v:∀n:I,Sz eT (.cQ r 0) (.cQ r n)=J (.cQ r (TA n)):=λn=>by
  unfold Sz TA;dsimp only;by_cases h:n>0;·rw[if_pos w8,if_pos h,if_neg (by omega)]
  ·rw[if_pos w8,if_neg h];by_cases h':0>n;·rw[if_pos h']
   ·rw[if_neg h',show n=0 by omega]
 have m0:∀n:I,max 0 (TA n)=TA n:=λn=>by unfold TA;split<;>omega
 have ah:∀n:I,0<=TA n:=λn=>by unfold TA;split<;>omega
 unfold YF at q21;have M:¬(TA b.O<(x.bb.length:I)):=by
  have:=ah b.O;rcases P.dt with h|h;·rw[h];simp;omega
  ·omega
 have K:=P.b4;have hd:=P.lp;have nm:=P.jx;simp only[m0]at K;have pt:=gp (S++[.cP x.B ⟨eF,U⟩]);rw[xc]at pt;rw[bc]at j m o s1 bT bS⊢;have g:=λL=>aj bS L;rw[cc]at j m o⊢;clear P FD f0 X ab xb nx xc sm1 Y ad step;generalize x.b4=kind at*;generalize x.gv=why at*;generalize x.cE=cause at*;generalize x.bS=role at*;generalize x.bb=vis at*;by_cases hv:vis=[]
 ·subst hv;simp only[a96,aK7,aB1]at s1 q f q21 pt M K;rcases K with⟨-,-,-,-,h⟩|⟨rfl,rfl,rfl,rfl,-,h⟩|⟨rfl,rfl,rfl,rfl,-,h⟩|⟨rfl,rfl,rfl,rfl,-,h⟩|⟨rfl,rfl,hc,hr,-,h⟩;·exact j9 w8 h
  ·obtain rfl:ac=eF:=h.resolve_left λh=>h w8;simp only[bG,j,m,z,o,bT,s1,g,t,sx,q21,q,f,v,M,pt,y,A,B,D,z5,E,G,bC,aA,AV.cP,j0,j6,Q,k9,seval]
  ·have h:=h.symm;simp only[bG,j,m,z,o,bT,s1,g,t,sx,q21,q,f,v,h,y,A,B,D,z5,E,G,bC,aA,AV.cP,j0,j6,Q,k9,seval]
  ·simp only[bG,j,m,z,o,bT,s1,g,t,sx,q21,q,f,v,M,h,y,A,B,D,z5,E,G,bC,aA,AV.cP,j0,j6,Q,k9,seval]
  ·obtain rfl:role=[114,111,111,116]:=by
    rcases h with h|h|h;·exact h.1
    ·cases h.2
    ·cases h
   have hb:(cause !=0)=eT:=(by simpa using hc);simp only[bG,j,m,z,o,bT,s1,g,t,sx,q21,q,f,v,M,hb,y,A,B,D,z5,E,G,bC,aA,AV.cP,j0,j6,Q,k9,seval]
 ·obtain⟨Y,h2⟩:=hd hv;have W:¬b.L<1:=by unfold TA at h2;split at h2<;>omega
  obtain⟨L,eL⟩:∃L,vis.flatMap sC=.cU [116,97,114,103,101,116,115]::L:=by
   cases vis with
   |nil=>exact j9 w8 hv|cons w vs=>injection Y with Y;exact⟨vs.flatMap sC,by rw[aF0,Y];rfl⟩
  have n0:vis.length≠0:=λh=>hv (aB7 h);have n1:0<vis.length:=(by omega);have n2:(0:I)<(vis.length:I):=(by omega);have n3:((vis.length:I)==0)=eF:=(by simpa using n0);have V:=bz (λs=>(w8:(sC s).length=1)) vis;have gl:∀w,vis.getLast? =J w->∃L',(vis.flatMap sC).drop (vis.length-1)=.cU w::L':=λw hw=>by have:=iy (λs=>(w8:(sC s).length=1)) ((List.getLast?_eq_getElem? (l:=vis)).symm.trans hw);rw[aD2]at this;exact⟨_,this⟩
  have nq:∀w,vis.getLast? =J w->w≠oP:=λw hw=>(nm w (Z0 hw)).2;rw[eL]at s1 q f q21 pt V gl;generalize vis.length=n at*;have d0:(AV.cU [116,97,114,103,101,116,115]::L).drop 0=AV.cU [116,97,114,103,101,116,115]::L:=w8;rcases K with⟨rfl,rfl,rfl,rfl,-⟩|⟨rfl,rfl,rfl,rfl,-,h⟩|⟨rfl,rfl,rfl,rfl,-,h⟩|⟨rfl,rfl,rfl,rfl,-,h⟩|⟨rfl,rfl,hc,hr,-,h⟩;·simp only[bG,j,m,z,o,bT,s1,g,t,sx,q21,q,f,v,M,n1,n2,V,W,d0,y,A,B,D,z5,E,G,bC,aA,AV.cP,j0,j6,Q,k9,seval]
  ·simp only[bG,j,m,z,o,bT,s1,g,t,sx,q21,q,f,v,M,n1,n2,V,W,d0,y,A,B,D,z5,E,G,bC,aA,AV.cP,j0,j6,Q,k9,seval]
  ·have h:=h.symm;simp only[bG,j,m,z,o,bT,s1,g,t,sx,q21,q,f,v,n1,n2,V,W,d0,h,Int.lt_irrefl,y,A,B,D,z5,E,G,bC,aA,AV.cP,j0,j6,Q,k9,seval]
  ·simp only[bG,j,m,z,o,bT,s1,g,t,sx,q21,q,f,v,M,n1,n2,V,W,d0,h,y,A,B,D,z5,E,G,bC,aA,AV.cP,j0,j6,Q,k9,seval]
  ·have hb:(cause !=0)=eT:=(by simpa using hc);rcases h with⟨-,h⟩|⟨rfl,h⟩|h;·exact j9 h hv
   ·have h:((n:I)==1)=eT:=by rw[beq_iff_eq];omega
    unfold oP at s1 q f q21 pt;have ns:¬([115,110,97,112,115,104,111,116]:w9 X1)=[114,111,111,116]:=(by decide);simp only[bG,j,m,z,o,bT,s1,g,t,sx,q21,q,f,v,M,n1,n2,V,W,d0,hb,h,ns,y,A,B,D,z5,E,G,bC,aA,AV.cP,j0,j6,Q,k9,seval]
   ·obtain⟨L',fl⟩:=gl role h;have ns:¬role=[115,110,97,112,115,104,111,116]:=nq role h;have N:¬role=[]:=hr;have hw:IntKind.i64.wrap ((n:I)-1)=((n-1:Nat):I):=wrE (by omega);have g0:(0:I)<=((n-1:Nat):I):=(by omega);have g1:n-1<n:=(by omega);by_cases rt:role=[114,111,111,116];·subst rt;simp only[bG,j,m,z,o,bT,s1,g,t,sx,q21,q,f,v,M,n1,n2,n3,V,W,d0,hb,fl,ns,hw,g0,g1,y,A,B,D,z5,E,G,bC,aA,AV.cP,j0,j6,Q,k9,seval]
    ·simp only[bG,j,m,z,o,bT,s1,g,t,sx,q21,q,f,v,M,n1,n2,V,W,d0,hb,fl,ns,N,rt,hw,g0,g1,y,A,B,D,z5,E,G,bC,aA,AV.cP,j0,j6,Q,k9,seval]
end Go.Ev
namespace Go.Proofs.YtaaomenfchndjaaGreatDoor
open Option renaming some→J, none→U
open Bool renaming true→eT, false→eF
open List renaming length→z
open Go.IntKind renaming i64→r
open Go.Ev Go.RowKit
noncomputable section
variable{u1 u2:TypeId}
def azZ:avU (C0 u1 u2)where
 er:=has
 hW:=has
 ei:=ay9
 kq:=MK _ (a06 (i:=1) w8)
 of:=has
 ow:=has
 eC:=has
 b9:=has
 hO:=has
 iB:=azR
 fa:=awv
 bA:=aww
 gf:=asM
 ln:=aya
 mS:=ay7
 hy:=asL
 lI:=has
 eh:=agW
 dy:=has
 dc:=asO
 i6:=MK _ (a06 (i:=2) w8)
 bv:=azQ
 tof:=has
def ayo(j:JV):∃(t:dV) (e:I),(t.ok/\OL t)/\∀Y,ai (CZ u1 u2 eF) qc [j.av] Y=J (.de [.cX t.B,.cQ r e],Y):=by obtain⟨t,e,a,h2⟩:=(afV (u1:=u1) (u2:=u2) eF).tg j;refine⟨t,e,⟨a,?_⟩,h2⟩;obtain⟨T,d,q,b⟩:=ayq (azZ (u1:=u1) (u2:=u2)) j [] ok0;have k:=(iE (C:=CZ u1 u2 eF) (h:=pFn (C0 u1 u2) qc) w8 [j.av] []).symm.trans (h2 []);have c:K0 eF [j.av] []=J ([j.av],[]):=NVs.E (.cV j.nv .db) [];unfold pFn at k;rw[c]at k;have hb:ae 0 [j.av]=eT:=(NVs.cV j.nv .db).cl;simp only[hb,q,if_true,a07,aC2,AV.de.injEq,List.cons.injEq,AV.cX.injEq]at k;exact atl k.1.1.symm b
def aAb(h:Bool)(l:w9 iH)(b1:xA l=eF)(R:jR)(a:R.ok):∃b:IB,(∀d,OL (b.T d))/\∀now:I,F6 (C1 u1 u2) h l R now (b.K now):=
 adT (Q:=OL) (λ_ h=>by cases h) ayo (afV eF) oQ h l b1 R a.sn a.ks
def aui(u1 u2:TypeId)(c:kZ)(p:w9 X1)(b:Nj):ai (CL u1 u2) wo [.cX c.B,.cU p,.cX b.B] []=J (.cW eT,[]):=
 Yu law9 aAb (oQ (b:=eT)) (oQ (b:=eT)) (oQ (b:=eT)) c p b [] ok0
end
end Go.Proofs.YtaaomenfchndjaaGreatDoor
