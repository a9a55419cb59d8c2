/- What the law wants alone. No conditions. -/
import Derived.Test.YtaaomenfchndjaaGreatDoorLX
import Derived.Test.YtaaomenfchndjaaGreatDoorTI
set_option linter.unusedVariables false
set_option linter.unusedSimpArgs false
set_option linter.defProp false
set_option maxRecDepth 1000000
open _root_ renaming if_neg→P,if_pos→V,rfl→w8,List→y,UInt8→w9,Int→E,beq_self_eq_true→j0
open Go.Ev.AO renaming below→k9
namespace Go.Ev
open List renaming length→z
open Option renaming some→J, none→U
open Bool renaming true→eT, false→eF
open Go.IntKind renaming i64→r
abbrev su:FuncId:=4
noncomputable section
end
variable{C C1:Ctx}
def aj0(K:Dz)(fs:y PS)(rc sc:E)(rl:y w9)(a:mP)(ks:y PS)(F X:y aQ):dS K fs rc sc rl a ks ((dS K fs rc sc rl a ks F).2++X)=((dS K fs rc sc rl a ks F).1,(dS K fs rc sc rl a ks F).2++X):=by
 obtain⟨f,g⟩:=YJ K fs rc sc rl a ks F;have hs:=xZ K fs sc F (f++X);rw[<-aB2,<-g]at hs;generalize b:(dS K fs rc sc rl a ks F).2++X=G at hs⊢;rw[dS];rw[hs];rw[dS]at b⊢;dsimp only at b⊢;by_cases c:(aW K fs sc F).1.2=0
 ·simp only[V c]at b⊢;cases h:nZ (aW K fs sc F).1.1 rl with
  |none=>rfl
  |some p=>
   simp only[h]at b⊢;by_cases d:p.I<0;·simp only[V d]at b⊢;unfold vO at b⊢;dsimp only at b⊢;rw[<-b,UZ]
   ·simp only[P d]at b⊢;by_cases e:rc<p.I;·simp only[V e]at b⊢
    ·simp only[P e]at b⊢;unfold vO at b⊢;dsimp only at b⊢;rw[<-b,UZ]
 ·simp only[P c]
def Stp.pB{S S':St}{p a:Rp}(q:Stp S S' p a){n:Nat}(b:n<=z S)(h:∀i,p.b9 i->n<=i):∀i,a.b9 i->n<=i:=λi hi=>by
 rcases q.eM i hi with e|e;·exact h i e
 ·omega
end Go.Ev
namespace Go.Ev
open List renaming length→z
open Option renaming some→J, none→U
open Bool renaming true→eT, false→eF
open Go.IntKind renaming i64→r
def alq(z:mG)(b:y Wp)(vs:y (y w9))(F X:y aQ):qX z b vs (agu (qX z b vs F)++X)=ay6 (agu (qX z b vs F)++X) (qX z b vs F):=by
 unfold qX;cases b.getLast? with
 |none=>rfl
 |some w=>
  dsimp only;by_cases c:w.C∈vs;·simp only[V c];rfl
  by_cases e:z.O<=vs.length;·simp only[P c,V e];rfl
  by_cases f:z.L<w.L;·simp only[P c,P e,V f];rfl
  simp only[P c,P e,P f];by_cases d:vs=[]/\(aW z.K z.fs z.sc F).1.2≠0;·simp only[V d];have k:aW z.K z.fs z.sc (agu (.inl (⟨3,4,(aW z.K z.fs z.sc F).1.2,oP,kL,vs++[w.C]⟩,(aW z.K z.fs z.sc F).2))++X)=_:=xZ z.K z.fs z.sc F X;rw[k,V d];rfl
  ·simp only[P d,JF];obtain⟨i,g⟩:=afK z w (oN z vs F);have a:JS z w ((JS z w (oN z vs F)).2++X)=((JS z w (oN z vs F)).1,(JS z w (oN z vs F)).2++X):=aj0 _ _ _ _ _ _ _ _ _;by_cases v:vs=[];·have o:oN z vs F=(aW z.K z.fs z.sc F).2:=V v;have s:aW z.K z.fs z.sc ((JS z w (oN z vs F)).2++X)=((aW z.K z.fs z.sc F).1,(JS z w (oN z vs F)).2++X):=(by rw[g,o,aB2,xZ]);rw[s,P d,show oN z vs ((JS z w (oN z vs F)).2++X)=(JS z w (oN z vs F)).2++X from(V v).trans (by rw[s]),a,Vm]
   ·rw[P λh=>v h.1,show oN z vs ((JS z w (oN z vs F)).2++X)=(JS z w (oN z vs F)).2++X from P v,a,Vm]
def alA{z:mG}{n f:Nat}{a:y Wp}{vs:y (y w9)}{F X:y aQ}{j b:jo×y aQ}(h:uB z n a vs F=J j)(i:uB z f a vs (j.2++X)=J b):b=(j.1,j.2++X):=by
 refine X8 (rr:=j) (I:=λ_ _ _ G=>G=j.2++X) (Q:=λb=>b=(j.1,j.2++X)) (λn a vs F G hI d=>?_) n f a vs F _ b w8 h i;subst hI;obtain⟨g,e⟩:=acl d;have k:=alq z a vs F (g++X);rw[<-aB2,<-e]at k;cases c:qX z a vs F with
 |inl q=>rw[c]at k d;cases d;exact .inl ⟨_,k,w8⟩|inr s=>rw[c]at k;exact .inr ⟨_,_,_,_,w8,k,w8⟩
def Xb(fs:y PS)(F:y aQ)(n:y w9)(cap:E)(h:∀f∈F,f.C≠n):(sD fs F n cap).2.map (·.C)=F.map (·.C)++[n]:=by unfold sD;rw[List.find?_eq_none.mpr λf hf=>by simpa using h f hf];simp[zt]
def al7{z:mG}{S:SnV}{F:y aQ}(h:yu z S F)(rl:y w9)(a:mP)(ks:y PS)(hf:∀f∈F,f.C≠rl++iD):(dS z.K z.fs z.rc z.sc rl a ks F).2.map (·.C)=F.map (·.C)++(if ahF S z.rc rl=eT then[rl++iD]else[]):=by
 unfold dS ahF;rw[h];dsimp only;rw[V w8];cases nZ S rl with
 |none=>simp
 |some p=>
  dsimp only;by_cases b:p.I<0;·rw[V b,V (by simp[b])];exact Xb _ _ _ _ hf
  ·rw[P b];by_cases c:z.rc<p.I;·rw[V c,P (by simp;omega)];simp
   ·rw[P c,V (by simp;omega)];exact Xb _ _ _ _ hf
structure NmI(z:mG)(S:SnV)(ws:List Wp)(vs:List (List UInt8))(F:List aQ):Prop where
 i1:∀w∈ws,Nm w.C
 i2:∀v∈vs,Nm v
 st:(vs=[]/\F=[])\/(vs≠[]/\yu z S F/\F.map (·.C)=Uy S z.rc vs)
def avP{S:SnV}{rc:E}{vs:y (y w9)}{F:y aQ}(h:F.map (·.C)=Uy S rc vs){w:y w9}(b:w∉vs)(a:w≠oP):∀f∈F,f.C≠w++iD:=by
 intro f hf e;have:f.C∈Uy S rc vs:=by rw[<-h];exact List.mem_map_of_mem hf
 unfold Uy at this;rcases aC8.mp this with k|k;·rw[e]at k;exact a (List.append_cancel_right k)
 ·obtain⟨v,hv,k⟩:=aE8.mp k;rw[e]at k;have:=List.append_cancel_right k;exact b (this▸(List.mem_filter.mp hv).1)
def alC{z:mG}{S:SnV}(C:∀T,∀s∈z.go T,Nm s.C)(B:(aW z.K z.fs z.sc []).1.1=S){n:Nat}{b:List Wp}{N:jo×List aQ}(j:∀w∈b,Nm w.C)(h:uB z n b [] []=J N):NmQ z N:=by
 refine JO (zz:=z) (I:=NmI z S) (Q:=NmQ z) (λb vs F hI _=>?_) n b [] [] N ⟨j,(λ_ h=>by cases h),.inl ⟨w8,w8⟩⟩ h;obtain⟨i1,i2,d⟩:=hI;unfold qX;cases D:b.getLast? with
 |none=>exact NmQ.of i2 d
 |some w=>
  have G:w∈b:=List.mem_of_getLast? D;have l:=i1 w G;have dl:∀w∈b.dropLast,Nm w.C:=λw E=>i1 w ((List.dropLast_sublist b).subset E);dsimp only;by_cases i:w.C∈vs;·rw[V i];exact⟨dl,i2,d⟩
  rw[P i];by_cases m:z.O<=vs.length;·rw[V m];exact NmQ.of i2 d
  rw[P m];by_cases o:z.L<w.L;·rw[V o];exact NmQ.of i2 d
  rw[P o];by_cases e:vs=[]/\(aW z.K z.fs z.sc F).1.2≠0
  ·rw[V e];rcases d with⟨e1,e2⟩|⟨e1,_⟩
   ·subst e2;have k:=xZ z.K z.fs z.sc [] [];rw[aB3]at k;refine⟨λv hv=>?_,.inr ⟨by simp,(aW z.K z.fs z.sc []).1.1,(aW z.K z.fs z.sc []).1.2,k,?_⟩⟩;·rw[e1]at hv;rw[aC7.mp hv];exact l
    ·rw[P e.2];exact Xb _ _ _ _ λf hf=>by cases hf
   ·exact absurd e.1 e1
  rw[P e];obtain⟨F1,e1,s1,n1⟩:∃F1,F1=oN z vs F/\yu z S F1/\F1.map (·.C)=Uy S z.rc vs:=by
   rcases d with⟨a1,a2⟩|⟨a1,a2,a3⟩
   ·subst a1 a2;refine⟨_,w8,?_,?_⟩;·have k:=xZ z.K z.fs z.sc [] [];rw[aB3]at k;unfold yu oN;rw[V w8,k];have A:(aW z.K z.fs z.sc []).1.2=0:=Decidable.byContradiction λh=>e ⟨w8,h⟩;rw[<-B,<-A]
    ·unfold oN;rw[V w8];exact Xb _ _ _ _ λf hf=>by cases hf
   ·exact⟨_,w8,by unfold oN;rw[P a1];exact a2,by unfold oN;rw[P a1];exact a3⟩
  rw[<-e1];unfold JS;have y:=al7 s1 w.C w.ak w.al (avP n1 i l.2);obtain⟨u,H,_⟩:=agK s1 w.C w.ak w.al;generalize dS z.K z.fs z.rc z.sc w.C w.ak w.al F1=t at*;have s2:yu z S t.2:=by rw[H];exact s1.ext u
  have g:t.2.map (·.C)=Uy S z.rc (vs++[w.C]):=by
   rw[y,n1];unfold Uy;rw[List.filter_append,List.map_append,a05];congr 2;by_cases c:ahF S z.rc w.C=eT;·rw[V c,List.filter_cons_of_pos c];rfl
   ·rw[P c,List.filter_cons_of_neg c];rfl
  have ne:vs++[w.C]≠[]:=(by simp);have v2:∀v∈vs++[w.C],Nm v:=λv hv=>by
   rcases aE4.mp hv with hv|hv;·exact i2 v hv
   ·rw[aC7.mp hv];exact l
  unfold FK;by_cases p:t.1.2≠0
  ·rw[V p];by_cases q:w.C≠rW/\skp t.1.2=eT;·rw[V q];exact⟨dl,v2,.inr ⟨ne,s2,g⟩⟩
   ·rw[P q];exact NmQ.of (S:=S) v2 (.inr ⟨ne,s2,g⟩)
  ·rw[P p];cases z.fd t.1.1 with
   |some N=>exact NmQ.of (S:=S) v2 (.inr ⟨ne,s2,g⟩)
   |none=>
    refine⟨λx a=>?_,v2,.inr ⟨ne,s2,g⟩⟩;unfold QQ at a;rcases aE4.mp a with a|a
    ·split at a;·cases a
     ·exact dl x a
    ·obtain⟨s,hs,rfl⟩:=aE8.mp a;exact C _ s (List.mem_reverse.mp hs)
def aln{a:Bool}{R:jR}{now:E}{z:mG}(b:∀T,∀s∈z.go T,Nm s.C){n:Nat}{d:jo×y aQ}(h:uG a R now z n []=J d):NmQ z d:=by
 unfold uG at h;split at h;·cases h;exact⟨(λ_ h=>by cases h),.inl ⟨w8,w8⟩⟩
 split at h;·cases h;exact⟨(λ_ h=>by cases h),.inl ⟨w8,w8⟩⟩
 ·exact alC b w8 (λw c=>by rw[aC7.mp c];exact⟨by show role rW=eT;decide,by show rW≠oP;decide⟩) h
def alj{b:Bool}{R:jR}{now:E}{z:mG}{n f:Nat}{F:y aQ}{i e:jo×y aQ}(h:uG b R now z n F=J i)(a:uG b R now z f i.2=J e):e=i:=by
 unfold uG at h a;by_cases c:b=eF;·rw[V c]at h a;cases h;cases a;rfl
 rw[P c]at h a;by_cases d:R.bx<=now;·rw[V d]at h a;cases h;cases a;rfl
 rw[P d]at h a;have:=alA (X:=[]) h (by rw[aB3];exact a);rw[this,aB3]
noncomputable section
def aY:KC:=(.mk ?k:LsA 4 [] 0).1
attribute [local irreducible] aY
def eu:KC:=(.mk ?k:LsA 4 [aY] 1).1
attribute [local irreducible] eu
def jL:KF:=(.mk ?k:KsA 4 [aY,eu]).1
end
set_option maxHeartbeats 4000000
variable{C C1:Ctx}
def amB{C:Ctx}{av:XA->AV}{n0 k d sz:Nat}{x:XA}{O:St}:aF C av n0 O (.gD k d sz x)=if d<n0/\(av x).cP.length=sz/\(av x).cP.all AV.Q then J (.ev (.da (z O) 0) (O++[.cP (av x).cP ⟨eF,U⟩]))else U:=w8
def au9(S:SnV)(rc:E)(w:y w9):∃(l:y AV) (m d:E),aa4 (nZ S w) rc=.de [.cX l,.cQ r m,.cQ .u8 d]/\z l=4/\l.all AV.Q=eT/\k9 0 (.cP l ⟨eF,U⟩)=eT/\(d=0↔ahF S rc w=eT):=by
 unfold aa4 ahF;cases nZ S w with
 |none=>exact⟨_,_,_,w8,w8,w8,w8,by simp⟩
 |some p=>
  dsimp only;have c:k9 0 (.cP p.B ⟨eF,U⟩)=eT:=by rw[k9];exact oZ.below p
  by_cases a:p.I<0;·rw[V a];exact⟨_,_,_,w8,w8,w8,c,by simp[a]⟩
  ·rw[P a];by_cases b:p.I>rc;·rw[V b];exact⟨_,_,_,w8,w8,w8,w8,by simp;omega⟩
   ·rw[P b];exact⟨_,_,_,w8,w8,w8,c,by simp;omega⟩
def ajZ (H:aaW C) (S:SnV) (hs:Mc S) (c:kZ) (a x0 s0 lo:Nat) (lv:AV) (r0 r1 r2 r3 r4 r5 Q R V X j:AV) (vs:List (List w9)) (hv:z vs<=80000000) (N:∀v∈vs,z v<=1000000) (K:a<lo) (P:x0<lo) (I:s0<lo):∀(n i:Nat),i+n=z vs->∀(Y:St) (o:AV) (l:List (List w9)),z l<=i+1->Ok Y->lo<=z Y->Wt Y lo o l->Y[a]?=J (.cP c.B ⟨eF,U⟩)->Y[x0]?=J (.cP [r0,r1,r2,r3,r4,r5,Q,R,V,X,j,.sl (z vs) (vs.flatMap sC)] ⟨eF,U⟩)->Y[s0]?=J (.cP S.B ⟨eF,U⟩)->
  ∃(e:St) (b:AV),aG C (ai C) 137 [3,9,10,11,12,13,14] aY [(3,.da a 0),(9,.da x0 0),(10,lv),(11,o),(12,.da s0 0),(13,.cQ .u8 0),(14,.cQ r i)] Y=J (.dq 0,[(3,.da a 0),(10,lv),(11,b)],e)/\Ok e/\Wt e lo b (l++((vs.drop i).filter (ahF S c.rc)).map (· ++iD))/\(∀k,k<lo->e[k]?=Y[k]?)/\lo<=z e
 |0,i,hi,Y,o,l,hl,ok,A,W,p,g,u=>by have h:¬((i:Int)<(z vs:Int)):=(by omega);refine⟨Y,o,?_,ok,by rw[aC0 (by omega)];simpa using W,λ_ _=>w8,A⟩;rw[aB (he:=w8)];simp only[aY,h,g,bC,AV.cP,EVX,seval]
 |n+1,i,hi,Y,o,l,hl,ok,A,W,p,g,u=>by
  have h:((i:Int)<(z vs:Int)):=(by omega);have h2:i<z vs:=(by omega);have h3:(0:Int)<=i:=(by omega);have hw:=wrS i (by omega);have sl:∀s,z (sC s)=1:=λ_=>w8;have D:=iy sl (a01 h2);have lx:=bz sl vs;have G:vs.drop i=vs[i]::vs.drop (i+1):=aB6 h2;have vl:=N vs[i] (aD5 h2);obtain⟨w,O⟩:∃w,w=vs[i]:=⟨_,w8⟩;rw[<-O]at D G vl;rw[show sC w=[.cU w]from w8,aD2]at D;obtain⟨pl,m,d,e1,e2,e3,e4,e5⟩:=au9 S c.rc w;have q:=ae0 H S hs w c.rc Y ok;rw[e1]at q;have B:Ok (Y++[.cP pl ⟨eF,U⟩]):=ok.H (by rw[a08,AO.Y (a97 _) _ e4];rfl);have cc:c.B=[.cU c.nm,.cU c.am,.sl (z c.fs) (c.fs.flatMap pC),.cW c.h,.sl (z c.l) (c.l.flatMap iH.B),.cQ r c.aw,.cQ r c.b0,.cQ r c.b1,.cQ r c.rc,.cQ r c.sc]:=w8;have sc:S.B=[.cQ r S.bU,.cQ r S.bx,.sl (z S.ay) (S.ay.flatMap oZ.B)]:=w8;have t:=p;have x:=u;unfold XQ at q;rw[cc]at p;rw[sc]at u q;have pt:pl.take 4=pl:=a98 (by omega);have y:=λL=>aj g L;by_cases E:d=0
  ·have cb:=e5.mp E;subst E;have ad:uJ .add w [46,106,115,111,110]=J (.cU (w++iD)):=if_neg (by simp;omega);obtain⟨v1,T,a1,a2,a3,a4,a5⟩:=(W.eD [.cP pl ⟨eF,U⟩]).hu B (w++iD) (by omega) (by simp;omega);have F:∀k,k<lo->T[k]?=Y[k]?:=λk f=>by rw[a4 k f,aC1 (by omega)]
   obtain⟨e,b,q1,q2,q3,q4,q5⟩:=ajZ H S hs c a x0 s0 lo lv r0 r1 r2 r3 r4 r5 Q R V X j vs hv N K P I n (i+1) (by omega) T v1 (l++[w++iD]) (by simp;omega) a2 a5 a3 (by rw[F _ K];exact t) (by rw[F _ P];exact g) (by rw[F _ I];exact x);refine⟨e,b,?_,q2,?_,λk f=>by rw[q4 k f,F k f],q5⟩;·rw[aB (he:=w8)];generalize f:aG C (ai C) 137 [3,9,10,11,12,13,14] aY=kk at*;simp only[aY,h,h2,h3,hw,D,lx,p,g,y,u,q,e2,e3,ad,a1,pt,q1,amB,bC,AV.cP,fl5,a05,a88,EVX,seval]
   ·rw[G,List.filter_cons_of_pos cb,aC9];simpa[aB2]using q3
  ·have cb:¬ahF S c.rc w=eT:=λh=>E (e5.mpr h);have M:(d==0)=eF:=(by simpa using E);obtain⟨e,b,q1,q2,q3,q4,q5⟩:=ajZ H S hs c a x0 s0 lo lv r0 r1 r2 r3 r4 r5 Q R V X j vs hv N K P I n (i+1) (by omega) (Y++[.cP pl ⟨eF,U⟩]) o l (by omega) B (by simp;omega) (W.eD _) (aj t _) (aj g _) (aj x _);refine⟨e,b,?_,q2,by rw[G,List.filter_cons_of_neg cb];exact q3,λk f=>by rw[q4 k f,aC1 (by omega)],q5⟩;rw[aB (he:=w8)];generalize f:aG C (ai C) 137 [3,9,10,11,12,13,14] aY=kk at*;simp only[aY,h,h2,h3,hw,D,lx,p,g,y,u,q,e2,e3,M,q1,amB,bC,AV.cP,fl5,a05,a88,EVX,seval]
def awk(c:kZ)(F:y aQ)(x:z F<=1000000)(l:y (y w9))(e:F.map (·.C)=l)(a lo:Nat)(Y:St)(k:AV)(W:Wt Y lo k l)(d:Y[a]?=J (.cP c.B ⟨eF,U⟩)):∀n i,i+n=z F->aG C (ai C) 137 [3,10,11,18] eu [(3,.da a 0),(10,.sl (z F) (F.flatMap (qP c.nm))),(11,k),(18,.cQ r i)] Y=J (.dq 2,[],Y)
 |0,i,hi=>by have h:¬((i:E)<(z F:E)):=(by omega);rw[aB (he:=w8)];simp only[eu,h,bC,EVX,seval]
 |n+1,i,hi=>by
  have h:((i:E)<(z F:E)):=(by omega);have h2:i<z F:=(by omega);have h3:(0:E)<=i:=(by omega);have m:=wrS i (by omega);have ll:z l=z F:=(by rw[<-e,aD8]);have b:i<z l:=(by omega);have sl:∀s,z (sC s)=1:=λ_=>w8;have u:∀f,z (qP c.nm f)=4:=λ_=>w8;have w:l[i]?=J (F[i]).C:=by rw[<-e,aF7,a01 h2];rfl
  have g:=iy u (a01 h2);have j:=iy sl w;have p:=bz u F;have t:=bz sl l;have o:=awk c F x l e a lo Y k W d n (i+1) (by omega);generalize F[i]=f at*;rw[show sC f.C=[.cU f.C]from w8,aD2]at j;rw[show qP c.nm f=[.cU c.nm,.cU f.C,.cQ r f.cm,.cQ r f.aq]from w8]at g;have v:c.B=[.cU c.nm,.cU c.am,.sl (z c.fs) (c.fs.flatMap pC),.cW c.h,.sl (z c.l) (c.l.flatMap iH.B),.cQ r c.aw,.cQ r c.b0,.cQ r c.b1,.cQ r c.rc,.cQ r c.sc]:=w8;rw[v]at d;rw[aB (he:=w8)];generalize B:aG C (ai C) 137 [3,10,11,18] eu=D at*;rcases W with⟨rfl,_⟩|⟨_,q,rfl,A,_⟩;·simp only[eu,h,h2,b,h3,m,g,j,p,t,d,o,bC,AV.cP,aD2,a05,a88,EVX,seval]
  ·simp only[eu,h,h2,b,h3,m,g,j,p,t,d,A,o,bC,AV.cP,aC4,aD2,a05,a88,EVX,seval]
def apR(a x0 s0:Nat)(lv e:AV)(b:E)(f:b≠0)(r0 r1 r2 r3 r4 r5 g i j k c:AV)(vs:y (y w9))(Y:St)(d:Y[x0]?=J (.cP [r0,r1,r2,r3,r4,r5,g,i,j,k,c,.sl (z vs) (vs.flatMap sC)] ⟨eF,U⟩)):aG C (ai C) 137 [3,9,10,11,12,13,14] aY [(3,.da a 0),(9,.da x0 0),(10,lv),(11,e),(12,.da s0 0),(13,.cQ .u8 b),(14,.cQ r 0)] Y=J (.dq 0,[(3,.da a 0),(10,lv),(11,e)],Y):=by
 have hb:(b==0)=eF:=by simpa using f
 rw[aB (he:=w8)];by_cases h:(0:E)<(z vs:E);·simp only[aY,h,hb,d,bC,AV.cP,EVX,seval]
 ·simp only[aY,h,d,bC,AV.cP,EVX,seval]
def Tz (H:ahn C C1) (hP:aaW C) (hO:Has C su jL) (c:kZ) (path:List w9) (b:Nj) (O:St) (I:Ok O):
  ai C su [.cX c.B,.cU path,.cX b.B] O=J (.cW eT,O):=by
 have cb:k9 0 (.cP c.B ⟨eF,U⟩)=eT:=c.af.cl;have bb:k9 0 (.cP b.B ⟨eF,U⟩)=eT:=w8;have K:Ok (O++[.cP c.B ⟨eF,U⟩,.cP b.B ⟨eF,U⟩]):=I.H (by simp only[a08,aC6,cb,bb,aD0]);have ty:=λb=>bu I (vs:=[.cW b]) w8;have j:=aax H.hV c path _ K;have o:=H.g8 _ K;have bc:b.B=[.cQ r b.O,.cQ r b.L,.cQ r b.rc,.cQ r b.sc]:=w8;have cc:c.B=[.cU c.nm,.cU c.am,.sl c.fs.length (c.fs.flatMap pC),.cW c.h,.sl c.l.length (c.l.flatMap iH.B),.cQ r c.aw,.cQ r c.b0,.cQ r c.b1,.cQ r c.rc,.cQ r c.sc]:=w8;have hn:hand eF [.cX c.B,.cU path,.cX b.B] O=J ([.cX c.B,.cU path,.cX b.B],O):=NVs.E (.cV (.cX c.af) (.cV (.cU _) (.cV (.cX (aan b)) .db))) O;rw[hO.go hn];cases cl:Qi c path
 case true=>rw[cl]at j;rw[bc]at j o⊢;rw[cc]at j o⊢;simp only[jL,j,o,ty,aA,aI,AV.cP,AV.Q,EVX,seval]
 rw[cl]at j;obtain⟨v1,v2,v3,v4,v5,v6⟩:=JC cl;obtain⟨R,e,bv,aR,hK,mk⟩:=ags H.eM cl;rcases mk c.aw c.fs v3 v5 _ K with⟨m1,s⟩|⟨m1,p,T,s,m⟩;·have aq:(yV c.nm c.fs c.rc c.sc e !=0)=eT:=(by simpa using m1);change ai C dJ [.cX c.B] _=_ at s;rw[bc]at j o s⊢;rw[cc]at j o s⊢;simp only[jL,j,o,aq,s,ty,bC,aA,aI,AV.cP,AV.Q,j0,EVX,seval]
 change ai C dJ [.cX c.B] _=_ at s;obtain⟨p1,p2,p3,p4,p5,p6,p7,p8⟩:=m.of;change p.rc=c.rc at p5;change p.nm=c.nm at p7;have lT:=m.dt;have l1:(O++[AO.cP c.B ⟨eF,U⟩,.cP b.B ⟨eF,U⟩]).length=O.length+2:=by simp
 rw[l1]at lT;have pl:∀i,p.b9 i->O.length+2<=i/\i<T.length:=λi hi=>⟨by have:=m.ah i hi;rw[l1]at this;exact this,Rp.lt m.az hi⟩;have old:∀i x,i<O.length+2->(O++[AO.cP c.B ⟨eF,U⟩,.cP b.B ⟨eF,U⟩])[i]?=J x->T[i]?=J x:=λi x hi h=>by rw[QL m.bR (by rw[l1];exact hi)];exact h
 have cT:T[O.length]?=J (.cP c.B ⟨eF,U⟩):=old _ _ (by omega) (by rw[aA];rfl);have bT:T[O.length+1]?=J (.cP b.B ⟨eF,U⟩):=old _ _ (by omega) (by rw[aI];rfl);obtain⟨az,go,fd,gn,step⟩:=Ov H.jN path v6;obtain⟨x,F,S,ay,k1,s1,t1,V,h1,sm1⟩:=step m.bN (by rw[m.F];decide) m.ok m.az b;have lS:=t1.dt;have fl:=(aaH h1 (Ah m.bN.bV.e6 m.bN.bV.am m.bN.cH p.sc).1.dt).1;rw[m.F]at fl h1;have fl:F.length<=8193:=by simpa using fl
 have nq:=aln gn.1 h1;have nx:=jo.af x sm1.br.af;have xb:k9 0 (.cP x.B ⟨eF,U⟩)=eT:=nx.cl;have Y:Ok (S++[.cP x.B ⟨eF,U⟩]):=t1.ok.H (by rw[a08,xb];rfl)
 have aX:=Rp.eD t1.az [.cP x.B ⟨eF,U⟩];have E:=yj H.cH Y aX V.dd;change ai C fU [.da p.r 0] _=J (.sl F.length (F.flatMap (qP p.nm)),_)at E;rw[p7]at E;have Z:∀i,(p.to F ay).b9 i->O.length+2<=i/\i<S.length:=λi hi=>⟨by
  rcases t1.eM i hi with h|h;·exact(pl i h).1
  ·omega,Rp.lt t1.az hi⟩
 have a:∀i x,i<O.length+2->T[i]?=J x->S[i]?=J x:=λi x hi h=>t1.bp i x (λW=>by have:=(pl _ W).1;omega) h;have cS:=a _ _ (by omega) cT;have bS:=a _ _ (by omega) bT;obtain⟨y,F2,A,aa,k2,s2,t2,gd2,h2,ba⟩:=step V (by show F.length<=_;omega) Y aX b;change ai C lZ [.da p.r 0,.cU path,.cX b.B] _=_ at s2;change uG az p.R p.aw (Io _ p b go fd) k2 F=_ at h2;have eq:=alj h1 h2;obtain⟨rfl,rfl⟩:y=x/\F2=F:=⟨congrArg Prod.fst eq,congrArg Prod.snd eq⟩;have al:=t2.dt;have lX:(S++[AO.cP y.B ⟨eF,U⟩]).length=S.length+1:=by simp
 have ax:∀i,(p.to F2 aa).b9 i->(O.length+2<=i/\i<S.length)\/S.length+1<=i:=λi hi=>by
  rcases t2.eM i hi with h|h;·exact .inl (Z i h)
  ·rw[lX]at h;exact .inr h
 have d:∀i x,(i<O.length+2\/i=S.length)->(S++[AO.cP y.B ⟨eF,U⟩])[i]?=J x->A[i]?=J x:=λi x hi h=>t2.bp i x (λW=>by have:=Z _ W;omega) h;have c2:=d _ _ (.inl (by omega)) (aj cS _);have x2:=d S.length _ (.inr w8) (by rw[aA];rfl);have f1:=ah8 H.told y sm1.br _ t2.ok;have P:=Vg H.cq y sm1.br (by have:=sm1.bb;omega) _ t2.ok;have Q:=yj H.cH t2.ok t2.az gd2.dd;change ai C fU [.da p.r 0] _=J (.sl F2.length (F2.flatMap (qP p.nm)),_)at Q;rw[p7]at Q;have f5:=Oo H.lU c.nm F2 (by omega) A;have O2:∀i,i<O.length->A[i]?=O[i]?:=λi h=>by have e0:O[i]?=J O[i]:=a01 h;rw[d i _ (.inl (by omega)) (aj (a i _ (by omega) (old i _ (by omega) (aj e0 _))) _),e0]
 have ab:∀X:St,(∀i,i<O.length->X[i]?=A[i]?)->tidy O.length [.cW eT] X=O:=λX hX=>jP I w8 (by
  apply aD6;intro i;by_cases h:i<O.length;·rw[List.getElem?_take_of_lt h,hX i h,O2 i h]
  ·rw[aB9 (by rw[aD7];omega),aB9 (by omega)])
 have z:((0:Int) !=0)=eF:=w8;obtain⟨a1,a2,a3,a4,a5,a6,a7,yc,z1,z2,z3,z4,z5,z6,z7⟩:=agI y sm1.br;have gx:=λL=>aU (w8:S.length=_) L;have sx:=λL z=>fV (w8:S.length=_) L z;obtain⟨nv,nq⟩:=nq;by_cases hv:y.bb=[]
 ·have hF:F2=[]:=by
   rcases nq with⟨_,h⟩|⟨h,_⟩;·exact h
   ·exact absurd hv h
  have vl:y.bb.length=0:=by rw[hv];rfl
  have M:=ab A λ_ _=>w8;have ad:F2.length=0:=by rw[hF];rfl
  rw[yc]at s1 s2 f1 P x2 E;rw[bc]at j o s s1 s2 bT bS⊢;rw[cc]at j o s cT cS c2⊢;have G:=λL=>aj bS L;rw[vl]at s1 s2 f1 P x2 E;rw[ad]at E Q f5;simp only[jL,j,o,z,s,bT,s1,E,G,gx,sx,s2,x2,f1,P,Q,f5,M,z1,z2,z3,z4,z5,z6,z7,JH,Ja,jT,bC,aA,aS,aI,cZ,AV.cP,fl5,splice,List.set,j0,EVX,seval]
 ·obtain⟨t,cz,k0,nm⟩:=(nq.resolve_left λh=>hv h.1).2;obtain⟨g,aM,q1,q2,q3⟩:=PG H.jN.ku gd2.bV gd2.cH t2.ok t2.az (by show F2.length<_;omega);have t3:=Req.o5 (p:=p.to F2 aa) q3 q2;have aK:=t3.dt;have sm:=(Ah gd2.bV.e6 gd2.bV.am gd2.cH p.sc).1.ff;change ai C gQ [.da p.r 0] A=J (.de [.cX (aW (bv.K c.aw) p.fs p.sc F2).1.1.B,.cQ .u8 (aW (bv.K c.aw) p.fs p.sc F2).1.2],g)at q1;change Mc (aW (bv.K c.aw) p.fs p.sc F2).1.1 at sm;change aW (bv.K c.aw) p.fs p.sc F2=((t,cz),F2)at k0;rw[k0]at q1 sm;have f:∀i x,(i<O.length+2\/i=S.length)->A[i]?=J x->g[i]?=J x:=λi x hi h=>t3.bp i x (λW=>by have:=ax _ W;omega) h;have c3:=f _ _ (.inl (by omega)) c2;have x3:=f S.length _ (.inr w8) x2;have an:=al;rw[lX]at an;obtain⟨u,w⟩:∃u,u=g++[AO.cP t.B ⟨eF,U⟩]:=⟨_,w8⟩;have aL:u.length=g.length+1:=by rw[w];simp
  have au:Ok u:=w▸t3.ok.H (by
   have:k9 0 (.cP t.B ⟨eF,U⟩)=eT:=by have:=(aaF t).cl;unfold XQ at this;rw[below]at this;rw[k9];exact this
   rw[a08,AO.Y (a97 _) _ this];rfl)
  have g4:∀i x,g[i]?=J x->u[i]?=J x:=λi x h=>w▸aj h _;have vl:∀v∈y.bb,v.length<=1000000:=λv hm=>by have:=(nv v hm).dt;omega
  have W0:Wt u (g.length+1) (.eB 1 [.cU (oP++iD)]) [oP++iD]:=.inl ⟨w8,by decide⟩;have ac:=sm1.bb;have s4:u[g.length]?=J (.cP t.B ⟨eF,U⟩):=by rw[w,aA];rfl
  obtain⟨D,n,l,L1,N,el,frm⟩:∃(D:St) (n:AV) (l:List (List w9)),aG C (ai C) 137 [3,9,10,11,12,13,14] aY [(3,.da O.length 0),(9,.da S.length 0),(10,.sl F2.length (F2.flatMap (qP c.nm))),(11,.eB 1 [.cU (oP++iD)]),(12,.da g.length 0),(13,.cQ .u8 cz),(14,.cQ r 0)] u=J (.dq 0,[(3,.da O.length 0),(10,.sl F2.length (F2.flatMap (qP c.nm))),(11,n)],D)/\Wt D (g.length+1) n l/\F2.map (·.C)=l/\∀k,k<g.length+1->D[k]?=u[k]?:=by
   have x4:=g4 _ _ x3;rw[yc]at x4;by_cases hz:cz=0;·subst hz;obtain⟨D,n,r1,r2,r3,r4,r5⟩:=ajZ hP t sm c O.length S.length g.length (g.length+1) (.sl F2.length (F2.flatMap (qP c.nm))) _ _ _ _ _ _ _ _ _ _ _ y.bb ac vl (by omega) (by omega) (by omega) y.bb.length 0 (by omega) u _ [oP++iD] (by simp) au (by omega) W0 (g4 _ _ c3) x4 s4;refine⟨D,n,_,r1,r3,?_,r4⟩;rw[if_pos w8]at nm;rw[nm,aB8];unfold Uy;change _=(oP++iD)::_;rw[<-p5];rfl
   ·exact⟨u,_,_,apR _ _ _ _ _ cz hz _ _ _ _ _ _ _ _ _ _ _ _ _ x4,W0,by rw[if_neg hz]at nm;exact nm,λ_ _=>w8⟩
  have L2:=awk (C:=C) c F2 (by omega) l el O.length _ D n N (by rw[frm _ (by omega)];exact g4 _ _ c3) F2.length 0 (by omega);simp only[aB1]at L2;have ll:l.length=F2.length:=(by rw[<-el,aD8]);have ah:((F2.length:Int) !=(l.length:Int))=eF:=by rw[ll];simp
  have M:=ab D λi hi=>by rw[frm i (by omega)];have e0:A[i]?=J A[i]:=a01 (by omega);rw[g4 i _ (f i _ (.inl (by omega)) e0),e0]
  have ak:((y.bb.length:Int)==0)=eF:=by have:y.bb.length≠0:=λh=>hv (aB7 h);simpa using this
  have ws:oP++iD=[115,110,97,112,115,104,111,116,46,106,115,111,110]:=w8;have aD:t.B=[.cQ r t.bU,.cQ r t.bx,.sl t.ay.length (t.ay.flatMap oZ.B)]:=w8;have af:=λL=>aU (w8:g.length=_) L;have aE:=λL z=>fV (w8:g.length=_) L z;subst w;rw[aD]at q1 L1;rw[ws]at L1;rw[yc]at s1 s2 f1 P x2 E;rw[bc]at j o s s1 s2 bT bS⊢;rw[cc]at j o s cT cS c2⊢;have G:=λL=>aj bS L;rcases N with⟨rfl,_⟩|⟨_,q,rfl,_⟩<;>simp only[jL,j,o,z,s,bT,s1,E,G,gx,sx,s2,x2,f1,P,Q,f5,q1,af,aE,L1,L2,ah,ak,M,z1,z2,z3,z4,z5,z6,z7,JH,Ja,jT,bC,aA,aS,aI,cZ,AV.cP,fl5,splice,List.set,j0,EVX,seval]
end Go.Ev
namespace Go.Proofs.YtaaomenfchndjaaGreatDoor
open List renaming length→z
open Option renaming some→J, none→U
open Bool renaming true→eT, false→eF
open Go.IntKind renaming i64→r
open Go.Ev Go.RowKit
noncomputable section
def ake(u1 u2:TypeId)(c:kZ)(p:y w9)(b:Nj):ai (CL u1 u2) su [.cX c.B,.cU p,.cX b.B] []=J (.cW eT,[]):=
 Tz law9 (as7 eT).ct (oQ (b:=eT)) c p b [] ok0
end
end Go.Proofs.YtaaomenfchndjaaGreatDoor
