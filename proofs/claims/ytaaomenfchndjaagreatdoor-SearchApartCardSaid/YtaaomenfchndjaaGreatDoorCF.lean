/- Code. No conditions. -/
import Derived.Test.YtaaomenfchndjaaGreatDoorCE
import Derived.Shelf.SlSortCmp.WholeK
set_option linter.unusedVariables false
set_option linter.unusedSimpArgs false
set_option linter.defProp false
set_option maxHeartbeats 4000000
set_option maxRecDepth 1000000
open _root_ renaming Int→W,rfl→w8,Nat→R,List→F,absurd→Y,Option→Q,getElem!_pos→j7,if_pos→j9,if_neg→X1,and_self→Z0,of_decide_eq_false→b,decide_eq_true_eq→Z3,Bool→I,UInt8→L,congrArg→K6,of_decide_eq_true→c,if_true→B,decide_eq_false→g,String→H
open Go.Ev renaming EVX→X,splice→w9,ofBytes→p,below→j8,a03→X2,Has→D,a08→K,elC→Z1,a94→K1,a09→K2,a01→P,KsA→a,a96→K3,wrS→N,tidy→K5,a05→K7,hand→K8,a02→E,Ctx→y
open Go.Lib renaming compareBytes→e,bitLen→K9
open Go.Ev.AO renaming below→k9
open Array renaming range→j0,getElem?_append_left→Z2
open Int renaming ofNat→j6,natCast_zero→Z6,eq_ofNat_of_zero_le→K0,lt_irrefl→K4
open Go.IntKind renaming wrap_i64→T
open Classical renaming axiomOfChoice→w
open Go renaming FuncId→x
namespace Go.Ev
open List renaming length→z
open Option renaming some→J, none→U
open Go.IntKind renaming i64→r
open Bool renaming true→eT, false→eF
variable{C:Ctx}
structure apg(C:Ctx):Prop extends RNewHas C where
 nF:ajJ C
 cl:∀fs:List PS,fs.length<=1000->Vw C (.sl fs.length (fs.flatMap pC)) fs none
 hA:Has C dJ uj
def auJ (H:apg C) (c:kZ) (x:z c.l<=60) (b:z c.fs<=1000) (R:jR) (e:W)
  (v:∀(O:St) (o:Nat),Ok O->O[o]?=J (TD c.h c.l)->ai C D8 [.da o 0,.cU c.am] O=J (.de [.cX (acG R e).B,.cQ r e],O))
  {Y:St} (d:Ok Y):
  (yV c.nm c.fs c.rc c.sc e≠0/\ai C dJ [.cX c.B] Y=J (.de [.ep,.cQ r (yV c.nm c.fs c.rc c.sc e)],Y))\/
  (yV c.nm c.fs c.rc c.sc e=0/\∃cB s m o a T,ai C dJ [.cX c.B] Y=J (.de [.da cB 0,.cQ r 0],T)/\Ok T/\bH T c.h c.l R c.aw c.rc c.sc c.nm c.fs [] cB s m o a U/\z Y<=cB/\z Y<=s/\z Y<=m/\z Y<=o/\(∀q,a=J q->z Y<=q)/\T.take (z Y)=Y):=by
 have cb:k9 0 (.cP c.B FZ)=eT:=c.af.cl;have hb:k9 0 aeu=eT:=w8;have y:k9 0 (YU c.l)=eT:=by have:=adc c.l;simp[YU,k9,ae,j8,this]
 have e1:=λY=>auA H.nF Y;have e2:=λY=>atj H.nF c.l x Y;have ce:c.B=[.cU c.nm,.cU c.am,.sl (z c.fs) (c.fs.flatMap pC),.cW c.h,TB c.l,.cQ r c.aw,.cQ r c.b0,.cQ r c.b1,.cQ r c.rc,.cQ r c.sc]:=w8;rw[H.hA.go (NVs.E (.cV (.cX c.af) .db) _)];cases k:c.h
 ·have h:Ok (Y++[.cP c.B FZ,aeu,YU c.l]):=d.H (by simp only[K,aC6,cb,hb,y];rfl);have N:=aiV H.toRNewHas c.h c.l R e c.am v h (z Y+2) (by rw[aI,k];rfl) c.nm (fv:=.sl (z c.fs) (c.fs.flatMap pC)) (fs:=c.fs) (fo:=U) (.inr (.inr ⟨w8,w8⟩)) (H.cl c.fs b) b c.aw c.b0 c.b1 c.rc c.sc;rw[k]at N;rw[ce,k]at N⊢;unfold TB at*;rcases N with⟨g,f⟩|⟨g,cB,s,m,a,L,f,i,n,p,t,u,l⟩;·left;refine⟨g,?_⟩;have j:=λL=>bu d (vs:=[.ep,.cQ r (yV c.nm c.fs c.rc c.sc e)]) w8 L;simp only[uj,e1,e2,f,j,AV.cP,AV.Q,w9,X,seval]
  ·right;simp only[X2,K1,K3]at p t u l;refine⟨g,cB,s,m,z Y+2,a,_,?_,i,n,by omega,by omega,by omega,by omega,λq e=>by have:=l q e;omega,by simp⟩;have nb:¬cB<z Y:=(by omega);have j:∀T,K5 (z Y) [.da cB 0,.cQ r 0] T=T:=λT=>qY (by simp[ae,j8,nb]) _;simp only[aB2,K7,a88]at f;simp only[uj,e1,e2,f,j,AV.cP,AV.Q,w9,aB2,K7,a88,X,seval]
 ·have h:Ok (Y++[.cP c.B FZ,aeu]):=d.H (by simp only[K,aC6,cb,hb];rfl);have N:=aiV H.toRNewHas c.h c.l R e c.am v h (z Y+1) (by rw[aI,k];rfl) c.nm (fv:=.sl (z c.fs) (c.fs.flatMap pC)) (fs:=c.fs) (fo:=U) (.inr (.inr ⟨w8,w8⟩)) (H.cl c.fs b) b c.aw c.b0 c.b1 c.rc c.sc;rw[k]at N;rw[ce,k]at N⊢;unfold TB at*;rcases N with⟨g,f⟩|⟨g,cB,s,m,a,L,f,i,n,p,t,u,l⟩;·left;refine⟨g,?_⟩;have j:=λL=>bu d (vs:=[.ep,.cQ r (yV c.nm c.fs c.rc c.sc e)]) w8 L;simp only[uj,e1,e2,f,j,AV.cP,AV.Q,w9,X,seval]
  ·right;simp only[X2,K1,K3]at p t u l;refine⟨g,cB,s,m,z Y+1,a,_,?_,i,n,by omega,by omega,by omega,by omega,λq e=>by have:=l q e;omega,by simp⟩;have nb:¬cB<z Y:=(by omega);have j:∀T,K5 (z Y) [.da cB 0,.cQ r 0] T=T:=λT=>qY (by simp[ae,j8,nb]) _;simp only[aB2,K7,a88]at f;simp only[uj,e1,e2,f,j,AV.cP,AV.Q,w9,aB2,K7,a88,X,seval]
structure apf(C:Ctx):Prop where
 fR:Has C xh wS
 o6:Has C uy nK
 hV:Has C Jg ui
def Qi(c:kZ)(path:LU):I:=U6 c.nm c.am c.fs||(xA c.l||decide ((z path:W)>1000))
def aax(H:apf C)(c:kZ)(path:LU)(O:St)(a:Ok O):ai C Jg [.cX c.B,.cU path] O=J (.cW (Qi c path),O):=by
 rw[H.hV.go (NVs.E (.cV (.cX c.af) (.cV (.cU _) .db)) _)];have cb:k9 0 (.cP c.B FZ)=eT:=c.af.cl;have e:Ok (O++[.cP c.B FZ]):=a.H (by rw[K,cb];rfl);have d:∀b L,K5 (z O) [.cW b] (O++L)=O:=λb L=>bu a w8 L;have q1:=OZ H.fR c.nm c.am c.fs _ e;have q2:=U4 H.o6 c.l (O++[.cP c.B FZ]);have ce:c.B=[.cU c.nm,.cU c.am,.sl (z c.fs) (c.fs.flatMap pC),.cW c.h,TB c.l,.cQ r c.aw,.cQ r c.b0,.cQ r c.b1,.cQ r c.rc,.cQ r c.sc]:=w8;rw[ce]at q1 q2⊢;unfold TB at*;unfold Qi;cases f:U6 c.nm c.am c.fs
 ·rw[f]at q1;cases h2:xA c.l
  ·rw[h2]at q2;by_cases h3:(z path:W)>1000;·rw[decide_eq_true h3];simp only[ui,q1,q2,h3,d,AV.cP,AV.Q,w9,Bool.or_self,Bool.false_or,aH9,X,seval]
   ·rw[g h3];simp only[ui,q1,q2,h3,d,AV.cP,AV.Q,w9,Bool.or_self,Bool.false_or,aH9,X,seval]
  ·rw[h2]at q2;simp only[ui,q1,q2,d,AV.cP,AV.Q,w9,aJ6,Bool.false_or,X,seval]
 ·rw[f]at q1;simp only[ui,q1,d,AV.cP,AV.Q,w9,aJ6,X,seval]
def JC{c:kZ}{path:LU}(h:Qi c path=eF):xA c.l=eF/\z c.l<=60/\z c.fs<=1000/\z c.am<=LB/\ES c.fs/\z path<=LB:=by
 unfold Qi at h;simp only[aH5]at h;obtain⟨a,h2,h3⟩:=h;obtain⟨s1,s2,s3⟩:=ZY a;refine⟨h2,?_,s1,s2,s3,?_⟩;·unfold xA at h2;grind
 ·have:=b h3;unfold LB;omega
structure ajN(C:Ctx):Prop where
 br:Has C jZ mi
 aM:Has C fF fD
 ev:Has C iW pJ
 hH:Has C Bd A8
 cq:Has C Jh IK
end Go.Ev
namespace Go.Ev
open List renaming length→z
open Option renaming some→J, none→U
open Go.IntKind renaming i64→r
open Bool renaming true→eT, false→eF
variable{C C1:Ctx}
structure aaU(C C1:Ctx):Prop where
 di:apg C
 dF:∀(h:Bool) (l:List iH),xA l=false->∀data:LU,data.length<=LB->∃(R:jR) (e:Int),R.ok/\∀(O:St) (o:Nat),Ok O->O[o]?=some (TD h l)->ai C D8 [.da o 0,.cU data] O=some (.de [.cX (acG R e).B,.cQ .i64 e],O)
 e6:∀(h:Bool) (l:List iH),xA l=false->∀(R:jR),R.ok->∃b:IB,∀now:Int,F6 C1 h l R now (b.K now)
def amL (H:aaU C C1) {c:kZ} {path:LU} (cl:Qi c path=eF):∃(R:jR) (e:W),R.ok/\∀b:IB,(∀(now:W),F6 C1 c.h c.l R now (b.K now))->∀(now:W) (fs:F PS),z fs<=1000->ES fs->∀(Y:St),Ok Y->
  (yV c.nm fs c.rc c.sc e≠0/\ai C dJ [.cX {c with aw:=now,fs:=fs}.B] Y=J (.de [.ep,.cQ r (yV c.nm fs c.rc c.sc e)],Y))\/
  (yV c.nm fs c.rc c.sc e=0/\∃(p:Rp) (T:St),ai C dJ [.cX {c with aw:=now,fs:=fs}.B] Y=J (.de [.da p.r 0,.cQ r 0],T)/\adK C1 b {c with aw:=now,fs:=fs} R Y T p):=by
 obtain⟨v1,v2,v3,v4,v5,v6⟩:=JC cl;obtain⟨R,e,a,n⟩:=H.dF c.h c.l v1 c.am v4;refine⟨R,e,a,λb l now fs q t Y d=>?_⟩;rcases auJ H.di {c with aw:=now,fs:=fs} v2 q R e n d with h|⟨g,x,s,m,o,fo,T,j,h2,h3,h4,h5,h6,h7,h8,k⟩;·exact .inl h
 ·refine .inr ⟨g,⟨c.h,c.l,R,now,c.rc,c.sc,c.nm,fs,[],x,s,m,o,fo,U⟩,T,j,h2,h3,⟨w8,w8,w8,w8,w8,w8,w8,w8⟩,w8,λi hi=>?_,k,⟨⟨l _,a,t⟩,?_,?_⟩⟩
  ·rcases hi with rfl|rfl|rfl|rfl|e|e;·exact h4
   ·exact h5
   ·exact h6
   ·exact h7
   ·exact h8 _ e
   ·cases e
  ·exactλf hf=>by cases hf
  ·exact att
end Go.Ev
namespace Go.Ev
open List renaming length→z
open Option renaming some→J, none→U
open Go.IntKind renaming i64→r
open Bool renaming true→eT, false→eF
variable{C:Ctx}{PK:PkI}
def aoN(H:TE C PK):bZ C PK zW (.dp [.cX ae3] .jv):=
 qw H.et w8 λc e=>by
  obtain⟨x,rfl,a⟩:=U2 e;intro O b;cases a with
  |cX _ v a=>obtain⟨d,rfl,_,g⟩:=aau v a;obtain⟨j,q⟩:=aoo H d g.O g.rl g.km g.V g.bR O b;exact⟨_,q,.jv j⟩
def alU:F Sh:=[.cQ r,.ew [.df],.cQ r,.df]
def asV(H:Pm C PK):bZ C PK Di (.dp [.cX alU,.df] (.de [.df,.cQ r])):=
 qw H.fx w8 λd f=>by
  obtain⟨x,y,rfl,a,h2⟩:=agd f;obtain⟨p,rfl,h⟩:=zA h2;intro O c;cases a with
  |cX _ v a=>obtain⟨th,b,rfl,h3⟩:=yD a;obtain⟨v,b,rfl,g,h4⟩:=En h3 w8;obtain⟨ids,rfl,l3,_⟩:=aeD aig g;obtain⟨n,b,rfl,h5⟩:=yD h4;obtain⟨pre,b,rfl,l,h6⟩:=wR h5;rw[Ac h6];obtain⟨s,e,hs,-,q⟩:=ahv H th ids n pre p l h O c;exact⟨_,q,.de _ _ (.cV _ _ _ _ (.df s hs) (.cV _ _ _ _ (.cQ _ _) .db))⟩
def aoO(a:D C Bi Ht)(h2:D C vC nJ):bZ C PK Bi (.dp [.df,.df] .cW):=
 qw a w8 λc e=>by
  obtain⟨x,y,rfl,g,i⟩:=agd e;obtain⟨s,rfl,_⟩:=zA g;obtain⟨t,rfl,_⟩:=zA i;intro O f;have q:∃b,ai C vC [.cU s,.cU t] O=J (.cW b,O):=by
   rw[h2.go (NVs.E (.cV (.cU _) (.cV (.cU _) .db)) _)];by_cases h:(z s:W)>=(z t:W);·have d:z t<=z s:=(by omega);have j:(0:W)<=(z t:W):=(by omega);refine⟨decide (s.take (z t)=t),?_⟩;simp only[nJ,h,d,j,a97,X,seval]
   ·refine⟨eF,?_⟩;simp only[nJ,h,X,seval]
  obtain⟨b,q⟩:=q;rw[a.go (NVs.E (.cV (.cU _) (.cV (.cU _) .db)) _)];refine⟨_,?_,.cW b⟩;simp only[Ht,q,X,seval]
def invV(C:y)(O:St)(x:AV)(m:H)(l:LA):Q Out:=match x with
 |.dx t v=>match methodOf C.P t v m with|J (f,d)=>J (.fI f (d::l) O)|U=>U
 |_=>U
def aqV{C:y}{av:XA->AV}{n0:R}{O:St}{x:XA}{m:H}{l:F XA}:aF C av n0 O (.hD x m l)=invV C O (av x) m (l.map av):=by unfold invV;simp only[aF];cases av x<;>rfl
structure IsHas(C:Ctx)(PK:PkI):Prop where
 lR:bZ C PK jq (.dp [.cX Ik] .cW)
 eh:bZ C PK vG (.dp [.df] .cW)
 po:bZ C PK vw (.dp [.ew [.df],.df] .cW)
 bR:bZ C PK vz (.dp [.ew [.df],.df] .cW)
 oJ:∀v,methodOf C.P 382 v "legate/deleg.has"=some (vw,v)
 oR:∀v,methodOf C.P 383 v "legate/deleg.has"=some (vz,v)
 pi:Has C KD DJ
 is:Has C abz IG
def axA(H:IsHas C PK)(d:RoV)(O:St)(b:Ok O):ai C KD [.cX d.B] O=J (if(z d.bj:W)>0 then .dx 382 (.sl (z d.bj) (d.bj.flatMap sC))else .dx 383 (.sl (z d.b2) (d.b2.flatMap sC)),O):=by
 have a:∀t l L,j8 0 (.dx t (.sl (List.length l) (l.flatMap sC)))=eT->K5 (z O) [.dx t (.sl (List.length l) (l.flatMap sC))] (O++L)=O:=λt l L h=>bu b (by rw[ae,h];rfl) L;have c:∀t (l:F LU),j8 0 (.dx t (.sl (List.length l) (l.flatMap sC)))=eT:=λt l=>(pG l).cl;have a:=λt l L=>a t l L (c t l);have rc:d.B=[.cU d.C,.cQ r d.cf,.sl (z d.V) (d.V.flatMap sC),.cW d.b5,.sl (z d.bj) (d.bj.flatMap sC),.sl (z d.b2) (d.b2.flatMap sC)]:=w8;rw[H.pi.go (NVs.E (.cV (.cX d.af) .db) _),rc];by_cases h:(z d.bj:W)>0;·simp only[DJ,h,a,w9,AV.cP,AV.Q,X,seval]
 ·simp only[DJ,h,a,w9,AV.cP,AV.Q,X,seval]
def azb(H:IsHas C PK)(x:RoV)(hr:Ms V0 Ik x.B)(path:LU)(i:z path<=LB)(O:St)(c:Ok O):∃b:I,ai C abz [.cX x.B,.cU path] O=J (.cW b,O):=by
 have a:Ok (O++[.cP x.B FZ]):=c.H (by
  have:k9 0 (.cP x.B FZ)=eT:=x.aL;rw[K,this];rfl)
 have d:∀b L,K5 (z O) [.cW b] (O++L)=O:=λb L=>bu c w8 L;have hs:Mt V0 [.df] [.cU path]:=.cV _ _ _ _ (.df _ i) .db;obtain⟨t,q,s⟩:=acH hr;obtain⟨v1,q1,m⟩:=fA H.lR (.cV (.cX x.af) .db) (.cV _ _ _ _ (.cX _ _ hr) .db) a;obtain⟨b1,rfl⟩:=zD m;obtain⟨v2,q2,n⟩:=fA H.eh (.cV (.cU path) .db) hs a;obtain⟨e,rfl⟩:=zD n;have q3:=axA H x _ a;obtain⟨v4,q4,o⟩:=fA H.po (.cV (pG x.bj) (.cV (.cU path) .db)) (.cV _ _ _ _ q hs) a;obtain⟨f,rfl⟩:=zD o;obtain⟨v5,q5,p⟩:=fA H.bR (.cV (pG x.b2) (.cV (.cU path) .db)) (.cV _ _ _ _ s hs) a;obtain⟨g,rfl⟩:=zD p;have j:=λ(Y:St) (v:AV) (l:LA)=>(show invV C Y (.dx 382 v) "legate/deleg.has" l=J (.fI vw (v::l) Y)from by unfold invV;dsimp only;rw[H.oJ]);have k:=λ(Y:St) (v:AV) (l:LA)=>(show invV C Y (.dx 383 v) "legate/deleg.has" l=J (.fI vz (v::l) Y)from by unfold invV;dsimp only;rw[H.oR]);have rc:x.B=[.cU x.C,.cQ r x.cf,.sl (z x.V) (x.V.flatMap sC),.cW x.b5,.sl (z x.bj) (x.bj.flatMap sC),.sl (z x.b2) (x.b2.flatMap sC)]:=w8;rw[rc]at q1 q2 q3 q4 q5;rw[H.is.go (NVs.E (.cV (.cX x.af) (.cV (.cU _) .db)) _),rc];cases b1;·refine⟨eF,?_⟩;simp only[IG,q1,d,w9,AV.cP,AV.Q,X,seval]
 ·cases e;·refine⟨eF,?_⟩;simp only[IG,q1,q2,d,w9,AV.cP,AV.Q,X,seval]
  ·by_cases h:(z x.bj:W)>0;·rw[j9 h]at q3;refine⟨f,?_⟩;simp only[IG,q1,q2,q3,q4,aqV,j,d,w9,AV.cP,AV.Q,X,seval]
   ·rw[X1 h]at q3;refine⟨g,?_⟩;simp only[IG,q1,q2,q3,q5,aqV,k,d,w9,AV.cP,AV.Q,X,seval]
def apx:Sh:=.cX [.cQ r,.ew [.df]]
structure GoHas(C:Ctx)(PK:PkI):Prop extends IsHas C PK where
 ju:bZ C PK xQ (.dp [.cX ae3] .cW)
 f0:bZ C PK D9 (.dp [.cX alU] .cW)
 k2:bZ C PK Di (.dp [.cX alU,.df] (.de [.df,.cQ .i64]))
 gy:bZ C PK E8 (.dp [apx] apx)
 fx:Has C jM Aj
def akv{v:AV}(h:M V0 apx v):∃a:mP,v=.cX a.B/\uQ a.V:=by
 cases h with
 |cX _ v h=>
  obtain⟨th,b,rfl,h3⟩:=yD h;obtain⟨ids,b,rfl,l1,l2,h4⟩:=CX (f:=sC) (P:=λs:LU=>z s<=LB) (λd h=>by
   obtain⟨s,b,rfl,a1,c⟩:=wR h;rw[Ac c];exact⟨s,w8,a1⟩) h3
  rw[Ac h4];exact⟨⟨th,ids⟩,w8,l1,l2⟩
structure GoI(Q:LU->Prop)(lo:Nat)(Y0 Y:St)(x:AV)(l:List gI):Prop where
 ok:Ok Y
 ej:Bf Y lo l.length 4 (l.flatMap gI.B) x
 cS:∀s∈l,uQ s.ak.V
 nW:∀s∈l,Q s.C
 ge:lo<=Y.length
 eR:∀k y,k<lo->Y0[k]?=some y->Y[k]?=some y
def ag9 (Q:LU->Prop) (H:GoHas C PK) (path:LU) (M:z path<=LB) (rs:F RoV) (K:z rs<=8192) (G:∀cB∈rs,Ms V0 Ik cB.B) (E:∀cB∈rs,Q cB.C) (lo:Nat) (m:St):∀(n i:Nat),i+n=z rs->∀(Y:St) (x:AV) (l:F gI),GoI Q lo m Y x l->z l<=i->∃(j:St) (t:AV) (p:F gI),GoI Q lo m j t p/\z p<=z rs/\
  aG C (ai C) 64 [1,7,39,40,41] lm [(1,.cU path),(7,x),(39,.sl (z rs) (rs.flatMap RoV.B)),(40,.cQ r (z rs)),(41,.cQ r i)] Y=J (.dq 0,[(7,t)],j)
 |0,i,hi,Y,x,l,I,K=>by have h:¬((i:Int)<(z rs:Int)):=(by omega);refine⟨Y,x,l,I,by omega,?_⟩;rw[aB (he:=w8)];simp only[lm,h,EVX,seval]
 |n+1,i,hi,Y,x,l,I,aa=>by
  have h:((i:Int)<(z rs:Int)):=(by omega);have h2:i<z rs:=(by omega);have h3:(0:Int)<=i:=(by omega);have N:=wrS i (by omega)
  have hb:rs[i]?=J rs[i]:=a01 h2;have fl:=bz RoV.dt rs;have fd:=iy RoV.dt hb;have D:=G rs[i] (aD5 h2);have Z:=E rs[i] (aD5 h2);obtain⟨cB,hx⟩:∃cB,cB=rs[i]:=⟨_,w8⟩;rw[<-hx]at fd D Z;have rc:cB.B=[.cU cB.C,.cQ r cB.cf,.sl (z cB.V) (cB.V.flatMap sC),.cW cB.b5,.sl (z cB.bj) (cB.bj.flatMap sC),.sl (z cB.b2) (cB.b2.flatMap sC)]:=w8;have c:Ok (Y++[.cP cB.B FZ]):=I.ok.H (by
   have:k9 0 (.cP cB.B FZ)=eT:=cB.aL;rw[a08,aC6,AO.Y (a97 _) _ this];rfl)
  have T:GoI Q lo m (Y++[.cP cB.B FZ]) x l:=⟨c,I.ej.D λq w _ _ e=>aj e _,I.cS,I.nW,by have:=I.ge;simp;omega,λk y f e=>aj (I.eR k y f e) _⟩;obtain⟨b,q1⟩:=azb H.toIsHas cB D path M _ c;have B:=λL=>aU (w8:z Y=_) L;have s1:=λL y=>fV (w8:z Y=_) L y;cases b;·obtain⟨j,t,p,a,O,A⟩:=ag9 Q H path M rs K G E lo m n (i+1) (by omega) _ x l T (by omega);refine⟨j,t,p,a,O,?_⟩;rw[rc]at fd q1 A;rw[aB (he:=w8)];generalize f:aG C (ai C) 64 [1,7,39,40,41] lm=X at*;simp only[lm,h,h2,h3,N,fl,fd,q1,B,s1,A,w9,AV.cP,fl5,K7,EVX,seval]
  ·have P:NVs [.cQ r cB.cf,.sl (z cB.V) (cB.V.flatMap sC)]:=.cV (.cQ _ _) (.cV (pG _) .db);obtain⟨v,q2,m2⟩:=fA H.gy (.cV (.cX P) .db) (.cV _ _ _ _ (.cX _ _ (.ef _ _ _ _ w8 (.cQ _ _) (.ef _ _ _ _ w8 (acH D).1 .db))) .db) c;obtain⟨d,rfl,ha⟩:=akv m2;obtain⟨st,g⟩:∃st:gI,st=⟨cB.C,d,cB.b5⟩:=⟨_,w8⟩;obtain⟨S,ap,sl,R,so⟩:=UL (bytes:=56) st.B T.ej (bz gI.dt l) (by omega) (by omega) c;have e1:l.flatMap gI.B++st.B=(l++[st]).flatMap gI.B:=(by simp);rw[e1]at ap;have u:z S=z Y+1:=by rw[sl];simp
   have V:GoI Q lo m (S++[.cP ((l++[st]).flatMap gI.B) FZ]) (.dj (z Y+1) 0 (z l+1) 4) (l++[st]):=by
    refine⟨so.H (by
     have:k9 0 (.cP ((l++[st]).flatMap gI.B) FZ)=eT:=dP gI.aL _;rw[a08,aC6,AO.Y (a97 _) _ this];rfl),.inr ⟨by simp,z Y+1,by simp,by rw[aU u];rfl,by have:=I.ge;omega⟩,λs hs=>?_,λs hs=>?_,by have:=I.ge;simp[u];omega,λk y f e=>aj (R k y (.inr f) (aj (I.eR k y f e) _)) _⟩
    ·rcases aE4.mp hs with hs|hs;·exact I.cS s hs
     ·rw[aC7.mp hs,g];exact ha
    ·rcases aE4.mp hs with hs|hs;·exact I.nW s hs
     ·rw[aC7.mp hs,g];exact Z
   have lx:z (Y++[AO.cP cB.B FZ])=z Y+1:=(by simp);rw[lx]at ap;have ac:d.B=[.cQ r d.th,.sl (z d.V) (d.V.flatMap sC)]:=w8;have sc:st.B=[.cU cB.C,.cQ r d.th,.sl (z d.V) (d.V.flatMap sC),.cW cB.b5]:=by rw[g];rfl
   rw[sc]at ap;rw[ac]at q2;have g3:∀L,(S++L)[z Y]?=(S++L)[z Y]?:=λ_=>w8;have oS:S[z Y]?=J (.cP cB.B FZ):=by
    rcases I.ej with⟨_,hx0⟩|⟨_,q,hx0,hq,_⟩;·exact R _ _ (.inl (by rw[hx0];simp)) (by rw[aU w8];rfl)
    ·refine R _ _ (.inl λe=>?_) (by rw[aU w8];rfl);rw[hx0]at e;injection e with e;have:=(a00.mp hq).1;omega
   have o:=λL=>aj oS L;cases W:cB.b5;·obtain⟨j,t,p,a,O,A⟩:=ag9 Q H path M rs K G E lo m n (i+1) (by omega) _ _ _ V (by simp;omega);refine⟨j,t,p,a,O,?_⟩;rw[rc]at fd q1 q2 ap o;rw[W]at fd q1 q2 ap o;rw[aB (he:=w8)];generalize f:aG C (ai C) 64 [1,7,39,40,41] lm=X at*;simp only[lm,h,h2,h3,N,fl,fd,q1,q2,ap,o,B,s1,A,w9,AV.cP,fl5,K7,EVX,seval]
   ·refine⟨_,_,_,V,by simp;omega,?_⟩;rw[rc]at fd q1 q2 ap o;rw[W]at fd q1 q2 ap o;rw[aB (he:=w8)];generalize f:aG C (ai C) 64 [1,7,39,40,41] lm=X at*;simp only[lm,h,h2,h3,N,fl,fd,q1,q2,ap,o,B,s1,w9,AV.cP,fl5,K7,EVX,seval]
def akq{Q:LU->Prop}{lo:R}{c Y:St}{x:AV}{l:F gI}(I:GoI Q lo c Y x l){O:St}(b:Ok O)(n:z O<=lo)(p:∀(k:R) (y:AO),O[k]?=J y->c[k]?=J y):∃T,K8 eF [x] Y=J ([.sl (z l) (l.flatMap gI.B)],T)/\K5 (z O) [.sl (z l) (l.flatMap gI.B)] T=O:=by
 have bl:ae 0 [.sl (z l) (l.flatMap gI.B)]=eT:=by rw[ae,show j8 0 (.sl (z l) (l.flatMap gI.B))=eT from dP gI.aL l];rfl
 have tk:∀T:St,(∀(k:R) (y:AO),k<lo->c[k]?=J y->T[k]?=J y)->z O<=z T->T.take (z O)=O:=λT h t=>by
  apply aD6;intro i;by_cases f:i<z O;·rw[List.getElem?_take_of_lt f];have e:O[i]?=J O[i]:=P f;rw[h i _ (by omega) (p i _ e),e]
  ·rw[aB9 (by rw[aD7];omega),aB9 (by omega)]
 rcases I.ej with⟨g,d⟩|⟨g,q,d,j,o⟩;·rw[d];have:l=[]:=aB7 g;subst this;exact⟨Y,w8,jP b bl (tk Y I.eR (aF2 n I.ge))⟩
 ·rw[d];have nv:NVs (l.flatMap gI.B):=λv hv=>by obtain⟨s,_,hs⟩:=aH6.mp hv;exact(NVs.cV (.cU s.C) (.cV (.cQ r s.ak.th) (.cV (pG s.ak.V) (.cV (.cW s.b5) .db)))) v hs
  refine⟨Y.set q (.cP (l.flatMap gI.B) ⟨eT,U⟩),?_,jP b bl (tk _ (λk y m e=>aH (I.eR k y m e) (by omega) _) (by have:=I.ge;simp;omega))⟩;rw[iY,aN,Eo j (bz gI.dt l) nv,mg,<-qf j];rfl
def adl.e9{d:Hw}(g:adl d):Ms V0 alU [.cQ r d.cf,.sl (z d.V) (d.V.flatMap sC),.cQ r d.cp,.cU d.bR]:=.ef _ _ _ _ w8 (.cQ _ _) (.ef _ _ _ _ w8 g.V (.ef _ _ _ _ w8 (.cQ _ _) (.ef _ _ _ _ w8 (.df _ g.bR) .db)))
def adl.ms{d:Hw}(g:adl d):Ms V0 ae3 d.B:=.ef _ _ _ _ w8 g.km (.ef _ _ _ _ w8 (aci d.O g.O g.rl) g.e9)
def aut(Q:LU->Prop)(H:GoHas C PK)(d:Hw)(g:adl d)(path:LU)(B:z path<=LB)(hr:∀Y,Ok Y->ai C xQ [.cX d.B] Y=J (.cW eT,Y)->ai C D9 [.cX [.cQ r d.cf,.sl (z d.V) (d.V.flatMap sC),.cQ r d.cp,.cU d.bR]] Y=J (.cW eT,Y)->∀cB∈d.O,Q cB.C)(hb:∀Y rl,Ok Y->ai C Di [.cX [.cQ r d.cf,.sl (z d.V) (d.V.flatMap sC),.cQ r d.cp,.cU d.bR],.cU path] Y=J (.de [.cU rl,.cQ r 0],Y)->Q rl)(O:St)(f:Ok O):∃l:List gI,(∀s∈l,uQ s.ak.V)/\(∀s∈l,Q s.C)/\z l<=8192/\ai C jM [.cX d.B,.cU path] O=J (.sl (z l) (l.flatMap gI.B),O):=by
 have w:d.B=[.sl (z d.al) (d.al.flatMap pC),.sl (z d.O) (d.O.flatMap RoV.B),.cQ r d.cf,.sl (z d.V) (d.V.flatMap sC),.cQ r d.cp,.cU d.bR]:=w8;have b:Ok (O++[.cP d.B FZ]):=f.H (by
  have:k9 0 (.cP d.B FZ)=eT:=d.aL;rw[a08,this];rfl)
 have hs:Mt V0 [.df] [.cU path]:=.cV _ _ _ _ (.df _ B) .db;have j:NVs [.cQ r d.cf,.sl (z d.V) (d.V.flatMap sC),.cQ r d.cp,.cU d.bR]:=.cV (.cQ _ _) (.cV (pG d.V) (.cV (.cQ _ _) (.cV (.cU _) .db)));have u:NVs [.cQ r d.cf,.sl (z d.V) (d.V.flatMap sC)]:=.cV (.cQ _ _) (.cV (pG _) .db);obtain⟨v1,q1,P⟩:=fA H.ju (.cV (.cX d.af) .db) (.cV _ _ _ _ (.cX _ _ g.ms) .db) b;obtain⟨b1,rfl⟩:=zD P;obtain⟨v2,q2,R⟩:=fA H.eh (.cV (.cU path) .db) hs b;obtain⟨G,rfl⟩:=zD R;obtain⟨v3,q3,S⟩:=fA H.f0 (.cV (.cX j) .db) (.cV _ _ _ _ (.cX _ _ g.e9) .db) b;obtain⟨o,rfl⟩:=zD S;obtain⟨v4,q4,V⟩:=fA H.k2 (.cV (.cX j) (.cV (.cU path) .db)) (.cV _ _ _ _ (.cX _ _ g.e9) hs) b;obtain⟨v4,e4,rfl,t⟩:=OY V;obtain⟨rl,rfl⟩:=amv t;obtain⟨v5,q5,W⟩:=fA H.gy (.cV (.cX u) .db) (.cV _ _ _ _ (.cX _ _ (.ef _ _ _ _ w8 (.cQ _ _) (.ef _ _ _ _ w8 g.V .db))) .db) b;obtain⟨c,rfl,K⟩:=akv W;have D:GoI (λn=>b1=eT->o=eT->Q n) (z O+1) (O++[.cP d.B FZ]) (O++[.cP d.B FZ]) .cY []:=⟨b,.inl ⟨w8,w8⟩,(λ_ h=>by cases h),(λ_ h=>by cases h),(by simp),λ_ _ _ e=>e⟩;obtain⟨Y,x,l,I,M,q⟩:=ag9 _ H path B d.O g.rl g.O (λcB N=>show b1=eT->o=eT->Q cB.C fromλe1 e3=>hr _ b (by rw[q1,e1]) (by rw[q3,e3]) cB N) (z O+1) _ (z d.O) 0 (by omega) _ _ _ D (K2 _);simp only[aB1]at q;obtain⟨T,t1,t2⟩:=akq I f (aM0 _) (λk y e=>aj e _);have F:c.B=[.cQ r c.th,.sl (z c.V) (c.V.flatMap sC)]:=w8;have v:∀L,K5 (z O) [.sl 0 []] (O++L)=O:=λL=>bu f w8 L;have a:∀(E:As) (L:St),look E 4=.cY->iF (z O) [.fT 4] (J (.ea,E,O++L))=J (.sl 0 [],O):=λE L h=>by refine(oV (vs:=[.cY]) (vs':=[.sl 0 []]) (O3:=O++L) (by simp only[aZ,h]) w8).trans ?_;rw[v];rfl
 rw[w]at q1 q2 q3 q4 q5 q;rw[F]at q5;rw[H.fx.go (NVs.E (.cV (.cX d.af) (.cV (.cU _) .db)) _),w];cases b1;·refine⟨[],(λ_ h=>by cases h),(λ_ h=>by cases h),by decide,?_⟩;generalize i:iF=m at a⊢;simp only[Aj,q1,w9,AV.cP,AV.Q,X,seval];exact a _ _ w8
 ·cases G;·refine⟨[],(λ_ h=>by cases h),(λ_ h=>by cases h),by decide,?_⟩;generalize i:iF=m at a⊢;simp only[Aj,q1,q2,w9,AV.cP,AV.Q,X,seval];exact a _ _ w8
  ·cases o
   ·by_cases A:e4=0
    ·subst A;refine⟨[⟨rl,c,eT⟩],(λs hs=>by rw[aC7.mp hs];exact K),(λs hs=>by rw[aC7.mp hs];exact hb _ _ b q4),(by simp),?_⟩;generalize i:iF=m;simp only[Aj,q1,q2,q3,q4,q5,w9,AV.cP,fl5,K7,a88,X,seval];rw[<-i];have nv:NVs [.cU rl,.cQ r c.th,.sl (z c.V) (c.V.flatMap sC),.cW eT]:=.cV (.cU _) (.cV (.cQ _ _) (.cV (pG _) (.cV (.cW _) .db)));refine(oV (vs:=[.eB 1 [.cU rl,.cQ r c.th,.sl (z c.V) (c.V.flatMap sC),.cW eT]]) ?_ (aqx 1 nv .db _)).trans ?_;·simp only[aZ,X,seval]
     ·rw[bu f (by rw[ae,show j8 0 (.sl 1 [.cU rl,.cQ r c.th,.sl (z c.V) (c.V.flatMap sC),.cW eT])=eT from nv.cl];rfl)];rfl
    ·have p:(e4 !=0)=eT:=(by simp[A]);refine⟨[],(λ_ h=>by cases h),(λ_ h=>by cases h),by decide,?_⟩;generalize i:iF=m at a⊢;simp only[Aj,q1,q2,q3,q4,p,w9,AV.cP,AV.Q,X,seval];exact a _ _ w8
   ·refine⟨l,I.cS,λs hs=>I.nW s hs w8 w8,aF2 M g.rl,?_⟩;generalize i:iF=m;simp only[Aj,q1,q2,q3,q,w9,AV.cP,AV.Q,X,seval];rw[<-i];refine(oV (vs:=[x]) ?_ t1).trans (by rw[t2];rfl);simp only[aZ,X,seval]
def aeX:Sh:=.cX [.cQ r,.ew [.df,.df],.jv]
def atn{t:TgV}(h:Ms V0 alx t.B):M V0 aeX (.cX (rC t.n t.hs t.j)):=by obtain⟨_,_,e,_,h⟩:=En h w8;injection e with e1 e2;subst e2;exact .cX _ _ h
def agh{v:AV}(h:M V0 aeX v):∃d,v=.cX d/\IU d:=by
 cases h with
 |cX _ v h=>obtain⟨n,b,rfl,h2⟩:=yD h;obtain⟨hs,b,rfl,a,_,h3⟩:=CX aqL h2;obtain⟨j,b,rfl,h4⟩:=amK h3;rw[Ac h4,aB3];exact⟨_,w8,by simp[JV.dt],by simp[JV.Q,AV.Q],.cV (.cQ _ _) (.cV (rV hs) j.af),n,hs,j,w8,a⟩
structure ahl(C:Ctx)(PK:PkI):Prop where
 is:bZ C PK xw (.dp [.cX [.df],.cX alx] .cW)
 gy:bZ C PK zq (.dp [aeX] aeX)
 mu:∀(n:Int) (l:List PS) (j:JV) (O:St),l.length<=8192->Ok O->ai C zq [.cX (rC n l j)] O=some (.cX (rC n l j),O)
 nE:Has C o9 jG
 lj:Has C xR Pv
def acC(n:W)(hs:F PS)(j:JV):NVs (rC n hs j):=.cV (.cQ _ _) (.cV (rV hs) j.af)
theorem TgV.af(t:TgV):NVs t.B:=.cV (.cU _) (acC _ _ _)
def aqI (H:ahl C PK) (path:LU) (o:z path<=LB) (l:List TgV) (y:z l<=8192) (m:∀t∈l,Ms V0 alx t.B) (O:St) (f:Ok O):∀(n i:R),i+n=z l->∃x:XE×As,(x=(.dq 0,[])\/∃k,k<z l/\x=(.ea,[(4,.cQ r (k:R))]))/\
  aG C (ai C) 19 [0,1,7,8] bJ [(0,.sl (z l) (l.flatMap TgV.B)),(1,.dv (.func xw) [.cX [.cU path]] []),(7,.cQ r (z l)),(8,.cQ r i)] O=J (x.1,x.2,O)
 |0,i,hi=>by have h:¬((i:W)<(z l:W)):=(by omega);refine⟨_,.inl w8,?_⟩;rw[aB (he:=w8)];simp only[bJ,h,X,seval]
 |n+1,i,hi=>by
  have h:((i:W)<(z l:W)):=(by omega);have h2:i<z l:=(by omega);have h3:(0:W)<=i:=(by omega);have p:=N i (by omega);have hb:l[i]?=J l[i]:=P h2;have fl:=bz TgV.dt l;have fd:=iy TgV.dt hb;have j:=m l[i] (aD5 h2);obtain⟨t,g⟩:∃t,t=l[i]:=⟨_,w8⟩;rw[<-g]at fd j;obtain⟨v1,q1,B⟩:=fA H.is (.cV (.cX (.cV (.cU path) .db)) (.cV (.cX t.af) .db)) (.cV _ _ _ _ (.cX _ _ (.ef _ _ _ _ w8 (.df _ o) .db)) (.cV _ _ _ _ (.cX _ _ j) .db)) f;obtain⟨b1,rfl⟩:=zD B;obtain⟨a,b,c,d,e,x0,E,q,s,u,v,z5⟩:=fO t.j;have D:t.B=[.cU t.eh,.cQ r t.n,.sl (z t.hs) (t.hs.flatMap pC),a,b,c,d,e]:=by unfold TgV.B rC;rw[E]
  rw[D]at fd q1;rw[aB (he:=w8)];cases b1;·obtain⟨x,g,A⟩:=aqI H path o l y m O f n (i+1) (by omega);refine⟨x,g,?_⟩;generalize F:aG C (ai C) 19 [0,1,7,8] bJ=k at*;simp only[bJ,h,h2,h3,p,fl,fd,q1,A,kV,q,s,u,v,z5,fl5,K7,a88,aB3,X,seval]
  ·refine⟨_,.inr ⟨i,h2,w8⟩,?_⟩;simp only[bJ,h,h2,h3,p,fl,fd,q1,kV,q,s,u,v,z5,fl5,K7,a88,aB3,X,seval]
def axq(H:ahl C PK)(path:LU)(f:z path<=LB)(l:F TgV)(e:z l<=8192)(c:∀t∈l,Ms V0 alx t.B)(O:St)(a:Ok O):∃x:W,(x= -1\/∃k:R,k<z l/\x=k)/\ai C o9 [.sl (z l) (l.flatMap TgV.B),.dv (.func xw) [.cX [.cU path]] []] O=J (.cQ r x,O):=by
 have nf:NV (.dv (.func xw) [.cX [.cU path]] []):=.dv (.cV (.cX (.cV (.cU _) .db)) .db) .db;obtain⟨x,g,b⟩:=aqI H path f l e c O a (z l) 0 (by omega);simp only[aB1]at b;rw[H.nE.go (NVs.E (.cV (.sl _ (dP TgV.aL l)) (.cV nf .db)) _)];rcases g with rfl|⟨k,d,rfl⟩;·refine⟨-1,.inl w8,?_⟩;simp only[jG,b,X,seval]
 ·refine⟨k,.inr ⟨k,d,w8⟩,?_⟩;simp only[jG,b,X,seval]
def seven{j:LA}(h:IU j):∃a b c d e f g:AV,j=[a,b,c,d,e,f,g]/\a.Q=eT/\b.Q=eT/\c.Q=eT/\d.Q=eT/\e.Q=eT/\f.Q=eT/\g.Q=eT:=by
 obtain⟨i,hf,_,_⟩:=h
 match j,i with
 |[a,b,c,d,e,f,g],_=>simp only[K,aC6,E]at hf;exact⟨a,b,c,d,e,f,g,w8,hf.1,hf.2.1,hf.2.2.1,hf.2.2.2.1,hf.2.2.2.2.1,hf.2.2.2.2.2.1,hf.2.2.2.2.2.2.1⟩
def aun(H:ahl C PK)(T:dV)(g:aaZ T)(path:LU)(K:z path<=LB)(O:St)(f:Ok O):∃o:Option LA,(∀cB,o=J cB->IU cB/\∃t∈T.bi,cB=rC t.n t.hs t.j)/\ai C xR [.cX T.B,.cU path] O=J (.de [.cX (o.getD kL),.cW o.isSome],O):=by
 have s:T.B=[.cQ r T.bU,.cQ r T.bx,.sl (z T.bi) (T.bi.flatMap TgV.B),.sl (z T.bv.al) (T.bv.al.flatMap pC),.sl (z T.bv.O) (T.bv.O.flatMap RoV.B),.cQ r T.bv.cf,.sl (z T.bv.V) (T.bv.V.flatMap sC),.cQ r T.bv.cp,.cU T.bv.bR]:=w8;have i:Ok (O++[.cP T.B FZ,.cP [.cQ r 0,.cY,.cQ .u8 0,.cQ r 0,.cU [],.cY,.cY] FZ]):=f.H (by
  have:k9 0 (.cP T.B FZ)=eT:=T.af.cl;rw[a08,this];rfl)
 obtain⟨x,p,q1⟩:=axq H path K T.bi g.ll g.bi _ i;rw[H.lj.go (NVs.E (.cV (.cX T.af) (.cV (.cU _) .db)) _)];rw[s]at q1⊢;rcases p with rfl|⟨k,j,rfl⟩;·refine⟨U,(λ_ h=>by cases h),?_⟩;generalize m:iF=F;simp only[Pv,q1,aA,aS,aI,cZ,w9,AV.cP,AV.Q,EVX,seval];rw[<-m];refine(oV (vs:=[.cX [.cQ r 0,.cY,.cQ .u8 0,.cQ r 0,.cU [],.cY,.cY],.cW eF]) (vs':=[.cX kL,.cW eF]) (by simp only[aZ,aI,EVX,seval]) w8).trans ?_;exact K6 (λt=>J (AV.de [.cX kL,.cW eF],t)) (bu f (vs:=[.cX kL,.cW eF]) w8 _)
 ·have h3:(0:Int)<=(k:Int):=(by omega);have I:¬(k:Int)<0:=(by omega);have hb:T.bi[k]?=J T.bi[k]:=a01 j;have fl:=bz TgV.dt T.bi;have fd:=iy TgV.dt hb;have l:=g.bi T.bi[k] (aD5 j);have D:=aD5 j;obtain⟨t,p⟩:∃t,t=T.bi[k]:=⟨_,w8⟩;rw[<-p]at fd l D;have S:z t.hs<=8192:=by obtain⟨r0,e0,M⟩:=agh (atn l);obtain⟨n',L,j',e1,l1⟩:=M.j9;rw[e1]at e0;injection e0 with e0;unfold rC at e0;injection e0 with _ e0;injection e0 with e0 _;injection e0 with e0 _;omega
  obtain⟨v2,q2,N⟩:=fA H.gy (.cV (.cX (acC t.n t.hs t.j)) .db) (.cV _ _ _ _ (atn l) .db) i;obtain⟨cB,rfl,hr⟩:=agh N;have G:cB=rC t.n t.hs t.j:=by have q:=H.mu t.n t.hs t.j _ S i;rw[q2]at q;injection q with q;injection q with q _;injection q with q
  obtain⟨a,b,c,d,e,x0,E,W,X,Y,Z,z5⟩:=fO t.j;obtain⟨r1,r2,r3,r4,r5,P,Q,n,f1,u,v,w,y,A,B⟩:=seven hr;have R:t.B=[.cU t.eh,.cQ r t.n,.sl (z t.hs) (t.hs.flatMap pC),a,b,c,d,e]:=by unfold TgV.B rC;rw[E]
  have rc:rC t.n t.hs t.j=[.cQ r t.n,.sl (z t.hs) (t.hs.flatMap pC),a,b,c,d,e]:=by unfold rC;rw[E]
  refine⟨J cB,(λ_ h=>by injection h with h;rw[<-h];exact⟨hr,t,D,G⟩),?_⟩;have nv:NVs [.cX cB,.cW eT]:=.cV (.cX hr.af) (.cV (.cW _) .db);rw[n]at q2 nv⊢;rw[R]at fd;rw[rc,s]at q2;generalize m:iF=F;simp only[Pv,q1,I,h3,j,fl,fd,q2,W,X,Y,Z,z5,f1,u,v,w,y,A,B,aA,aS,aI,cZ,w9,AV.cP,fl5,K7,a88,EVX,seval];rw[<-m];refine(Ia (vs:=[.cX [r1,r2,r3,r4,r5,P,Q],.cW eT]) ?_ nv).trans ?_;·simp only[aZ,aI,f1,u,v,w,y,A,B,EVX,seval]
  ·rw[bu f nv.cl];rfl
end Go.Ev
namespace Go.Ev
open List renaming length→z
open Option renaming some→J, none→U
open Go.IntKind renaming i64→r
open Bool renaming true→eT, false→eF
noncomputable section
def J3:KF:=(.mk ?k:a 100 []).1
def GR:KF:=(.mk ?k:a 168 []).1
def UI:KF:=(.mk ?k:a 229 []).1
end
variable{C:Ctx}{PK:PkI}
structure adL(C:Ctx)(PK:PkI):Prop extends GoHas C PK where
 m7:Has C xQ J3
 lv:bZ C PK OQ (.dp [.ew [.df,.df]] .cW)
 ki:Has C tY tu
 lP:bZ C PK jq (.dp [.cX Ik] .cW)
 lO:Has C jq GR
 m2:bZ C PK yP (.dp [.ew Ik,.df] .cW)
 bn:Pm C PK
 top:Has C UR UI
def ato(a:D C UR UI)(O:St):ai C UR [.cU oP] O=J (.cW eT,O):=by
 rw[a.go (NVs.E (.cV (.cU _) .db) _)];unfold oP;have e:([115,110,97,112,115,104,111,116]:LU)≠[114,111,111,116]:=by decide
 simp only[UI,e,X,seval]
def al4(H:adL C PK)(d:RoV)(h:¬Nm d.C)(O:St)(a:Ok O):ai C jq [.cX d.B] O=J (.cW eF,O):=by
 have rc:d.B=[.cU d.C,.cQ r d.cf,.sl (z d.V) (d.V.flatMap sC),.cW d.b5,.sl (z d.bj) (d.bj.flatMap sC),.sl (z d.b2) (d.b2.flatMap sC)]:=w8;have q1:=Fq H.bn.er H.bn.hW d.C (O++[.cP d.B FZ]);have b:=λL=>bu a (vs:=[.cW eF]) w8 L;rw[H.lO.go (NVs.E (.cV (.cX d.af) .db) _)];cases hr:role d.C;·rw[hr]at q1;rw[rc]at q1⊢;simp only[GR,q1,b,w9,AV.cP,AV.Q,X,seval]
 ·have e:d.C=oP:=Decidable.byContradiction λe=>h ⟨hr,e⟩;have q2:=ato H.top (O++[.cP d.B FZ]);rw[<-e]at q2;rw[hr]at q1;rw[rc]at q1 q2⊢;simp only[GR,q1,q2,b,w9,AV.cP,AV.Q,X,seval]
def auK(H:adL C PK)(d:Hw)(g:adl d)(Y:St)(b:Ok Y)(h:ai C xQ [.cX d.B] Y=J (.cW eT,Y)):∀x∈d.O,Nm x.C:=by
 have m:d.B=[.sl (z d.al) (d.al.flatMap pC),.sl (z d.O) (d.O.flatMap RoV.B),.cQ r d.cf,.sl (z d.V) (d.V.flatMap sC),.cQ r d.cp,.cU d.bR]:=w8;have c:Ok (Y++[.cP d.B FZ]):=b.H (by
  have:k9 0 (.cP d.B FZ)=eT:=d.aL;rw[K,this];rfl)
 have f:NVs [.cQ r d.cf,.sl (z d.V) (d.V.flatMap sC),.cQ r d.cp,.cU d.bR]:=.cV (.cQ _ _) (.cV (pG d.V) (.cV (.cQ _ _) (.cV (.cU _) .db)));obtain⟨v1,q1,s⟩:=fA H.lv (.cV (rV d.al) .db) (.cV _ _ _ _ g.km .db) c;obtain⟨b1,rfl⟩:=zD s;obtain⟨v2,q2,t⟩:=fA H.f0 (.cV (.cX f) .db) (.cV _ _ _ _ (.cX _ _ g.e9) .db) c;obtain⟨j,rfl⟩:=zD t;obtain⟨k,q3,q⟩:=af0 Nm H.lP H.m2 H.ki d.O g.O (λx hr Y b e=>aI2 λn=>by
  rw[al4 H x n Y b]at e;cases e) c
 have i:=λL=>bu b (vs:=[.cW eF]) w8 L;have no:ai C xQ [.cX d.B] Y=J (.cW eF,Y)->False:=λe=>by rw[e]at h;cases h
 rw[H.m7.go (NVs.E (.cV (.cX d.af) .db) _)]at no;rw[m]at q1 q2 q3 no;cases b1;·refine(no ?_).elim;simp only[J3,q1,i,w9,AV.cP,AV.Q,X,seval]
 ·cases j
  ·intro x hr;have p:(z d.O:W)>0:=by
    cases o:d.O with
    |nil=>rw[o]at hr;cases hr|cons a l=>simp only[K1];omega
   refine(no ?_).elim;simp only[J3,q1,q2,p,i,w9,AV.cP,AV.Q,X,seval]
  ·cases k;·refine(no ?_).elim;simp only[J3,q1,q2,q3,i,w9,AV.cP,AV.Q,X,seval]
   ·exact q w8
def apE(H:adL C PK)(d:Hw)(g:adl d)(path:LU)(c:z path<=LB)(Y:St)(rl:LU)(b:Ok Y)(h:ai C Di [.cX [.cQ r d.cf,.sl (z d.V) (d.V.flatMap sC),.cQ r d.cp,.cU d.bR],.cU path] Y=J (.de [.cU rl,.cQ r 0],Y)):Nm rl:=by obtain⟨s,e,-,n,q⟩:=ahv H.bn d.cf d.V d.cp d.bR path g.bR c Y b;rw[q]at h;injection h with h;injection h with h _;injection h with h;injection h with a h2;injection a with a;injection h2 with h2 _;injection h2 with _ h2;rw[<-a];exact n h2
def akn(H:adL C PK)(d:Hw)(g:adl d)(path:LU)(c:z path<=LB)(O:St)(b:Ok O):∃l:F gI,(∀s∈l,uQ s.ak.V)/\(∀s∈l,Nm s.C)/\z l<=8192/\ai C jM [.cX d.B,.cU path] O=J (.sl (z l) (l.flatMap gI.B),O):=
 aut Nm H.toGoHas d g path c (λY a h _=>auK H d g Y a h) (λY rl a h=>apE H d g path c Y rl a h) O b
end Go.Ev
namespace Go.Ev
open List renaming length→z
open Option renaming some→J, none→U
open Go.IntKind renaming i64→r
open Bool renaming true→eT, false→eF
def arO{D:y}{f:x}{azs:LA}{v:AV}(a:NVs azs)(h:ai D f azs []=J (v,[]))(O:St):pFn D f azs O=J (v,O):=by unfold pFn;rw[a.E O];dsimp only;rw[j9 a.cl,h]
def at7{C D:y}{PK:PkI}(k:adL D PK)(j:ahl D PK)(n:ai C jM=pFn D jM)(m:ai C xR=pFn D xR)(path:LU)(i:path.length<=LB):∃(go:dV->F gI) (fd:dV->Q LA),(∀T,(go T).length<=8192)/\(∀T,∀s∈go T,Nm s.C)/\(∀T x,fd T=J x->IU x/\∃t∈T.bi,x=rC t.n t.hs t.j)/\∀z:mG,z.go=go->z.fd=fd->(∀p a ks d s,d.length<=LB->aaZ (z.K.ro p a ks d s).1)->atX C path z aaZ:=by
 have u:∀T:dV,∃l:F gI,(l.length<=8192/\∀s∈l,Nm s.C)/\(aaZ T->(∀s∈l,uQ s.ak.V)/\∀O,ai C jM [.cX T.bv.B,.cU path] O=J (.sl l.length (l.flatMap gI.B),O)):=λT=>by
  by_cases g:aaZ T;·obtain⟨l,f,v,h2,h3⟩:=akn k T.bv g.bv path i [] acn;exact⟨l,⟨h2,v⟩,λ_=>⟨f,λO=>by rw[n];exact arO (.cV (.cX T.bv.af) (.cV (.cU _) .db)) h3 O⟩⟩
  ·exact⟨[],⟨a97 _,λ_ h=>by cases h⟩,λh=>Y h g⟩
 have q:∀T:dV,∃o:Q LA,(∀x,o=J x->IU x/\∃t∈T.bi,x=rC t.n t.hs t.j)/\(aaZ T->∀O,ai C xR [.cX T.B,.cU path] O=J (.de [.cX (o.getD kL),.cW o.isSome],O)):=λT=>by
  by_cases g:aaZ T;·obtain⟨o,f,h3⟩:=aun j T g path i [] acn;exact⟨o,f,λ_ O=>by rw[m];exact arO (.cV (.cX T.af) (.cV (.cU _) .db)) h3 O⟩
  ·exact⟨U,(λ_ h=>by cases h),λh=>Y h g⟩
 obtain⟨go,b⟩:=w u;obtain⟨fd,c⟩:=w q;refine⟨go,fd,λT=>(b T).1.1,λT=>(b T).1.2,λT=>(c T).1,λz e1 e2 ro=>⟨λT g=>?_,λT g=>?_,ro,X9.g⟩⟩;·rw[e1];exact⟨((b T).2 g).1,(b T).1.1,g.bv.al,λO _=>((b T).2 g).2 O⟩
 ·rw[e2];exact⟨λx e=>((c T).1 x e).1,λO _=>(c T).2 g O⟩
def ax0{C:y}{h:I}{l:F iH}{R:jR}{now:W}{K:Dz}(c:F6 C h l R now K)(p:oZ)(a:mP)(ks:F PS)(d:LU)(s:W)(b:z d<=LB):aaZ (K.ro p a ks d s).1:=(c.nj p a ks d s b).g
variable{C C1:Ctx}
structure atW(C C1:Ctx):Prop extends SchHas C C1 where
 eh:∀s:LU,s.length<=LB->∃b:Bool,∀O,ai C vG [.cU s] O=some (.cW b,O)
 oT:∀s:LU,s.length<=LB->∃(go:dV->List gI) (fd:dV->Option LA),(∀T,(go T).length<=8192)/\(∀T,∀s∈go T,Nm s.C)/\(∀T r,fd T=some r->IU r/\∃t∈T.bi,r=rC t.n t.hs t.j)/\∀z:mG,z.go=go->z.fd=fd->(∀p a ks d s,d.length<=LB->aaZ (z.K.ro p a ks d s).1)->atX C s z aaZ
def Ov (H:atW C C1) (path:LU) (l:z path<=LB):∃(c:I) (go:dV->List gI) (fd:dV->Q LA),((∀T,∀s∈go T,Nm s.C)/\(∀T y,fd T=J y->∃t∈T.bi,y=rC t.n t.hs t.j)/\∀O,ai C vG [.cU path] O=J (.cW c,O))/\∀{K:Dz} {p:Rp},p.bN C1 K->z p.F<=800000->∀{S:St},Ok S->p.az S->∀b:Nj,
  ∃(x:jo) (i:List aQ) (S':St) (f:Q Nat) (n:Nat),ai C lZ [.da p.r 0,.cU path,.cX b.B] S=J (.cX x.B,S')/\Stp S S' p (p.to i f)/\(p.to i f).bN C1 K/\uG c p.R p.aw (Io K p b go fd) n p.F=J (x,i)/\afA x:=by
 obtain⟨c,d⟩:=H.eh path l;obtain⟨go,fd,m,q,k,o⟩:=H.oT path l;refine⟨c,go,fd,⟨q,λT y e=>(k T y e).2,d⟩,λ{K p} g u {S} v a b=>?_⟩;have chk:=g.bV.e6;have j:=(Ah chk g.bV.am g.cH p.sc).1;obtain⟨n,⟨x,i⟩,h⟩:=aoS (Io K p b go fd) m c p.R p.aw p.F u j.dt;obtain⟨S',f,q1,q2,q3⟩:=aoH H.toSchHas g v a path c d b go fd (o (Io K p b go fd) w8 w8 λ_ _ _ _ _ w=>ax0 chk _ _ _ _ _ w) n x i h;exact⟨x,i,S',f,n,q1,q2,q3,h,alp _ (λT y e=>(k T y e).1) h⟩
structure ahn(C C1:Ctx):Prop where
 jN:atW C C1
 eM:aaU C C1
 hV:apf C
 cq:ajN C
 told:Has C CP Cj
 cH:afr C
 lU:Has C CS Cm
 g8:∀O,Ok O->ai C wM [] O=some (.cW true,O)
def aan(b:Nj):NVs b.B:=.cV (.cQ _ _) (.cV (.cQ _ _) (.cV (.cQ _ _) (.cV (.cQ _ _) .db)))
def Wt(Y:St)(lo:R)(x:AV)(l:F LU):Prop:=(x=.eB (z l) (l.flatMap sC)/\0<z l)\/(0<z l/\∃q,x=.dj q 0 (z l) 1/\Y[q]?=J (.cP (l.flatMap sC) FZ)/\lo<=q)
def Wt.eD{Y:St}{lo:R}{x:AV}{l:F LU}(h:Wt Y lo x l)(L:St):Wt (Y++L) lo x l:=by
 rcases h with h|⟨a,q,e,h,b⟩;·exact .inl h
 ·exact .inr ⟨a,q,e,aj h L,b⟩
theorem Wt.Q{Y:St}{lo:R}{x:AV}{l:F LU}(h:Wt Y lo x l):x.Q=eT:=by rcases h with⟨rfl,_⟩|⟨_,q,rfl,_⟩<;>rfl
theorem Wt.dt{Y:St}{lo:R}{x:AV}{l:F LU}(h:Wt Y lo x l)(O:St):bC O 1 x=J (z l):=by rcases h with⟨rfl,_⟩|⟨_,q,rfl,_⟩<;>rfl
theorem Wt.hu{Y:St}{lo:R}{x:AV}{l:F LU}(h:Wt Y lo x l)(hok:Ok Y)(w:LU)(e:z l<=1000000000)(d:lo<=z Y):∃(v:AV) (S:St),uD Y 1 16 U x 1 [.cU w]=J (v,S)/\Ok S/\Wt S lo v (l++[w])/\(∀k,k<lo->S[k]?=Y[k]?)/\lo<=z S:=by
 have s1:∀s,z (sC s)=1:=λ_=>w8;have sl:=bz s1 l;have e1:l.flatMap sC++[.cU w]=(l++[w]).flatMap sC:=by rw[List.flatMap_append];rfl
 have bl:∀n,k9 n (.cP ((l++[w]).flatMap sC) FZ)=eT:=λn=>AO.Y (a97 _) _ (OC _);rcases h with⟨rfl,a⟩|⟨a,q,rfl,b,h2⟩
 ·refine⟨_,_,PI Y U _ (by decide) (by omega) (by omega) (by omega),?_,.inr ⟨by simp,z Y,by simp,?_,by omega⟩,λk c=>?_,by simp;omega⟩;·rw[e1];exact hok.H (by rw[K,bl];rfl)
  ·rw[aA,e1];rfl
  ·rw[aC1 (by omega)]
 ·refine⟨_,_,Lt _ b (by decide) (by omega) (by omega) (by omega),?_,.inr ⟨by simp,z Y,by simp,?_,by omega⟩,λk c=>?_,by simp;omega⟩;·rw[e1];exact(Ok.bd hok q w8).H (by rw[K,bl];rfl)
  ·rw[e1];exact aU (by simp) _
  ·rw[aC1 (by simp;omega),aE2 (by omega)]
end Go.Ev
namespace Go.Ev
open List renaming length→z
open Option renaming some→J, none→U
open Go.IntKind renaming i64→r
open Bool renaming true→eT, false→eF
variable{C:Ctx}{PK:PkI}
def ace{V:Val}{v:AV}(h:M V .df v):∃s,v=.cU s/\z s<=LB:=zA h
def aot(H:FP C PK):aph C PK AP:=by
 intro q o p ms Y I d;obtain⟨v,t,e1,n,j,k,l,m⟩:=jJ (azs:=[.cU [95,116,121,112,101]]) H.dc I.ok (.cV (.cU _) .db) I.pk (wF _ (by simp[LB]) .db);obtain⟨s,rfl,_⟩:=ace n;have a:=I.fe j k l m;have e:=ML o p Y;rw[H.lB.go e];cases c:decide (s=[115,110,97,112,115,104,111,116])with
 |true=>refine⟨_,?_,a.ih [] (by omega) I.pl I.lt d,QM (by omega)⟩;simp only[EX,e1,c,pW,AV.cP,AV.Q,X,seval]|false=>obtain⟨w,u,f1,n1,f,g,h,i⟩:=jJ (azs:=[.cQ r 13]) H.eC a.ok (.cV (.cQ _ _) .db) a.pk (xI _ .db);refine⟨_,?_,(a.fe f g h i).ih [] (by omega) I.pl I.lt d,QM (by omega)⟩;simp only[EX,e1,c,f1,pW,AV.cP,AV.Q,X,seval]
def agz(H:FP C PK):aph C PK wQ:=by intro l o p ms Y I e;obtain⟨v,m,e1,k,g,h,i,j⟩:=jJ (azs:=[.cU [118,101,114,115,105,111,110],.cQ r 1,.cQ r 1099511627776]) H.fa I.ok (.cV (.cU _) (.cV (.cQ _ _) (.cV (.cQ _ _) .db))) I.pk (wF _ (by simp[LB]) (xI _ (xI _ .db)));obtain⟨n,rfl⟩:=BK k;have c:=I.fe g h i j;obtain⟨a,b,hs⟩:=c.s;have f:=ML o p Y;rw[H.ht.go f];refine⟨_,?_,(c.cg n b).ih [] (by rw[a99];omega) I.pl I.lt e,QM (by rw[a99];omega)⟩;simp only[Hq,e1,hs,w9,AV.cP,AV.Q,X,seval]
def arj{V:Val}{a b:Sh}{v:AV}(h:M V (.de [a,b]) v):∃x y,v=.de [x,y]/\M V a x/\M V b y:=by cases h with|de _ l h=>obtain⟨x,y,rfl,c,h2⟩:=agd h;exact⟨x,y,w8,c,h2⟩
def agy(H:FP C PK):aph C PK wP:=by intro D o p ms Y I g;obtain⟨v,E,e1,A,m,q,t,u⟩:=jJ (azs:=[.cU [101,120,112,105,114,101,115]]) H.dc I.ok (.cV (.cU _) .db) I.pk (wF _ (by simp[LB]) .db);obtain⟨s,rfl,hs⟩:=ace A;have c:=I.fe m q t u;obtain⟨w,e2,B⟩:=fA H.i6 (.cV (.cU s) .db) (wF _ hs .db) c.ok;obtain⟨x,y,rfl,q1,q2⟩:=arj B;obtain⟨n,rfl⟩:=BK q1;obtain⟨e,rfl⟩:=BK q2;obtain⟨w,F,f1,n1,i,j,k,l⟩:=jJ (azs:=[.cQ r e]) H.eC c.ok (.cV (.cQ _ _) .db) c.pk (xI _ .db);have f:=c.fe i j k l;obtain⟨a,b,hs⟩:=f.s;have h:=ML o p Y;rw[H.hq.go h];refine⟨_,?_,(f.cg a n).ih [] (by rw[a99];omega) I.pl I.lt g,QM (by rw[a99];omega)⟩;simp only[Ho,e1,e2,f1,hs,w9,AV.cP,AV.Q,X,seval]
def ms1{V:Val}{s:Sh}{t:F Sh}{l:LA}(hs:s.ef=eT)(h:Ms V (s::t) l):∃v b,l=v::b/\M V s v/\Ms V t b:=by
 cases h with
 |ef _ _ v b a h2 h3=>exact⟨v,b,w8,h2,h3⟩|jv _ j b h=>cases hs|jg _ _ _ j d a h2=>cases hs
def aov{l:LA}(h:Ms V0 XG l):∃(s:LU) (a b:W) (rs:F LA),l=[.cU s,.cQ r a,.cQ r b,.sl (z rs) rs.flatten]/\ae 0 rs.flatten=eT:=by
 obtain⟨v1,b1,rfl,c,d⟩:=ms1 w8 h;obtain⟨v2,i,rfl,h2,e⟩:=ms1 w8 d;obtain⟨v3,j,rfl,h3,f⟩:=ms1 w8 e;obtain⟨v4,k,rfl,h4,g⟩:=ms1 w8 f;cases g;obtain⟨s,rfl,_⟩:=zA c;obtain⟨a,rfl⟩:=BK h2;obtain⟨b,rfl⟩:=BK h3;cases h4 with
 |ew _ rs m hr=>exact⟨s,a,b,rs,w8,(MRs.af (by rfl) hr).cl⟩
def adJ(n0 p a:R)(os:F R)(Y:St)(i:R)(x:AV):Prop:=(i=0/\x=.cY)\/(0<i/\∃q rs,x=.dj q 0 i 4/\z rs=i/\Y[q]?=J (.cP rs.flatten FZ)/\MRs V0 XG rs/\q∉os/\q≠p/\n0<=q/\q≠a)
def aA8(PK:PkI)(O0:St)(o p:R)(ms:F R)(Y:St)(x:RX):Prop:=∃a b,(x=J (.dq 0,[],a)\/x=J (.ea,[],a))/\SI PK O0 o p ms b a/\z Y<=z a
def adJ.of{n0 p b i:R}{os:F R}{Y:St}{x:AV}(hi:i<=8192)(h:adJ n0 p b os Y i x):afv n0 p os Y x:=by
 rcases h with⟨_,rfl⟩|⟨_,q,rs,rfl,e1,e2,e3,e4,e5,a,_⟩;·exact .inl w8
 ·exact .inr ⟨q,rs,by rw[e1],e2,by rw[e1];exact hi,e3,e4,e5,a⟩
def au0 {Y:St} {n0 p c i:R} {os:F R} {x:AV} {l:LA} (h:adJ n0 p c os Y i x) (b:Ms V0 XG l) (hi:i<=8192) (hok:Ok Y):
  ∃(S:St) (rs:F LA),uD Y 4 56 U x 1 l=J (.dj (z Y) 0 (i+1) 4,S++[.cP rs.flatten FZ])/\z rs=i+1/\MRs V0 XG rs/\z S=z Y/\(∀k y,k∈os\/k=p\/k<n0\/k=c->Y[k]?=J y->S[k]?=J y)/\Ok S:=by
 rcases h with⟨rfl,rfl⟩|⟨g,q,rs,rfl,e1,e2,e3,e4,e5,f,d⟩;·refine⟨Y,[l],?_,w8,MRs.ef b,w8,λ_ _ _ h=>h,hok⟩;rw[Nw _ U l (by omega) (by omega) (by omega)];simp
 ·refine⟨Y.set q .em,rs++[l],?_,by simp[e1],e3.eD (MRs.ef b),by simp,λk y a h=>aH h (λe=>?_) _,hok.bd _ w8⟩;·rw[Lt l e2 (by omega) (by rw[MRs.dt e3,e1];rfl) (by omega) (by omega)];simp
  ·subst e;rcases a with a|a|a|a;·exact e4 a
   ·exact e5 a
   ·omega
   ·exact d a
def aeE (H:FP C PK) (O0:St) (o p c:Nat) (ms:List Nat) (W X Z:AV) (ns:List LU) (is:List JV) (N:z ns<=z is) (h8:z is<=8192) (B:∀x∈ns,z x<=LB) (D:c≠p) (Q:c∉o::ms) (P:z O0<=c):∀(n i:Nat),i+n=z ns->∀(x:AV) (Y:St),SI PK O0 o p ms x Y->adJ (z O0) p c (o::ms) Y i x->z O0<=z Y->
  Y[c]?=J (.cP [W,X,Z,.sl (z ns) (ns.map .cU),.sl (z is) (aO is)] FZ)->
  aA8 PK O0 o p ms Y (aG C (ai C) 45 [0,1,4,12,13,14] gX [(0,.da o 0),(1,.da p 0),(4,.da c 0),(12,.sl (z ns) (ns.map .cU)),(13,.cQ r (z ns)),(14,.cQ r i)] Y)
 |0,i,hi,x,Y,I,A,hl,hv=>by have h:¬((i:Int)<(z ns:Int)):=(by omega);refine⟨Y,x,.inl ?_,I,K2 _⟩;rw[aB (he:=w8)];simp only[gX,h,EVX,seval]
 |n+1,i,hi,x,Y,I,A,hl,hv=>by
  have h:((i:Int)<(z ns:Int)):=(by omega);have h2:i<z is:=(by omega);have d:i<z ns:=(by omega);have w2:=wrS i (by omega);have p2:(0:Int)<=(i:Int):=(by omega);have d2:=Dn is i h2;have dr:=acX ns i d;have sl:=jH is;have sn:z (ns.map AV.cU)=z ns:=(by simp);have hx:ns[i].length<=LB:=B _ (aD5 d);generalize is[i]=j at*;generalize ns[i]=s at*;generalize aO (is.drop (i+1))=R at*;have G:=JV.dt j;have jf:=JV.Q j;have jt:(j.B++R).take 5=j.B:=by rw[<-G];simp
  have je:5<=z (j.B++R):=(by simp[G]);obtain⟨v,e1,m1⟩:=fA H.ct (azs:=[.cU s,j.av]) (.cV (.cU s) (.cV j.nv .db)) (wF _ hx (.cV _ _ _ _ (.jv j) .db)) I.ok;obtain⟨a,b,rfl,m2,m3⟩:=arj m1;obtain⟨e,rfl⟩:=BK m3;cases m2 with
  |cX _ l ml=>
  obtain⟨s1,a1,b1,f,rfl,hb⟩:=aov ml;have hL:([.cP [.cU s1,.cQ r a1,.cQ r b1,.sl (z f) f.flatten] FZ]:St).all (k9 (z Y+1))=eT:=by simp only[K,aC6,aE1,k9,ae,j8,aE0];exact aP (a97 _) _ hb
  have g:=I.H _ hL;have g1:=λL=>aU (w8:z Y=_) L;have E:=λL y=>fV (w8:z Y=_) L y;unfold JV.av at e1;cases ce:(e !=0)with
  |true=>obtain⟨w,O3,f1,n1,j1,j2,j3,j4⟩:=jJ (azs:=[.cQ r e]) H.eC g.ok (.cV (.cQ _ _) .db) g.pk (xI _ .db);refine⟨O3,x,.inr ?_,g.fe j1 j2 j3 j4,by rw[j2];simp⟩;rw[aB (he:=w8)];generalize m:aG C (ai C) 45 [0,1,4,12,13,14] gX=kk at*;simp only[gX,h,h2,d,w2,p2,d2,dr,sl,sn,hv,e1,ce,f1,g1,E,G,jf,jt,je,w9,a90,AV.cP,AV.Q,EVX,seval]
  |false=>
   have O:adJ (z O0) p c (o::ms) (Y++[AO.cP [.cU s1,.cQ r a1,.cQ r b1,.sl (z f) f.flatten] FZ]) i x:=by
    rcases A with A|⟨h0,q,rs,y1,y2,y3,y4,y5,y6,y7,y8⟩;·exact .inl A
    ·exact .inr ⟨h0,q,rs,y1,y2,aj y3 _,y4,y5,y6,y7,y8⟩
   obtain⟨S,rs,t1,t2,t3,t4,t5,t6⟩:=au0 O ml (by omega) g.ok;rw[X2,K1,K3]at t1 t4;simp only[aC4]at t1 t4;obtain⟨a0,b0,hs⟩:=g.s;have t:=t5 p _ (.inr (.inl w8)) hs;have pv:=λL y=>gZ t L y;have gv:=λL=>aj t L;have pl:=I.pl;have V:Ok (S.set p (.cP [.cQ r a0,.cQ r b0,.dj (z Y+1) 0 (i+1) 4] FZ)++[.cP rs.flatten FZ]):=by
    have:=(t6.H (L:=[.cP rs.flatten FZ]) (by
     rw[K,show k9 0 (.cP rs.flatten FZ)=eT from(MRs.af (by rfl) t3).cl];rfl)).bd p (x:=.cP [.cQ r a0,.cQ r b0,.dj (z Y+1) 0 (i+1) 4] FZ) (by
     simp only[k9,ae,j8,aE1,aE0,Z3,X2,K1,K3,t4];omega)
    rwa[pv]at this
   have F:z (S.set p (.cP [.cQ r a0,.cQ r b0,.dj (z Y+1) 0 (i+1) 4] FZ))=z Y+1:=(by rw[a99,t4]);have u:(S.set p (.cP [.cQ r a0,.cQ r b0,.dj (z Y+1) 0 (i+1) 4] FZ)++[.cP rs.flatten FZ]:St)[z Y+1]?=J (.cP rs.flatten FZ):=by rw[aU F];rfl
   have no:z Y+1∉o::ms:=λhi=>by have:=I.lt _ hi;omega
   have vl:c<z Y:=(a00.mp hv).1;have I3:SI PK O0 o p ms (.dj (z Y+1) 0 (i+1) 4) (S.set p (.cP [.cQ r a0,.cQ r b0,.dj (z Y+1) 0 (i+1) 4] FZ)++[.cP rs.flatten FZ]):=by
    refine⟨V,PK.fr g.pk λk m=>?_,λk m=>by rw[X2,F];have:=I.lt k m;omega,I.ge,I.np,I.gp,⟨a0,b0,aj (bF t _) _⟩,.inr ⟨_,rs,by rw[t2],u,by rw[t2];simp only[LS];omega,t3,no,by omega,by omega⟩,λk y hy=>?_⟩;·have M:=g.lt k m;have e:=a01 M;rw[e];exact aj (aH (t5 k _ (.inl m) e) (λe'=>I.np (by rw[<-e'];exact m)) _) _
    ·have:=(a00.mp hy).1;have:=I.gp;exact aj (aH (t5 k _ (.inr (.inr (.inl (by omega)))) (g.au k y hy)) (by omega) _) _
   have T:adJ (z O0) p c (o::ms) (S.set p (.cP [.cQ r a0,.cQ r b0,.dj (z Y+1) 0 (i+1) 4] FZ)++[.cP rs.flatten FZ]) (i+1) (.dj (z Y+1) 0 (i+1) 4):=
    .inr ⟨by omega,_,rs,w8,t2,u,t3,no,by omega,by omega,by omega⟩
   obtain⟨Y',x',r1,r2,r3⟩:=aeE H O0 o p c ms W X Z ns is N h8 B D Q P n (i+1) (by omega) _ _ I3 T (by rw[X2,F];omega) (aj (aH (t5 c _ (.inr (.inr (.inr w8))) (aj hv _)) D _) _);have go:∀cB,aG C (ai C) 45 [0,1,4,12,13,14] gX [(0,.da o 0),(1,.da p 0),(4,.da c 0),(12,.sl (z ns) (ns.map .cU)),(13,.cQ r (z ns)),(14,.cQ r (i+1:Nat))] (S.set p (.cP [.cQ r a0,.cQ r b0,.dj (z Y+1) 0 (i+1) 4] FZ)++[.cP rs.flatten FZ])=cB->aG C (ai C) 45 [0,1,4,12,13,14] gX [(0,.da o 0),(1,.da p 0),(4,.da c 0),(12,.sl (z ns) (ns.map .cU)),(13,.cQ r (z ns)),(14,.cQ r i)] Y=cB:=λcB er=>by have xf:x.Q=eT:=(by rcases A with⟨_,rfl⟩|⟨_,q,_,rfl,_⟩<;>rfl);rw[aB (he:=w8)];generalize m:aG C (ai C) 45 [0,1,4,12,13,14] gX=kk at*;simp only[gX,h,h2,d,w2,p2,d2,dr,sl,sn,hv,e1,ce,hs,t1,pv,gv,er,xf,g1,E,G,jf,jt,je,w9,a90,AV.cP,AV.Q,EVX,seval]
   refine⟨Y',x',r1.imp (λe=>go _ e) (λe=>go _ e),r2,by rw[X2,F]at r3;omega⟩
def aos(H:FP C PK):ayG C PK AL:=by
 intro f o p ms Y I i;obtain⟨v,a,e1,w,m,q,s,u⟩:=jJ (azs:=[.cU [109,101,116,97],.cQ r 256]) H.bA I.ok (.cV (.cU _) (.cV (.cQ _ _) .db)) I.pk (wF _ (by simp[LB]) (xI _ .db));have b:=I.fe m q s u;obtain⟨j,rfl⟩:=aev w;obtain⟨k,n,t,ns,is,d,h3,h2,h4,rfl⟩:=j.ex;have ca:(JV.mk k n t ns is d h3 h2 h4).av=.cX [.cQ .u8 k,.cQ r n,.cU t,.sl (z ns) (ns.map .cU),.sl (z is) (aO is)]:=by unfold JV.av;rw[JV.bO]
 rw[ca]at e1;have h:([.cP [.cQ .u8 k,.cQ r n,.cU t,.sl (z ns) (ns.map .cU),.sl (z is) (aO is)] FZ]:St).all (k9 (z a+1))=eT:=by have:=aP (a97 (z a+1)) _ (JV.aL (JV.mk k n t ns is d h3 h2 h4));rw[JV.bO]at this;simp only[K,aC6,aE1,k9];exact this
 have e:=b.H _ h;have c:(a++[AO.cP [.cQ .u8 k,.cQ r n,.cU t,.sl (z ns) (ns.map .cU),.sl (z is) (aO is)] FZ]:St)[z a]?=J (.cP [.cQ .u8 k,.cQ r n,.cU t,.sl (z ns) (ns.map .cU),.sl (z is) (aO is)] FZ):=by rw[aU w8];rfl
 have s1:=λL y=>fV (w8:z a=_) L y;obtain⟨A,x,r1,r2,r3⟩:=aeE H f o p (z a) ms _ _ _ ns is d h2 h4.ns (by have:=b.pl;omega) (λhi=>by have:=b.lt _ hi;omega) (by omega) (z ns) 0 (by omega) .cY _ e (.inl ⟨w8,w8⟩) (by simp;omega) c;simp only[X2,K1,K3]at r3;have l:=ML o p Y;rw[H.lA.go l];refine⟨_,x,?_,r2.ih [] (by omega) I.pl I.lt i,QM (by omega)⟩;simp only[Z6,aB1]at r1;rcases r1 with r1|r1;·simp only[EW,e1,c,s1,r1,w9,AV.cP,AV.Q,KL,K7,X,seval]
 ·simp only[EW,e1,c,s1,r1,w9,AV.cP,AV.Q,KL,K7,X,seval]
def Qr:LA:=[.dv (.func AP) [] [],.dv (.func wQ) [] [],.dv (.func wP) [] [],.dv (.func AL) [] []]
def aiI(H:FP C PK)(O:St):ai C WI [] O=J (.sl 4 Qr,O):=by rw[H.lE.go (by rfl)];have a:K8 eF [.eB 4 Qr] O=J ([.sl 4 Qr],O):=w8;simp only[VA,AV.cP,AV.Q,rep,X,seval];rfl
def aaz (H:FP C PK) (O0:St) (o p b:Nat) (ms:F Nat) (f:x) (i:Nat) (hi:i<4) (R:LA) (d:Qr.drop i=.dv (.func f) [] []::R) (Y a:St) (e:ai C f [.da o 0,.da p 0] (Y++[.cP [.dv (.func f) [] []] FZ])=J (dG [],a)):
  aG C (ai C) 33 [2,4,5,15,16,17] xO [(2,.da b 0),(4,.da o 0),(5,.da p 0),(15,.sl 4 Qr),(16,.cQ r 4),(17,.cQ r i)] Y=aG C (ai C) 33 [2,4,5,15,16,17] xO [(2,.da b 0),(4,.da o 0),(5,.da p 0),(15,.sl 4 Qr),(16,.cQ r 4),(17,.cQ r (i+1:Nat))] a:=by
 have h:((i:W)<(4:W)):=by omega
 have j:=N i (by omega);have g:(0:W)<=(i:W):=by omega
 have pl:z Qr=4:=w8;have c:=λL=>aU (w8:z Y=_) L;have s1:=λL y=>fV (w8:z Y=_) L y
 conv=>lhs;rw[aB (he:=w8)]
 generalize l:aG C (ai C) 33 [2,4,5,15,16,17] xO=m at*;simp only[xO,h,hi,j,g,pl,d,e,c,s1,kV,w9,a90,AV.cP,AV.Q,X,seval]
def ahS {O Y:St} {p:R} {os:F R} {n0:R} (c:Ok O) (k:z O<=n0) (a b e:W) (x:AV) (f:afv n0 p os Y x) (E:As) (h2:look E 2=.da (z O+1) 0) (h3:look E 3=.cQ r e) (j:Y[z O+1]?=J (.cP [.cQ r a,.cQ r b,x] FZ)) (g:Y.take (z O)=O):
  ∃v,iF (z O) [.eN 2 eT 3,.fT 3] (J (.ea,E,Y))=J (v,O)/\M V0 (.de [.cX [.cQ r,.cQ r,.ew XG],.cQ r]) v:=by
 have h:∀rs,z rs<=LS->MRs V0 XG rs->M V0 (.de [.cX [.cQ r,.cQ r,.ew XG],.cQ r]) (.de [.cX [.cQ r a,.cQ r b,.sl (z rs) rs.flatten],.cQ r e]):=λrs i h2=>
  .de _ _ (.cV _ _ _ _ (.cX _ _ (.ef _ _ _ _ w8 (.cQ _ _) (.ef _ _ _ _ w8 (.cQ _ _) (.ef _ _ _ _ w8 (.ew _ rs i h2) .db)))) (xI e .db))
 have l:x.Q=eT:=by rcases f with rfl|⟨q,_,rfl,_⟩<;>rfl
 rw[zO];have hr:aZ E Y [.eN 2 eT 3,.fT 3]=J [.cX [.cQ r a,.cQ r b,x],.cQ r e]:=by simp only[aZ,h2,h3,j,pt,AV.Q,aB8,K1,K3,List.take,K,aC6,l];rfl
 rw[hr];dsimp only;rcases f with rfl|⟨q,rs,rfl,e2,e3,e4,e5,m,n⟩
 ·have d:K8 eF [.cX [.cQ r a,.cQ r b,.cY],.cQ r e] Y=J ([.cX [.cQ r a,.cQ r b,.sl 0 []],.cQ r e],Y):=by rw[iY,aN,bK,aN,aN,aN,dQ,mg];rfl
  rw[d];dsimp only;rw[jP c w8 g];exact⟨_,w8,h [] (by simp) (.db _)⟩
 ·have nv:=MRs.af (by rfl) e4;have d:K8 eF [.cX [.cQ r a,.cQ r b,.dj q 0 (z rs) 4],.cQ r e] Y=J ([.cX [.cQ r a,.cQ r b,.sl (z rs) rs.flatten],.cQ r e],Y.set q (.cP rs.flatten ⟨eT,U⟩)):=by rw[iY,aN,bK,aN,aN,aN,Eo e2 (show z rs.flatten=z rs*4 from MRs.dt e4) nv,mg,<-qf e2];rfl
  rw[d];dsimp only;rw[jP c (by simp only[ae,j8,nv.cl,aE1]) (by rw[eP _ _ _ (by omega),g])];exact⟨_,w8,h rs e3 e4⟩
def alh(H:FP C PK)(j:JV)(O:St)(d:Ok O):∃v,ai C AC [j.av] O=J (v,O)/\M V0 (.de [.cX [.cQ r,.cQ r,.ew XG],.cQ r]) v:=by
 have P:K8 eF [j.av] O=J ([j.av],O):=NVs.E (.cV j.nv .db) _;have l:Ok (O++[.cP j.B FZ,.cP [.cQ r 0,.cQ r 0,.cY] FZ]):=d.H (by rw[a08,show k9 0 (.cP j.B FZ)=eT from j.aL];rfl);obtain⟨vm,I,m2⟩:=fA H.kr (azs:=[j.av]) (.cV j.nv .db) (.cV _ _ _ _ (.jv j) .db) l;obtain⟨b,rfl⟩:=Qj m2;have G:=JV.dt j;have F:=JV.Q j;have k:j.B.take 5=j.B:=a98 (by rw[JV.dt];exact K2 _);have g:5<=z j.B:=by rw[JV.dt];exact K2 _
 have m0:∀e,M V0 (.de [.cX [.cQ r,.cQ r,.ew XG],.cQ r]) (.de [.cX [.cQ r 0,.cQ r 0,.sl 0 []],.cQ r e]):=λe=>
  .de _ _ (.cV _ _ _ _ (.cX _ _ (.ef _ _ _ _ w8 (.cQ _ _) (.ef _ _ _ _ w8 (.cQ _ _) (.ef _ _ _ _ w8 (.ew _ [] (by simp) (.db _)) .db)))) (xI e .db))
 cases b with
 |false=>have ty:=λ(e:Int)=>bu d (vs:=[.cX [.cQ r 0,.cQ r 0,.sl 0 []],.cQ r e]) w8;refine⟨_,?_,m0 3⟩;unfold JV.av at*;rw[H.g6.go P];simp only[QU,I,G,F,k,g,ty,aZ,bK,dQ,AV.cP,AV.Q,w9,EVX,seval]
 |true=>
  obtain⟨L,o,ms,f1,f2,A,f4⟩:=H.of _ [j.av] [j.av] _ l (NVs.E (.cV j.nv .db) _) l (.cV _ _ _ _ (.jv j) .db);generalize t:O++[AO.cP j.B FZ,.cP [.cQ r 0,.cQ r 0,.cY] FZ]=c at*;have l2:z c=z O+2:=by rw[<-t];simp
  have lo:(((4:Nat):Int))=4:=w8;have N:c[z O]?=J (.cP j.B FZ):=by rw[<-t,aA];rfl
  have lT:z c<=z (c++L):=(by simp);have kT:∀(i:Nat) (y:AO),c[i]?=J y->(c++L)[i]?=J y:=λi y E=>aj E _;generalize hT:c++L=T at*;have W:SI PK c o (z T) ms .cY (T++[.cP [.cQ r 0,.cQ r 0,.cY] FZ]):=(by refine⟨f2.H w8,PK.fr f4 λi hi=>by rw[aC1 (A i hi).2],λi hi=>by have:=(A i hi).2;rw[X2];omega,λi hi=>(A i hi).1,λhi=>by have:=(A _ hi).2;omega,lT,⟨0,0,by rw[aU w8];rfl⟩,.inl w8,λi y E=>aj (kT i y E) _⟩);have fb:∀(f:FuncId) (n:Nat),([.cP [.dv (.func f) [] []] FZ]:St).all (k9 n)=eT:=λf n=>w8;obtain⟨Y1,p1,X,l1⟩:=aot H c o _ ms _ (W.H _ (fb AP _)) (by rw[X2,X2];omega);obtain⟨Y2,p2,Z,R⟩:=agz H c o _ ms _ (X.H _ (fb wQ _)) (by simp only[X2,K1,K3]at l1⊢;omega);obtain⟨Y3,p3,I3,k3⟩:=agy H c o _ ms _ (Z.H _ (fb wP _)) (by simp only[X2,K1,K3]at l1 R⊢;omega);obtain⟨K,x,p4,B,k4⟩:=aos H c o _ ms _ (I3.H _ (fb AL _)) (by simp only[X2,K1,K3]at l1 R k3⊢;omega);have q1:=aaz H c o _ (z O+1) ms _ 0 (by omega) _ w8 _ _ p1;have q2:=aaz H c o _ (z O+1) ms _ 1 (by omega) _ w8 _ _ p2;have q3:=aaz H c o _ (z O+1) ms _ 2 (by omega) _ w8 _ _ p3;have q4:=aaz H c o _ (z O+1) ms _ 3 (by omega) _ w8 _ _ p4;have q5:aG C (ai C) 33 [2,4,5,15,16,17] xO [(2,.da (z O+1) 0),(4,.da o 0),(5,.da (z T) 0),(15,.sl 4 Qr),(16,.cQ r 4),(17,.cQ r (3+1:Nat))] K=J (.dq 0,[(2,.da (z O+1) 0),(4,.da o 0),(5,.da (z T) 0)],K):=by rw[aB (he:=w8)];have h:¬((((3+1:Nat):Nat):Int)<(4:Int)):=(by omega);simp only[xO,h,EVX,seval]
  rw[q2]at q1;rw[q3]at q1;rw[q4,q5]at q1;obtain⟨w,s,d1,d2,j1,j2,j3,j4⟩:=jJ (azs:=[]) H.hO B.ok .db B.pk .db;obtain⟨e,rfl⟩:=BK d2;have m:=B.fe j1 j2 j3 j4;obtain⟨a,b,hs⟩:=m.s;have hres:s[z O+1]?=J (.cP [.cQ r 0,.cQ r 0,.cY] FZ):=m.au _ _ (by rw[<-t,aI];rfl);have hpre:s.take (z O)=O:=by
   apply aD6;intro i;rw[aE3];split
   ·rename_i hi;have h1:c[i]?=J O[i]:=by rw[<-t];exact aj (a01 hi) _
    rw[m.au i _ h1,a01 hi]
   ·rw[aB9 (by omega)]
  have u:∀y:AO,(s.set (z O+1) y).take (z O)=O:=λy=>by rw[eP _ _ _ (by omega),hpre]
  have V:=λy=>bF hres y;unfold JV.av at*;rw[H.g6.go P];simp only[Z6,aB1]at q1;cases ce:(e !=0)with
  |true=>obtain⟨v,v1,v2⟩:=ahS (n0:=z c) (p:=0) (os:=[]) (Y:=s.set (z O+1) (.cP [.cQ r 0,.cQ r 0,.cY] FZ)) d (by omega) 0 0 e .cY (.inl w8) [(2,.da (z O+1) 0),(3,.cQ r e)] w8 w8 (V _) (u _);refine⟨v,?_,v2⟩;rw[<-v1];simp only[QU,I,f1,aiI H,q1,d1,ce,hres,N,aU,fV,G,F,k,g,t,AV.cP,AV.Q,w9,EVX,seval]
  |false=>
   have e0:e=0:=(by simpa using ce);have mf:x.Q=eT:=(by rcases m.e8 with rfl|⟨q,_,rfl,_⟩<;>rfl);have S:afv (z c) (z T) (o::ms) (s.set (z O+1) (.cP [.cQ r a,.cQ r b,x] FZ)) x:=by
    rcases m.e8 with hm|⟨q,rs,y1,y2,y3,y4,y5,y6,y7⟩;·exact .inl hm
    ·exact .inr ⟨q,rs,y1,aH y2 (by omega) _,y3,y4,y5,y6,y7⟩
   obtain⟨v,v1,v2⟩:=ahS (Y:=s.set (z O+1) (.cP [.cQ r a,.cQ r b,x] FZ)) d (by omega) a b 0 x S [(2,.da (z O+1) 0),(3,.cQ r 0)] w8 w8 (V _) (u _);refine⟨v,?_,v2⟩;rw[<-v1];clear v1 v2 S;rcases m.e8 with Q|⟨q,rs,Q,_⟩<;>subst Q<;>simp only[QU,I,f1,aiI H,q1,d1,ce,hres,hs,N,aU,fV,G,F,k,g,t,AV.cP,AV.Q,w9,EVX,seval]
variable{V:Val}
def alg(H:FP C PK):bZ C PK AC (.dp [.jv] (.de [.cX [.cQ r,.cQ r,.ew XG],.cQ r])):=
 qw H.g6 w8 λb d=>by obtain⟨x,rfl,c⟩:=U2 d;obtain⟨j,rfl⟩:=aev c;intro O a;obtain⟨v,h,k⟩:=alh H j O a;exact⟨v,h,k⟩
def axr{v:AV}(h:M V (.de [.df,.cW]) v):∃s b,v=.de [.cU s,.cW b]:=by
 cases h with
 |de _ _ h=>
  cases h with
  |cV _ _ x b a h2=>
   cases h2 with
   |cV _ _ y b h3 h4=>cases h4;cases a;cases h3;exact⟨_,_,w8⟩
def awx{D:y}{PK:PkI}{f:x}{l args:F Sh}(h:bZ D PK f (.ro l args .cW))(k:cls args=eT){cs:LA}{fz:Fz}(c:Ms V0 l cs)(hb:ae 0 cs=eT){azs:LA}(g:Mt V0 args azs):∃b:I,∀(O:St) (o:R),O[o]?=J (.cP cs fz)->pRo D f (.da o 0::azs) O=J (.cW b,O):=by
 have i:=Mt.af g k;have a:Ok [AO.cP cs fz]:=by
  have:Ok ([]++[AO.cP cs fz]):=acn.H (by
   have:k9 0 (.cP cs fz)=eT:=hb;rw[K,this];rfl)
  exact this
 have d:∀(Y:St) (o:R),K8 eF (.da o 0::azs) Y=J (.da o 0::azs,Y):=λY o=>by show(match eX Y 12 (.da o 0::azs)with|J (l,fs)=>J (l,freeze Y fs)|U=>U)=_;rw[show eX Y 12 (.da o 0::azs)=(match cu Y (eX Y 11) (.da o 0),bI Y (eX Y 11) azs with|J (v,fs),J (l,j)=>J (v::l,fs++j)|_,_=>U)from w8,i.nf,show cu Y (eX Y 11) (.da o 0)=J (.da o 0,[])from w8];rfl
 obtain⟨v,e,hv⟩:=h [.cP cs fz] 0 azs azs [.cP cs fz] cs fz a (d _ 0) a w8 c g;obtain⟨b,rfl⟩:=zD hv;refine⟨b,λO o m=>?_⟩;simp only[pRo,d,m,i.cl,hb,e,Z0,B,j8]
end Go.Ev
namespace Go.Ev
open List renaming length→z
open Option renaming some→J, none→U
open Go.IntKind renaming i64→r
open Bool renaming true→eT, false→eF
noncomputable section
def kM:KF:=(.mk ?k:a 385 []).1
def nR:KC:=(.mk ?k:LsA 375 [] 0).1
attribute [local irreducible] nR
def EY:KF:=(.mk ?k:a 375 [nR]).1
def Aq:KF:=(.mk ?k:a 362 []).1
def Zb:KF:=(.mk ?k:a 38 []).1
def oC:KC:=(.mk ?k:LsA 186 [] 0).1
attribute [local irreducible] oC
def FN:KF:=(.mk ?k:a 186 [oC]).1
def fJ:KC:=(.mk ?k:LsA 353 [] 0).1
attribute [local irreducible] fJ
def Ak:KF:=(.mk ?k:a 353 [fJ]).1
def rY:KF:=(.mk ?k:a 361 []).1
def jh:KF:=(.mk ?k:a 376 []).1
def J6:KF:=(.mk ?k:a 386 []).1
def Hg:KF:=(.mk ?k:a 387 []).1
def oD:KC:=(.mk ?k:LsA 388 [] 0).1
attribute [local irreducible] oD
def nG:KF:=(.mk ?k:a 388 [oD]).1
def qF:KC:=(.mk ?k:LsA 394 [] 0).1
attribute [local irreducible] qF
def H5:KF:=(.mk ?k:a 394 [qF]).1
def vS:KF:=(.mk ?k:a 395 []).1
def tK:KC:=(.mk ?k:LsA 396 [] 0).1
attribute [local irreducible] tK
def DL:KF:=(.mk ?k:a 396 [tK]).1
def zy:KF:=(.mk ?k:a 247 []).1
end
variable{C:Ctx}
def bq(a b:W):(a==b)=eT\/(a==b)=eF:=by cases a==b<;>simp
def ajy(h:D C CU kM)(c:W)(O:St):∃z l u:W,0<=z/\z<=4/\ai C CU [.cQ .u8 c] O=J (.de [.cQ r z,.cQ .u8 l,.cQ .u8 u],O):=by
 rw[h.go (NVs.E (.cV (.cQ _ _) .db) _)];by_cases a:c<128;·exact⟨1,0,0,by omega,by omega,by simp only[kM,a,X,seval]⟩
 by_cases b:c<194;·exact⟨0,0,0,by omega,by omega,by simp only[kM,a,b,X,seval]⟩
 by_cases d:c<224;·exact⟨2,128,191,by omega,by omega,by simp only[kM,a,b,d,X,seval]⟩
 rcases bq c 224 with e|e;·exact⟨3,160,191,by omega,by omega,by simp only[kM,a,b,d,e,X,seval]⟩
 rcases bq c 237 with f|f;·exact⟨3,128,159,by omega,by omega,by simp only[kM,a,b,d,e,f,X,seval]⟩
 by_cases g:c<240;·exact⟨3,128,191,by omega,by omega,by simp only[kM,a,b,d,e,f,g,X,seval]⟩
 rcases bq c 240 with i|i;·exact⟨4,144,191,by omega,by omega,by simp only[kM,a,b,d,e,f,g,i,X,seval]⟩
 by_cases j:c<244;·exact⟨4,128,191,by omega,by omega,by simp only[kM,a,b,d,e,f,g,i,j,X,seval]⟩
 rcases bq c 244 with k|k;·exact⟨4,128,143,by omega,by omega,by simp only[kM,a,b,d,e,f,g,i,j,k,X,seval]⟩
 exact⟨0,0,0,by omega,by omega,by simp only[kM,a,b,d,e,f,g,i,j,k,X,seval]⟩
def Uw(s:LU)(hs:s.length<1099511627777)(i:R)(z:W)(m:z<=4)(hi:i<s.length)(O:St):∀(n k:R),(k:W)+n=i+z->k<=s.length->∀f l u:W,∃o,aG C (ai C) 78 [0,1,4,5,7,8,9] nR [(0,.cU s),(1,.cQ r i),(4,.cQ r f),(5,.cQ r z),(7,.cQ .u8 l),(8,.cQ .u8 u),(9,.cQ r k)] O=J o/\((∃q,o=(.dq 0,[(4,.cQ r q),(5,.cQ r z)],O))\/∃e:W,e≠0/\o=(.ea,[(4,.cQ r 0),(5,.cQ r 0),(6,.cQ r e)],O))
 |0,k,g,j,f,l,u=>by rw[aB (he:=w8)];have w:IntKind.i64.wrap ((i:W)+z)=k:=wrE (by omega);have h:¬((k:W)<k):=(by omega);exact⟨_,by simp only[nR,w,h,X,seval],.inl ⟨f,w8⟩⟩
 |n+1,k,g,j,f,l,u=>by
  rw[aB (he:=w8)];have p:=Uw s hs i z m hi O n (k+1) (by omega);generalize v:aG C (ai C) 78 [0,1,4,5,7,8,9] nR=K at*;have w:IntKind.i64.wrap ((i:W)+z)=i+z:=wrE (by omega);have t:=N k (by omega);have h:(k:W)<i+z:=(by omega);have h3:(0:W)<=k:=(by omega);by_cases c:k=s.length;·have a:((k:W)==(s.length:W))=eT:=(by simp[c]);exact⟨_,by simp only[nR,w,h,a,X,seval],.inr ⟨4,by decide,w8⟩⟩
  have a:((k:W)==(s.length:W))=eF:=by simp;omega
  have hb:s[k]?=J s[k]:=P (by omega);by_cases b:(s[k].toNat:W)<l;·exact⟨_,by simp only[nR,w,h,a,h3,hb,b,X,seval],.inr ⟨12,by decide,w8⟩⟩
  by_cases d:u<(s[k].toNat:W);·exact⟨_,by simp only[nR,w,h,a,h3,hb,b,d,X,seval],.inr ⟨12,by decide,w8⟩⟩
  simp only[nR,w,t,h,a,h3,hb,b,d,X,seval];exact p (by omega) _ _ _
def ajx(h:D C Jw EY)(g:D C CU kM)(s:LU)(hs:s.length<1099511627777)(i:R)(hi:i<s.length)(O:St):∃y z e:W,ai C Jw [.cU s,.cQ r i] O=J (.de [.cQ r y,.cQ r z,.cQ r e],O)/\0<=z/\z<=4/\(e=0->1<=z):=by
 rw[h.go (NVs.E (.cV (.cU _) (.cV (.cQ _ _) .db)) _)];have a:¬((i:W)<0):=by omega
 have h2:¬((s.length:W)<i):=by omega
 have h4:((i:W)==(s.length:W))=eF:=by simp;omega
 have h3:(0:W)<=i:=by omega
 have hb:s[i]?=J s[i]:=P hi;obtain⟨z,l,u,p,d,b⟩:=ajy g (s[i].toNat:W) O;have n:=N i (by omega);rcases bq z 0 with c|c;·have:z=0:=(by simpa using c);subst this;exact⟨0,0,12,by simp only[EY,a,h2,h3,h4,hb,b,X,seval],by omega,by omega,λe=>by cases e⟩
 have q:z≠0:=by simpa using c
 by_cases f:1<z;all_goals
  have j:=λy=>Uw (C:=C) s hs i z d hi O (z-1).toNat (i+1) (by omega) (by omega) y l u;have m:¬(IntKind.i64.wrap (z+1)<0):=(by rw[w64]<;>omega);obtain⟨o,e⟩:=w j;have e1:=λx=>(e x).1;have e2:=λx=>(e x).2;simp only[EY,a,h2,h3,h4,hb,b,c,f,n,m,e1,X,seval];apply Or.elim (e2 _);·rintro⟨k,h⟩;rw[h];exact⟨k,z,0,by simp only[X,seval],p,d,λ_=>by omega⟩
  ·rintro⟨e,e0,h⟩;rw[h];exact⟨0,0,e,by simp only[X,seval],by omega,by omega,λh=>Y h e0⟩
def aq8(d:W):(Utf8.encode d).data.toList.length<=4:=by
 unfold Utf8.encode;simp only;repeat' split
 all_goals simp
def aly(h:D C MF Aq)(f:W)(O:St):∃(t:LU) (e:W),ai C MF [.cQ r f] O=J (.de [.cU t,.cQ r e],O)/\z t<=4:=by
 rw[h.go (NVs.E (.cV (.cQ _ _) .db) _)];by_cases a:f<0;·exact⟨[],1,by simp only[Aq,a,X,seval],by simp⟩
 by_cases b:1114111<f;·exact⟨[],1,by simp only[Aq,a,b,X,seval],by simp⟩
 by_cases c:55296<=f
 ·by_cases d:f<=57343;·exact⟨[],1,by simp only[Aq,a,b,c,d,X,seval],by simp⟩
  ·exact⟨_,0,by simp only[Aq,a,b,c,d,X,seval],aq8 (IntKind.i32.wrap f)⟩
 ·exact⟨_,0,by simp only[Aq,a,b,c,X,seval],aq8 (IntKind.i32.wrap f)⟩
def afp(C:y):Prop:=∀(s:LU) (i:W) (O:St),∃(n:W) (b:I),ai C qI [.cU s,.cQ r i] O=J (.de [.cQ r n,.cW b],O)
def acA(h:D C BD vS)(d:afp C)(s:LU)(i:R)(hi:i<z s)(O:St):∃(n:W) (b:I),ai C BD [.cU s,.cQ r i] O=J (.de [.cQ r n,.cW b],O):=by
 rw[h.go (NVs.E (.cV (.cU _) (.cV (.cQ _ _) .db)) _)];have h3:(0:W)<=i:=by omega
 have hb:s[i]?=J s[i]:=P hi;obtain⟨n,b,q⟩:=d s i O;by_cases a:(65:W)<=(s[i].toNat:W)
 ·by_cases c:(s[i].toNat:W)<=70;·exact⟨_,_,by simp only[vS,h3,hb,a,c,X,seval];rfl⟩
  ·exact⟨n,b,by simp only[vS,h3,hb,a,c,q,X,seval]⟩
 ·exact⟨n,b,by simp only[vS,h3,hb,a,q,X,seval]⟩
def KW(a b c d:W)(O:St):∀(k i:R),i+k=4->∀n:W,∃g:W,aG C (ai C) 18 [3,6,7,8] tK [(3,.cQ r n),(6,.sl 4 [.cQ r a,.cQ r b,.cQ r c,.cQ r d]),(7,.cQ r 4),(8,.cQ r i)] O=J (.dq 0,[(3,.cQ r g)],O)
 |0,i,hi,n=>by have:i=4:=(by omega);subst this;rw[aB (he:=w8)];exact⟨n,by simp only[tK,X,seval]⟩
 |k+1,i,hi,n=>by have f:=KW a b c d O k (i+1) (by omega);rw[aB (he:=w8)];generalize h:aG C (ai C) 18 [3,6,7,8] tK=K at*;have:i=0\/i=1\/i=2\/i=3:=(by omega);rcases this with rfl|rfl|rfl|rfl<;>simp only[tK,AV.cP,X,seval]<;>exact f _
def aab(h:D C Ee DL)(a b c d:W)(O:St):∃n:W,ai C Ee [.eB 4 [.cQ r a,.cQ r b,.cQ r c,.cQ r d]] O=J (.cQ r n,O):=by have e:K8 eF [.eB 4 [.cQ r a,.cQ r b,.cQ r c,.cQ r d]] O=J ([.sl 4 [.cQ r a,.cQ r b,.cQ r c,.cQ r d]],O):=w8;rw[h.go e];obtain⟨n,q⟩:=KW (C:=C) a b c d O 4 0 w8 0;rw[show((0:R):W)=0 from w8]at q;exact⟨n,by simp only[DL,q,X,seval]⟩
def nc:((0:R):W)=0/\((1:R):W)=1/\((2:R):W)=2/\((3:R):W)=3/\((4:R):W)=4:=⟨w8,w8,w8,w8,w8⟩
def O8(h:D C BD vS)(p:afp C)(s:LU)(hs:z s<1099511627777)(at_:R)(l:at_<=z s)(O:St)(m:Ok O):∀(k i:R),i+k=4->(i=0\/at_+i<=z s)->∀a b c d:W,∃x,aG C (ai C) 43 [0,1,6,10] qF [(0,.cU s),(1,.cQ r at_),(6,.da (z O) 0),(10,.cQ r i)] (O++[.cP [.cQ r a,.cQ r b,.cQ r c,.cQ r d] FZ])=J x/\((∃a b c d:W,at_+4<=z s/\x=(.dq 0,[(6,.da (z O) 0)],O++[.cP [.cQ r a,.cQ r b,.cQ r c,.cQ r d] FZ]))\/∃(e:W) (L:St),e≠0/\x=(.ea,[(4,.cQ r 0),(5,.cQ r e)],O++L))
 |0,i,hi,y,a,b,c,d=>by have:i=4:=(by omega);subst this;rw[aB (he:=w8)];exact⟨_,by simp only[qF,X,seval],.inl ⟨a,b,c,d,by omega,w8⟩⟩
 |k+1,i,hi,y,a,b,c,d=>by
  have g:=O8 h p s hs at_ l O m k (i+1) (by omega);rw[aB (he:=w8)];generalize B:aG C (ai C) 43 [0,1,6,10] qF=K at*;have w:IntKind.i64.wrap ((at_:W)+i)=((at_+i:R):W):=wrE (by omega);have t:=N i (by omega);have j:(i:W)<4:=(by omega);have A:(0:W)<=i:=(by omega);by_cases o:z s<=at_+i;·have o:(z s:W)<=((at_+i:R):W):=(by omega);exact⟨_,by simp only[qF,j,w,o,X,seval];rfl,.inr ⟨4,_,by decide,w8⟩⟩
  have f:¬(z s:W)<=((at_+i:R):W):=(by omega);obtain⟨n,u,q⟩:=acA h p s (at_+i) (by omega) (O++[.cP [.cQ r a,.cQ r b,.cQ r c,.cQ r d] FZ]);cases u with
  |false=>exact⟨_,by simp only[qF,j,w,f,q,X,seval];rfl,.inr ⟨3,_,by decide,w8⟩⟩|true=>have g:=g (.inr (by omega));have:i=0\/i=1\/i=2\/i=3:=(by omega);rcases this with rfl|rfl|rfl|rfl<;>simp only[Nat.reduceAdd,aL1,nc]at w t g f q<;>simp only[qF,j,A,w,t,f,q,AV.cP,AV.Q,w9,X,seval]<;>exact g _ _ _ _
def Um(h:D C BD vS)(k:D C Ee DL)(hf:D C NW H5)(j:afp C)(s:LU)(hs:z s<1099511627777)(i:R)(hi:i<=z s)(O:St)(f:Ok O):∃n e:W,ai C NW [.cU s,.cQ r i] O=J (.de [.cQ r n,.cQ r e],O)/\(e=0->i+4<=z s):=by
 rw[hf.go (NVs.E (.cV (.cU _) (.cV (.cQ _ _) .db)) _)];have g:=λn e:W=>bu f (vs:=[.cQ r n,.cQ r e]) w8;obtain⟨x,q,l⟩:=O8 h j s hs i hi O f 4 0 w8 (.inl w8) 0 0 0 0;rw[show((0:R):W)=0 from w8]at q;rcases l with⟨a,b,c,d,h4,rfl⟩|⟨e,L,e0,rfl⟩;·obtain⟨n,qn⟩:=aab k a b c d (O++[.cP [.cQ r a,.cQ r b,.cQ r c,.cQ r d] FZ]);exact⟨n,0,by simp only[H5,q,qn,g,AV.cP,AV.Q,w9,X,seval],λ_=>h4⟩
 ·exact⟨0,e,by simp only[H5,q,g,X,seval],λh=>Y h e0⟩
structure Bc(C:Ctx):Prop extends BldHas C where
 kd:Has C CU kM
 eW:Has C Jw EY
 cn:Has C MF Aq
 gc:Has C BD vS
 ed:Has C Ee DL
 ka:Has C NW H5
 jb:Has C FW nG
 nw:Has C OU jh
 lb:Has C KH J6
 je:Has C rU Hg
 kc:Has C NY rY
 k4:Has C EM zy
 gW:Has C Ed Ak
 gg:Has C zl FN
 gs:Has C Gw Zb
 ei:afp C
 dt:∀(s:LU) (O:St),s.length<=1099511627776->∃(n:Int) (b:Bool),ai C Yo [.cU s] O=some (.de [.cQ .i64 n,.cW b],O)
def bn(a b:W):(a !=b)=eF\/(a !=b)=eT:=by cases a !=b<;>simp
def ww:IntKind.i64.wrap 1=1/\IntKind.i64.wrap 2=2:=⟨w8,w8⟩
def MX(s:LU)(hs:z s<1099511627777)(f:W)(O:St):∀(k i:R),i+k=2->∀p:R,p<=z s->∃x,aG C (ai C) 75 [0,1,7,33,34,35] oD [(0,.cU s),(1,.cQ r p),(7,.cQ r f),(33,.eB 2 [.cQ .u8 92,.cQ .u8 117]),(34,.cQ r 2),(35,.cQ r i)] O=J x/\((∃g:R,p<=g/\g<=p+k/\g<=z s/\x=(.dq 0,[(0,.cU s),(1,.cQ r g),(7,.cQ r f)],O))\/∃e:W,e≠0/\x=(.ea,[(4,.cQ r 0),(5,.cQ r 0),(6,.cQ r e)],O))
 |0,i,hi,p,j=>by have:i=2:=(by omega);subst this;rw[aB (he:=w8)];exact⟨_,by simp only[oD,X,seval],.inl ⟨p,by omega,by omega,j,w8⟩⟩
 |k+1,i,hi,p,j=>by
  have n:=MX s hs f O k (i+1) (by omega) (p+1);rw[aB (he:=w8)];generalize t:aG C (ai C) 75 [0,1,7,33,34,35] oD=K at*;have o:=N p (by omega);have l:(0:W)<=p:=(by omega);have i2:i=0\/i=1:=(by omega);rcases bq p (z s) with c|c;·exact⟨_,by rcases i2 with rfl|rfl<;>simp only[oD,c,AV.cP,X,seval]<;>rfl,.inr ⟨4,by decide,w8⟩⟩
  have q:(p:W)≠z s:=(by simpa using c);have hb:s[p]?=J s[p]:=P (by omega);rcases bn s[p].toNat (if i=0 then 92 else 117)with d|d
  case inr=>exact⟨_,by rcases i2 with rfl|rfl<;>simp only[B,Nat.succ_ne_zero,Nat.one_ne_zero,if_false]at d<;>simp only[oD,c,d,hb,l,AV.cP,X,seval]<;>rfl,.inr ⟨12,by decide,w8⟩⟩
  ·obtain⟨x,h,h2⟩:=n (by omega);refine⟨x,?_,?_⟩;·rcases i2 with rfl|rfl<;>simp only[Nat.reduceAdd,nc]at h<;>simp only[B,Nat.succ_ne_zero,Nat.one_ne_zero,if_false]at d<;>simp only[oD,c,d,hb,l,o,h,ww,AV.cP,X,seval]
   ·rcases h2 with⟨g,a,b,e,y⟩|h2;·exact .inl ⟨g,by omega,by omega,e,y⟩
    ·exact .inr h2
def acy(H:Bc C)(s:LU)(hs:s.length<1099511627777)(i:R)(hi:i<=s.length)(O:St)(g:Ok O):∃n z e:W,ai C FW [.cU s,.cQ r i] O=J (.de [.cQ r n,.cQ r z,.cQ r e],O)/\(e=0->i<=z/\z<=i+10):=by
 rw[H.jb.go (NVs.E (.cV (.cU _) (.cV (.cQ _ _) .db)) _)];obtain⟨n,e,q1,b1⟩:=Um H.gc H.ed H.ka H.ei s hs i hi O g;rcases bn e 0 with c|c
 case inr=>exact⟨0,0,e,by simp only[nG,q1,c,X,seval],λh=>by subst h;simp at c⟩
 have e0:e=0:=by simpa using c
 subst e0;have b1:=b1 w8;have b:IntKind.i64.wrap ((i:W)+4)=((i+4:R):W):=wrE (by omega);by_cases a:n<55296;·exact⟨n,_,0,by simp only[nG,q1,a,b,X,seval];rfl,λ_=>by omega⟩
 by_cases d:57343<n;·exact⟨n,_,0,by simp only[nG,q1,a,d,b,X,seval];rfl,λ_=>by omega⟩
 by_cases f:56320<=n;·exact⟨0,0,12,by simp only[nG,q1,a,d,f,b,X,seval],λh=>by cases h⟩
 obtain⟨x,l1,l2⟩:=MX (C:=C) s hs n O 2 0 w8 (i+4) b1;rw[nc.1]at l1;rcases l2 with⟨p,t,u,m,rfl⟩|⟨e,e0,rfl⟩
 case inr=>exact⟨0,0,e,by simp only[nG,q1,a,d,f,b,l1,X,seval],λh=>Y h e0⟩
 obtain⟨l,e,q2,q⟩:=Um H.gc H.ed H.ka H.ei s hs p m O g;rcases bn e 0 with c|c
 case inr=>exact⟨0,0,e,by simp only[nG,q1,a,d,f,b,l1,q2,c,X,seval],λh=>by subst h;simp at c⟩
 have e0:e=0:=by simpa using c
 subst e0;have o:IntKind.i64.wrap ((p:W)+4)=((p+4:R):W):=wrE (by omega);by_cases j:l<56320;·exact⟨0,0,12,by simp only[nG,q1,a,d,f,j,b,l1,q2,X,seval],λh=>by cases h⟩
 by_cases k:57343<l;·exact⟨0,0,12,by simp only[nG,q1,a,d,f,j,k,b,l1,q2,X,seval],λh=>by cases h⟩
 exact⟨_,_,0,by simp only[nG,q1,a,d,f,j,k,b,o,l1,q2,X,seval];rfl,λ_=>by omega⟩
def ayE(Y:St)(v:AV):Prop:=v=.eo\/v=.dv (.func FW) [] []\/∃(d:W) (o:R),v=.dv (.func rU) [] [.da o 0]/\Y[o]?=J (.cP [.cQ r d] FZ)
def AU(O L:St)(f:Fn):K5 (z O) [.dv f [] [.da (z O) 0]] (O++L)=O++L:=by
 unfold K5;split;·rfl
 ·simp[ae,j8]
def Ve(H:Bc C)(d:W)(O:St):ai C KH [.cQ r d] O=J (.dv (.func rU) [] [.da (z O) 0],O++[.cP [.cQ r d] FZ]):=by rw[H.lb.go (NVs.E (.cV (.cQ _ _) .db) _)];simp only[J6,AU,X,seval]
def YE(H:Bc C)(c:W)(O:St)(k:Ok O):∃v L,ai C OU [.cQ .u8 c] O=J (v,O++L)/\Ok (O++L)/\ayE (O++L) v:=by
 rw[H.nw.go (NVs.E (.cV (.cQ _ _) .db) _)];have q:=λx=>Ve H x O;have fin:∀x,Ok (O++[.cP [.cQ r x] FZ])/\ayE (O++[.cP [.cQ r x] FZ]) (.dv (.func rU) [] [.da (z O) 0]):=λx=>⟨k.H w8,.inr (.inr ⟨x,_,w8,by rw[aU w8];rfl⟩)⟩;rcases bq c 34 with a|a;·exact⟨_,_,by simp only[jh,a,q,kV,AU,X,seval];rfl,fin _⟩
 rcases bq c 92 with b|b;·exact⟨_,_,by simp only[jh,a,b,q,kV,AU,X,seval];rfl,fin _⟩
 rcases bq c 47 with d|d;·exact⟨_,_,by simp only[jh,a,b,d,q,kV,AU,X,seval];rfl,fin _⟩
 rcases bq c 98 with e|e;·exact⟨_,_,by simp only[jh,a,b,d,e,q,kV,AU,X,seval];rfl,fin _⟩
 rcases bq c 102 with f|f;·exact⟨_,_,by simp only[jh,a,b,d,e,f,q,kV,AU,X,seval];rfl,fin _⟩
 rcases bq c 110 with g|g;·exact⟨_,_,by simp only[jh,a,b,d,e,f,g,q,kV,AU,X,seval];rfl,fin _⟩
 rcases bq c 114 with h|h;·exact⟨_,_,by simp only[jh,a,b,d,e,f,g,h,q,kV,AU,X,seval];rfl,fin _⟩
 rcases bq c 116 with i|i;·exact⟨_,_,by simp only[jh,a,b,d,e,f,g,h,i,q,kV,AU,X,seval];rfl,fin _⟩
 rcases bq c 117 with j|j;·exact⟨.dv (.func FW) [] [],[],by simp only[jh,a,b,d,e,f,g,h,i,j,aB3,X,seval],by rwa[aB3],.inr (.inl w8)⟩
 exact⟨.eo,[],by simp only[jh,a,b,d,e,f,g,h,i,j,aB3,X,seval],by rwa[aB3],.inl w8⟩
def acz(H:Bc C)(s:LU)(z:W)(o:R)(d:W)(Y:St)(b:Y[o]?=J (.cP [.cQ r d] FZ)):ai C rU [.cU s,.cQ r z,.da o 0] Y=J (.de [.cQ r d,.cQ r z,.cQ r 0],Y):=by have a:K8 eF [.cU s,.cQ r z,.da o 0] Y=J ([.cU s,.cQ r z,.da o 0],Y):=w8;rw[H.je.go a];simp only[Hg,b,X,seval]
def adx(H:Bc C)(s:LU)(hs:s.length<1099511627777)(i:R)(hi:i<s.length)(O:St)(k:Ok O):∃n z e:W,ai C NY [.cU s,.cQ r i] O=J (.de [.cQ r n,.cQ r z,.cQ r e],O)/\(e=0->i<z/\z<=i+12):=by
 rw[H.kc.go (NVs.E (.cV (.cU _) (.cV (.cQ _ _) .db)) _)];have t:=λa b c:W=>bu k (vs:=[.cQ r a,.cQ r b,.cQ r c]) w8;have h3:(0:W)<=i:=by omega
 have hb:s[i]?=J s[i]:=P hi;by_cases f:(s[i].toNat:W)<32;·exact⟨0,0,3,by simp only[rY,h3,hb,f,X,seval],λh=>by cases h⟩
 rcases bn s[i].toNat 92 with g|g
 case inr=>
  obtain⟨N,z,e,q,D,E,x⟩:=ajx H.eW H.kd s hs i hi O;rcases bn e 0 with d|d
  case inr=>exact⟨0,0,e,by simp only[rY,h3,hb,f,g,q,d,X,seval],λh=>by subst h;simp at d⟩
  have e0:e=0:=(by simpa using d);have x:=x e0;obtain⟨m,rfl⟩:=K0 D;have w:IntKind.i64.wrap ((i:W)+(m:W))=((i+m:R):W):=wrE (by omega);exact⟨N,((i+m:R):W),0,by simp only[rY,h3,hb,f,g,q,d,w,X,seval],λ_=>by omega⟩
 have l:=wrS i (by omega);have u:IntKind.i64.wrap ((i:W)+2)=((i+2:R):W):=wrE (by omega);rcases bq ((i+1:R):W) s.length with d|d;·exact⟨0,0,4,by simp only[rY,h3,hb,f,g,l,d,X,seval],λh=>by cases h⟩
 have A:((i+1:R):W)≠s.length:=by simpa using d
 have j:s[i+1]?=J s[i+1]:=P (by omega);have h4:(0:W)<=((i+1:R):W):=by omega
 obtain⟨v,L,q,p,hv⟩:=YE H s[i+1].toNat O k;rcases hv with rfl|rfl|⟨N,o,rfl,B⟩;·exact⟨0,0,3,by simp only[rY,h3,h4,hb,j,f,g,l,d,q,t,X,seval],λh=>by cases h⟩
 ·obtain⟨n,z,e,q2,y⟩:=acy H s hs (i+2) (by omega) (O++L) p;refine⟨n,z,e,by simp only[rY,h3,h4,hb,j,f,g,l,u,d,q,q2,kV,t,a88,aB3,X,seval],λh=>?_⟩;have:=y h;omega
 ·have q2:=acz H s ((i+2:R):W) o N (O++L) B;exact⟨N,((i+2:R):W),0,by simp only[rY,h3,h4,hb,j,f,g,l,u,d,q,q2,kV,t,a88,K7,X,seval],λ_=>by omega⟩
def afP(H:BldHas C){o n:R}{O Y S:St}{w:LU}{a:Q R}(b:Bk S o w a)(t:TrB o Y U S a)(d:n=z O)(f:Y.take n=O)(e:n<=o)(i:n<=z Y)(g:z w<=1099511627776):∃S',ai C gY [.da o 0] S=J (.cU w,S')/\S'.take n=O:=by
 have tk:S.take n=O:=t.cD d f e;obtain⟨p,c,x1,x2,x3⟩:=b;rcases x3 with⟨_,rfl,rfl⟩|⟨q,x3,x4,x5,rfl,x6⟩;·exact⟨S,H.md _ _ _ x1,tk⟩
 ·refine⟨_,H.me _ _ _ _ _ x1 x6 x5 g,?_⟩;rcases t.q q x3 with h|h;·cases h
  ·rw[eP _ _ _ (by omega),tk]
def apG(H:Bc C){o:R}{Y:St}{w:LU}{qo:Q R}(b:Bk Y o w qo):ai C EM [.da o 0] Y=J (.cQ r (z w),Y):=by
 have a:=kK o Y;rw[H.k4.go a];obtain⟨p,c,x1,x2,x3⟩:=b;dsimp only[bT]at x1;rcases x3 with⟨_,rfl,rfl⟩|⟨q,x3,x4,x5,rfl,x6⟩;·simp only[zy,x1,AV.cP,X,seval]
 ·simp only[zy,x1,AV.cP,X,seval]
def aa9 (H:Bc C) (s:LU) (hs:s.length<1099511627777) (O:St) (o:Nat) (y:O.length<=o) (u:St) (v:u.take O.length=O) (M:O.length<=u.length):∀(k p:Nat),s.length<=p+k->p<=s.length+12->∀(Y:St) (w:LU) (qo:Option Nat),Ok Y->Bk Y o w qo->TrB o u U Y qo->w.length<=4096->
  ∃x,aG C (ai C) 67 [0,1,7] fJ [(0,.cU s),(1,.cQ r p),(7,.da o 0)] Y=J x/\((∃d,x=(.dq 0,[],d)/\d.take O.length=O)\/∃(t:LU) (z e:W) (d:St),x=(.ea,[(4,.cU t),(5,.cQ r z),(6,.cQ r e)],d)/\d.take O.length=O/\0<=z/\t.length<=4096):=by
 intro k
 induction k with
 |zero=>intro p P A Y w qo f hb i F;rw[aB (he:=w8)];have c:¬((p:W)<s.length):=(by omega);exact⟨_,by simp only[fJ,c,X,seval],.inl ⟨_,w8,i.cD w8 v y⟩⟩
 |succ k Q=>
  intro p P A Y w qo f hb i F;rw[aB (he:=w8)];generalize S:aG C (ai C) 67 [0,1,7] fJ=K at*;have tk:Y.take O.length=O:=i.cD w8 v y;by_cases c:(p:W)<s.length
  case neg=>exact⟨_,by simp only[fJ,c,X,seval],.inl ⟨_,w8,tk⟩⟩
  have a:s[p]?=J s[p]:=a01 (by omega);have j:(0:W)<=p:=(by omega);rcases bq s[p].toNat 34 with g|g;·obtain⟨I,s1,s2⟩:=afP H.toBldHas hb i w8 v y M (by omega);have R:IntKind.i64.wrap ((p:W)+1)=p+1:=wrE (by omega);exact⟨_,by simp only[fJ,c,g,a,j,s1,R,X,seval],.inr ⟨w,p+1,0,I,w8,s2,by omega,F⟩⟩
  obtain⟨n,z,e,q,b⟩:=adx H s hs p (by omega) Y f;rcases bn e 0 with h|h
  case inr=>exact⟨_,by simp only[fJ,c,g,h,a,j,q,X,seval],.inr ⟨[],0,e,Y,w8,tk,by omega,by simp⟩⟩
  have e0:e=0:=(by simpa using h);have b:=b e0;obtain⟨t,E,q2,T⟩:=aly H.cn n Y;rcases bn E 0 with l|l
  case inr=>exact⟨_,by simp only[fJ,c,g,h,l,a,j,q,q2,X,seval],.inr ⟨[],0,E,Y,w8,tk,by omega,by simp⟩⟩
  have q3:=apG H hb;have G:IntKind.i64.wrap ((w.length:W)+(t.length:W))=w.length+t.length:=wrE (by omega);by_cases D:(4096:W)<(w.length:W)+(t.length:W);·exact⟨_,by simp only[fJ,c,g,h,l,D,a,j,q,q2,q3,G,X,seval],.inr ⟨[],0,5,Y,w8,tk,by omega,by simp⟩⟩
  obtain⟨d,B,q4,L,t4⟩:=IA H.toBldHas t f hb (by omega);obtain⟨m,rfl⟩:=K0 (show 0<=z by omega);obtain⟨x,x1,x2⟩:=Q m (by omega) (by omega) d (w++t) B t4.ok L (i.N t4) (by rw[X2];omega);exact⟨x,by simp only[fJ,c,g,h,l,D,a,j,q,q2,q3,q4,G,x1,X,seval],x2⟩
def av3(H:Bc C):afx C:=λs i O hs hi a=>by
 rw[H.gW.go (NVs.E (.cV (.cU _) (.cV (.cQ _ _) .db)) _)];have d:¬((i:W)<0):=by omega
 have h2:¬((s.length:W)<i):=by omega
 have h3:(0:W)<=i:=by omega
 have l:=λ(t:LU) (z e:W)=>bu a (vs:=[.cU t,.cQ r z,.cQ r e]) w8;rcases bq i s.length with c|c;·exact⟨[],0,4,by simp only[Ak,d,h2,c,X,seval],by omega,lb0⟩
 have j:(i:W)≠s.length:=by simpa using c
 have hb:s[i]?=J s[i]:=P (by omega);rcases bn s[i].toNat 34 with b|b
 case inr=>exact⟨[],0,3,by simp only[Ak,d,h2,h3,hb,c,b,X,seval],by omega,lb0⟩
 have f:=N i (by omega);have okB:Ok (O++[.cP [.ep,.cY] bT]):=a.H w8;obtain⟨x,x1,x2⟩:=aa9 H s hs O O.length (K2 _) (O++[.cP [.ep,.cY] bT]) (by simp) (by simp) s.length (i+1) (by omega) (by omega) _ [] U okB ⟨.ep,.cY,by rw[aU w8];rfl,.inl w8,.inl ⟨w8,w8,w8⟩⟩ (.ax okB) (by simp);dsimp only[bT]at x1;rcases x2 with⟨g,rfl,tk⟩|⟨t,z,e,g,rfl,tk,h,k⟩;·have tq:=λ(t:LU) (z e:W)=>jP (vs:=[.cU t,.cQ r z,.cQ r e]) a w8 tk;exact⟨[],0,4,by simp only[Ak,d,h2,h3,hb,c,b,f,x1,tq,X,seval],by omega,lb0⟩
 ·have tq:=λ(t:LU) (z e:W)=>jP (vs:=[.cU t,.cQ r z,.cQ r e]) a w8 tk;exact⟨t,z,e,by simp only[Ak,d,h2,h3,hb,c,b,f,x1,tq,X,seval],h,by simp only[LB];omega⟩
def X4(H:Bc C)(s:LU)(hs:z s<=1099511627776)(O:St):∃b:I,ai C Gw [.cU s] O=J (.cW b,O):=by rw[H.gs.go (NVs.E (.cV (.cU _) .db) _)];obtain⟨n,b,q⟩:=H.dt s O hs;exact⟨b,by simp only[Zb,q,X,seval]⟩
def YD (H:Bc C) (s:LU) (hs:z s<=4096) (O:St) (o:R) (t:St):∀(k p:R),p+k=z s->∀(Y:St) (w:LU) (qo:Q R),Ok Y->Bk Y o w qo->TrB o t U Y qo->z w<=1+2*p->
  ∃(a:St) (c:LU) (b:Q R),aG C (ai C) 36 [0,4,14,15] oC [(0,.cU s),(4,.da o 0),(14,.cQ r (z s)),(15,.cQ r p)] Y=J (.dq 0,[(4,.da o 0)],a)/\Ok a/\Bk a o c b/\TrB o t U a b/\z c<=1+2*z s:=by
 intro k
 induction k with
 |zero=>intro p F Y w qo d hb q G;rw[aB (he:=w8)];have l:¬((p:W)<z s):=(by omega);exact⟨Y,w,qo,by simp only[oC,l,X,seval],d,hb,q,by omega⟩
 |succ k y=>
  intro p F Y w qo d hb q G;rw[aB (he:=w8)];generalize I:aG C (ai C) 36 [0,4,14,15] oC=K at*;have l:(p:W)<z s:=(by omega);have e:s[p]?=J s[p]:=P (by omega);have A:(0:W)<=p:=(by omega);have B:=wrS p (by omega);have v:((92:L).toNat:W)=92:=w8;have m:((s[p].toNat:W)==34)=eT\/((s[p].toNat:W)==34)=eF/\((s[p].toNat:W)==92)=eT->∃(a:St) (c:LU) (b:Q R),ai C ik [.da o 0,.cQ .u8 92] Y=J (.eb,a)/\Ok a/\Bk a o c b/\TrB o t U a b/\z c<=2+2*p:=λ_=>by obtain⟨u,q1,e1,b1,t1⟩:=AY H.toBldHas 92 d hb (by omega);rw[v]at e1;exact⟨u,_,q1,e1,t1.ok,b1,q.N t1,by rw[X2,aH3];omega⟩
  rcases bq s[p].toNat 34 with g|g;·obtain⟨u,D,q1,e1,f,b1,t1,l1⟩:=m (.inl g);obtain⟨i,q2,e2,j,t2⟩:=AY H.toBldHas s[p] f b1 (by omega);obtain⟨a,c,b,x,h⟩:=y (p+1) (by omega) i _ q2 t2.ok j (t1.N t2) (by rw[X2,aH3];omega);exact⟨a,c,b,by simp only[oC,l,g,e,A,e1,e2,B,x,X,seval],h⟩
  ·rcases bq s[p].toNat 92 with n|n;·obtain⟨u,D,q1,e1,f,b1,t1,l1⟩:=m (.inr ⟨g,n⟩);obtain⟨i,q2,e2,j,t2⟩:=AY H.toBldHas s[p] f b1 (by omega);obtain⟨a,c,b,x,h⟩:=y (p+1) (by omega) i _ q2 t2.ok j (t1.N t2) (by rw[X2,aH3];omega);exact⟨a,c,b,by simp only[oC,l,g,n,e,A,e1,e2,B,x,X,seval],h⟩
   ·obtain⟨i,q2,e2,j,t2⟩:=AY H.toBldHas s[p] d hb (by omega);obtain⟨a,c,b,x,h⟩:=y (p+1) (by omega) i _ q2 t2.ok j (q.N t2) (by rw[X2,aH3];omega);exact⟨a,c,b,by simp only[oC,l,g,n,e,A,e2,B,x,X,seval],h⟩
def acx(H:Bc C)(s:LU)(O:St)(a:Ok O):∃(q:LU) (e:W),ai C zl [.cU s] O=J (.de [.cU q,.cQ r e],O)/\z q<=8194:=by
 rw[H.gg.go (NVs.E (.cV (.cU _) .db) _)];by_cases d:(4096:W)<(z s:W);·exact⟨[],5,by simp only[FN,d,X,seval],by simp⟩
 obtain⟨b,hv⟩:=X4 H s (by omega) O;cases b with
 |false=>exact⟨[],12,by simp only[FN,d,hv,X,seval],by simp⟩|true=>have okB:Ok (O++[.cP [.ep,.cY] bT]):=a.H w8;have j:Bk (O++[.cP [.ep,.cY] bT]) (z O) [] U:=⟨.ep,.cY,by rw[aU w8];rfl,.inl w8,.inl ⟨w8,w8,w8⟩⟩;obtain⟨g,q1,e1,b1,t1⟩:=AY H.toBldHas 34 okB j (by simp);obtain⟨m,k,q2,e2,f,h,t2,l2⟩:=YD H s (by omega) O (z O) _ (z s) 0 (by omega) g _ q1 t1.ok b1 t1 (by simp);obtain⟨o,q3,e3,i,t3⟩:=AY H.toBldHas 34 f h (by omega);obtain⟨l,s1,s2⟩:=afP H.toBldHas i (t2.N t3) (n:=z O) w8 (by simp) (K2 _) (by simp) (by rw[X2,aH3];omega);have tq:=λt:LU=>jP (vs:=[.cU t,.cQ r 0]) a w8 s2;have c:((34:L).toNat:W)=34:=w8;rw[c]at e1 e3;rw[nc.1]at e2;dsimp only[bT]at e1;exact⟨k++[34],0,by simp only[FN,d,hv,e1,e2,e3,s1,tq,X,seval],by rw[X2,aH3];omega⟩
def pla(c:L):Prop:=32<=c.toNat/\c.toNat<128/\c.toNat≠34/\c.toNat≠92
def akD(h:D C CU kM)(c:R)(b:c<128)(O:St):ai C CU [.cQ .u8 c] O=J (.de [.cQ r 1,.cQ .u8 0,.cQ .u8 0],O):=by
 rw[h.go (NVs.E (.cV (.cQ _ _) .db) _)];have a:(c:W)<128:=by omega
 simp only[kM,a,X,seval]
def akL(h:D C Jw EY)(f:D C CU kM)(s:LU)(hs:z s<1099511627777)(i:R)(c:L)(hb:s[i]?=J c)(e:c.toNat<128)(O:St):ai C Jw [.cU s,.cQ r i] O=J (.de [.cQ r c.toNat,.cQ r 1,.cQ r 0],O):=by
 have hi:=(a00.mp hb).1;rw[h.go (NVs.E (.cV (.cU _) (.cV (.cQ _ _) .db)) _)];have d:¬((i:W)<0):=by omega
 have h2:¬((i:W)>(z s:W)):=by omega
 have a:¬((z s:W)<i):=by omega
 have h3:(0:W)<=i:=by omega
 have h4:((i:W)==(z s:W))=eF:=by simp;omega
 have b:=N i (by omega);have j:IntKind.i64.wrap (c.toNat:W)=c.toNat:=wrE (by omega);have q:=akD f c.toNat e;have g:∀x,aG C (ai C) 78 [0,1,4,5,7,8,9] nR [(0,.cU s),(1,.cQ r i),(4,.cQ r x),(5,.cQ r 1),(7,.cQ .u8 0),(8,.cQ .u8 0),(9,.cQ r ((i+1:R):W))] O=J (.dq 0,[(4,.cQ r x),(5,.cQ r 1)],O):=λx=>by rw[aB (he:=w8)];simp only[nR,b,K4,X,seval]
 simp only[EY,d,h2,a,h3,h4,hb,b,j,q,g,X,seval]
def aky(H:Bc C)(s:LU)(hs:z s<1099511627777)(i:R)(c:L)(hb:s[i]?=J c)(d:pla c)(O:St):ai C NY [.cU s,.cQ r i] O=J (.de [.cQ r c.toNat,.cQ r ((i+1:R):W),.cQ r 0],O):=by
 have hi:=(a00.mp hb).1;obtain⟨g,e,h,j⟩:=d;rw[H.kc.go (NVs.E (.cV (.cU _) (.cV (.cQ _ _) .db)) _)];have h3:(0:W)<=i:=by omega
 have a:¬((c.toNat:W)<32):=by omega
 have b:((c.toNat:W) !=92)=eT:=by simp;omega
 have q:=akL H.eW H.kd s hs i c hb e O;have f:=N i (by omega);simp only[rY,h3,hb,a,b,q,f,X,seval]
def anP(c:L)(h:c.toNat<128):(Utf8.encode (c.toNat:W)).data.toList=[c]:=by
 have v:Utf8.valid (c.toNat:W)=eT:=by unfold Utf8.valid;simp;omega
 unfold Utf8.encode;simp only[v,B,a90];rw[j9 h];simp
def aoy(h:D C MF Aq)(c:L)(f:c.toNat<128)(O:St):ai C MF [.cQ r c.toNat] O=J (.de [.cU [c],.cQ r 0],O):=by
 rw[h.go (NVs.E (.cV (.cQ _ _) .db) _)];have a:¬((c.toNat:W)<0):=by omega
 have b:¬((1114111:W)<c.toNat):=by omega
 have d:¬((55296:W)<=c.toNat):=by omega
 have w:IntKind.i32.wrap (c.toNat:W)=c.toNat:=by rw[IntKind.wrap_i32];omega
 have e:=anP c f;simp only[Aq,a,b,d,w,e,X,seval]
def Un (H:Bc C) (s:LU) (hs:z s<1099511627777) (O:St) (o:R) (v:z O<=o) (f:St) (n:f.take (z O)=O) (u:z O<=z f) (N:LU):∀(t:LU) (p:R),s.drop p=t++34::N->(∀c∈t,pla c)->∀(Y:St) (w:LU) (qo:Q R),Ok Y->Bk Y o w qo->TrB o f U Y qo->z w+z t<=4096->
  ∃d,aG C (ai C) 67 [0,1,7] fJ [(0,.cU s),(1,.cQ r p),(7,.da o 0)] Y=J (.ea,[(4,.cU (w++t)),(5,.cQ r ((p+z t+1:R):W)),(6,.cQ r 0)],d)/\d.take (z O)=O
 |[],p,g,j,Y,w,qo,b,hb,k,y=>by
  have a:s[p]?=J 34:=by have:=K6 List.head? g;rwa[aI3]at this
  have hi:=(a00.mp a).1;have h:(p:W)<z s:=(by omega);have l:(0:W)<=p:=(by omega);obtain⟨A,s1,s2⟩:=afP H.toBldHas hb k w8 n v u (by omega);have I:=wrS p (by omega);refine⟨A,?_,s2⟩;rw[aB (he:=w8),aB3,K3,aL1];have e:((34:UInt8).toNat:W)=34:=w8;simp only[fJ,h,a,l,s1,I,e,X,seval]
 |c::t,p,g,j,Y,w,qo,b,hb,k,y=>by
  have a:s[p]?=J c:=by have:=K6 List.head? g;rwa[aI3]at this
  have hi:=(a00.mp a).1;have h:(p:W)<z s:=(by omega);have l:(0:W)<=p:=(by omega);have pc:=j c (by simp);have D:((c.toNat:W)==34)=eF:=by have:=pc.2.2.1;simp;omega
  have q:=aky H s hs p c a pc Y;have q2:=aoy H.cn c pc.2.1 Y;have q3:=apG H hb;rw[K1]at y;have L:IntKind.i64.wrap ((z w:W)+1)=((z w+1:R):W):=wrE (by omega);have E:¬((4096:W)<((z w+1:R):W)):=(by omega);obtain⟨d,m,q4,B,t4⟩:=IA H.toBldHas [c] b hb (by simp only[K1,K3];omega);have i:s.drop (p+1)=t++34::N:=by rw[<-aK1,g];rfl
  obtain⟨T,x1,x2⟩:=Un H s hs O o v f n u N t (p+1) i (λx G=>j x (by simp[G])) d (w++[c]) m t4.ok B (k.N t4) (by rw[X2,K1,K3];omega);refine⟨T,?_,x2⟩;rw[aB2,List.singleton_append,show p+1+z t+1=p+z (c::t)+1 by rw[K1];omega]at x1;rw[aB (he:=w8)];generalize M:aG C (ai C) 67 [0,1,7] fJ=K at*;simp only[fJ,h,D,E,a,l,q,q2,q3,q4,L,x1,X,seval]
def akY(H:Bc C)(s:LU)(hs:z s<1099511627777)(i:R)(t q:LU)(b:s.drop i=34::(t++34::q))(f:∀c∈t,pla c)(j:z t<=4096)(O:St)(a:Ok O):ai C Ed [.cU s,.cQ r i] O=J (.de [.cU t,.cQ r ((i+1+z t+1:R):W),.cQ r 0],O):=by
 have hb:s[i]?=J 34:=by have:=K6 List.head? b;rwa[aI3]at this
 have hi:=(a00.mp hb).1;have d:¬((i:W)<0):=by omega
 have h2:¬((z s:W)<i):=by omega
 have h3:(0:W)<=i:=by omega
 have c:((i:W)==(z s:W))=eF:=by simp;omega
 have g:=N i (by omega);have e:((34:L).toNat:W)=34:=w8;have okB:Ok (O++[.cP [.ep,.cY] bT]):=a.H w8;obtain⟨h,x1,tk⟩:=Un H s hs O (z O) (K2 _) (O++[.cP [.ep,.cY] bT]) (by simp) (by simp) q t (i+1) (by rw[<-aK1,b];rfl) f _ [] U okB ⟨.ep,.cY,by rw[aU w8];rfl,.inl w8,.inl ⟨w8,w8,w8⟩⟩ (.ax okB) (by simp only[K3];omega);dsimp only[bT]at x1;have tq:=jP (vs:=[.cU t,.cQ r ((i+1+z t+1:R):W),.cQ r 0]) a w8 tk;rw[H.gW.go (NVs.E (.cV (.cU _) (.cV (.cQ _ _) .db)) _)];simp only[Ak,d,h2,h3,hb,c,g,e,x1,tq,a88,X,seval]
open Go.RowKit
noncomputable section
def af4(f g:Fz):I:=f.b==g.b&&f.t==g.t
def asw{f g:Fz}(h:af4 f g=eT):f=g:=by unfold af4 at h;cases f;cases g;simpa using h
def ane:F (AV×AV)->F (AV×AV)->I|[],[]=>eT|a::x,b::y=>H7 (same a.1 b.1) (H7 (same a.2 b.2) (ane x y))|_,_=>eF
def aj7:∀{x y:F (AV×AV)},ane x y=eT->x=y
 |[],[],_=>w8|a::x,b::y,h=>by unfold ane at h;rw[ni,ni,E,E]at h;rw[Prod.ext (same_eq _ _ h.1) (same_eq _ _ h.2.1),aj7 h.2.2]
 |[],_::_,h=>by cases h
 |_::_,[],h=>by cases h
def asu(a b:AO):I:=match a with
 |.cP l f=>match b with|.cP m g=>H7 (af4 f g) (zG l m)|_=>eF
 |.dz x=>match b with|.dz y=>ane x y|_=>eF
 |.em=>match b with|.em=>eT|_=>eF
def asv{a b:AO}(h:asu a b=eT):a=b:=by
 unfold asu at h;split at h<;>split at h<;>try cases h
 ·rw[ni,E]at h;rw[asw h.1,yY _ _ h.2]
 ·rw[aj7 h]
 ·rfl
def acN:St->St->I|[],[]=>eT|a::x,b::y=>H7 (asu a b) (acN x y)|_,_=>eF
def YL:∀{x y:St},acN x y=eT->x=y
 |[],[],_=>w8|a::x,b::y,h=>by unfold acN at h;rw[ni,E]at h;rw[asv h.1,YL h.2]
 |[],_::_,h=>by cases h
 |_::_,[],h=>by cases h
def av9(d:Q (AV×St))(v:AV)(O:St):I:=match d with|U=>eF|J p=>match p with|(b,a)=>H7 (same b v) (acN a O)
def ava{d:Q (AV×St)}{v:AV}{O:St}(h:av9 d v O=eT):d=J (v,O):=by
 unfold av9 at h;split at h;·cases h
 ·rename_i p;obtain⟨b,a⟩:=p;dsimp only at h;rw[ni,E]at h;rw[same_eq _ _ h.1,YL h.2]
abbrev awN:=LA×St×AV×St
def ap0:F awN->LA->St->Q (AV×St)|[],_,_=>U|p::l,a,O=>match H7 (zG a p.1) (acN O p.2.1)with|eT=>J p.2.2|eF=>ap0 l a O
def ank{C:y}{f:x}{call:bY}(d:fZ C call):∀{l:F awN},(∀p∈l,av9 (call f p.1 p.2.1) p.2.2.1 p.2.2.2=eT)->POK C f (ap0 l)
 |[],_=>λb O v c h=>by cases h
 |⟨a,t,v1,s1⟩::l,g=>by
  intro b O v c h;unfold ap0 at h;dsimp only at h;split at h;·rename_i hb;rw[ni,E]at hb;have e:=ava (g (a,t,v1,s1) List.mem_cons_self);rw[<-yY _ _ hb.1,<-YL hb.2]at e;cases h;exact d _ _ _ _ _ e
  ·exact ank d (λq i=>g q (aI9 _ i)) b O v c h
def anr(T:Tr2)(f:x)(h:LA->St->Q (AV×St)):Tr2:=λg=>match Nat.beq g f with
 |eT=>match T g with|U=>U|J e=>match e with|.iu _ K raw pure=>J (.iu h K raw pure)|.lc K raw pure=>J (.iu h K raw pure)|.eV _=>U|.lL _=>U
 |eF=>T g
def atJ{C:y}{T:Tr2}(b:alK C T){f:x}{h:LA->St->Q (AV×St)}(c:POK C f h):alK C (anr T f h):=by
 refine⟨λg e a=>?_,b.gl⟩;unfold anr at a;split at a
 ·rename_i hb;have:=a95 hb;subst this;split at a;·cases a
  ·rename_i i d;have k:=b.cz g _ d;split at a<;>cases a;·exact⟨c,k.2⟩
   ·exact⟨c,k⟩
 ·exact b.cz g e a
end
variable{PK:PkI}
def TI(v:AV):Prop:=∃n e:W,v=.de [.cQ r n,.cQ r e]
set_option maxHeartbeats 4000000 in
def ap9(H:aaj C PK)(s:LU)(O:St)(A:Ok O):∃v,ai C Dk [.cU s] O=J (v,O)/\TI v:=by
 rw[H.gW.go (NVs.E (.cV (.cU _) .db) _)];cases p:((s.length:Int) !=20)with
 |true=>refine⟨.de [.cQ r 0,.cQ r 3],?_,⟨_,_,w8⟩⟩;simp only[jD,p,bP,EVX,seval]|false=>
 have hn:s.length=20:=by simp at p;omega
 have at':∀i,i<20->s[i]?=J (s[i]?.getD 0):=λi hi=>by rw[a01 (by omega)];rfl
 have a4:=at' 4 (by omega);have a7:=at' 7 (by omega);have a10:=at' 10 (by omega);have a13:=at' 13 (by omega);have a16:=at' 16 (by omega);have a19:=at' 19 (by omega);generalize s[4]?.getD 0=c4 at a4;generalize s[7]?.getD 0=c7 at a7;generalize s[10]?.getD 0=S at a10;generalize s[13]?.getD 0=T at a13;generalize s[16]?.getD 0=V at a16;generalize s[19]?.getD 0=W at a19;have bad:∀{cB:Option (AV×St)},cB=J (.de [.cQ r 0,.cQ r 3],O)->∃v,cB=J (v,O)/\TI v:=λh=>⟨_,h,⟨_,_,w8⟩⟩;cases h4:((c4.toNat:Int) !=45)with
 |true=>exact bad (by simp only[jD,p,a4,h4,bP,EVX,seval])|false=>
 cases h7:((c7.toNat:Int) !=45)with
 |true=>exact bad (by simp only[jD,p,a4,h4,a7,h7,bP,EVX,seval])|false=>
 cases f:((S.toNat:Int) !=84)with
 |true=>exact bad (by simp only[jD,p,a4,h4,a7,h7,a10,f,bP,EVX,seval])|false=>
 cases k:((T.toNat:Int) !=58)with
 |true=>exact bad (by simp only[jD,p,a4,h4,a7,h7,a10,f,a13,k,bP,EVX,seval])|false=>
 cases l:((V.toNat:Int) !=58)with
 |true=>exact bad (by simp only[jD,p,a4,h4,a7,h7,a10,f,a13,k,a16,l,bP,EVX,seval])|false=>
 cases m:((W.toNat:Int) !=90)with
 |true=>exact bad (by simp only[jD,p,a4,h4,a7,h7,a10,f,a13,k,a16,l,a19,m,bP,EVX,seval])|false=>
 have dig:∀(a b:Nat),b<=20->∃d,ai C LP [.cU ((s.take b).drop a)] O=J (.cQ r d,O):=λa b hb=>by obtain⟨v,Z,h2⟩:=fA H.j7 (.cV (.cU ((s.take b).drop a)) .db) (.cV _ _ _ _ (.df _ (by simp[LB];omega)) .db) A;obtain⟨d,rfl⟩:=BK h2;exact⟨d,Z⟩
 obtain⟨B,e1⟩:=dig 0 4 (by omega);obtain⟨c,e2⟩:=dig 5 7 (by omega);obtain⟨y,e3⟩:=dig 8 10 (by omega);obtain⟨hour,e4⟩:=dig 11 13 (by omega);obtain⟨g,e5⟩:=dig 14 16 (by omega);obtain⟨j,N⟩:=dig 17 19 (by omega);simp only[aB8]at e1;obtain⟨dd,L,aa⟩:=ap8 H B c O A;have G:4<=s.length:=by omega
 have I:7<=s.length:=by omega
 have o:10<=s.length:=by omega
 have u:13<=s.length:=by omega
 have w:16<=s.length:=by omega
 have x:19<=s.length:=by omega
 by_cases F:y<1;·exact bad (by simp only[jD,p,a4,h4,a7,h7,a10,f,a13,k,a16,l,a19,m,e1,e2,e3,G,I,o,F,aB8,aC5,Z0,bP,EVX,seval])
 by_cases t:y>dd;·exact bad (by simp only[jD,p,a4,h4,a7,h7,a10,f,a13,k,a16,l,a19,m,e1,e2,e3,L,G,I,o,F,t,aB8,aC5,Z0,bP,EVX,seval])
 have ac:=aa (by omega);have ut:∀(a b:Int),∃q,ai C Qb [.cQ r a,.cQ r b] O=J (.cW q,O):=λa b=>by obtain⟨v,Z,h2⟩:=fA H.nl (.cV (.cQ r a) (.cV (.cQ r b) .db)) (.cV _ _ _ _ (.cQ _ _) (.cV _ _ _ _ (.cQ _ _) .db)) A;obtain⟨d,rfl⟩:=Qj h2;exact⟨d,Z⟩
 obtain⟨u1,P⟩:=ut hour 23;obtain⟨u2,R⟩:=ut g 59;obtain⟨u3,D⟩:=ut j 59;cases u1 with
 |false=>exact bad (by simp only[jD,p,a4,h4,a7,h7,a10,f,a13,k,a16,l,a19,m,e1,e2,e3,e4,e5,N,L,P,G,I,o,u,w,x,F,t,aB8,aC5,Z0,bP,EVX,seval])|true=>
 cases u2 with
 |false=>exact bad (by simp only[jD,p,a4,h4,a7,h7,a10,f,a13,k,a16,l,a19,m,e1,e2,e3,e4,e5,N,L,P,R,G,I,o,u,w,x,F,t,aB8,aC5,Z0,bP,EVX,seval])|true=>
 cases u3 with
 |false=>exact bad (by simp only[jD,p,a4,h4,a7,h7,a10,f,a13,k,a16,l,a19,m,e1,e2,e3,e4,e5,N,L,P,R,D,G,I,o,u,w,x,F,t,aB8,aC5,Z0,bP,EVX,seval])|true=>
 obtain⟨vs,K,hs⟩:=fA H.gk (.cV (.cQ r B) .db) (.cV _ _ _ _ (.cQ _ _) .db) A;obtain⟨st,rfl⟩:=BK hs;obtain⟨vl,Q,ab⟩:=fA H.lw (.cV (.cQ r B) .db) (.cV _ _ _ _ (.cQ _ _) .db) A;obtain⟨lp,rfl⟩:=Qj ab;have hb:=H.nu;have Y:∀E,avA C E (.g zu)=.ec bef:=λE=>by show AV.ec ((C.gl zu).getD [])=_;rw[hb];rfl
 have w1:IntKind.i64.wrap (c-1)=c-1:=wrE (by omega);have X:0<=c-1:=by omega
 have bl:bef.length=13:=w8;have l2:(c-1).toNat<13:=by omega
 have l4:(c-1).toNat<=bef.length:=by omega
 obtain⟨z,hz⟩:=ajX (c-1).toNat l2;have good:∀{cB:Option (AV×St)} (n e:Int),cB=J (.de [.cQ r n,.cQ r e],O)->∃v,cB=J (v,O)/\TI v:=λn e h=>⟨_,h,⟨_,_,w8⟩⟩;by_cases M:c>2;·cases lp with|true=>refine good (IntKind.i64.wrap (IntKind.i64.wrap (IntKind.i64.wrap (IntKind.i64.wrap (IntKind.i64.wrap (IntKind.i64.wrap (st+z)+y)-1)+1)*86400)+IntKind.i64.wrap (IntKind.i64.wrap (IntKind.i64.wrap (hour*3600)+IntKind.i64.wrap (g*60))+j))) 0 ?_;simp only[jD,p,a4,h4,a7,h7,a10,f,a13,k,a16,l,a19,m,e1,e2,e3,e4,e5,N,L,P,R,D,K,Q,G,I,o,u,w,x,F,t,M,w1,X,l2,l4,hz,Y,aB8,aC5,Z0,bP,EVX,seval]|false=>refine good (IntKind.i64.wrap (IntKind.i64.wrap (IntKind.i64.wrap (IntKind.i64.wrap (IntKind.i64.wrap (st+z)+y)-1)*86400)+IntKind.i64.wrap (IntKind.i64.wrap (IntKind.i64.wrap (hour*3600)+IntKind.i64.wrap (g*60))+j))) 0 ?_;simp only[jD,p,a4,h4,a7,h7,a10,f,a13,k,a16,l,a19,m,e1,e2,e3,e4,e5,N,L,P,R,D,K,Q,G,I,o,u,w,x,F,t,M,w1,X,l2,l4,hz,Y,aB8,aC5,Z0,bP,EVX,seval]
 ·refine good (IntKind.i64.wrap (IntKind.i64.wrap (IntKind.i64.wrap (IntKind.i64.wrap (IntKind.i64.wrap (st+z)+y)-1)*86400)+IntKind.i64.wrap (IntKind.i64.wrap (IntKind.i64.wrap (hour*3600)+IntKind.i64.wrap (g*60))+j))) 0 ?_;simp only[jD,p,a4,h4,a7,h7,a10,f,a13,k,a16,l,a19,m,e1,e2,e3,e4,e5,N,L,P,R,D,K,G,I,o,u,w,x,F,t,M,w1,X,l2,l4,hz,Y,aB8,aC5,Z0,bP,EVX,seval]
def ah2(H:aaj C PK):bZ C PK Dk (.dp [.df] (.de [.cQ r,.cQ r])):=
 qw H.gW w8 λc f=>by obtain⟨x,rfl,d⟩:=U2 f;obtain⟨a,rfl,g⟩:=zA d;intro O b;obtain⟨v,h,n,e,rfl⟩:=ap9 H a O b;exact⟨_,h,.de _ _ (.cV _ _ _ _ (.cQ _ _) (.cV _ _ _ _ (.cQ _ _) .db))⟩
end Go.Ev
namespace Go.Ev
open List renaming length→z
open Option renaming some→J, none→U
open Go.IntKind renaming i64→r
open Bool renaming true→eT, false→eF
def ax6(gl:R->Q Sh)(mt:F (TypeId×H×x))(h:F (x×Sm)):Cfg:={ayQ mt h with gl:=gl}
def ajS{C:y}{gl:R->Q Sh}{mt:F (TypeId×H×x)}{b:F (x×Sm)}(d:∀n s,gl n=J s->∀V:Val,M V s (.ec ((C.gl n).getD [])))(k:∀p∈mt,methodOf C.P p.1 .ep p.2.1=J (p.2.2,.ep))(h2:∀p∈b,bZ C cO p.1 p.2){rows:F (x×Sm)}(h3:∀p∈rows,D C p.1 (kA C.P p.1))(h:(ajQ (ax6 gl mt b) (awr C.P rows)).isSome=eT):∀p∈rows,bZ C cO p.1 p.2:=by
 obtain⟨j,c⟩:=aE5.mp h;have hs:=(alM (C:=C) (X:=ax6 gl mt b) d (λt m f hf v=>by
  obtain⟨p,a,rfl⟩:=aB5.mp hf;have e:=aL2 a;simp only[E,beq_iff_eq]at e;grind [axD]) (λf m g=>by
  obtain⟨p,a,rfl⟩:=aE8.mp g;grind [a95]) (λp a=>by
  obtain⟨q,i,rfl⟩:=aE8.mp a;exact h3 q i) c).1
 exactλp a=>hs _ _ ((ahq c).2 _ (aE8.mpr ⟨p,a,w8⟩))
noncomputable section
def Hy:KF:=(.mk ?k:a 422 []).1
def dL:KC:=(.mk ?k:LsA 423 [] 0).1
attribute [local irreducible] dL
def uS:KF:=(.mk ?k:a 423 [dL]).1
def ET:KF:=(.mk ?k:a 424 []).1
end
variable{C:Ctx}{PK:PkI}
def arH(d:D C Jf ET)(a b:W)(O:St):∃f:I,ai C Jf [.cQ .i32 a,.cQ .i32 b] O=J (.cW f,O):=by
 rw[d.go (NVs.E (.cV (.cQ _ _) (.cV (.cQ _ _) .db)) _)];by_cases h:a=63;·refine⟨b !=47,?_⟩;simp only[ET,h,X,seval]
 ·have c:(a==63)=eF:=(by simpa using h);refine⟨a==b,?_⟩;simp only[ET,c,X,seval]
def agJ(l:F R):z (zF l)=z l:=by simp[zF]
def Ot(l:F R)(i:R)(h:i<z l):(zF l).drop i=.cQ .i32 (j6 l[i])::zF (l.drop (i+1)):=by unfold zF;rw[<-List.map_drop,aB6 h,aC9]
structure GlI(p s:List Nat)(i j fr:Nat)(st:Int):Prop where
 hi:i<=p.length
 hj:j<=s.length
 hf:fr<=j
 hs:st= -1\/∃k:Nat,st=k/\k<p.length
def glM(p s:F R)(i fr:R):R:=(z s-fr)*(z p+1)+(z p-i)
def amn{P S i j fr m:R}(h:(S-fr)*(P+1)+(P-i)<m+1)(hi:i<P)(hj:fr<=j):(S-j)*(P+1)+(P-(i+1))<m:=by have a:=aG4 (P+1) (show S-j<=S-fr by omega);generalize(S-j)*(P+1)=A at*;generalize(S-fr)*(P+1)=B at*;omega
def ag7{P S i k fr m:R}(h:(S-fr)*(P+1)+(P-i)<m+1)(hf:fr<S):(S-(fr+1))*(P+1)+(P-(k+1))<m:=by
 have e:(S-fr)*(P+1)=(S-(fr+1))*(P+1)+(P+1):=by rw[show S-fr=(S-(fr+1))+1 by omega,aJ5,Nat.one_mul]
 rw[e]at h;generalize(S-(fr+1))*(P+1)=A at*;omega
def acf(G:Has C Jf ET)(p s:List R)(L:z p<=70368744177664)(hs:z s<=70368744177664)(O:St):∀(m i j fr:R) (st:W),GlI p s i j fr st->glM p s i fr<m->∃b:Bool,aG C (ai C) 79 [0,1,5,6,7,8] dL [(0,.sl (z p) (zF p)),(1,.sl (z s) (zF s)),(5,.cQ r i),(6,.cQ r j),(7,.cQ r st),(8,.cQ r fr)] O=J (.ea,[(4,.cW b)],O)
 |0,i,j,fr,st,I,v=>Y v (aL9 _)
 |m+1,i,j,fr,st,I,v=>by
  obtain⟨hi,hj,E,y⟩:=I;have A:=acf G p s L hs O m;have n:(0:W)<=i:=(by omega);have B:(0:W)<=j:=(by omega);have w:(0:W)<=fr:=(by omega);have H:IntKind.i64.wrap ((i:W)+1)=((i+1:R):W):=by rw[T];omega
  have M:IntKind.i64.wrap ((j:W)+1)=((j+1:R):W):=by rw[T];omega
  have wf:IntKind.i64.wrap ((fr:W)+1)=((fr+1:R):W):=by rw[T];omega
  have o:=agJ p;have ls:=agJ s;rw[aB (he:=w8)];generalize P:aG C (ai C) 79 [0,1,5,6,7,8] dL=Q at*;have F:(st= -1\/∃k:R,st=k/\k<z p/\(fr=z s\/∃h:fr<z s,(s[fr]=47\/s[fr]≠47))):=by
   rcases y with h|⟨k,K,h2⟩;·exact .inl h
   ·refine .inr ⟨k,K,h2,?_⟩;by_cases h:fr=z s;·exact .inl h
    ·exact .inr ⟨by omega,by omega⟩
  by_cases e1:i<z p
  ·have d:((i:W)==(z p:W))=eF:=by simp;omega
   have l1:(i:W)<(z p:W):=(by omega);have l:=Ot p i e1;by_cases e2:p[i]=42
   ·
    have c:(j6 p[i]==42)=eT:=by rw[e2];rfl
    obtain⟨b,q⟩:=A (i+1) j j i ⟨by omega,hj,K2 _,.inr ⟨i,w8,e1⟩⟩ (amn v e1 E);refine⟨b,?_⟩;simp only[dL,d,l1,e1,n,o,l,c,H,q,bC,X,seval]
   ·have c:(j6 p[i]==42)=eF:=by simp;omega
    by_cases e3:j<z s
    ·have l3:(j:W)<(z s:W):=(by omega);have x:=Ot s j e3;obtain⟨N,q1⟩:=arH G (j6 p[i]) (j6 s[j]) O;cases N
     ·rcases F with rfl|⟨k,rfl,u,a|⟨a,e⟩⟩;·refine⟨eF,?_⟩;simp only[dL,d,l1,e1,n,o,l,c,l3,e3,B,ls,x,q1,bC,X,seval]
      ·have f:¬(k:W)<0:=(by omega);have f1:((fr:W)==(z s:W))=eT:=(by simp[a]);refine⟨eF,?_⟩;simp only[dL,d,l1,e1,n,o,l,c,l3,e3,B,ls,x,q1,f,f1,bC,X,seval]
      ·have f:¬(k:W)<0:=(by omega);have f1:((fr:W)==(z s:W))=eF:=by simp;omega
       have t:=Ot s fr a;have D:IntKind.i64.wrap ((k:W)+1)=((k+1:R):W):=by rw[T];omega
       rcases e with e|e
       ·have g:(j6 s[fr]==47)=eT:=by rw[e];rfl
        refine⟨eF,?_⟩;simp only[dL,d,l1,e1,n,o,l,c,l3,e3,B,ls,x,q1,f,f1,w,a,ls,t,g,bC,X,seval]
       ·have g:(j6 s[fr]==47)=eF:=by simp;omega
        obtain⟨b,q⟩:=A (k+1) (fr+1) (fr+1) k ⟨u,a,K2 _,.inr ⟨k,w8,u⟩⟩ (ag7 v a);refine⟨b,?_⟩;simp only[dL,d,l1,e1,n,o,l,c,l3,e3,B,ls,x,q1,f,f1,w,a,ls,t,g,wf,D,q,bC,X,seval]
     ·obtain⟨b,q⟩:=A (i+1) (j+1) fr st ⟨by omega,by omega,by omega,y⟩ (amn v e1 (K2 _));refine⟨b,?_⟩;simp only[dL,d,l1,e1,n,o,l,c,H,l3,e3,B,ls,x,q1,M,q,bC,X,seval]
    ·have l3:¬(j:W)<(z s:W):=(by omega);rcases F with rfl|⟨k,rfl,u,a|⟨a,e⟩⟩;·refine⟨eF,?_⟩;simp only[dL,d,l1,e1,n,o,l,c,l3,bC,X,seval]
     ·have f:¬(k:W)<0:=(by omega);have f1:((fr:W)==(z s:W))=eT:=(by simp[a]);refine⟨eF,?_⟩;simp only[dL,d,l1,e1,n,o,l,c,l3,f,f1,bC,X,seval]
     ·have f:¬(k:W)<0:=(by omega);have f1:((fr:W)==(z s:W))=eF:=by simp;omega
      have t:=Ot s fr a;have D:IntKind.i64.wrap ((k:W)+1)=((k+1:R):W):=by rw[T];omega
      rcases e with e|e
      ·have g:(j6 s[fr]==47)=eT:=by rw[e];rfl
       refine⟨eF,?_⟩;simp only[dL,d,l1,e1,n,o,l,c,l3,f,f1,w,a,ls,t,g,bC,X,seval]
      ·have g:(j6 s[fr]==47)=eF:=by simp;omega
       obtain⟨b,q⟩:=A (k+1) (fr+1) (fr+1) k ⟨u,a,K2 _,.inr ⟨k,w8,u⟩⟩ (ag7 v a);refine⟨b,?_⟩;simp only[dL,d,l1,e1,n,o,l,c,l3,f,f1,w,a,ls,t,g,wf,D,q,bC,X,seval]
  ·have d:((i:W)==(z p:W))=eT:=by simp;omega
   have l1:¬(i:W)<(z p:W):=(by omega);by_cases e2:j=z s;·have c:((j:W)==(z s:W))=eT:=(by simp[e2]);refine⟨eT,?_⟩;simp only[dL,d,c,bC,X,seval]
   ·have c:((j:W)==(z s:W))=eF:=by simp;omega
    rcases F with rfl|⟨k,rfl,u,a|⟨a,e⟩⟩;·refine⟨eF,?_⟩;simp only[dL,d,c,l1,bC,X,seval]
    ·have f:¬(k:W)<0:=(by omega);have f1:((fr:W)==(z s:W))=eT:=(by simp[a]);refine⟨eF,?_⟩;simp only[dL,d,c,l1,f,f1,bC,X,seval]
    ·have f:¬(k:W)<0:=(by omega);have f1:((fr:W)==(z s:W))=eF:=by simp;omega
     have t:=Ot s fr a;have D:IntKind.i64.wrap ((k:W)+1)=((k+1:R):W):=by rw[T];omega
     rcases e with e|e
     ·have g:(j6 s[fr]==47)=eT:=by rw[e];rfl
      refine⟨eF,?_⟩;simp only[dL,d,c,l1,f,f1,w,a,ls,t,g,bC,X,seval]
     ·have g:(j6 s[fr]==47)=eF:=by simp;omega
      obtain⟨b,q⟩:=A (k+1) (fr+1) (fr+1) k ⟨u,a,K2 _,.inr ⟨k,w8,u⟩⟩ (ag7 v a);refine⟨b,?_⟩;simp only[dL,d,c,l1,f,f1,w,a,ls,t,g,wf,D,q,bC,X,seval]
def as8(l:F R):ae 0 (zF l)=eT:=by
 induction l with
 |nil=>rfl|cons a l b=>unfold zF at*;rw[aC9,ae,b];rfl
def aro(f:D C Jf ET)(j:D C NQ uS)(p s:F R)(h:z p<=70368744177664)(hs:z s<=70368744177664)(O:St):∃b:I,ai C NQ [.sl (z p) (zF p),.sl (z s) (zF s)] O=J (.cW b,O):=by
 have e:=agJ p;have ls:=agJ s;have i:IntKind.i64.wrap 1=1:=w8;rw[j.go (NVs.E (.cV (.sl _ (as8 p)) (.cV (.sl _ (as8 s)) .db)) _)];by_cases e1:0<z p
 ·have c:((0:W)==(z p:W))=eF:=by simp;omega
  have l1:(0:W)<(z p:W):=(by omega);have d:=Ot p 0 e1;by_cases e2:p[0]=42
  ·have a:(j6 p[0]==42)=eT:=by rw[e2];rfl
   obtain⟨b,q⟩:=acf f p s h hs O _ 1 0 0 0 ⟨by omega,by omega,K2 _,.inr ⟨0,w8,e1⟩⟩ (aK6 _);simp only[aB1]at q;refine⟨b,?_⟩;simp only[uS,c,l1,e1,e,d,a,i,q,bC,X,seval]
  ·have a:(j6 p[0]==42)=eF:=by simp;omega
   by_cases e3:0<z s
   ·have l3:(0:W)<(z s:W):=(by omega);have g:=Ot s 0 e3;obtain⟨x,q1⟩:=arH f (j6 p[0]) (j6 s[0]) O;cases x;·refine⟨eF,?_⟩;simp only[uS,c,l1,e1,e,d,a,l3,e3,ls,g,q1,bC,X,seval]
    ·obtain⟨b,q⟩:=acf f p s h hs O _ 1 1 0 (-1) ⟨by omega,by omega,by omega,.inl w8⟩ (aK6 _);simp only[aB1]at q;refine⟨b,?_⟩;simp only[uS,c,l1,e1,e,d,a,l3,e3,ls,g,q1,i,q,bC,X,seval]
   ·have l3:¬(0:W)<(z s:W):=(by omega);refine⟨eF,?_⟩;simp only[uS,c,l1,e1,e,d,a,l3,bC,X,seval]
 ·have c:((0:W)==(z p:W))=eT:=by simp;omega
  have l1:¬(0:W)<(z p:W):=(by omega);by_cases e2:z s=0;·have a:((0:W)==(z s:W))=eT:=(by simp[e2]);refine⟨eT,?_⟩;simp only[uS,c,a,bC,X,seval]
  ·have a:((0:W)==(z s:W))=eF:=by simp;omega
   refine⟨eF,?_⟩;simp only[uS,c,a,l1,bC,X,seval]
def asR(j:bZ C PK P7 (.dp [.df] .cW))(k:bZ C PK vG (.dp [.df] .cW))(i:D C Jf ET)(h:D C NQ uS)(e:D C NP Hy):bZ C PK NP (.dp [.df,.df] .cW):=
 qw e w8 λf l=>by
  obtain⟨x,y,rfl,n,o⟩:=agd l;obtain⟨p,rfl,c⟩:=zA n;obtain⟨s,rfl,ls⟩:=zA o;intro O a;obtain⟨v1,q1,q⟩:=fA j (.cV (.cU p) .db) (.cV _ _ _ _ (.df _ c) .db) a;obtain⟨v2,q2,u⟩:=fA k (.cV (.cU s) .db) (.cV _ _ _ _ (.df _ ls) .db) a;cases q with
  |cW b1=>
  cases u with
  |cW g=>
  have d:∀t:LU,z t<=LB->z (runesOf t)<=70368744177664:=λt m=>aF2 (Vk _ _ _) (by unfold LB at m;omega);obtain⟨b,q3⟩:=aro i h (runesOf p) (runesOf s) (d p c) (d s ls) O;have rp:z p<=70368744177664:=by unfold LB at c;omega
  have rs:z s<=70368744177664:=by unfold LB at ls;omega
  rw[e.go (NVs.E (.cV (.cU _) (.cV (.cU _) .db)) _)];cases b1;·refine⟨_,?_,.cW eF⟩;simp only[Hy,q1,X,seval]
  ·cases g;·refine⟨_,?_,.cW eF⟩;simp only[Hy,q1,q2,X,seval]
   ·refine⟨_,?_,.cW b⟩;simp only[Hy,q1,q2,q3,aF,rp,rs,B,X,seval]
structure aaY(C:Ctx)(PK:PkI):Prop where
 cz:bZ C PK LG (.dp [.cX [.df,.df]] (.de [.cX [.df,.jv],.cQ .i64]))
 j1:VG C eU rQ
 o4:∀O,ai C eU [.cY,ahH rQ] O=some (.de [],O)
 eg:Has C KE Gf
def aqb(H:aaY C PK)(p:PS)(c:z p.1<=LB)(h2:z p.2<=LB)(O:St)(a:Ok O):∃(x:EL) (e:W),ai C LG [.cX [.cU p.1,.cU p.2]] O=J (.de [.cX (Z1 x),.cQ r e],O):=by
 obtain⟨v,q,k⟩:=fA H.cz (.cV (.cX (.cV (.cU p.1) (.cV (.cU p.2) .db))) .db) (.cV _ _ _ _ (.cX _ _ (.ef _ _ _ _ w8 (.df _ c) (.ef _ _ _ _ w8 (.df _ h2) .db))) .db) a;obtain⟨x,n,rfl,d⟩:=OY k;cases d with
 |cX _ v h=>obtain⟨s,b,rfl,l,h2⟩:=wR h;obtain⟨j,f,rfl,h3⟩:=amK h2;have:=Ac h3;subst this;exact⟨(⟨s,l⟩,j),n,by rw[q];simp[Z1]⟩
def Kp(Y a:St):Prop:=Ok a/\∀(k:R) (y:AO),Y[k]?=J y->a[k]?=J y
def ajs (xs:List EL) (A:xs.length<=8192) (x:EL) (N e q:R) (v18 v19 v20:AV):∀(n i:R),i+n=xs.length->∀Y:St,Ok Y->Y[N]?=J mY->Y[e]?=J (AO.cP (Z1 x) FZ)->Y[q]?=J (AO.cP (dU xs) FZ)->
  ∃f,Kp Y f/\(aG C (ai C) 76 [2,4,7,18,19,20,33,34,35] gV [(2,.da N 0),(4,.dj q 0 xs.length 6),(7,.da e 0),(18,v18),(19,v19),(20,v20),(33,.dj q 0 xs.length 6),(34,.cQ r xs.length),(35,.cQ r i)] Y=J (.dq 2,[(2,.da N 0),(4,.dj q 0 xs.length 6),(7,.da e 0),(18,v18),(19,v19),(20,v20)],f)\/
   aG C (ai C) 76 [2,4,7,18,19,20,33,34,35] gV [(2,.da N 0),(4,.dj q 0 xs.length 6),(7,.da e 0),(18,v18),(19,v19),(20,v20),(33,.dj q 0 xs.length 6),(34,.cQ r xs.length),(35,.cQ r i)] Y=J (.ea,[(2,.da N 0),(3,.cQ r 7)],f))
 |0,i,hi,Y,c,hr,d,g=>by have h:¬((i:W)<(xs.length:W)):=(by omega);refine⟨Y,⟨c,λ_ _ h=>h⟩,.inl ?_⟩;rw[aB (he:=w8)];simp only[gV,h,X,seval]
 |n+1,i,hi,Y,c,hr,d,g=>by
  have o:i<xs.length:=(by omega);have h:((i:W)<(xs.length:W)):=(by omega);have v:(0:W)<=(i:W):=(by omega);have w:=wrS i (by omega);have p:=Iw xs i o;generalize F:xs[i]=y at*;have m:Ok (Y++[.cP (Z1 y) FZ]):=c.H (by rw[K,show k9 0 (.cP (Z1 y) FZ)=eT from NL y];rfl);have E:(Y++[AO.cP (Z1 y) FZ]).set N mY=Y++[AO.cP (Z1 y) FZ]:=QH (aj hr _);have s:∀z:EL,(Z1 z).head? =J (.cU z.1.1):=λ_=>w8;have ca:∀l,AV.cP (.cX l)=l:=λ_=>w8;have r0:=λL=>aj hr L;have e0:=λL=>aj d L;have t:=λL=>aU (w8:Y.length=_) L;have s1:=λL z=>fV (w8:Y.length=_) L z;cases u:decide (y.1.1=x.1.1)with
  |true=>refine⟨Y++[AO.cP (Z1 y) FZ],⟨m,λk z h=>aj h _⟩,.inr ?_⟩;rw[aB (he:=w8)];generalize B:aG C (ai C) 76 [2,4,7,18,19,20,33,34,35] gV=D at*;unfold mY at*;simp only[gV,h,o,v,p,g,u,r0,e0,t,s1,s,ca,E,yN,kH,rO,w9,AV.cP,a90,X2,aJ8,X,seval]
  |false=>
   obtain⟨f,⟨a,b⟩,j⟩:=ajs xs A x N e q v18 v19 v20 n (i+1) (by omega) _ m (aj hr _) (aj d _) (aj g _);refine⟨f,⟨a,λk z h=>b _ _ (aj h _)⟩,?_⟩;rw[aB (he:=w8)];generalize B:aG C (ai C) 76 [2,4,7,18,19,20,33,34,35] gV=D at*;rcases j with j|j;·refine .inl ?_;simp only[gV,h,o,v,w,p,g,u,e0,t,s1,s,j,ca,yN,kH,rO,w9,a90,X2,aJ8,X,seval]
   ·refine .inr ?_;simp only[gV,h,o,v,w,p,g,u,e0,t,s1,s,j,ca,yN,kH,rO,w9,a90,X2,aJ8,X,seval]
structure TbI(O:St)(i:Nat)(xs:List EL)(x:AV)(Y:St):Prop where
 ok:Ok Y
 bL:Y[O.length]?=some mY
 ej:Bf Y (O.length+1) i 6 (dU xs) x
 dt:xs.length=i
 bR:Y.take O.length=O
def Kp.bR{Y a O:St}(h:Kp Y a)(e:Y.take (z O)=O):a.take (z O)=O:=by
 have:=XZ (S:=Y) (S':=a) (n:=z O) (by
  have:=K6 List.length e;rw[aD7]at this;omega) λk y _ b=>h.2 k y b
 rw[this,e]
theorem Bf.dt{Y:St}{lo n sz:R}{l:LA}{x:AV}(h:Bf Y lo n sz l x)(O:St):bC O 1 x=J n:=by rcases h with⟨rfl,rfl⟩|⟨_,q,rfl,_⟩<;>rfl
def ati (H:aaY C PK) (ks:List PS) (hN:ks.length<=32) (G:∀p∈ks,p.1.length<=LB/\p.2.length<=LB) (O:St):∀(n i:Nat),i+n=ks.length->∀(xs:List EL) (x:AV) (Y:St),TbI O i xs x Y->
  (∃u B g,aG C (ai C) 76 [2,4,18,19,20] kD [(2,.da O.length 0),(4,x),(18,.sl ks.length (ks.flatMap pC)),(19,.cQ r ks.length),(20,.cQ r i)] Y=J (.dq 0,[(2,.da O.length 0),(4,B)],g)/\TbI O ks.length u B g)\/
  (∃(e:Int) (g:St),aG C (ai C) 76 [2,4,18,19,20] kD [(2,.da O.length 0),(4,x),(18,.sl ks.length (ks.flatMap pC)),(19,.cQ r ks.length),(20,.cQ r i)] Y=J (.ea,[(2,.da O.length 0),(3,.cQ r e)],g)/\g[O.length]?=J mY/\g.take O.length=O)
 |0,i,hi,xs,x,Y,I=>by have h:¬((i:Int)<(ks.length:Int)):=(by omega);refine .inl ⟨xs,x,Y,?_,by rw[show ks.length=i by omega];exact I⟩;rw[aB (he:=w8)];simp only[kD,h,EVX,seval]
 |n+1,i,hi,xs,x,Y,I=>by
  have v:i<ks.length:=(by omega);have h:((i:Int)<(ks.length:Int)):=(by omega);have N:(0:Int)<=(i:Int):=(by omega);have s:=wrS i (by omega);have hb:ks[i]?=J ks[i]:=a01 v;have fl:=bz wB ks;have fd:=iy wB hb;obtain⟨b1,V⟩:=G ks[i] (aD5 v);generalize hm:ks[i]=p at*;have pc:pC p=[.cU p.1,.cU p.2]:=w8;rw[pc]at fd;have M:Ok (Y++[AO.cP [.cU p.1,.cU p.2] FZ]):=I.ok.H w8;obtain⟨y,e,q⟩:=aqb H p b1 V _ M;have l1:(Y++[AO.cP [.cU p.1,.cU p.2] FZ]).length=Y.length+1:=(by simp);obtain⟨b,e2⟩:∃b,b=Y++[AO.cP [.cU p.1,.cU p.2] FZ,AO.cP (Z1 y) FZ]:=⟨_,w8⟩;have t:Ok b:=by rw[e2];exact I.ok.H (by rw[a08,a08,show k9 0 (.cP (Z1 y) FZ)=eT from NL y];rfl)
  have c:∀k z,Y[k]?=J z->b[k]?=J z:=λk z K=>by rw[e2];exact aj K _
  have r2:=c _ _ I.bL;have R:b[Y.length+1]?=J (AO.cP (Z1 y) FZ):=by rw[e2,yG w8];rfl
  have Q:b.set O.length mY=b:=QH r2;have d:b.take O.length=O:=Kp.bR ⟨t,c⟩ I.bR;have f:Bf b (O.length+1) i 6 (dU xs) x:=I.ej.D λq w _ _ s=>c _ _ s;have P:=f.dt;have ca:∀l,AV.cP (.cX l)=l:=λ_=>w8;have t6:(Z1 y).take 6=Z1 y:=a98 (by rw[kH];exact K2 _);have D:=λL=>aU (w8:Y.length=_) L;have s1:=λL z=>fV (w8:Y.length=_) L z;have E:=λL=>aU l1 L;have s2:=λL z=>fV l1 L z;by_cases o:e=0
  ·subst o;have a:∃j,Kp b j/\(aG C (ai C) 76 [2,4,7,18,19,20,33,34,35] gV [(2,.da O.length 0),(4,x),(7,.da (Y.length+1) 0),(18,.sl ks.length (ks.flatMap pC)),(19,.cQ r ks.length),(20,.cQ r i),(33,x),(34,.cQ r i),(35,.cQ r 0)] b=J (.dq 2,[(2,.da O.length 0),(4,x),(7,.da (Y.length+1) 0),(18,.sl ks.length (ks.flatMap pC)),(19,.cQ r ks.length),(20,.cQ r i)],j)\/
     aG C (ai C) 76 [2,4,7,18,19,20,33,34,35] gV [(2,.da O.length 0),(4,x),(7,.da (Y.length+1) 0),(18,.sl ks.length (ks.flatMap pC)),(19,.cQ r ks.length),(20,.cQ r i),(33,x),(34,.cQ r i),(35,.cQ r 0)] b=J (.ea,[(2,.da O.length 0),(3,.cQ r 7)],j)):=by
    rcases f with⟨rfl,rfl⟩|⟨_,q,rfl,hq,_⟩;·refine⟨b,⟨t,λ_ _ h=>h⟩,.inl ?_⟩;rw[aB (he:=w8)];simp only[gV,aB1,K4,EVX,seval]
    ·have:=I.dt;subst this;exact ajs xs (by omega) y O.length (Y.length+1) q _ _ _ xs.length 0 (by omega) b t r2 R hq
   obtain⟨j,m,a⟩:=a;rw[e2]at a;rcases a with a|a
   ·have y3:=m.2 _ _ R;have A:Bf j (O.length+1) i 6 (dU xs) x:=f.D λq w _ _ s=>m.2 _ _ s;have ll:(dU xs).length=i*6:=(by rw[Jb,I.dt]);obtain⟨S,a1,a2,a3,a4⟩:=UL (bytes:=96) (Z1 y) A ll (by omega) (by omega) m.1;have X:dU xs++Z1 y=dU (xs++[y]):=by simp[dU]
    rw[X]at a1;have T:TbI O (i+1) (xs++[y]) (.dj j.length 0 (i+1) 6) (S++[.cP (dU (xs++[y])) FZ]):=
     ⟨a4.H (by rw[a08,show k9 0 (.cP (dU (xs++[y])) FZ)=eT from yO _];rfl),aj (a3 _ _ (.inr (by omega)) (m.2 _ _ r2)) _,.inr ⟨by omega,_,w8,by rw[<-a2,aU w8];rfl,by
      have Z:=(a00.mp (m.2 _ _ r2)).1;omega⟩,by simp[I.dt],by
      have Z:=(a00.mp (m.2 _ _ r2)).1;rw[qO _ _ _ (by omega)];have:=XZ (S:=j) (S':=S) (n:=O.length) (by omega) λk z G K=>a3 k z (.inr (by omega)) K;rw[this];exact m.bR d⟩
    have ih:=ati H ks hN G O n (i+1) (by omega) _ _ _ T;have go:∀co,aG C (ai C) 76 [2,4,18,19,20] kD [(2,.da O.length 0),(4,.dj j.length 0 (i+1) 6),(18,.sl ks.length (ks.flatMap pC)),(19,.cQ r ks.length),(20,.cQ r ((i+1:Nat):Int))] (S++[.cP (dU (xs++[y])) FZ])=co->aG C (ai C) 76 [2,4,18,19,20] kD [(2,.da O.length 0),(4,x),(18,.sl ks.length (ks.flatMap pC)),(19,.cQ r ks.length),(20,.cQ r i)] Y=co:=λco hr=>by rw[aB (he:=w8)];generalize aa:aG C (ai C) 76 [2,4,18,19,20] kD=kk at*;simp only[kD,h,v,N,s,fl,fd,q,P,a,y3,a1,hr,t6,D,s1,E,s2,ca,yN,kH,rO,w9,aB2,K7,a88,EVX,seval]
    rcases ih with⟨u,B,g,i1,i2⟩|⟨W,g,i1,i2,i3⟩;·exact .inl ⟨u,B,g,go _ i1,i2⟩
    ·exact .inr ⟨W,g,go _ i1,i2,i3⟩
   ·refine .inr ⟨7,j,?_,m.2 _ _ r2,m.bR d⟩;rw[aB (he:=w8)];simp only[kD,h,v,N,s,fl,fd,q,P,a,D,s1,E,s2,ca,yN,kH,rO,w9,aB2,K7,a88,EVX,seval]
  ·have F:(e !=0)=eT:=(by simpa using o);refine .inr ⟨e,b,?_,r2,d⟩;rw[aB (he:=w8)];rw[e2]at r2 Q⊢;unfold mY at*;simp only[kD,h,v,N,s,fl,fd,q,F,r2,Q,D,s1,E,s2,ca,yN,kH,rO,w9,AV.cP,aB2,K7,a88,EVX,seval]
structure OT(O:St)(q m:Nat)(xs:List EL)(i:Nat)(x1 x2:AV)(Y:St):Prop where
 ok:Ok Y
 ej:Y[q]?=some (.cP (dU xs) FZ)
 bL:Y[O.length]?=some mY
 v:Y[m]?=some (.cP [.cQ .u8 5,.cQ .i64 0,.cU [],x1,x2] FZ)
 a1:Bf Y (m+1) i 1 (nC (xs.take i)) x1
 a2:Bf Y (m+1) i 5 (yh (xs.take i)) x2
 ne:∀q,x1=.dj q 0 i 1->x2≠ .dj q 0 i 5
 bR:Y.take O.length=O
def anj (O:St) (xs:List EL) (hN:xs.length<=8192) (q m:Nat) (H:q<m) (hm:O.length<m):∀(n i:Nat),i+n=xs.length->∀(x1 x2:AV) (Y:St),OT O q m xs i x1 x2 Y->
  ∃f g F,aG C (ai C) 76 [2,11,54,55,56] sQ [(2,.da O.length 0),(11,.da m 0),(54,.dj q 0 xs.length 6),(55,.cQ r xs.length),(56,.cQ r i)] Y=J (.dq 4,[(2,.da O.length 0),(11,.da m 0)],F)/\OT O q m xs xs.length f g F
 |0,i,hi,x1,x2,Y,I=>by have h:¬((i:Int)<(xs.length:Int)):=(by omega);refine⟨x1,x2,Y,?_,by rw[show xs.length=i by omega];exact I⟩;rw[aB (he:=w8)];simp only[sQ,h,EVX,seval]
 |n+1,i,hi,x1,x2,Y,I=>by
  obtain⟨hok,c,hres,hv,o,d,Z,hpre⟩:=I;have li:i<xs.length:=(by omega);have h:((i:Int)<(xs.length:Int)):=(by omega);have pi:(0:Int)<=(i:Int):=(by omega);have t:=wrS i (by omega);have di:=Iw xs i li;have s:xs.take (i+1)=xs.take i++[xs[i]]:=(by rw[aG0 li]);have lt:(xs.take i).length=i:=by simp;omega
  have v:=Og (xs.take i);have A:=Tj (xs.take i);rw[lt]at v A;have ca:∀l,AV.cP (.cX l)=l:=λ_=>w8;have nl:m<Y.length:=(a00.mp hv).1;generalize hx:xs[i]=x at*;have ad:Ok (Y++[.cP (Z1 x) FZ]):=hok.H (by rw[a08,show k9 0 (.cP (Z1 x) FZ)=eT from NL x];rfl);have b0:=λL=>aj hv L;have g1:=λL=>aU (w8:Y.length=_) L;have s1:=λL y=>fV (w8:Y.length=_) L y;have eh:(Z1 x).head? =J (.cU x.1.1):=w8;have et:(Z1 x).drop 1=x.2.B:=w8;have ek:x.2.B.take 5=x.2.B:=a98 (by rw[JV.dt];exact K2 _);have jl:=JV.dt x.2;have jf:=JV.Q x.2;have aa:x1≠ .dj Y.length 0 i 1:=λe=>by
   rcases o with⟨_,b⟩|⟨_,q,b,X,_⟩;·rw[b]at e;cases e
   ·rw[b]at e;have:=(a00.mp X).1;cases e;omega
  have af:∀q,x2=.dj q 0 i 5->q<Y.length:=λq e=>by
   rcases d with⟨_,b⟩|⟨_,q',b,X,_⟩;·rw[b]at e;cases e
   ·rw[b]at e;have:=(a00.mp X).1;cases e;exact this
  obtain⟨Q,n1,M,N,n4⟩:=UL (bytes:=16) [.cU x.1.1] (o.D λq w H e t=>aj t [AO.cP (Z1 x) FZ]) (by rw[v,aD2]) (by omega) (by omega) ad;rw[<-Qm,X2,K1,K3]at n1;rw[X2,K1,K3]at M;simp only[aC4]at n1 M;have v1:=N _ _ (.inr (by omega)) (b0 [AO.cP (Z1 x) FZ]);have ah:=N Y.length _ (.inl aa) (by rw[g1];rfl);have T:=λL=>aj v1 L;have D:=λL y=>gZ v1 L y;have j:=λL=>aj (bF v1 (.cP [.cQ .u8 5,.cQ r 0,.cU [],.dj (Y.length+1) 0 (i+1) 1,x2] FZ)) L;have W:=λL=>aj (aH ah (show Y.length≠m by omega) (.cP [.cQ .u8 5,.cQ r 0,.cU [],.dj (Y.length+1) 0 (i+1) 1,x2] FZ)) L;have ab:Ok (Q.set m (.cP [.cQ .u8 5,.cQ r 0,.cU [],.dj (Y.length+1) 0 (i+1) 1,x2] FZ)++[AO.cP (nC (xs.take i++[x])) FZ]):=by
   have:=(n4.H (L:=[AO.cP (nC (xs.take i++[x])) FZ]) (by
    rw[a08,show k9 0 (AO.cP (nC (xs.take i++[x])) FZ)=eT from afb _];rfl)).bd m (x:=(.cP [.cQ .u8 5,.cQ r 0,.cU [],.dj (Y.length+1) 0 (i+1) 1,x2] FZ)) (by
    have h2:j8 (Y.length+1+1) x2=eT:=by have:=aB0.mp hok _ (a06 hv);simp only[k9,ae,j8,aE1,a02]at this;exact below_mono (by omega) x2 this.2.2.2.2
    simp only[k9,ae,j8,aE1,aE0,a02,Z3,X2,K1,K3,M];exact⟨by omega,h2⟩)
   rwa[D]at this
  have P:(Q.set m (.cP [.cQ .u8 5,.cQ r 0,.cU [],.dj (Y.length+1) 0 (i+1) 1,x2] FZ)).length=Y.length+1:=(by rw[a99,M]);have p:Bf (Q.set m (.cP [.cQ .u8 5,.cQ r 0,.cU [],.dj (Y.length+1) 0 (i+1) 1,x2] FZ)++[AO.cP (nC (xs.take i++[x])) FZ]) (m+1) i 5 (yh (xs.take i)) x2:=d.D λq w H e t=>aj (aH (N q w (.inl λb=>Z q b e) (aj t _)) (by omega) _) _;have sx:=d.cq;obtain⟨R,m1,K,m3,m4⟩:=UL (bytes:=80) x.2.B p A (by omega) (by omega) ab;rw[<-Vt,X2,P,K1,K3]at m1;rw[X2,P,K1,K3]at K;simp only[aC4,aI8,Nat.reduceAdd]at m1 K;have keep:∀k z,k<m->Y[k]?=J z->R[k]?=J z:=λk z G u=>m3 _ _ (.inr (by omega)) (aj (aH (N _ _ (.inr (by omega)) (aj u _)) (by omega) _) _);have v3:=m3 _ _ (.inr (by omega)) (j [AO.cP (nC (xs.take i++[x])) FZ]);have B:=m3 (Y.length+1) (AO.cP (nC (xs.take i++[x])) FZ) (.inl λe=>by have:=af _ e;omega) (by rw[aU P];rfl);have V:=λL=>aj v3 L;have E:=λL y=>gZ v3 L y;have ac:Ok (R.set m (.cP [.cQ .u8 5,.cQ r 0,.cU [],.dj (Y.length+1) 0 (i+1) 1,.dj (Y.length+2) 0 (i+1) 5] FZ)++[AO.cP (yh (xs.take i++[x])) FZ]):=by
   have:=(m4.H (L:=[AO.cP (yh (xs.take i++[x])) FZ]) (by
    rw[a08,show k9 0 (AO.cP (yh (xs.take i++[x])) FZ)=eT from iZ _];rfl)).bd m (x:=(.cP [.cQ .u8 5,.cQ r 0,.cU [],.dj (Y.length+1) 0 (i+1) 1,.dj (Y.length+2) 0 (i+1) 5] FZ)) (by
    simp only[k9,ae,j8,aE1,aE0,a02,Z3,X2,K1,K3,K];omega)
   rwa[E]at this
  have I2:OT O q m xs (i+1) (.dj (Y.length+1) 0 (i+1) 1) (.dj (Y.length+2) 0 (i+1) 5) (R.set m (.cP [.cQ .u8 5,.cQ r 0,.cU [],.dj (Y.length+1) 0 (i+1) 1,.dj (Y.length+2) 0 (i+1) 5] FZ)++[AO.cP (yh (xs.take i++[x])) FZ]):=by have k1:=λk z G u=>aj (aH (keep k z G u) (show k≠m by omega) (.cP [.cQ .u8 5,.cQ r 0,.cU [],.dj (Y.length+1) 0 (i+1) 1,.dj (Y.length+2) 0 (i+1) 5] FZ)) [AO.cP (yh (xs.take i++[x])) FZ];have tk:=XZ (S:=Y) (n:=O.length) (by omega) λk z G u=>k1 k z (by omega) u;rw[<-s]at B⊢;rw[<-s]at tk;refine⟨by rw[s];exact ac,by rw[s];exact k1 _ _ H c,by rw[s];exact k1 _ _ hm hres,aj (bF v3 _) _,.inr ⟨by omega,_,w8,aj (aH B (by omega) _) _,by omega⟩,.inr ⟨by omega,_,w8,?_,by omega⟩,λq e1 e2=>(by injection e1;injection e2;omega),by rw[tk,hpre]⟩;rw[aU (by rw[a99,K])];rfl
  obtain⟨f,g,F,ih,a⟩:=anj O xs hN q m H hm n (i+1) (by omega) _ _ _ I2;refine⟨f,g,F,?_,a⟩;rw[aB (he:=w8)];generalize G:aG C (ai C) 76 [2,11,54,55,56] sQ=kk at*;simp only[sQ,h,li,pi,t,di,c,b0,g1,s1,eh,et,ek,jl,jf,n1,T,D,j,W,sx,m1,V,E,ih,ca,yN,kH,rO,w9,a90,X2,aJ8,EVX,seval]
def aik(H:aaY C PK)(ks:List PS)(R:∀p∈ks,p.1.length<=LB/\p.2.length<=LB)(O:St)(f:Ok O):∃(j:JV) (e:Int),ai C KE [.sl ks.length (ks.flatMap pC)] O=J (.de [j.av,.cQ r e],O):=by
 have m:K8 eF [.sl ks.length (ks.flatMap pC)] O=J ([.sl ks.length (ks.flatMap pC)],O):=NVs.E (.cV (rV ks) .db) _;have h:O.set O.length .em=O:=List.set_eq_of_length_le (K2 _);have zero:∀(e:Int) (Y:St),Y.take O.length=O->Y[O.length]?=J mY->iF O.length [.eN 2 eT 5,.fT 3] (J (.ea,[(2,.da O.length 0),(3,.cQ r e)],Y))=J (.de [JV.ab.av,.cQ r e],O):=λe Y P h2=>by have:=MB (Y:=Y) (o:=O.length) (x:=.em) f w8 e [(2,.da O.length 0),(3,.cQ r e)] w8 w8 (by rw[P,h]) h2;rwa[h]at this
 have r0:(O++[mY])[O.length]?=J mY:=by rw[aA];rfl
 have E:(O++[mY]).take O.length=O:=by simp
 have w:Ok (O++[mY]):=f.H w8;by_cases c:(ks.length:Int)>32;·have z:=zero 5 _ E r0;have X:=QH r0;refine⟨JV.ab,5,?_⟩;rw[H.eg.go m];generalize u:iF=s at*;unfold mY at*;simp only[Gf,c,X,z,AV.cP,AV.Q,aA,w9,EVX,seval]
 have K:TbI O 0 [] .cY (O++[mY]):=⟨w,r0,.inl ⟨w8,w8⟩,w8,E⟩;rcases ati H ks (by omega) R O ks.length 0 (by omega) _ _ _ K with⟨Z,x,Y,g,I⟩|⟨e,Y,g,l2,l3⟩
 ·rcases I.ej with⟨B,rfl⟩|⟨B,q,rfl,v,lq⟩
  ·have l:=λY=>H.o4 Y;unfold ahH at l;have lt:=(a00.mp I.bL).1;have rs:=λL=>aj I.bL L;have t:=λL=>aU (w8:Y.length=_) L;have s1:=λL z=>fV (w8:Y.length=_) L z;have pt:=λL z=>gZ I.bL L z;have d:∀S,aG C (ai C) 76 [2,11,54,55,56] sQ [(2,.da O.length 0),(11,.da Y.length 0),(54,.cY),(55,.cQ r 0),(56,.cQ r 0)] S=J (.dq 4,[(2,.da O.length 0),(11,.da Y.length 0)],S):=λS=>by rw[aB (he:=w8)];simp only[sQ,K4,EVX,seval]
   have fin:iF O.length [.eN 2 eT 5,.fT 3] (J (.ea,[(2,.da O.length 0),(3,.cQ r 0)],Y.set O.length (.cP [.cQ .u8 5,.cQ r 0,.cU [],.cY,.cY] FZ)++[.cP [.cQ .u8 5,.cQ r 0,.cU [],.cY,.cY] FZ]))=J (.de [(adv [] (by decide)).av,.cQ r 0],O):=by
    have hr:=aj (bF I.bL (.cP [.cQ .u8 5,.cQ r 0,.cU [],.cY,.cY] FZ)) [.cP [.cQ .u8 5,.cQ r 0,.cU [],.cY,.cY] FZ];have Q:∀T,K8 eF [.cX [.cQ .u8 5,.cQ r 0,.cU [],.cY,.cY],.cQ r 0] T=J ([(adv [] (by decide)).av,.cQ r 0],T):=λT=>by rw[iY,aN,bK,aN,aN,aN,aN,aN,dQ,mg];unfold adv JV.av;rw[JV.bO];rfl
    rw[oV (vs:=[.cX [.cQ .u8 5,.cQ r 0,.cU [],.cY,.cY],.cQ r 0]) (by
     have h2:look [(2,AV.da O.length 0),(3,.cQ r 0)] 2=.da O.length 0:=w8;have h3:look [(2,AV.da O.length 0),(3,.cQ r 0)] 3=.cQ r 0:=w8;simp only[aZ,hr,h2,h3,Ev.pt,aB8,K1,K3,List.take];rfl) (Q _)]
    have e2:=Du (o:=O.length) (x:=.em) f w8 (vs:=[(adv [] (by decide)).av,.cQ r 0]) (by rw[ae,JV.av,j8,JV.aL];rfl) (S:=Y.set O.length (.cP [.cQ .u8 5,.cQ r 0,.cU [],.cY,.cY] FZ)++[.cP [.cQ .u8 5,.cQ r 0,.cU [],.cY,.cY] FZ]) (by rw[qO _ _ _ (by rw[a99];omega),eP _ _ _ (K2 _),I.bR,h]);rw[h]at e2;rw[e2];rfl
   have A:ks.length=0:=B;refine⟨adv [] (by decide),0,?_⟩;rw[H.eg.go m];generalize u:iF=s at*;unfold mY at*;simp only[A,aB1]at g;simp only[Gf,c,A,aB1,g,d,l,rs,t,s1,pt,fin,AV.cP,AV.Q,aA,w9,EVX,seval]
  ·have lt:=(a00.mp I.bL).1;have F:=(a00.mp v).1;obtain⟨b,G,n⟩:=H.j1 Y I.ok q F U ks.length (by omega) Z I.dt;unfold row at n;rw[QH v]at n;dsimp only[ahH]at n;have l4:(Y.set q (.cP (dU b) FZ)).length=Y.length:=a99;have y:Ok (Y.set q (.cP (dU b) FZ)):=I.ok.bd q (by simp only[k9,yO];exact aP (a97 _) _ (yO b));have r4:=aH I.bL (show O.length≠q by omega) (.cP (dU b) FZ);have W:(Y.set q (.cP (dU b) FZ)).take O.length=O:=by rw[eP _ _ _ (by omega),I.bR]
   have M:OT O q Y.length b 0 .cY .cY (Y.set q (.cP (dU b) FZ)++[.cP [.cQ .u8 5,.cQ r 0,.cU [],.cY,.cY] FZ]):=
    ⟨y.H w8,aj (bF v _) _,aj r4 _,by rw[aU l4];rfl,.inl ⟨w8,w8⟩,.inl ⟨w8,w8⟩,λq e=>(by cases e),by rw[qO _ _ _ (by omega),W]⟩
   obtain⟨x1,x2,N,d,a⟩:=anj (C:=C) O b (by omega) q Y.length F lt b.length 0 (by omega) _ _ _ M;have D:b.length≠0:=(by omega);rcases a.a1 with⟨k,_⟩|⟨_,q1,rfl,a1,a2⟩;·exact absurd k D
   rcases a.a2 with⟨k,_⟩|⟨_,q2,rfl,b1,b2⟩;·exact absurd k D
   rw[a98 (K2 _)]at a1 b1;have fin:=ag1 (Y:=N.set O.length (.cP [.cQ .u8 5,.cQ r 0,.cU [],.dj q1 0 b.length 1,.dj q2 0 b.length 5] FZ)) (o:=O.length) (x:=.em) f w8 0 [(2,.da O.length 0),(3,.cQ r 0)] w8 w8 (by rw[eP _ _ _ (K2 _),a.bR,h]) b (by omega) q1 q2 (bF a.bL _) (aH a1 (by omega) _) (aH b1 (by omega) _) (by omega) (by omega) (λe=>a.ne q1 w8 (by rw[e]));rw[h]at fin;have i:=a.v;have V:=a.bL;have t:=λL=>aU l4 L;have s1:=λL z=>fV l4 L z;rw[G]at d i;refine⟨adv b (by omega),0,?_⟩;rw[H.eg.go m];generalize u:iF=s at*;unfold mY at*;simp only[aB1]at g d;simp only[Gf,c,g,d,n,l4,t,s1,i,V,AV.cP,AV.Q,aA,w9,EVX,seval];rw[<-G];exact fin
 ·have z:=zero e _ l3 l2;refine⟨JV.ab,e,?_⟩;rw[H.eg.go m];generalize u:iF=s at*;unfold mY at*;simp only[aB1]at g;simp only[Gf,c,g,z,EVX,seval]
def asU(H:aaY C PK):bZ C PK KE (.dp [.ew [.df,.df]] (.de [.jv,.cQ r])):=
 qw H.eg w8 λb d=>by obtain⟨x,rfl,c⟩:=U2 d;obtain⟨ks,rfl,l,h⟩:=aeD akw c;intro O a;obtain⟨j,e,h⟩:=aik H ks h O a;exact⟨_,h,.de _ _ (.cV _ _ _ _ (.jv j) (.cV _ _ _ _ (.cQ _ _) .db))⟩
def ajn(f:D C E8 L8)(hs:PE C bM 1):bZ C PK E8 (.dp [apx] apx):=
 qw f w8 λi l=>by obtain⟨x,rfl,e⟩:=U2 l;have b:=e;obtain⟨a,rfl,l1,l2⟩:=akv e;intro O d;refine⟨.cX a.B,?_,b⟩;have q:=λY=>hs (z a.V) (a.V.flatMap sC) Y (by rw[bz (k:=1) (λ_=>w8)]) (by omega) (by rw[List.all_flatMap];exact aB0.mpr λ_ _=>w8);have g:=λL=>bu d (vs:=[.cX a.B]) (NVs.cl (.cV (aak a) .db)) L;have h:a.B=[.cQ r a.th,.sl (z a.V) (a.V.flatMap sC)]:=w8;have c:=λY=>NVs.E (.cV (aak a) .db) Y;rw[f.go (c _)];rw[h]at g c⊢;generalize j:iF=m;simp only[L8,q,aA,aI,cZ,AV.cP,AV.Q,w9,X,seval];rw[<-j];refine(oV ?_ (c _)).trans (by rw[g];rfl);simp only[aZ,aI,X,seval]
def acE(m:D C zq Lp)(hs:PE C dO 2)(p:CopyHas C)(n:W)(l:F PS)(j:JV)(O:St)(ll:l.length<=8192)(f:Ok O):ai C zq [.cX (rC n l j)] O=J (.cX (rC n l j),O):=by
 have q:=λY=>hs l.length (l.flatMap pC) Y (bz wB l) (by omega) (by rw[List.all_flatMap];exact aB0.mpr λ_ _=>w8);have b1:k9 0 (.cP (rC n l j) FZ)=eT:=(acC n l j).cl;have c:=OE p j;have g:=λz=>c _ (f.H (L:=[.cP (rC n l j) FZ,.cP [.cQ r 0,.cY,.cQ .u8 0,.cQ r 0,.cU [],.cY,.cY] z]) (by rw[K,K,b1];rfl));have nv:=acC n l j;have i:=λL=>bu f (vs:=[.cX (rC n l j)]) (NVs.cl (.cV (.cX nv) .db)) L;obtain⟨a,b,k,d,e,x0,t,u,v,w,x,z5⟩:=fO j;have s:rC n l j=[.cQ r n,.sl l.length (l.flatMap pC),a,b,k,d,e]:=by unfold rC;rw[t]
 have h:=λY=>NVs.E (.cV (.cX nv) .db) Y;rw[m.go (h _)];rw[s]at i g h⊢;rw[x0]at g;generalize o:iF=y;simp only[Lp,q,g,jT,u,v,w,x,z5,aA,aI,cZ,AV.cP,fl5,w9,X,seval];rw[<-o];rw[oV (by simp only[aZ,aI,X,seval]) (h _),i];rfl
def alf(d:D C zq Lp)(hs:PE C dO 2)(f:CopyHas C):bZ C PK zq (.dp [aeX] aeX):=
 qw d w8 λe g=>by obtain⟨x,rfl,c⟩:=U2 g;have a:=c;obtain⟨h,rfl,k⟩:=agh c;obtain⟨n,l,j,rfl,ll⟩:=k.j9;exactλO b=>⟨.cX (rC n l j),acE d hs f n l j O (by omega) b,a⟩
end Go.Ev
namespace Go.Ev
open List renaming length→z
open Option renaming some→J, none→U
open Go.IntKind renaming i64→r
open Bool renaming true→eT, false→eF
variable{C:Ctx}
def adu(d:Pn C gU qC)(xs:F EL)(b:xs≠[])(i:z xs<=8192)(O:St)(g:Ok O):ai C gU [.sl (z xs) (dU xs)] O=J (.dj (z O) 0 (z xs) 6,O++[.cP (dU xs) FZ]):=by
 have e:0<z xs:=List.length_pos_iff.mpr b;rw[d.go];have a:(dU xs).all AV.Q=eT:=by rw[aB0];intro v hv;obtain⟨x,_,f⟩:=aH6.mp hv;exact aB0.mp (rO x) v f
 have c:¬z xs=0:=by omega
 have sn:=Jb xs;have ap:=λY:St=>PI Y U (sz:=6) (bytes:=96) (n:=0) (m:=z xs) (l:=[]) (dU xs) c w8 (by omega) (by omega);simp only[aC4,a88]at ap;have h:K5 (z O) [.dj (z O) 0 (z xs) 6] (O++[.cP (dU xs) FZ])=O++[.cP (dU xs) FZ]:=by
  unfold K5;have:ae (z O) [.dj (z O) 0 (z xs) 6]=eF:=(by simp[ae,j8]);split;·rfl
  ·rw[this];simp
 simp only[qC,a,e,sn,ap,h,nV,aZ,X,seval]
def ayv(n:R):IntKind.u8.wrap (n:W)=((UInt8.ofNat n).toNat:W):=by rw[IntKind.wrap_u8,UInt8.toNat_ofNat'];omega
def aAe (m:Pn C fB iC) (d u:Nat) (l:LU) (o:z l=24) (n:u<10^d) (a:d<=20) (s:u<18446744073709551616) (O:St) (q:Nat) (c:O[q]?=J (.cP (ofBytes l) FZ)):
  ∃g:LU,z g=24/\ai C fB [.dj q 1 d 1,.cQ .u64 u] O=J (.de [],O.set q (.cP (ofBytes g) FZ)):=by
 obtain⟨x,l2,t,b,f⟩:=amh (C:=C) d a O q c (d/8) d u l (K2 _) w8 n s o;rw[set_self c]at f;have i:∀(x:AO),(O.set q x)[q]?=J x:=λx=>bF c x;have F:∀x:AO,K5 (z O) [] (O.set q x)=O.set q x:=λx=>by have:=bP (O.set q x) [];rwa[a99]at this
 have hr:d%8<8:=Nat.mod_lt _ (by decide);have p:d%8<=d:=Nat.mod_le _ _;generalize d%8=co at*;have e:x<10000000:=aG2 t (Nat.pow_le_pow_right (j:=7) (by decide) (by omega));have P:=yZ x (by omega);have t1:∀y:Nat,(y:Int).tmod 10000=((y%10000:Nat):Int):=λy=>w8;have t2:∀y:Nat,(y:Int).tdiv 10000=((y/10000:Nat):Int):=λy=>w8;have t3:∀y:Nat,(y:Int).tmod 100=((y%100:Nat):Int):=λy=>w8;have t4:∀y:Nat,(y:Int).tdiv 100=((y/100:Nat):Int):=λy=>w8;have K:=yZ (x/10000) (by omega);have L:=yZ (x/100) (by omega);have M:=yZ (x/10000/100) (by omega);have N:=yZ (x%10000/100) (by omega);obtain⟨Q,V,Z,G⟩:=ZF (x%10000/100) (by omega);obtain⟨B,w⟩:=sm_at (x%10000/100) (by omega);obtain⟨R,W,zb,H⟩:=ZF (x%10000%100) (by omega);obtain⟨D,A⟩:=sm_at (x%10000%100) (by omega);obtain⟨S,X,zc,I⟩:=ZF (x/10000%100) (by omega);obtain⟨sc,rc⟩:=sm_at (x/10000%100) (by omega);obtain⟨T,Y,zd,vd⟩:=ZF (x%100) (by omega);obtain⟨E,rd⟩:=sm_at (x%100) (by omega);have q1:∀y:Nat,y<10000000->IntKind.u32.wrap (48+(y:Int))=((48+y:Nat):Int):=λy hy=>by have:=yZ (48+y) (by omega);rw[<-this];rfl
 have q2:=q1 x e;have q3:=q1 (x/100) (by omega);have q4:=q1 (x/10000) (by omega);have q5:=q1 (x/10000/100) (by omega);have v:∀k,k<co->k<d:=λk h=>by omega
 have h8:co=0\/co=1\/co=2\/co=3\/co=4\/co=5\/co=6\/co=7:=by omega
 rcases h8 with rfl|rfl|rfl|rfl|rfl|rfl|rfl|rfl;all_goals
  simp only[aB1,Z6,Int.natCast_one]at f;refine⟨?_,?_,?_⟩
  rotate_left 2
  ·rw[m.go];simp only[iC,f,i,F,P,t1,t2,t3,t4,K,L,M,N,Q,V,Z,G,B,w,R,W,zb,H,D,A,S,X,zc,I,sc,rc,T,Y,zd,vd,E,rd,q2,q3,q4,q5,ayv,w64,v,b,avE,aJ,a99,Zk,aZ,dG,a90,aF5,AV.cP,AV.Q,EVX,seval];rfl
  ·simp only[a99,b]
structure Yb(C:Ctx):Prop extends NdHas C where
 fb:Pn C fB iC
 ff:Has C BB vP
 cQ:Has C lQ gq
 ox:Has C Hu Hr
 lX:Has C UU aaS
def asW(H:Yb C)(y:R)(g:y<100)(O:St):∃s:LU,z s<=64/\ai C BB [.cQ r y] O=J (.cU s,O):=by
 have b:(0:W)<=(y:W):=by omega
 have d:=N y (by omega);have e:IntKind.i64.wrap ((y:W)*2)=((y*2:R):W):=wrE (by omega);have f:IntKind.i64.wrap (((y*2:R):W)+2)=((y*2+2:R):W):=wrE (by omega);have a:∀k:R,(0:W)<=(k:W):=Int.natCast_nonneg;have l2:y<=y+1:=by omega
 have l3:y*2<=y*2+2:=by omega
 have l4:y*2+2<=200:=by omega
 have ll:z iU=200:=w8;have go:=H.ff.go (O:=O) (NVs.E (.cV (.cQ r (y:W)) .db) _);by_cases c:(y:W)<10
 ·have l5:y+1<=36:=(by omega);refine⟨?_,?_,?_⟩
  rotate_left 2
  ·rw[go];simp only[vP,c,b,d,a,l2,l5,a90,X,seval];rfl
  ·simp;omega
 ·refine⟨?_,?_,?_⟩
  rotate_left 2
  ·rw[go];simp only[vP,c,e,f,a,l3,l4,ll,a90,X,seval];rfl
  ·simp only[aL7,K1,aD7];omega
def amO(l:LU)(k:R):(p l).take k=p (l.take k):=by simp[p,List.map_take]
def auN(l:LU)(k:R):(p l).drop k=p (l.drop k):=by simp[p,List.map_drop]
def z24:LU:=List.replicate 24 0
set_option maxHeartbeats 2000000 in
def aur (H:Yb C) (n:W) (u:R) (c:¬(0<=n/\n<100)) (a:u<18446744073709551616) (b1:n<0->IntKind.u64.wrap (0-IntKind.u64.wrap n)=(u:W)) (h:¬n<0->IntKind.u64.wrap n=(u:W)) (d:R) (d0:d≠0) (d1:u<10^d) (d2:d<=20) (q1:∀O,ai C lW [.cQ .u64 u] O=J (.cQ r d,O)) (O:St) (b:Ok O):
  ∃s:LU,ai C lQ [.cQ r n,.cQ r 10] O=J (.cU s,O)/\z s<=64:=by
 have go:=H.cQ.go (O:=O) (NVs.E (.cV (.cQ r n) (.cV (.cQ r 10) .db)) _);obtain⟨l,e,q2⟩:=aAe H.fb d u z24 w8 d1 d2 a (O++[.cP (p z24) FZ]) (z O) (by rw[aA];rfl);rw[aS]at q2;have o:p z24=[.cQ .u8 0,.cQ .u8 0,.cQ .u8 0,.cQ .u8 0,.cQ .u8 0,.cQ .u8 0,.cQ .u8 0,.cQ .u8 0,.cQ .u8 0,.cQ .u8 0,.cQ .u8 0,.cQ .u8 0,.cQ .u8 0,.cQ .u8 0,.cQ .u8 0,.cQ .u8 0,.cQ .u8 0,.cQ .u8 0,.cQ .u8 0,.cQ .u8 0,.cQ .u8 0,.cQ .u8 0,.cQ .u8 0,.cQ .u8 0]:=w8;rw[o]at q2;have f:IntKind.i64.wrap (1+(d:W))=((1+d:R):W):=wrE (by omega);have l1:(0:W)<=((1+d:R):W):=by omega
 have l2:1<=1+d:=by omega
 have l3:1+d<=24:=by omega
 have l4:1+d-1=d:=by omega
 have l5:¬1=1+d:=by omega
 have l6:¬0=1+d:=by omega
 have l7:1+d-0=1+d:=by omega
 have g:=λ(s:LU) L=>bu b (vs:=[.cU s]) w8 L;have m:w9 (p l) 0 [.cQ .u8 45]=p (l.set 0 45):=avE l 0 45 (by omega);by_cases s:n<0
 ·have i:¬(0:W)<=n:=(by omega);have hb:=b1 s;refine⟨?_,?_,?_⟩
  rotate_left 1
  ·rw[go];simp only[gq,i,s,hb,q1,q2,f,l1,l2,l3,l4,l5,l6,l7,e,m,amO,yx,aJ,a99,aC5,aD2,g,a90,a97,X,seval];rfl
  ·rw[aD7];omega
 ·have hb:=h s;have j:(0:W)<=n:=(by omega);have k:¬n<100:=(by omega);refine⟨?_,?_,?_⟩
  rotate_left 1
  ·rw[go];simp only[gq,j,k,s,hb,q1,q2,f,l1,l2,l3,l4,l5,e,amO,auN,yx,aJ,aC5,aD2,g,a90,X,seval];rfl
  ·rw[aD7];omega
def aqd (a:Pn C fB iC) (O:St):
  ai C fB [.fS,.cQ .u64 0] O=J (.de [],O):=by
 rw[a.go];have c:=bP O [];have b:aG C (ai C) 167 [0,1,4] bQ [(0,.fS),(1,.cQ .u64 0),(4,.cQ r 0)] O=J (.dq 0,[(0,.fS),(1,.cQ .u64 0),(4,.cQ r 0)],O):=by rw[aB (he:=w8)];simp only[bQ,X,seval]
 simp only[iC,b,c,Zk,aZ,dG,X,seval]
set_option maxHeartbeats 2000000 in
def aus(H:Yb C)(n:W)(c:¬(0<=n/\n<100))(b1:n<0->IntKind.u64.wrap (0-IntKind.u64.wrap n)=0)(g:¬n<0->IntKind.u64.wrap n=0)(q1:∀O,ai C lW [.cQ .u64 0] O=J (.cQ r 0,O))(O:St)(a:Ok O):∃s:LU,ai C lQ [.cQ r n,.cQ r 10] O=J (.cU s,O)/\z s<=64:=by
 rw[H.cQ.go (NVs.E (.cV (.cQ _ _) (.cV (.cQ _ _) .db)) _)];have q2:=aqd H.fb;have f:=λ(s:LU) L=>bu a (vs:=[.cU s]) w8 L;have b:IntKind.i64.wrap 1=1:=w8;have l1:bytesOf [.cQ .u8 45]=J [45]:=w8;have l2:bytesOf []=J []:=w8;have d:(0:W)<=1:=by decide
 have e:(1:W).toNat=1:=w8;by_cases s:n<0;·have h:¬(0:W)<=n:=(by omega);have hb:=b1 s;refine⟨[45],?_,by simp⟩;simp only[gq,h,s,hb,q1,q2,b,d,e,l1,aC5,aD2,f,w9,X,seval]
 ·have hb:=g s;have i:(0:W)<=n:=(by omega);have j:¬n<100:=(by omega);refine⟨[],?_,by simp⟩;simp only[gq,i,j,s,hb,q1,q2,b,d,e,l2,aC5,aD2,f,X,seval]
def anU(H:Yb C)(n:W)(O:St)(b:Ok O):∃s:LU,ai C lQ [.cQ r n,.cQ r 10] O=J (.cU s,O)/\z s<=64:=by
 by_cases c:0<=n/\n<100;·obtain⟨y,rfl⟩:∃y:R,n=y:=⟨n.toNat,by omega⟩;have j:(0:W)<=(y:W):=(by omega);have k:(y:W)<100:=c.2;obtain⟨s,hs,q⟩:=asW H y (by omega) O;refine⟨s,?_,hs⟩;rw[H.cQ.go (NVs.E (.cV (.cQ _ _) (.cV (.cQ _ _) .db)) _)];simp only[gq,j,k,q,X,seval]
 ·have i:∀m:W,∃u:R,u<18446744073709551616/\IntKind.u64.wrap m=(u:W):=λm=>by refine⟨(m%18446744073709551616).toNat,by omega,?_⟩;simp[IntKind.wrap,IntKind.bits,IntKind.signed];omega
  obtain⟨u,a,b1,f⟩:∃u:R,u<18446744073709551616/\(n<0->IntKind.u64.wrap (0-IntKind.u64.wrap n)=(u:W))/\(¬n<0->IntKind.u64.wrap n=(u:W)):=by
   by_cases s:n<0;·obtain⟨u,e,h2⟩:=i (0-IntKind.u64.wrap n);exact⟨u,e,λ_=>h2,λh=>Y s h⟩
   ·obtain⟨u,e,h2⟩:=i n;exact⟨u,e,λh=>Y h s,λ_=>h2⟩
  obtain⟨d,d1,d2,q1⟩:=numDigits H.toNdHas u a;by_cases g:d=0;·subst g;obtain rfl:u=0:=(by simpa using d1);exact aus H n c b1 f q1 O b
  ·exact aur H n u c a b1 f d g d1 d2 q1 O b
def aiA(H:Yb C)(n:W)(O:St)(a:Ok O):∃s:LU,ai C UU [.cQ r n] O=J (.cU s,O)/\z s<=64:=by
 obtain⟨s,q,b⟩:=anU H n O a;have q:ai C Hu [.cQ r n,.cQ r 10] O=J (.cU s,O):=by rw[H.ox.go (NVs.E (.cV (.cQ _ _) (.cV (.cQ _ _) .db)) _)];simp only[Hr,q,X,seval]
 refine⟨s,?_,b⟩;rw[H.lX.go (NVs.E (.cV (.cQ _ _) .db) _)];simp only[aaS,q,X,seval]
open Go.Lib
def afR(x y:L)(a b:LU):e (x::a) (y::b)=if x.toNat<y.toNat then-1 else if y.toNat<x.toNat then 1 else e a b:=by rw[e];simp only[UInt8.lt_iff_toNat_lt]
def alY:∀a:LU,e a a=0|[]=>w8|x::a=>by rw[afR,X1 (by omega),X1 (by omega),alY a]
def ahx:∀a b c:LU,e a b<0->e b c<0->e a c<0
 |[],[],c,h,_=>Y h (by decide)|[],_::_,[],_,h=>Y h (by simp[e])|[],_::_,_::_,_,_=>by simp[e]
 |_::_,[],c,h,_=>Y h (by simp[e])|_::_,_::_,[],_,h=>Y h (by simp[e])
 |x::a,y::b,z::c,h,k=>by
  rw[afR]at h k⊢;have d:=ahx a b c;generalize e a b=p at*;generalize e b c=q at*;generalize e a c=f at*;split at h
  ·split at k;·rw[j9 (by omega)];decide
   ·split at k;·exact Y k (by decide)
    ·rw[j9 (by omega)];decide
  ·split at h;·exact Y h (by decide)
   ·split at k;·rw[j9 (by omega)];decide
    ·split at k;·exact Y k (by decide)
     ·rw[X1 (by omega),X1 (by omega)];exact d h k
def adY:∀a b c:LU,¬e a b<0->¬e b c<0->¬e a c<0
 |a,[],[],h,_=>h|[],_::_,c,h,_=>Y (by simp[e]) h|_,[],_::_,_,h=>Y (by simp[e]) h|_::_,_::_,[],_,_=>by simp[e]
 |x::a,y::b,z::c,h,k=>by
  rw[afR]at h k⊢;have d:=adY a b c;generalize e a b=p at*;generalize e b c=q at*;generalize e a c=f at*;split at h;·exact Y (by decide) h
  ·split at h
   ·split at k;·exact Y (by decide) k
    ·split at k;·rw[X1 (by omega),j9 (by omega)];decide
     ·rw[X1 (by omega),j9 (by omega)];decide
   ·split at k;·exact Y (by decide) k
    ·split at k;·rw[X1 (by omega),j9 (by omega)];decide
     ·rw[X1 (by omega),X1 (by omega)];exact d h k
open Go.RowKit Go.Shelf Go.Lib Go.Sort Go.Proofs
def agt(xs:F EL)(i:R):LU:=match xs[i]? with|J x=>x.1.1|U=>[]
def ak0(xs:F EL)(i j:R):W:=e (agt xs i) (agt xs j)
def apS(xs:F EL):SWO (ltOf (ak0 xs))where
 irrefl x:=by simp[ltOf,ak0,alY]
 trans x y z h1 h2:=decide_eq_true (ahx _ _ _ (c h1) (c h2))
 ntrans x y z h1 h2:=g (adY _ _ _ (b h1) (b h2))
def JE(xs:F EL):Array R:=pdq (ltOf (ak0 xs)) (j0 (z xs)) 0 (j0 (z xs)).size (K9 (j0 (z xs)).size) eT eT
def axL(xs:F EL):(JE xs).size=z xs/\∀i,i<z xs->(JE xs)[i]! <z xs:=by
 have h:=(pdq_sorts (ltOf (ak0 xs)) (apS xs) (j0 (z xs)) 0 (j0 (z xs)).size (K9 (j0 (z xs)).size) eT eT (a97 _) (K2 _) (Or.inl w8)).1;refine⟨by have:=h.1;unfold JE;rw[this];simp,λi hi=>?_⟩
 exact permIn_all (j0 (z xs)) (JE xs) 0 (j0 (z xs)).size (λj=>j<z xs) (K2 _) h (λj _ hj=>by
  have a:j<z xs:=(by simpa using hj);rw[j7 _ j hj];simpa using a) i (a97 _) (by simpa using hi)
def azr:EL:=(⟨[],by decide⟩,JV.ab)
instance:Inhabited EL:=⟨azr⟩
def acU(xs:F EL):F EL:=(List.range (z xs)).map λt=>xs.getD ((JE xs)[t]!) azr
def Td(xs:F EL):z (acU xs)=z xs:=by simp[acU]
open Classical in
noncomputable def Ul(fc:x)(args:LA)(O:St):Q (AV×St):=
 match args with
 |[.dj o 0 n 6,.dv (.func g) [] []]=>match O[o]? with|J (.cP l ⟨eF,t⟩)=>if h:g=fc/\n<4611686018427387904/\∃a:F EL,l=dU a/\z a=n then J (.de [],O.set o (.cP (dU (acU h.2.2.choose)) ⟨eF,t⟩))else U|_=>U
 |_=>U
def Wu(xs:F EL):z (dU xs)=z xs*6:=bz kH xs
def aq6(xs:F EL)(i d:R)(hi:i<z xs)(hr:d<6):(dU xs)[i*6+d]?=(Z1 xs[i])[d]?:=by
 have h:=iy kH (P hi);have e:(dU xs)[i*6+d]?=((dU xs).drop (i*6))[d]?:=by rw[List.getElem?_drop]
 rw[e];unfold dU;rw[h,aC1 (by rw[kH];exact hr)]
def Dh(c:Array Value)(n i:R):F Value:=if i<n then(List.range 6).map λd=>c[i*6+d]! else[.string ⟨⟨[]⟩⟩,.int r 0,.int r 0,.int r 0,.int r 0,.int r 0]
def amc(c:Array Value)(n i:R):z (Dh c n i)=6:=by unfold Dh;split<;>simp
def ak5(c:Array Value)(n i d:R)(hi:i<n)(hr:d<6):(Dh c n i)[d]! =c[i*6+d]!:=by unfold Dh;rw[j9 hi,j7 _ d (by simpa using hr)];simp
section
variable{ρ:Ren}{fs fc:FuncId}
def agC (L:SlLaysF0.n6 C.P ρ) (Y:ρ.f 6=fs) (V:JR C.P fs) (aE:∀w,(isAgg (ρ.t 24)).run C.P w=.ok eT w) (zE:∀w,(Go.sizeOf (ρ.t 24)).run C.P w=.ok 6 w)
  (eg:∀args w,(callFunc fc args).run C.P w=.ok (.enter fc args) w)
  (apW:∀(x y:LU) (u v:List Value) (W:World),z u=5->z v=5->Calls C.P fc #[.agg (.string ⟨⟨x⟩⟩::u).toArray,.agg (.string ⟨⟨y⟩⟩::v).toArray] W λe w'=>e=.returned (.int r (compareBytes x y))/\∃q an,w'=grow (W.drewN q) an):
  POK C fs (Ul fc):=by
 intro args O v O' h g w Q ha hw hg;unfold Ul at h;split at h
 ·rename_i o n gf;split at h
  ·rename_i l t ho;split at h
   ·rename_i B;simp only[a07,aC2]at h;obtain⟨rfl,rfl⟩:=h;have hxs:=B.2.2.choose_spec;generalize B.2.2.choose=b at hxs;obtain⟨rfl,hn,_⟩:=B;obtain⟨rfl,s⟩:=hxs;have Z:=Wu b;obtain⟨c,e,fr,N,R,h3,h4,h5,h6⟩:=hw.bA o _ ho;have X:fr=(0,0):=h5.1;subst X;cases ha with
    |cV _ v1 _ l1 x1 y1=>
    cases y1 with
    |cV _ v2 _ l2 x2 y2=>
    cases y2;cases x1 with
    |dj _ _ _ _ cap aw aa aq=>
    cases x2 with
    |dv _ _ _ x' y' k1 k2=>
    cases k1;cases k2;have cell:∀i,i<n->∀d,d<6->∃x,(Z1 b[i]!)[d]?=J x/\VR g x c[i*6+d]!:=λi hi d hr=>by have p:i<z b:=(by omega);have e1:=aq6 b i d p hr;have au:=kH b[i];have e2:(Z1 b[i])[d]?=J (Z1 b[i])[d]:=a01 (by omega);rw[e2]at e1;obtain⟨u,hu,hv⟩:=h4 _ _ e1;have e3:b[i]! =b[i]:=j7 b i p;refine⟨_,by rw[e3];exact e2,?_⟩;obtain⟨hb,af⟩:=aG3.mp hu;rw[j7 c _ hb,af];exact hv
    have fst:∀i,∃u,Dh c n i=.string ⟨⟨agt b i⟩⟩::u/\z u=5:=λi=>by
     have P:=amc c n i;by_cases hi:i<n
     ·obtain⟨x,hx1,hx2⟩:=cell i hi 0 (by decide);have p:i<z b:=(by omega);have e3:b[i]! =b[i]:=j7 b i p;have hx3:x=.cU (agt b i):=by
       have:agt b i=(b[i]).1.1:=by unfold agt;rw[a01 p]
       rw[this];rw[e3]at hx1;exact(aF9 hx1).symm
      rw[hx3]at hx2;have e0:=ak5 c n i 0 hi (by decide);cases hE:Dh c n i with
      |nil=>rw[hE]at P;cases P|cons a u=>rw[hE]at e0 P;refine⟨u,?_,by simpa using P⟩;have:a=c[i*6+0]!:=e0;rw[this];generalize c[i*6+0]! =q at hx2;cases hx2;rfl
     ·refine⟨[.int r 0,.int r 0,.int r 0,.int r 0,.int r 0],?_,w8⟩;unfold Dh agt;rw[X1 hi,aB9 (by omega)]
    have M:∀i,∀v∈Dh c n i,v.oneCell'=eT:=λi v hv=>by
     by_cases hi:i<n;·unfold Dh at hv;rw[j9 hi]at hv;obtain⟨d,hr,rfl⟩:=aE8.mp hv;obtain⟨x,hx1,hx2⟩:=cell i hi d (aG6.mp hr);exact hx2.ef (aB0.mp (rO _) x (a06 hx1))
     ·unfold Dh at hv;rw[X1 hi]at hv;simp only[aC8,aI5,or_false]at hv;rcases hv with rfl|rfl|rfl|rfl|rfl|rfl<;>rfl
    have f:(j0 (z b)).size=n:=(by simp[s]);have rg:∀j,j<n->(j0 (z b))[j]! =j:=λj hj=>by rw[j7 _ j (by rw[f];exact hj)];simp
    have fk:∀t,t<n*6->(flatK (Dh c n) 6 (j0 (z b)))[t]! =c[t]!:=λt F=>by have hq:t/6<n:=(by omega);rw[get_flatK _ _ _ _ (by rw[f];exact F),rg _ hq,ak5 _ _ _ _ hq (Nat.mod_lt _ (by decide))];congr 1;omega
    have hH:HoldsK (Dh c n) 6 w (g.ob o) 0 (j0 (z b)):=by
     intro t F;have ac:t<n*6:=by rw[size_flatK,f]at F;exact F
     refine⟨?_,?_⟩;·rw[fk t ac,aC4];show w.cell? ⟨g.ob o,t,U⟩=J c[t]!;rw[cell_of_heap N,j7 c t (by omega)];exact aD1 (by omega)
     ·rw[World.frozen?,N];rfl
    have hb:g.ob o<w.heap.size:=(aG3.mp N).1;have H:CmpLays C.P gf #[] (Dh c n) 6 (ak0 b) (g.ob o) 0 (j0 (z b)).size w:=λm os dk _ i j=>by obtain⟨u,hu,lu⟩:=fst i;obtain⟨u',ad,al⟩:=fst j;rw[hu,ad];exact apW (agt b i) (agt b j) u u' _ lu al
    have run:=AnyQ.slices_SortFunc_eq L 6 aE zE (Dh c n) (amc c n) M (ak0 b) (apS b) gf #[] (g.ob o) 0 cap (j0 (z b)) w eg H hH hb (by omega);rw[Y,f]at run;refine FV V (run.mono λe' w2 ⟨he,q,os,A⟩=>⟨_,he,g,?_,.de _ _ .db⟩);have S:=axL b;have T:pdq (ltOf (ak0 b)) (j0 (z b)) 0 n (K9 n) eT eT=JE b:=by unfold JE;rw[f]
    rw[T]at A;have hF:(flatK (Dh c n) 6 (JE b)).size=n*6:=(by rw[size_flatK,S.1,s]);have heap:w2.heap=(w.heap.modify (g.ob o) (onCells (putCells id 0 (flatK (Dh c n) 6 (JE b)))))++os:=by rw[A];rfl
    have I:(w.heap.modify (g.ob o) (onCells (putCells id 0 (flatK (Dh c n) 6 (JE b))))).size=w.heap.size:=(by simp);have h2:w2.heap[g.ob o]?=J (.cells (putCells id 0 (flatK (Dh c n) 6 (JE b)) c) e (0,0)):=by rw[heap,Z2 (by rw[I];exact hb),aJ9,j9 w8,N];rfl
    have E:(putCells id 0 (flatK (Dh c n) 6 (JE b)) c).size=c.size:=(by simp[putCells]);refine aqs hw ho (by rw[A];rfl) (by rw[A];rfl) (by rw[A];rfl) (by rw[heap];simp) (λk hk ab=>?_) ⟨_,e,(0,0),h2,by rw[E];exact R,by rw[E,Wu,Td];omega,λi x B=>?_,?_,?_⟩;·rw[heap,Z2 (by rw[I];exact hk),aJ9,X1 (λh=>ab h.symm)]
    ·have hi:i<n*6:=by have:=(a00.mp B).1;rw[Wu,Td]at this;omega
     have hq:i/6<n:=(by omega);have hr:i%6<6:=Nat.mod_lt _ (by decide);have K:=S.2 (i/6) (by omega);have ei:i=i/6*6+i%6:=(by omega);have es:(acU b)[i/6]'(by rw[Td];omega)=b[(JE b)[i/6]!]!:=by unfold acU;rw[List.getElem_map,List.getElem_range,aD4,a01 K,j7 b _ K];rfl
     have D:=B;rw[ei,aq6 (acU b) (i/6) (i%6) (by rw[Td];omega) hr,es]at D;obtain⟨y,ah,ak⟩:=cell ((JE b)[i/6]!) (by omega) (i%6) hr;rw[ah]at D;cases D;refine⟨(flatK (Dh c n) 6 (JE b))[i]!,?_,?_⟩;·unfold putCells;rw[Array.getElem?_mapIdx,aD1 (by omega),aC5,j9 ⟨a97 _,by rw[hF];omega⟩];rfl
     ·rw[get_flatK _ _ _ _ (by rw[S.1,s];exact hi),ak5 _ _ _ _ (by omega) hr];exact ak
    ·refine⟨w8,λt' x' F=>?_⟩;obtain⟨q1,q2⟩:=h5.2 t' x' F;refine⟨q1,λB=>?_⟩;rw[E,Wu,Td,<-Wu];exact q2 B
    ·intro i v hv;exact absurd (h6 i v hv).1 (by simp)
   ·cases h
  ·cases h
 ·cases h
def ah3{D:y}(e:∀o n g O,ai D fs [.dj o 0 n 6,g] O=Ul fc [.dj o 0 n 6,g] O):VG D fs fc:=by intro O f o d t N h b hxs;have a:fc=fc/\N<4611686018427387904/\∃c:F EL,dU b=dU c/\z c=N:=⟨w8,by omega,b,w8,hxs⟩;refine⟨acU a.2.2.choose,by rw[Td];exact a.2.2.choose_spec.2,?_⟩;rw[e];unfold Ul ahH;simp only[an8 d t b];rw[dif_pos a,avf]
end
end Go.Ev
namespace Go.Ev
open List renaming length→z
open Option renaming some→J, none→U
open Go.IntKind renaming i64→r
open Bool renaming true→eT, false→eF
variable{C C1:Ctx}
end Go.Ev
