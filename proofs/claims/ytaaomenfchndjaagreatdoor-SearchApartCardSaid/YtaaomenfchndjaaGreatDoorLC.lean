/- What the law wants alone. No conditions. -/
import Derived.Test.YtaaomenfchndjaaGreatDoorLX
import Derived.Test.YtaaomenfchndjaaGreatDoorTI
set_option linter.unusedVariables false
set_option linter.unusedSimpArgs false
set_option linter.defProp false
set_option maxRecDepth 1000000
open _root_ renaming rfl→w8,List→D,if_neg→E,if_pos→H,UInt8→N,of_decide_eq_true→L,beq_self_eq_true→w,Nat→K,absurd→P,Int→q
open List renaming append_cancel_right→d
namespace Go.Ev
open Bool renaming true→eT, false→eF
open List renaming length→z
open Option renaming some→J, none→U
open Go.IntKind renaming i64→r
abbrev uM:FuncId:=6
abbrev Fe:FuncId:=22
abbrev Js:FuncId:=46
noncomputable section
def ru:KF:=(.mk ?k:KsA 75 []).1
end
noncomputable section
def nO:KF:=(.mk ?k:KsA 73 []).1
def L9:KF:=(.mk ?k:KsA 22 []).1
def IP:KF:=(.mk ?k:KsA 46 []).1
end
variable{C:Ctx}
def auR(fs:D PS):(fs.flatMap pC).all AV.Q=eT:=by rw[List.all_flatMap,aB0];exactλ_ _=>w8
def ahG (d:Pn C dB nO) {Y:St} (c:Ok Y) {fv:AV} {fs:D PS} {fo:Option K} (hf:A7 Y fv fs fo) (j:∀n l,fv≠ .sl n l) (s:z fs<=1000):
  ∃b a L,ai C dB [fv] Y=J (b,Y++L)/\Ok (Y++L)/\A7 (Y++L) b fs a/\∀q,a=J q->z Y<=q:=by
 rcases hf with⟨rfl,_,rfl⟩|⟨q,p,e1,e2,rfl,g⟩|⟨_,h⟩;·refine⟨.eB 0 [],U,[],?_,by simpa using c,.inl ⟨w8,w8,w8⟩,λq e=>by cases e⟩;rw[d.go];have a0:uD Y 2 32 U (.eB 0 []) 0 []=J (.eB 0 [],Y):=w8;simp only[nO,a0,nV,aZ,aB3,EVX,seval]
 ·refine⟨.dj (z Y) 0 (z fs) 2,J (z Y),[.cP (fs.flatMap pC) ⟨eF,U⟩],?_,c.H (by rw[a08,aC6,AO.below,dP (λ_=>w8)];rfl),.inr (.inl ⟨z Y,_,w8,e2,w8,by rw[aA];rfl⟩),λq e=>by cases e;omega⟩;have i:¬z fs=0:=λe=>e2 (aK4.mp e);have fl:=bz wB fs;have ap:=λY:St=>PI Y U (sz:=2) (bytes:=32) (n:=0) (m:=z fs) (l:=[]) (fs.flatMap pC) i w8 (by omega) (by omega);simp only[aC4,a88]at ap;have f:=auR fs;have k:(fs.flatMap pC).take (z fs*2)=fs.flatMap pC:=(by rw[<-fl,aK8]);have o:tidy (z Y) [.dj (z Y) 0 (z fs) 2] (Y++[.cP (fs.flatMap pC) ⟨eF,U⟩])=Y++[.cP (fs.flatMap pC) ⟨eF,U⟩]:=qY (by simp[ae,below]) _;rw[d.go];simp only[nO,g,fl,f,k,ap,o,nV,aZ,EVX,seval]
 ·exact P h (j _ _)
def Lc:D N:=oP++iD
def sn0(z:mG):SnV×q:=z.K.sn (zX z.fs Lc z.sc).am (zX z.fs Lc z.sc).aq
def adr(z:mG)(p:oZ):q:=if p.I<0 then z.rc else p.I
def api(z:mG)(f:aQ):Prop:=(f.C=Lc->f=zX z.fs Lc z.sc)/\∀rl p,f.C=rl++iD->rl≠oP->nZ (sn0 z).1 rl=J p->f=zX z.fs (rl++iD) (adr z p)
def Pol(z:mG)(F:D aQ):Prop:=∀f∈F,api z f
def ai7{z:mG}{F:D aQ}(h:Pol z F)(file:D N)(cap:q)(k:api z (zX z.fs file cap))(e:∀f,api z f->f.C=file->f=zX z.fs file cap):(sD z.fs F file cap).1=zX z.fs file cap/\Pol z (sD z.fs F file cap).2:=by
 unfold sD;cases hf:F.find? (λf=>decide (f.C=file))with
 |some f=>have m:=aI4 hf;have n:f.C=file:=(by simpa using aL2 hf);exact⟨e f (h f m) n,h⟩
 |none=>
  refine⟨w8,λf hf=>?_⟩;rcases aE4.mp hf with hf|hf;·exact h f hf
  ·rw[aC7.mp hf];exact k
def as3(z:mG):api z (zX z.fs Lc z.sc):=⟨λ_=>w8,λrl p e n _=>by
 rw[zt]at e;exact P (d e).symm n⟩
def Nh{z:mG}{F:D aQ}(h:Pol z F):(aW z.K z.fs z.sc F).1=sn0 z/\Pol z (aW z.K z.fs z.sc F).2:=by obtain⟨a,b⟩:=ai7 h Lc z.sc (as3 z) λf k n=>k.1 n;unfold aW;exact⟨by show z.K.sn (sD z.fs F Lc z.sc).1.am (sD z.fs F Lc z.sc).1.aq=_;rw[a];rfl,b⟩
def avC(z:mG)(F:D aQ):∃f∈(aW z.K z.fs z.sc F).2,f.C=Lc:=by
 unfold aW sD;dsimp only;cases hf:F.find? (λf=>decide (f.C=oP++iD))with
 |some f=>exact⟨f,aI4 hf,by have:=aL2 hf;exact L this⟩|none=>exact⟨_,aH1 _ (aC7.mpr w8),zt _ _ _⟩
def awq(z:mG)(rl:D N)(a:mP)(ks:D PS):dV×q:=
 if(sn0 z).2=0 then match nZ (sn0 z).1 rl with
  |U=>(EE,1)
  |J p=>if¬p.I<0/\z.rc<p.I then(EE,3)else
   let g:=if rl=oP then zX z.fs Lc z.sc else zX z.fs (rl++iD) (adr z p)
   z.K.ro p a ks g.am g.aq
 else(EE,(sn0 z).2)
def aj2{z:mG}{F:D aQ}(h:Pol z F)(rl:D N)(a:mP)(ks:D PS):(dS z.K z.fs z.rc z.sc rl a ks F).1=awq z rl a ks/\Pol z (dS z.K z.fs z.rc z.sc rl a ks F).2:=by
 obtain⟨s1,s2⟩:=Nh h;obtain⟨o,f1,s⟩:=avC z F;unfold dS awq;dsimp only;rw[s1];by_cases c:(sn0 z).2=0
 ·rw[H c,H c];cases m:nZ (sn0 z).1 rl with
  |none=>exact⟨w8,s2⟩
  |some p=>
   dsimp only;have q:∀b,b=adr z p->(vO z.K z.fs rl a ks p b (aW z.K z.fs z.sc F).2).1=z.K.ro p a ks (if rl=oP then zX z.fs Lc z.sc else zX z.fs (rl++iD) (adr z p)).am (if rl=oP then zX z.fs Lc z.sc else zX z.fs (rl++iD) (adr z p)).aq/\Pol z (vO z.K z.fs rl a ks p b (aW z.K z.fs z.sc F).2).2:=λb t=>by
    subst t;by_cases n:rl=oP
    ·have g:sD z.fs (aW z.K z.fs z.sc F).2 (rl++iD) (adr z p)=(zX z.fs Lc z.sc,(aW z.K z.fs z.sc F).2):=by
      unfold sD;rw[n];cases hf:(aW z.K z.fs z.sc F).2.find? (λf=>decide (f.C=oP++iD))with
      |some f=>
       have k:f.C=Lc:=by have:=aL2 hf;exact L this
       rw[(s2 f (aI4 hf)).1 k]
      |none=>exact P (decide_eq_true s) (List.find?_eq_none.mp hf o f1)
     unfold vO;rw[g,H n];exact⟨w8,s2⟩
    ·have k:api z (zX z.fs (rl++iD) (adr z p)):=⟨λe=>by
      rw[zt]at e;exact P (d e) n,λw B e A j=>by
      rw[zt]at e;have:=d e;subst this;rw[m]at j;cases j;rfl⟩
     obtain⟨x,y⟩:=ai7 s2 (rl++iD) (adr z p) k λf v u=>v.2 rl p u n m;unfold vO;dsimp only;rw[E n,x];exact⟨w8,y⟩
   by_cases i:p.I<0;·rw[H i,E (λk=>k.1 i)];exact q _ (by unfold adr;rw[H i])
   ·rw[E i];by_cases l:z.rc<p.I;·rw[H l,H ⟨i,l⟩];exact⟨w8,s2⟩
    ·rw[E l,E (λk=>l k.2)];exact q _ (by unfold adr;rw[E i])
 ·rw[E c,E c];exact⟨w8,s2⟩
def ajq{z:mG}{F G:D aQ}(a:Pol z F)(b:Pol z G)(d:D Wp)(vs:D (D N)):Pol z (agu (qX z d vs F))/\∃f,Pol z f/\qX z d vs G=ay6 f (qX z d vs F):=by
 have op:∀{X},Pol z X->Pol z (oN z vs X):=λh=>by
  unfold oN;split;·exact(Nh h).2
  ·exact h
 unfold qX;cases d.getLast? with
 |none=>exact⟨a,G,b,w8⟩
 |some w=>
  dsimp only;by_cases c:w.C∈vs;·simp only[H c];exact⟨a,G,b,w8⟩
  by_cases e:z.O<=vs.length;·simp only[E c,H e];exact⟨a,G,b,w8⟩
  by_cases g:z.L<w.L;·simp only[E c,E e,H g];exact⟨a,G,b,w8⟩
  simp only[E c,E e,E g,(Nh a).1,(Nh b).1];by_cases i:vs=[]/\(sn0 z).2≠0;·simp only[H i];exact⟨(Nh a).2,_,(Nh b).2,w8⟩
  ·simp only[E i,JF];obtain⟨a1,a2⟩:=aj2 (op a) w.C w.ak w.al;obtain⟨b1,j⟩:=aj2 (op b) w.C w.ak w.al;refine⟨a2,_,j,?_⟩;rw[<-Vm];unfold JS;rw[a1,<-b1]
def atG{z:mG}{n g:K}{a:D Wp}{vs:D (D N)}{F G:D aQ}{x b:jo×D aQ}(j:Pol z F)(k:Pol z G)(h:uB z n a vs F=J x)(i:uB z g a vs G=J b):b.1=x.1:=by
 refine X8 (rr:=x) (I:=λ_ _ F G=>Pol z F/\Pol z G) (Q:=λb=>b.1=x.1) (λn a vs F G hI d=>?_) n g a vs F G b ⟨j,k⟩ h i;obtain⟨f,m,l,e⟩:=ajq hI.1 hI.2 a vs;cases c:qX z a vs F with
 |inl q=>rw[c]at e d;cases d;exact .inl ⟨_,e,w8⟩|inr s=>rw[c]at e f;exact .inr ⟨_,_,_,_,w8,e,f,l⟩
def ap6{z:mG}{n:K}{a:D Wp}{vs:D (D N)}{F:D aQ}{d:jo×D aQ}(b:Pol z F)(h:uB z n a vs F=J d):Pol z d.2:=
 JO (zz:=z) (I:=λ_ _ F=>Pol z F) (Q:=λd=>Pol z d.2) (λa vs F hI _=>by
  have k:=(ajq hI hI a vs).1;cases c:qX z a vs F with
  |inl q=>rw[c]at k;exact k|inr s=>rw[c]at k;exact k) n a vs F d b h
def ata{z:mG}{b:Bool}{R:jR}{now:q}{n i:K}{F G:D aQ}{j e:jo×D aQ}(f:Pol z F)(g:Pol z G)(h:uG b R now z n F=J j)(a:uG b R now z i G=J e):e.1=j.1:=by
 unfold uG at h a;by_cases c:b=eF;·rw[H c]at h a;cases h;cases a;rfl
 rw[E c]at h a;by_cases d:R.bx<=now;·rw[H d]at h a;cases h;cases a;rfl
 rw[E d]at h a;exact atG f g h a
def aoU{z:mG}{b:Bool}{R:jR}{now:q}{n:K}{F:D aQ}{d:jo×D aQ}(a:Pol z F)(h:uG b R now z n F=J d):Pol z d.2:=by
 unfold uG at h;split at h;·cases h;exact a
 split at h;·cases h;exact a
 ·exact ap6 a h
noncomputable section
def kJ:KF:=(.mk ?k:KsA 6 []).1
end
end Go.Ev
namespace Go.Ev
open Bool renaming true→eT, false→eF
open List renaming length→z
open Option renaming some→J, none→U
open Go.IntKind renaming i64→r
variable{C C1:Ctx}
def axG (H:aaU C C1) {c:kZ} {path:D N} (cl:Qi c path=eF):∃(R:jR) (e:q) (d:IB),R.ok/\(∀(now:q),F6 C1 c.h c.l R now (d.K now))/\∀(Y:St),Ok Y->
  (yV c.nm c.fs c.rc c.sc e≠0/\ai C dJ [.cX c.B] Y=J (.de [.ep,.cQ r (yV c.nm c.fs c.rc c.sc e)],Y))\/
  (yV c.nm c.fs c.rc c.sc e=0/\∃(p:Rp) (T:St),ai C dJ [.cX c.B] Y=J (.de [.da p.r 0,.cQ r 0],T)/\adK C1 d c R Y T p):=by
 obtain⟨v1,v2,v3,v4,v5,v6⟩:=JC cl;obtain⟨R,e,d,a,b,k⟩:=ags H cl;exact⟨R,e,d,a,b,k c.aw c.fs v3 v5⟩
end Go.Ev
namespace Go.Proofs.YtaaomenfchndjaaGreatDoor
open Bool renaming true→eT, false→eF
open List renaming length→z
open Option renaming some→J, none→U
open Go.IntKind renaming i64→r
open Go.Ev Go.RowKit
noncomputable section
def apc{u1 u2:TypeId}{g:FuncId}{K:KF}(a:cF Tryz.prog g=J K.ad)(h2:Tu Tryz.prog g=eT)(h3:K.ok=eT):Pn (CW u1 u2 g) g K:=by refine⟨?_,w8,aL6 g,h3⟩;show(ja Tryz.prog (glX u1 u2) (λf=>Nat.beq f g) (λ_=>U)).fs g=_;simp only[ja,h2,a]
variable{u1 u2:TypeId}{b:Bool}
end
end Go.Proofs.YtaaomenfchndjaaGreatDoor
namespace Go.Ev
open Bool renaming true→eT, false→eF
open List renaming length→z
open Option renaming some→J, none→U
open Go.IntKind renaming i64→r
variable{C C1:Ctx}
structure afy(C:Ctx):Prop where
 li:∀fv fs fo,fs.length<=1000->Vw C fv fs fo
 m6:∀(O:St) (m:Nat) (es:List (AV×AV)),O[m]?=some (.dz es)->ai C iT [.dz m] O=some (.dz O.length,O++[.dz es])
 oX:∀(O:St) (v:AV) (F:List aQ) (oo:Option Nat),Ok O->F.length<=1000000->aho O v F oo->∃v' oo' L,ai C bM [v] O=some (v',O++L)/\Ok (O++L)/\aho (O++L) v' F oo'/\∀q,oo'=some q->O.length<=q
 fR:Has C Js IP
 kh:Has C Fe L9
def als (H:afy C) {Y:St} (v:Ok Y) {nm fs F s m fo oo} (h:kF Y nm fs F s m fo oo):
  ∃y I f g L,ai C Js [.da s 0] Y=J (.da y 0,Y++L)/\Ok (Y++L)/\kF (Y++L) nm fs F y I f g/\z Y<=y/\z Y<=I/\(∀q,f=J q->z Y<=q)/\∀q,g=J q->z Y<=q:=by
 have P:=kK s Y;obtain⟨fv,ov,hs,hf,Q⟩:=h.st;obtain⟨b,f,j,a1,a2,a3,a4⟩:=H.li _ _ _ h.dt.2 _ v hf;obtain⟨a,l⟩:∃a,Y++j=a:=⟨_,w8⟩;have lU:z Y+z j=z a:=by rw[<-l,a03]
 have b0:a[m]?=_:=l▸aj h.mp j;have p:a[s]?=_:=l▸aj hs j;have V:aho a ov F oo:=l▸VF.H Q j;rw[l]at a1 a2 a3;have b1:=H.m6 _ _ _ b0;have w:Ok (a++[.dz (F.map aQ.cz)]):=a2.H (by rw[a08,ae8];rfl);obtain⟨c,g,t,A,B,n,D⟩:=H.oX _ ov F oo w h.dt.1 (VF.H V _);have N:b.cP=[b]:=by rcases a3 with⟨_,_,rfl⟩|⟨q,O,_,_,rfl,d⟩|⟨_,rfl⟩<;>rfl
 have W:c.cP=[c]:=by rcases n with⟨_,_,rfl⟩|⟨q,_,_,rfl,d⟩<;>rfl
 obtain⟨T,k⟩:∃T,a++[.dz (F.map aQ.cz)]++t=T:=⟨_,w8⟩;have lT:z a+1+z t=z T:=by rw[<-k];simp;omega
 have o:=λL=>aj p L;rw[k]at A B n;have E:A7 T b fs f:=k▸(a3.H _).H _;have R:T[z a]?=J (.dz (F.map aQ.cz)):=by rw[<-k];exact aj (by rw[aA];rfl) _
 have u:T[s]?=_:=k▸aj (o _) t;have fb:below (z T+1) b=eT:=by exact E.bl (by omega)
 have ob:below (z T+1) c=eT:=by
  rcases n with⟨_,_,rfl⟩|⟨q,_,_,rfl,d⟩;·rfl
  ·have:=(a00.mp d).1;simp only[below,decide_eq_true_eq];omega
 have S:z a<z T+1:=by omega
 have x:Ok (T++[.cP [.cU nm,b,.dz (z a),c] ⟨eF,U⟩]):=QJ B (by simp[AO.below,ae,below,fb,ob,S]);have e1:T++[.cP [.cU nm,b,.dz (z a),c] ⟨eF,U⟩]=Y++(j++[.dz (F.map aQ.cz)]++t++[.cP [.cU nm,b,.dz (z a),c] ⟨eF,U⟩]):=by rw[<-k,<-l];simp
 have Z:tidy (z Y) [.da (z T) 0] (T++[.cP [.cU nm,b,.dz (z a),c] ⟨eF,U⟩])=T++[.cP [.cU nm,b,.dz (z a),c] ⟨eF,U⟩]:=qY (by
  have:¬z T<z Y:=(by omega);simp[ae,below,this]) _
 refine⟨z T,z a,f,g,_,?_,by rw[<-e1];exact x,?_,by omega,by omega,a4,λq e=>by have:=D q e;simp at this;omega⟩;·rw[<-e1,H.fR.go P];simp only[IP,hs,o,p,u,a1,b1,A,N,W,Z,splice,jT,EVX,seval]
 ·rw[<-e1];have G:∀q,f=J q->q<z a:=λq e=>by
   rcases a3 with⟨_,i,_⟩|⟨X,O,i,_,_,d⟩|⟨i,_⟩;·rw[i]at e;cases e
   ·rw[i]at e;cases e;exact(a00.mp d).1
   ·rw[i]at e;cases e
  have K:∀q,g=J q->z a<q/\q<z T:=λq e=>⟨by have:=D q e;simp at this⊢;omega,by
   rcases n with⟨_,i,_⟩|⟨X,i,_,_,d⟩;·rw[i]at e;cases e
   ·rw[i]at e;cases e;exact(a00.mp d).1⟩
  refine⟨⟨b,c,by rw[aA];rfl,E.H _,VF.H n _⟩,aj R _,h.dt,λe=>?_,λe=>?_,λq e M=>?_⟩;·have:=G _ e;omega
  ·have:=(K _ e).2;omega
  ·have:=G _ e;have:=(K _ M).1;omega
def aeY(H:afy C){p:Rp}{S:St}(v:Ok S)(a:p.az S):∃(d:Rp) (L:St),ai C Fe [.da p.r 0] S=J (.da d.r 0,S++L)/\Ok (S++L)/\d.az (S++L)/\d.o=p.o/\(∀i,d.b9 i->i=p.o\/z S<=i)/\d.h=p.h/\d.l=p.l/\d.R=p.R/\d.aw=p.aw/\d.rc=p.rc/\d.sc=p.sc/\d.nm=p.nm/\d.fs=p.fs/\d.F=p.F:=by
 have w:hand eF [.da p.r 0] S=J ([.da p.r 0],S):=w8;have k:=bH.lt a;have t:=p.R.f8;have rp:=bH.rp a;have x:ae 0 p.R.B=eT:=p.R.af.cl;have cb:∀(n s:K),s<n->p.o<n->AO.below n (.cP (qW s p.R p.o p.aw p.rc p.sc) ⟨eF,U⟩)=eT:=λn s u h2=>by have h3:=aP (a97 n) _ x;show ae n (qW s p.R p.o p.aw p.rc p.sc)=eT;unfold qW;rw[ae,Rj _ _ _ h3];simp[ae,below,u,h2]
 have j:Ok (S++[.cP (qW p.s p.R p.o p.aw p.rc p.sc) ⟨eF,U⟩]):=QJ v (by
  have:=cb (z S+1) p.s (by have:=k.s;omega) (by have:=k.o;omega);simp[this])
 obtain⟨b,g,f,c,L,q1,q2,q3,q4,q5,q6,q7⟩:=als H j ((bH.st a).H [.cP (qW p.s p.R p.o p.aw p.rc p.sc) ⟨eF,U⟩]);simp only[a03,a94,a96]at q4 q5 q6 q7;have B:z S<z ((S++[AO.cP (qW p.s p.R p.o p.aw p.rc p.sc) ⟨eF,U⟩])++L):=by simp
 have x0:((S++[AO.cP (qW p.s p.R p.o p.aw p.rc p.sc) ⟨eF,U⟩])++L)[z S]?=J (.cP (qW p.s p.R p.o p.aw p.rc p.sc) ⟨eF,U⟩):=by rw[aB2,aA];rfl
 have e0:((S++[AO.cP (qW p.s p.R p.o p.aw p.rc p.sc) ⟨eF,U⟩])++L).set (z S) (.cP (qW b p.R p.o p.aw p.rc p.sc) ⟨eF,U⟩)=S++([.cP (qW b p.R p.o p.aw p.rc p.sc) ⟨eF,U⟩]++L):=by rw[aB2,aS];rfl
 have y:=q3.sl;have l:Ok (S++([.cP (qW b p.R p.o p.aw p.rc p.sc) ⟨eF,U⟩]++L)):=by rw[<-e0];exact Ok.bd q2 _ (cb _ _ y (by have:=k.o;omega))
 have o:kF (S++([.cP (qW b p.R p.o p.aw p.rc p.sc) ⟨eF,U⟩]++L)) p.nm p.fs p.F b g f c:=by rw[<-e0];exact q3.au (aE2 (by omega)) (aE2 (by omega)) (λq e=>aE2 (by have:=q6 q e;omega)) (λq e=>aE2 (by have:=q7 q e;omega))
 refine⟨⟨p.h,p.l,p.R,p.aw,p.rc,p.sc,p.nm,p.fs,p.F,z S,b,g,p.o,f,c⟩,[.cP (qW b p.R p.o p.aw p.rc p.sc) ⟨eF,U⟩]++L,?_,l,?_,w8,λi h=>?_,w8,w8,w8,w8,w8,w8,w8,w8,w8⟩;·have A:tidy (z S) [.da (z S) 0] (S++([.cP (qW b p.R p.o p.aw p.rc p.sc) ⟨eF,U⟩]++L))=S++([.cP (qW b p.R p.o p.aw p.rc p.sc) ⟨eF,U⟩]++L):=qY (by simp[ae,below]) _;have m:=λL=>aj rp L;unfold qW at*;rw[t]at*;simp only[a05,a88]at*;rw[H.kh.go w];simp only[L9,rp,m,q1,x0,e0,A,aA,aS,AV.cP,AV.Q,splice,EVX,seval]
 ·exact⟨by rw[aA];rfl,aj (bH.bU a) _,o,by show z S≠b;omega,by show z S≠g;omega,λe=>by have e:c=J (z S):=e;have:=q7 _ e;omega,λe=>by have:=k.o;have e:p.o=b:=e;omega,λe=>by have:=k.o;have e:p.o=g:=e;omega,λe=>by have e:c=J p.o:=e;have:=q7 _ e;have:=k.o;omega,bH.ck a⟩
 ·rcases h with e|e|e|e|e|e;·have e:i=z S:=e;right;omega
  ·have e:i=b:=e;right;omega
  ·have e:i=g:=e;right;omega
  ·exact .inl e
  ·right;have:=q6 i e;omega
  ·right;have:=q7 i e;omega
set_option maxHeartbeats 4000000
def Stp.h1{S S':St}{p c q:Rp}(s:Stp S S' p c)(b:p.az S)(a:q.az S)(d:∀i,p.b9 i->q.b9 i->i=p.o)(e1:c.o=p.o)(e2:c.h=p.h)(e3:c.l=p.l):q.az S':=
 a.bB λi x h e=>by
  by_cases f:p.b9 i;·obtain rfl:=d i f h;have j:=bH.bU b;have g:=bH.bU s.az;rw[e1,e2,e3]at g;rw[j]at e;rw[g,<-e]
  ·exact s.bp i x f e
def amo{K:Dz}{p d:Rp}(g:p.bN C1 K)(e1:d.h=p.h)(e2:d.l=p.l)(e3:d.R=p.R)(e4:d.aw=p.aw)(e5:d.fs=p.fs)(e:d.F=p.F):d.bN C1 K:=by obtain⟨a,b,c⟩:=g;exact⟨by rw[e1,e2,e3,e4,e5];exact a,by rw[e5,e];exact b,by rw[e];exact c⟩
def azH{C:Ctx}{call:bY}{n:K}(d g:K)(p:Bool)(i:XI)(ls:D K)(l:D XOp)(A:As)(O:St)(h:look A g=.cW p):qH C call n (⟨J d,i,J (g,p),ls⟩::l) A O=Z5 (J d) A O (opR call (aF C (avA C A) n O i)) (qH C call n l):=by
 have w:lK ⟨J d,i,J (g,p),ls⟩ A=eT:=by unfold lK;simp only[h];cases p<;>rfl
 rw[qH];unfold wZ;rw[w];rfl
def ayS{C:Ctx}{n:K}{ss:D St}(d g:K)(p:Bool)(i:XI)(ls:D K)(l:D XOp)(A:As)(v:AV)(rs:D (As×AV))(h:look A g=.cW p):fQ C n ss (⟨J d,i,J (g,p),ls⟩::l) ((A,v)::rs)=(lG C n ⟨J d,i,J (g,p),ls⟩ A v ss ls&&fQ C n ss l rs):=by
 have w:lK ⟨J d,i,J (g,p),ls⟩ A=eT:=by unfold lK;simp only[h];cases p<;>rfl
 rw[fQ,w];rfl
def axZ{C:Ctx}{n d g t k c:K}{p:Bool}{A:As}{v:AV}{ss:D St}{l:D AV}(a:look A t=.sl k l)(h2:v=.cQ r k)(h3:c+1<z ss):lG C n ⟨J d,.dt 1 (.t t),J (g,p),[c]⟩ A v ss [c]=eT:=by
 have e:∀O,aF C (avA C A) n O (.dt 1 (.t t))=J (.ev (.cQ r k) O):=λO=>by have:avA C A (.t t)=.sl k l:=a;show(bC O 1 (avA C A (.t t))).map (λn=>Out.ev (.cQ r n) O)=_;rw[this];rfl
 subst h2;rw[lG,lG,a01 h3,a01 (Nat.lt_of_succ_lt h3)];simp only[e,jT,aD0]
def Xp (H:ahn C C1) (ab:afy C) (hO:Has C uM kJ) (c:kZ) (path other:List UInt8) (b:Nj) (O:St) (E:Ok O):
  ai C uM [.cX c.B,.cU path,.cU other,.cX b.B] O=J (.cW eT,O):=by
 have cb:AO.below 0 (.cP c.B ⟨eF,U⟩)=eT:=c.af.cl;have bb:AO.below 0 (.cP b.B ⟨eF,U⟩)=eT:=w8;have I:Ok (O++[.cP c.B ⟨eF,U⟩,.cP b.B ⟨eF,U⟩]):=E.H (by simp only[a08,aC6,cb,bb,aD0]);have ty:=λb=>bu E (vs:=[.cW b]) w8;have j:=aax H.hV c path _ I;have l:=H.g8 _ I;have bc:b.B=[.cQ r b.O,.cQ r b.L,.cQ r b.rc,.cQ r b.sc]:=w8;have cc:c.B=[.cU c.nm,.cU c.am,.sl c.fs.length (c.fs.flatMap pC),.cW c.h,.sl c.l.length (c.l.flatMap iH.B),.cQ r c.aw,.cQ r c.b0,.cQ r c.b1,.cQ r c.rc,.cQ r c.sc]:=w8;have hn:hand eF [.cX c.B,.cU path,.cU other,.cX b.B] O=J ([.cX c.B,.cU path,.cU other,.cX b.B],O):=NVs.E (.cV (.cX c.af) (.cV (.cU _) (.cV (.cU _) (.cV (.cX (aan b)) .db)))) O;rw[hO.go hn];cases cl:Qi c path
 case true=>rw[cl]at j;rw[bc]at j l⊢;rw[cc]at j l⊢;simp only[kJ,j,l,ty,aA,aI,AV.cP,AV.Q,EVX,seval]
 rw[cl]at j;by_cases g1:(other.length:Int)>1000;·rw[bc]at j l⊢;rw[cc]at j l⊢;simp only[kJ,j,l,g1,ty,bC,aA,aI,AV.cP,AV.Q,EVX,seval]
 obtain⟨v1,v2,v3,v4,v5,v6⟩:=JC cl;obtain⟨R,e,S,bA,hK,mk⟩:=axG H.eM cl;rcases mk _ I with⟨m1,G⟩|⟨m1,p,T,G,g⟩;·have aR:(yV c.nm c.fs c.rc c.sc e !=0)=eT:=(by simpa using m1);rw[bc]at j l G⊢;rw[cc]at j l G⊢;simp only[kJ,j,l,g1,aR,G,ty,bC,aA,aI,AV.cP,AV.Q,w,EVX,seval]
 obtain⟨p1,p2,p3,p4,p5,p6,p7,p8⟩:=g.of;have lT:=g.dt;have l1:(O++[AO.cP c.B ⟨eF,U⟩,.cP b.B ⟨eF,U⟩]).length=O.length+2:=by simp
 rw[l1]at lT;have pl:∀i,p.b9 i->O.length+2<=i/\i<T.length:=λi hi=>⟨by have:=g.ah i hi;rw[l1]at this;exact this,Rp.lt g.az hi⟩;have po:O.length+2<=p.o:=(pl _ (.inr (.inr (.inr (.inl w8))))).1;have old:∀i x,i<O.length+2->(O++[AO.cP c.B ⟨eF,U⟩,.cP b.B ⟨eF,U⟩])[i]?=J x->T[i]?=J x:=λi x hi h=>by rw[QL g.bR (by rw[l1];exact hi)];exact h
 have bT:T[O.length+1]?=J (.cP b.B ⟨eF,U⟩):=old _ _ (by omega) (by rw[aI];rfl);obtain⟨bx,go,fd,step⟩:=QG H.jN path v6;obtain⟨bj,aK,az,N⟩:=QG H.jN other (aF2 (show other.length<=1000 by omega) (show 1000<=LB by decide));obtain⟨d,L1,X,W,cat,an,down,dh,dl,dR,A,aq,au,bk,Y,dF⟩:=aeY ab g.ok g.az;obtain⟨a,hU⟩:∃a,T++L1=a:=⟨_,w8⟩;have pU:p.az a:=hU▸Rp.eD g.az L1;have lU:T.length<=a.length:=by rw[<-hU,a03];omega
 have TU:∀i x,T[i]?=J x->a[i]?=J x:=λi x h=>hU▸aj h L1;rw[hU]at X W cat
 obtain⟨x,F1,s,br,k1,s1,t1,bm,h1,sm1⟩:=step (amo g.bN dh dl dR A Y dF) (by rw[dF,g.F];decide) W cat b
 have bo:=t1.dt;have aX:p.az s:=t1.h1 cat pU (λi hi hp=>by
  rcases down i hi with h|h;·rw[an,h]
  ·have:=(pl i hp).2;omega) w8 w8 w8
 have nx:=jo.af x sm1.br.af;have xb:AO.below 0 (.cP x.B ⟨eF,U⟩)=eT:=nx.cl;have K:Ok (s++[.cP x.B ⟨eF,U⟩]):=t1.ok.H (by rw[a08,xb];rfl);have pA:p.az (s++[.cP x.B ⟨eF,U⟩]):=Rp.eD aX _;have q1:=yj H.cH g.ok g.az g.bN.dd;have q2:=yj H.cH K pA g.bN.dd;have q3:=Oo H.lU p.nm p.F g.az.st.dt.1 (s++[.cP x.B ⟨eF,U⟩]);obtain⟨y0,F2,t,M,k2,s2,t2,k,h2,ad⟩:=N g.bN (by rw[g.F];decide) K pA b;have aM:=t2.dt;rw[a03,a94,a96]at aM;have q4:=yj H.cH t2.ok t2.az k.dd;change ai C fU [.da p.r 0] t=J (.sl F2.length (F2.flatMap (qP p.nm)),t)at q4;have aa:=(aaH h2 (Ah g.bN.bV.e6 g.bN.bV.am g.bN.cH p.sc).1.dt).1;obtain⟨u,L2,D,ah,P,uo,q,uh,ul,uR,o,ak,al,bh,Q,uF⟩:=aeY ab t2.ok t2.az;change ai C Fe [.da p.r 0] t=_ at D;change u.o=p.o at uo;change u.h=p.h at uh;change u.l=p.l at ul;change u.R=p.R at uR;change u.aw=p.aw at o;change u.rc=p.rc at ak;change u.sc=p.sc at al;change u.fs=p.fs at Q;change u.nm=p.nm at bh;change u.F=F2 at uF;obtain⟨V,hV⟩:∃V,t++L2=V:=⟨_,w8⟩;have lV:t.length<=V.length:=by rw[<-hV,a03];omega
 have SV:∀i x,t[i]?=J x->V[i]?=J x:=λi x h=>hV▸aj h L2;have pV:(p.to F2 M).az V:=hV▸Rp.eD t2.az L2;rw[hV]at D ah P
 have ba:∀i,(p.to F2 M).b9 i->O.length+2<=i/\i<t.length:=λi hi=>⟨by
  rcases t2.eM i hi with h|h;·exact(pl i h).1
  ·simp at h;omega,Rp.lt t2.az hi⟩
 obtain⟨y,F3,v,bw,k3,s3,t3,aE,h3,bd⟩:=step (amo k uh ul uR o Q uF) (by rw[uF];rw[g.F]at aa;simp at aa;omega) ah P b
 have bp:=t3.dt;have ac:(p.to F2 M).az v:=t3.h1 P pV (λi hi hp=>by
  rcases q i hi with h|h;·rw[uo];exact h
  ·have:=(ba i hp).2;omega) w8 w8 w8
 have ez:Io (S.K c.aw) d b go fd=Io (S.K c.aw) p b go fd:=by unfold Io;rw[Y,aq,au]
 have ay:Io (S.K c.aw) u b go fd=Io (S.K c.aw) p b go fd:=by unfold Io;rw[Q,ak,al]
 rw[ez,dR,A,dF,g.F]at h1;rw[ay,uR,o,uF]at h3;rw[g.F]at h2;have B:Pol (Io (S.K c.aw) p b aK az) F2:=aoU (λf h=>by cases h) h2;have ax:y=x:=ata (z:=Io (S.K c.aw) p b go fd) (λf h=>by cases h) B h1 h3
 subst ax;have aD:=(aaH h3 (by
  have:=(Ah k.bV.e6 k.bV.am k.cH p.sc).1.dt;exact this)).2
 have ge:(F3.length:Int)>=(F2.length:Int):=by have:F2.length<=F3.length:=aD;omega
 have n:Ok (v++[.cP y.B ⟨eF,U⟩]):=t3.ok.H (by rw[a08,xb];rfl);have f1:=ah8 H.told y sm1.br _ n;have f2:=Vg H.cq y sm1.br (by have:=sm1.bb;omega) _ n;have f3:=yj H.cH n (Rp.eD ac [.cP y.B ⟨eF,U⟩]) k.dd;have f4:=yj H.cH n (Rp.eD t3.az [.cP y.B ⟨eF,U⟩]) aE.dd;change ai C fU [.da p.r 0] _=J (.sl F2.length (F2.flatMap (qP p.nm)),_)at f3;change ai C fU [.da u.r 0] _=J (.sl F3.length (F3.flatMap (qP u.nm)),_)at f4;have f5:=Oo H.lU p.nm F2 ac.st.dt.1 (v++[.cP y.B ⟨eF,U⟩]);have Z:∀i,i<O.length+2->¬d.b9 i:=λi hi h=>by rcases down i h with e|e<;>omega
 have bi:∀i,i<O.length+2->¬u.b9 i:=λi hi h=>by
  rcases q i h with e|e;·change i=p.o at e;omega
  ·omega
 have m:∀i x,i<O.length+2->T[i]?=J x->t[i]?=J x:=λi x hi h=>
  t2.bp i x (λhh=>by have:=(pl _ hh).1;omega) (aj (t1.bp i x (Z i hi) (TU _ _ h)) _)
 have F:∀i x,i<O.length+2->T[i]?=J x->v[i]?=J x:=λi x hi h=>
  t3.bp i x (bi i hi) (SV _ _ (m i x hi h))
 have bU:=TU _ _ bT;have b1:s[O.length+1]?=J (.cP b.B ⟨eF,U⟩):=t1.bp _ _ (Z _ (by omega)) bU;have bS:=λL=>aj b1 L;have bV:=SV _ _ (m _ _ (by omega) bT);have x2:t[s.length]?=J (.cP y.B ⟨eF,U⟩):=t2.bp _ _ (λhh=>by have:=(pl _ hh).2;omega) (by rw[aU w8];rfl)
 have x3:v[s.length]?=J (.cP y.B ⟨eF,U⟩):=t3.bp _ _ (λhh=>by
  rcases q _ hh with e|e;·change s.length=p.o at e;have:=(pl _ (.inr (.inr (.inr (.inl w8))))).2;omega
  ·omega) (SV _ _ x2)
 have x4:=λL=>aj x3 L;have keep:∀L:St,(v++L).take O.length=O:=λL=>by
  rw[qO _ _ _ (by omega)];apply aD6;intro i;by_cases h:i<O.length;·rw[List.getElem?_take_of_lt h];have e0:O[i]?=J O[i]:=a01 h;rw[F i _ (by omega) (old i _ (by omega) (aj e0 _)),e0]
  ·rw[aB9 (by rw[aD7];omega),aB9 (by omega)]
 have af:∀L:St,tidy O.length [.cW eT] (v++L)=O:=λL=>jP E w8 (keep L);have gx:=λL=>aU (w8:s.length=_) L;have sx:=λL z=>fV (w8:s.length=_) L z;have gy:=λL=>aU (w8:v.length=_) L;have be:=λL z=>fV (w8:v.length=_) L z;obtain⟨a1,a2,a3,a4,a5,a6,a7,yc,z1,z2,z3,z4,z5,z6,z7⟩:=agI y sm1.br;obtain⟨w1,w2,w3,w4,w5,w6,w7,bB,o1,o2,o3,o4,o5,o6,o7⟩:=agI y0 ad.br;clear sm1 ad bd nx xb K n B h1 h2 h3;obtain⟨v0,aL⟩:∃v0,AV.sl p.F.length (p.F.flatMap (qP p.nm))=v0:=⟨_,w8⟩;rw[aL]at q1 q2 q3;rw[yc]at s1 s3 f1 f2 f3 f4 f5 q2 q3 s2 x4;rw[bc]at j l G s1 s2 s3 bU bS bV b1⊢;rw[cc]at j l G⊢;simp only[kJ,j,l,g1,m1,G,q1,X,bU,s1,gx,sx,q2,q3,bS,s2,q4,D,bV,s3,gy,be,x4,f1,f2,f3,f4,f5,ge,z1,z2,z3,z4,z5,z6,z7,af,bC,aA,aI,AV.cP,fl5,splice,jT,JH,Ja,azH,ayS,w,EVX,seval];rw[if_pos]
 case hc=>exact axZ w8 w8 (by show 13+1<_;simp)
 simp only[af,EVX,seval]
end Go.Ev
namespace Go.Ev
open Bool renaming true→eT, false→eF
open List renaming length→z
open Option renaming some→J, none→U
open Go.IntKind renaming i64→r
variable{C:Ctx}
def anK (d:Pn C bM ru) {Y:St} (a:Ok Y) {ov:AV} {F:D aQ} {oo:Option K} (s:z F<=1000000) (j:aho Y ov F oo):
  ∃c b L,ai C bM [ov] Y=J (c,Y++L)/\Ok (Y++L)/\aho (Y++L) c F b/\∀q,b=J q->z Y<=q:=by
 rcases j with⟨rfl,_,rfl⟩|⟨q,e1,e2,rfl,h⟩;·refine⟨.cY,U,[],?_,by simpa using a,.inl ⟨w8,w8,w8⟩,λq e=>by cases e⟩;rw[d.go];simp only[ru,nV,aZ,aB3,EVX,seval]
 ·have nb:∀l:D aQ,ae 0 (l.flatMap λf=>[AV.cU f.C])=eT:=λl=>dP (λ_=>w8) l;refine⟨.dj (z Y) 0 (z F) 1,J (z Y),[.cP (F.flatMap λf=>[.cU f.C]) ⟨eF,U⟩],?_,a.H (by rw[a08,aC6,AO.below,nb];rfl),.inr ⟨z Y,w8,e2,w8,by rw[aA];rfl⟩,λq e=>by cases e;omega⟩;have i:¬z F=0:=λe=>e2 (aK4.mp e);have fl:=bz (f:=λf:aQ=>[AV.cU f.C]) (k:=1) (λ_=>w8) F;have ap:=λY:St=>PI Y U (sz:=1) (bytes:=16) (n:=0) (m:=z F) (l:=[]) (F.flatMap λf=>[.cU f.C]) i w8 (by omega) (by omega);simp only[aC4,a88]at ap;have g:=af6 (aei (f:=λf:aQ=>[AV.cU f.C]) (λ_=>w8) F);have o:(F.flatMap λf=>[AV.cU f.C]).take (z F)=F.flatMap λf=>[AV.cU f.C]:=(by rw[<-aD2 (z F),<-fl,aK8]);have p:tidy (z Y) [.dj (z Y) 0 (z F) 1] (Y++[.cP (F.flatMap λf=>[.cU f.C]) ⟨eF,U⟩])=Y++[.cP (F.flatMap λf=>[.cU f.C]) ⟨eF,U⟩]:=qY (by simp[ae,below]) _;rw[d.go];simp only[ru,h,fl,g,o,ap,p,nV,aZ,EVX,seval]
end Go.Ev
namespace Go.Proofs.YtaaomenfchndjaaGreatDoor
open Bool renaming true→eT, false→eF
open List renaming length→z
open Option renaming some→J, none→U
open Go.IntKind renaming i64→r
open Go.Ev Go.RowKit
noncomputable section
variable{u1 u2:TypeId}
def ay0:afy (CL u1 u2)where
 li:=λfv fs fo hl Y hτ hf=>by
  by_cases hx:∃n l,fv=.sl n l
  ·obtain⟨n,l,rfl⟩:=hx;rcases hf with⟨_,_,h⟩|⟨q,fz,_,_,h,_⟩|⟨rfl,h⟩;·cases h
   ·cases h
   ·rw[h];exact am3 fs hl Y hτ (.inr (.inr ⟨w8,w8⟩))
  ·have hx':∀n l,fv≠ .sl n l:=λn l e=>hx ⟨n,l,e⟩;obtain⟨fv',fo',L,h1,h2⟩:=ahG (C:=CW u1 u2 dB) (apc (by kernel_rfl) (by kernel_rfl) (by kernel_rfl)) hτ hf hx' hl;refine⟨fv',fo',L,(iE (C:=CL u1 u2) (h:=agw u1 u2 dB 2) w8 _ _).trans ?_,h2⟩;unfold agw;split;·next h=>injection h with h _;exact P h (hx' _ _)
   ·exact h1
 m6:=λO m es h=>by rw[iE (C:=CL u1 u2) (h:=aiH) w8];simp only[aiH,h]
 oX:=λO v F oo hσ hF ho=>by
  obtain⟨v',oo',L,h1,h2⟩:=anK (C:=CW u1 u2 bM) (apc (by kernel_rfl) (by kernel_rfl) (by kernel_rfl)) hσ hF ho;refine⟨v',oo',L,(iE (C:=CL u1 u2) (h:=agw u1 u2 bM 1) w8 _ _).trans ?_,h2⟩;rcases ho with⟨_,_,rfl⟩|⟨q,_,_,rfl,_⟩;·exact h1
  ·exact h1
 fR:=oQ (b:=eT)
 kh:=oQ (b:=eT)
def apw(u1 u2:TypeId)(c:kZ)(p o:D N)(b:Nj):ai (CL u1 u2) uM [.cX c.B,.cU p,.cU o,.cX b.B] []=J (.cW eT,[]):=
 Xp law9 ay0 (oQ (b:=eT)) c p o b [] ok0
end
end Go.Proofs.YtaaomenfchndjaaGreatDoor
