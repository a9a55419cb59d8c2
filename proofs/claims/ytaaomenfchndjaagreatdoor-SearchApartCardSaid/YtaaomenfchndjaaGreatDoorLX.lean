/- What the law wants alone. No conditions. -/
import Derived.Test.YtaaomenfchndjaaGreatDoorCF
set_option linter.unusedVariables false
set_option linter.unusedSimpArgs false
set_option linter.defProp false
set_option maxRecDepth 100000
open _root_ renaming List→V,UInt8→D,rfl→w8,Int→E,Nat→P,if_pos→B,if_neg→H,Option→w9
namespace Go.Ev
open List renaming length→z
open Go.IntKind renaming i64→r
open Option renaming some→J, none→U
open Bool renaming true→eT, false→eF
variable{C:Ctx}
def ad7 (ns:V (V D)) (c:z ns<=1099511627776) (O:St):∀(n i:P),i+n=z ns->
  aG C (ai C) 26 [0,1,5] kY [(0,.sl (z ns) (ns.flatMap sC)),(1,.sl (z ns) (ns.flatMap sC)),(5,.cQ r i)] O=J (.dq 0,[],O)
 |0,i,hi=>by rw[aB (he:=w8)];have h:¬((i:E)<(z ns:E)):=(by omega);simp only[kY,h,bC,EVX,seval]
 |n+1,i,hi=>by rw[aB (he:=w8)];have h:((i:E)<(z ns:E)):=(by omega);have h2:i<z ns:=(by omega);have hb:ns[i]?=J ns[i]:=a01 h2;have d:=wrS i (by omega);have h3:(0:E)<=i:=(by omega);have fl:=bz QC ns;have fd:=iy QC hb;obtain⟨p,a⟩:∃p,p=ns[i]:=⟨_,w8⟩;rw[<-a,aD2]at fd;rw[aD2]at fl;have pc:sC p=[.cU p]:=w8;have e:=ad7 ns c O n (i+1) (by omega);generalize f:aG C (ai C) 26 [0,1,5] kY=k at*;simp only[kY,h,h2,h3,d,fl,fd,pc,bC,e,a05,aD2,EVX,seval]
def aiS(b:Has C Bd A8)(ns:V (V D))(c:z ns<=1099511627776)(O:St):ai C Bd [.sl (z ns) (ns.flatMap sC),.sl (z ns) (ns.flatMap sC)] O=J (.cW eT,O):=by rw[b.go (NVs.E (.cV (pG ns) (.cV (pG ns) .db)) _)];have a:=ad7 (C:=C) ns c O (z ns) 0 (by omega);simp only[aB1]at a;simp only[A8,a,bC,EVX,seval]
def qP(nm:V D)(f:aQ):V AV:=[.cU nm,.cU f.C,.cQ r f.cm,.cQ r f.aq]
def alu (H:TelHas C) {Y:St} (j:Ok Y) {s m:P} {fv ov:AV} {nm:V D} {F:V aQ} (hs:Y[s]?=J (.cP [.cU nm,fv,.dz m,ov] ⟨eF,U⟩)) (l:Y[m]?=J (.dz (F.map aQ.cz))) (f:aQ) (hf:F.find? (λg=>decide (g.C=f.C))=J f):
  ai C Jt [.da s 0,.cU f.C] Y=J (.de [.cX (qP nm f),.cW eT],Y):=by
 have n:hand eF [.da s 0,.cU f.C] Y=J ([.da s 0,.cU f.C],Y):=w8;obtain⟨k,q2⟩:=(RN f.C F 0).1 f hf;have i:=λL=>aj hs L;have h:=λL=>aj l L;have o:=λ(a b:V D) (c d:E) (e:Bool)=>bu j (vs:=[.cX [.cU a,.cU b,.cQ r c,.cQ r d],.cW e]) w8;have p:=λL:St=>aA Y (.cP [.cU [],.cU [],.cQ r 0,.cQ r 0] ⟨eF,U⟩::L);have q:=λ(L:St) (y:AO)=>aS Y (.cP [.cU [],.cU [],.cQ r 0,.cQ r 0] ⟨eF,U⟩::L) y;have q1:=λL:St=>OB H.toStoHas (Y:=Y++L) (aj hs L);rw[H.told.go n];unfold aQ.bL at q2;unfold qP;simp only[IQ,q1,q2,i,h,mapOf,o,p,q,aI,cZ,aZ,bK,AV.cP,AV.Q,splice,EVX,seval]
def ag3 (H:TelHas C) (n0:Nat) (s m:Nat) (I:s<n0) (B:m<n0) (fv ov:AV) (nm:V UInt8) (F:V aQ) (oo:w9 Nat) (E:∀q,oo=J q->q<n0) (X:Uniq F) (hF:z F<=1000000):∀(n i:Nat) (acc:AV) (ao:w9 Nat) (T:St),i+n=z F->Ok T->n0<=z T->T[s]?=J (.cP [.cU nm,fv,.dz m,ov] ⟨eF,U⟩)->T[m]?=J (.dz (F.map aQ.cz))->aho T ov F oo->VF T acc 4 (qP nm) (F.take i) ao->(∀q,ao=J q->n0<=q)->
  ∃(g:AV) (l:w9 Nat) (o:St),aG C (ai C) 33 [0,3,14,15,16] jQ [(0,.da s 0),(3,acc),(14,ov),(15,.cQ r (z F)),(16,.cQ r i)] T=J (.dq 0,[(3,g)],o)/\Ok o/\VF o g 4 (qP nm) F l/\(∀q,l=J q->n0<=q)/\n0<=z o/\∀k,k<n0->o[k]?=T[k]?:=by
 intro n
 induction n with
 |zero=>intro i acc ao T hi t O hs A D hr v;rw[aB (he:=w8)];have h:¬((i:Int)<(z F:Int)):=(by omega);refine⟨acc,ao,T,by simp only[jQ,h,EVX,seval],t,?_,v,O,λ_ _=>w8⟩;rwa[a98 (by omega)]at hr
 |succ n ih=>
  intro i acc ao T hi t O hs A D hr v;have j:i<z F:=(by omega);have W:=D;rcases D with⟨rfl,_,_⟩|⟨q,e1,e2,rfl,P⟩;·simp at j
  have w:F[i]∈F:=aD5 j;have q1:=alu H t hs A F[i] (X _ w);have N:=iy (f:=λf:aQ=>[AV.cU f.C]) (k:=1) (λ_=>w8) (a01 j);have fl:=bz (f:=λf:aQ=>[AV.cU f.C]) (k:=1) (λ_=>w8) F;have tk:F.take (i+1)=F.take i++[F[i]]:=aG0 j;generalize F[i]=f at*;have M:Ok (T++[.cP (qP nm f) ⟨eF,U⟩]):=t.H w8;have G:VF (T++[.cP (qP nm f) ⟨eF,U⟩]) acc 4 (qP nm) (F.take i) ao:=by
   rcases hr with h|⟨p,a,b,c,d⟩;·exact .inl h
   ·exact .inr ⟨p,a,b,c,aj d _⟩
  have tl:z (F.take i)=i:=by rw[aD7];omega
  obtain⟨S,a1,l1,n1,k1,L⟩:=aaD (c:=qP nm) (sz:=4) (bytes:=48) M (λ_=>w8) (λ_=>w8) G (by omega) (by omega) f;rw[<-tk]at n1;have keep:∀k,k<n0->S[k]?=T[k]?:=λk u=>by have:T[k]?=J T[k]:=a01 (by omega);rw[this];exact k1 k _ (λe=>by have:=v k e;omega) (aj this _)
  have lX:z (T++[AO.cP (qP nm f) ⟨eF,U⟩])=z T+1:=(by simp);rw[lX]at a1 l1 n1;rw[tl]at a1;obtain⟨g,l,o,x,R,h2,h3,h4,h5⟩:=ih (i+1) (.dj (z T+1) 0 (i+1) 4) (J (z T+1)) S (by omega) L (by omega) (by rw[keep s I];exact hs) (by rw[keep m B];exact A) (.inr ⟨q,e1,e2,w8,by rw[keep q (E q e1)];exact P⟩) (.inr ⟨_,w8,by intro e;rw[e]at tk;simp at tk,by rw[aD7];congr 1;omega,n1⟩) (λk e=>by cases e;omega);refine⟨g,l,o,?_,R,h2,h3,h4,λk u=>by rw[h5 k u,keep k u]⟩;rw[<-x,aB (he:=w8)];generalize u:aG C (ai C) 33 [0,3,14,15,16] jQ=K at*;have h:((i:Int)<(z F:Int)):=(by omega);have Z:(0:Int)<=i:=(by omega);have Y:=wrS i (by omega);simp only[aD2,a05,a88]at N fl;have z0:=aA T (.cP [.cU [],.cU [],.cQ r 0,.cQ r 0] ⟨eF,U⟩::[]);have z1:=λy:AO=>aS T (.cP [.cU [],.cU [],.cQ r 0,.cQ r 0] ⟨eF,U⟩::[]) y;have Q:=aA T (.cP (qP nm f) ⟨eF,U⟩::[]);unfold qP at q1 a1 Q;simp only[jQ,h,Z,Y,j,N,P,q1,a1,z0,z1,Q,AV.cP,AV.Q,splice,EVX,seval]
def aqf(nm:V D)(F:V aQ):z (F.flatMap (qP nm))=z F*4:=bz (f:=qP nm) (k:=4) (λ_=>w8) F
def ai0(nm:V D):∀F:V aQ,NVs (F.flatMap (qP nm))|[]=>.db|_::F=>by rw[aF0];exact .cV (.cU _) (.cV (.cU _) (.cV (.cQ _ _) (.cV (.cQ _ _) (ai0 nm F))))
def aqe(nm:V D)(F:V aQ):ae 0 (F.flatMap (qP nm))=eT:=dP (λ_=>w8) F
def adD (H:TelHas C) {Y:St} (b:Ok Y) {nm fs F s m fo oo} (h:kF Y nm fs F s m fo oo) (w:Uniq F):
  ai C EK [.da s 0] Y=J (.sl (z F) (F.flatMap (qP nm)),Y):=by
 have u:=kK s Y;obtain⟨n,ov,hs,t,a⟩:=h.st;have j:=h.mp;have q1:=OB H.toStoHas hs;have sl:s<z Y:=(a00.mp hs).1;have ml:m<z Y:=(a00.mp j).1;have ol:∀q,oo=J q->q<z Y:=by
  rcases a with⟨_,rfl,_⟩|⟨q,rfl,_,_,d⟩;·exactλq e=>by cases e
  ·exactλB e=>by cases e;exact(a00.mp d).1
 have g:bC Y 1 ov=J (z F):=by
  rcases a with⟨rfl,_,rfl⟩|⟨q,_,_,rfl,d⟩;·rfl
  ·rfl
 obtain⟨v,ao,T,l,A,h2,h3,h4,h5⟩:=ag3 H (z Y) s m sl ml n ov nm F oo ol w h.dt.1 (z F) 0 .cY U Y (by omega) b (a09 _) hs j a (.inl ⟨by simp,w8,w8⟩) (λq e=>by cases e);rw[show((0:P):E)=0 from w8]at l;have tk:T.take (z Y)=Y:=by
  refine aD6 λk=>?_;rw[aE3];split;·next c=>exact h5 k c
  ·next c=>exact(aB9 (by omega)).symm
 rw[H.lh.go u];have hb:ae 0 [AV.sl (z F) (F.flatMap (qP nm))]=eT:=by rw[ae,below,aqe];rfl
 obtain⟨f,p,i⟩:∃f,hand eF [v] T=J ([.sl (z F) (F.flatMap (qP nm))],f)/\f.take (z Y)=Y:=by
  rcases h2 with⟨rfl,rfl,rfl⟩|⟨q,rfl,e2,rfl,e4⟩;·exact⟨T,w8,tk⟩
  ·have:=h3 q w8;refine⟨T.set q (.cP (F.flatMap (qP nm)) ⟨eT,U⟩),?_,by rw[eP _ _ _ (by omega),tk]⟩;rw[iY,aN,Eo e4 (aqf nm F) (ai0 nm F),mg,<-qf e4];rfl
 have x:=jP (vs:=[.sl (z F) (F.flatMap (qP nm))]) b hb i;generalize o:iF=y;simp only[EJ,q1,hs,g,l,EVX,seval];rw[<-o,oV (vs:=[v]) w8 p,x];rfl
end Go.Ev
namespace Go.Ev
open List renaming length→z
open Go.IntKind renaming i64→r
open Option renaming some→J, none→U
open Bool renaming true→eT, false→eF
variable{C C1:Ctx}
def ajG (H:afr C) {h l R now rc sc nm fs F f s m o fo oo} {O:St} (b:Ok O) (a:bH O h l R now rc sc nm fs F f s m o fo oo) (d:Uniq F):
  ai C fU [.da f 0] O=J (.sl (z F) (F.flatMap (qP nm)),O):=by
 have c:=kK f O;have rp:=a.rp;have mk:=SK H.hF a;have q:=adD H.toTelHas b a.st d;unfold qW at rp;rw[H.o0.go c];simp only[Hl,mk,q,rp,bP,EVX,seval]
def aas(nm:V D)(f:aQ):z (qP nm f)=4:=w8
def akb(nm:V D)(F:V aQ):NV (.sl (z F) (F.flatMap (qP nm))):=.sl _ (dP (λ_=>w8) F)
def ZW (nm:V D) (F:V aQ) (c:z F<=1000000) (O:St):∀(n i:P),i+n=z F->
  aG C (ai C) 26 [0,1,5] qE [(0,.sl (z F) (F.flatMap (qP nm))),(1,.sl (z F) (F.flatMap (qP nm))),(5,.cQ r i)] O=J (.dq 0,[],O)
 |0,i,hi=>by rw[aB (he:=w8)];have h:¬((i:E)<(z F:E)):=(by omega);simp only[qE,h,bC,EVX,seval]
 |n+1,i,hi=>by rw[aB (he:=w8)];have h:((i:E)<(z F:E)):=(by omega);have h2:i<z F:=(by omega);have hb:F[i]?=J F[i]:=a01 h2;have e:=wrS i (by omega);have b:(0:E)<=i:=(by omega);have fl:=bz (aas nm) F;have fd:=iy (aas nm) hb;generalize F[i]=f at*;have pc:qP nm f=[.cU nm,.cU f.C,.cQ r f.cm,.cQ r f.aq]:=w8;have g:=ZW nm F c O n (i+1) (by omega);have a:ny 72 [.cU nm,.cU f.C,.cQ r f.cm,.cQ r f.aq] [.cU nm,.cU f.C,.cQ r f.cm,.cQ r f.aq]=J eT:=(by simp[ny,nU]);generalize j:aG C (ai C) 26 [0,1,5] qE=k at*;simp only[qE,h,h2,b,e,g,a,aC5,fl,fd,pc,bC,EVX,seval]
def Oo(b:Has C CS Cm)(nm:V D)(F:V aQ)(c:z F<=1000000)(O:St):ai C CS [.sl (z F) (F.flatMap (qP nm)),.sl (z F) (F.flatMap (qP nm))] O=J (.cW eT,O):=by rw[b.go (NVs.E (.cV (akb nm F) (.cV (akb nm F) .db)) _)];have a:=ZW (C:=C) nm F c O (z F) 0 (by omega);simp only[aB1]at a;simp only[Cm,a,bC,EVX,seval]
def YQ(K:Dz)(fs:V PS)(sc:E)(F:V aQ):∃a,(aW K fs sc F).2=F++a:=Xa _ _ _ _
def YJ(K:Dz)(fs:V PS)(rc sc:E)(rl:V D)(a:mP)(ks:V PS)(F:V aQ):∃b,(dS K fs rc sc rl a ks F).2=(aW K fs sc F).2++b:=by
 unfold dS;dsimp only;split
 ·split;·exact⟨[],(aB3 _).symm⟩
  ·split;·exact Xa _ _ _ _
   ·split;·exact⟨[],(aB3 _).symm⟩
    ·exact Xa _ _ _ _
 ·exact⟨[],(aB3 _).symm⟩
def yj(H:afr C){p:Rp}{S:St}(b:Ok S)(a:p.az S)(c:UA p.F):ai C fU [.da p.r 0] S=J (.sl (z p.F) (p.F.flatMap (qP p.nm)),S):=ajG H b a c.dd
end Go.Ev
namespace Go.Ev
open List renaming length→z
open Go.IntKind renaming i64→r
open Option renaming some→J, none→U
open Bool renaming true→eT, false→eF
def X8{z i:mG}{rr:jo×V aQ}{I:V Wp->V (V D)->V aQ->V aQ->Prop}{Q:jo×V aQ->Prop}(hs:∀n c vs F G,I c vs F G->amM z n (qX z c vs F)=J rr->(∃f,qX i c vs G=.inl f/\Q f)\/∃a b F1 g,qX z c vs F=.inr (a,b,F1)/\qX i c vs G=.inr (a,b,g)/\I a b F1 g):∀(n j:P) (c:V Wp) (vs:V (V D)) (F G:V aQ) (f:jo×V aQ),I c vs F G->uB z n c vs F=J rr->uB i j c vs G=J f->Q f
 |0,_,_,_,_,_,_,_,h,_=>by cases h
 |n+1,j,c,vs,F,G,f,hI,h,d=>by
  obtain⟨m,e,_,h⟩:=Tm h;obtain rfl:n=m:=(by omega);obtain⟨l,_,_,d⟩:=Tm d;rcases hs _ _ _ _ _ hI h with⟨q,e1,k⟩|⟨a,b,F1,g,e1,e2,k⟩;·rw[e1]at d;cases d;exact k
  ·rw[e1]at h;rw[e2]at d;exact X8 hs n _ _ _ _ _ _ k h d
def agu:Nx->V aQ|.inl d=>d.2|.inr s=>s.2.2
def ay6(G:V aQ):Nx->Nx|.inl d=>.inl (d.1,G)|.inr s=>.inr (s.1,s.2.1,G)
def JF(z:mG)(a:V Wp)(vs:V (V D))(w:Wp)(t:(dV×E)×V aQ):agu (FK z a vs w t)=t.2:=by
 unfold FK;repeat' split
 all_goals rfl
def Vm(z:mG)(a:V Wp)(vs:V (V D))(w:Wp)(t:(dV×E)×V aQ)(G:V aQ):FK z a vs w (t.1,G)=ay6 G (FK z a vs w t):=by
 unfold FK;dsimp only;repeat' split
 all_goals first|rfl|(exfalso;simp_all;done)
def arJ(z:mG)(vs:V (V D))(F:V aQ):∃a,oN z vs F=F++a:=by
 unfold oN;split;·exact YQ _ _ _ _
 ·exact⟨[],by simp⟩
def afK(z:mG)(w:Wp)(F:V aQ):∃a,(JS z w F).2=F++a:=by obtain⟨a,h⟩:=YJ z.K z.fs z.rc z.sc w.C w.ak w.al F;obtain⟨X,k⟩:=YQ z.K z.fs z.sc F;exact⟨X++a,by unfold JS;rw[h,k,aB2]⟩
def ajp(z:mG)(b:V Wp)(vs:V (V D))(F:V aQ):∃a,agu (qX z b vs F)=F++a:=by
 unfold qX;repeat' split
 all_goals first
  |exact⟨[],(aB3 _).symm⟩|exact YQ z.K z.fs z.sc F
  | (rw[JF]
     obtain⟨a,h⟩:=afK z (by assumption) (oN z vs F);obtain⟨X,k⟩:=arJ z vs F;exact⟨X++a,by rw[h,k,aB2]⟩)
def acl{z:mG}{n:P}{x:Nx}{d:jo×V aQ}(h:amM z n x=J d):∃a,d.2=agu x++a:=by
 cases x with
 |inl q=>cases h;exact⟨[],(aB3 _).symm⟩
 |inr s=>
  refine JO (zz:=z) (I:=λ_ _ F=>∃a,F=s.2.2++a) (Q:=λd=>∃a,d.2=s.2.2++a) (λb vs F hI _=>?_) n _ _ _ d ⟨[],(aB3 _).symm⟩ h;obtain⟨a,rfl⟩:=hI;obtain⟨X,k⟩:=ajp z b vs (s.2.2++a);have e:agu (qX z b vs (s.2.2++a))=s.2.2++(a++X):=(by rw[k,aB2]);cases c:qX z b vs (s.2.2++a)with
  |inl q=>rw[c]at e;exact⟨_,e⟩|inr q=>rw[c]at e;exact⟨_,e⟩
def atA{z:mG}{a:V Wp}{vs:V (V D)}{w:Wp}{t:(dV×E)×V aQ}{s:V Wp×V (V D)×V aQ}(h:FK z a vs w t=.inr s):s.2.1=vs++[w.C]:=by
 unfold FK at h;split at h;·split at h<;>cases h;rfl
 ·split at h<;>cases h;rfl
def atF{z:mG}(S:SnV)(X:P){n:P}{b:V Wp}{vs:V (V D)}{F:V aQ}{N:jo×V aQ}(h:uB z n b vs F=J N)(h3:F.length+(S.ay.length-pnd S vs)+(if vs=[]then 1 else 0)<=X)(h4:vs≠[]->yu z S F)(h5:vs=[]->(aW z.K z.fs z.sc F).1.1=S):N.2.length<=X:=by
 refine JO (zz:=z) (I:=λ_ vs F=>F.length+(S.ay.length-pnd S vs)+(if vs=[]then 1 else 0)<=X/\(vs≠[]->yu z S F)/\(vs=[]->(aW z.K z.fs z.sc F).1.1=S)) (Q:=λN=>N.2.length<=X) (λb vs F hI _=>?_) n b vs F N ⟨h3,h4,h5⟩ h;obtain⟨h3,h4,h5⟩:=hI;unfold qX;cases b.getLast? with
 |none=>show F.length<=X;omega
 |some w=>
  dsimp only;by_cases f:w.C∈vs;·rw[B f];exact⟨h3,h4,h5⟩
  rw[H f];by_cases g:z.O<=vs.length;·rw[B g];show F.length<=X;omega
  rw[H g];by_cases i:z.L<w.L;·rw[B i];show F.length<=X;omega
  rw[H i];by_cases d:vs=[]/\(aW z.K z.fs z.sc F).1.2≠0;·rw[B d];rw[B d.1]at h3;have:(aW z.K z.fs z.sc F).2.length<=F.length+1:=MJ _ _ _ _;show(aW z.K z.fs z.sc F).2.length<=X;omega
  rw[H d];obtain⟨F1,e1,s1,l1⟩:∃F1,F1=oN z vs F/\yu z S F1/\F1.length+(S.ay.length-pnd S vs)<=X:=by
   unfold oN;by_cases c:vs=[]
   ·refine⟨_,w8,?_,?_⟩;·rw[B c];have:=xZ z.K z.fs z.sc F [];rw[aB3]at this;unfold yu;rw[this];have l:(aW z.K z.fs z.sc F).1.2=0:=Decidable.byContradiction λh=>d ⟨c,h⟩;rw[<-h5 c,<-l]
    ·rw[B c]at h3⊢;have:(aW z.K z.fs z.sc F).2.length<=F.length+1:=MJ _ _ _ _;omega
   ·exact⟨_,w8,by rw[H c];exact h4 c,by rw[H c]at h3⊢;omega⟩
  rw[<-e1];unfold JS;obtain⟨k,j,A,v⟩:=agK s1 w.C w.ak w.al;generalize dS z.K z.fs z.rc z.sc w.C w.ak w.al F1=t at*;have x:=aiK S vs w.C;have y:=arR S (vs++[w.C]);have ne:vs++[w.C]≠[]:=(by simp);have s2:yu z S t.2:=by rw[j];exact s1.ext k
  have l2:t.2.length+(S.ay.length-pnd S (vs++[w.C]))+(if vs++[w.C]=[]then 1 else 0)<=X:=by
   rw[H ne,j,a03];rcases v with⟨rfl,_⟩|⟨p,u,o⟩;·simp only[a96];omega
   ·have:=akT u o f;omega
  have a:=JF z b.dropLast vs w t;cases e:FK z b.dropLast vs w t with
  |inl q=>rw[e]at a;have a:q.2=t.2:=a;show q.2.length<=X;rw[a];omega|inr s=>rw[e]at a;have a:s.2.2=t.2:=a;have m:=atA e;show s.2.2.length+(S.ay.length-pnd S s.2.1)+_<=X/\_;rw[a,m];exact⟨l2,λ_=>s2,λh=>absurd h ne⟩
def atE{z:mG}{n:P}{b:V Wp}{vs:V (V D)}{F:V aQ}{d:jo×V aQ}(h:uB z n b vs F=J d):∃a,d.2=F++a:=by obtain⟨m,_,_,h⟩:=Tm h;obtain⟨a,e⟩:=acl h;obtain⟨Z,k⟩:=ajp z b vs F;exact⟨Z++a,by rw[e,k,aB2]⟩
def aaH{z:mG}{a:Bool}{R:jR}{now:E}{n:P}{F:V aQ}{d:jo×V aQ}(h:uG a R now z n F=J d)(c:(aW z.K z.fs z.sc F).1.1.ay.length<=8192):d.2.length<=F.length+8193/\F.length<=d.2.length:=by
 unfold uG at h;split at h;·cases h;exact⟨by dsimp only;omega,a09 _⟩
 split at h;·cases h;exact⟨by dsimp only;omega,a09 _⟩
 ·obtain⟨b,e⟩:=atE h;refine⟨atF _ _ h (by rw[B w8];omega) (λk=>absurd w8 k) λ_=>w8,by rw[e,a03];omega⟩
variable{C:Ctx}
def Vg(H:ajN C)(x:jo)(hr:IU x.br)(hv:z x.bb<=1099511627776)(O:St)(f:Ok O):ai C Jh [.cX x.B,.cX x.B] O=J (.cW eT,O):=by
 have nv:=jo.af x hr.af;have i:AO.below 0 (.cP x.B ⟨eF,U⟩)=eT:=nv.cl;have g:Ok (O++[.cP x.B ⟨eF,U⟩,.cP x.B ⟨eF,U⟩]):=f.H (by rw[a08,a08,i];rfl);have h:∀b L,tidy (z O) [.cW b] (O++L)=O:=λb L=>bu f w8 L;obtain⟨n,hs,j,e,s⟩:=hr.j9;have q1:=acF H.br H.aM H.ev n hs (by omega) j _ g;have q2:=aiS H.hH x.bb hv (O++[.cP x.B ⟨eF,U⟩,.cP x.B ⟨eF,U⟩]);obtain⟨a,b,c,d,e0,x0,l,m,o,p,q,z5⟩:=fO j;have rc:rC n hs j=[.cQ r n,.sl (z hs) (hs.flatMap pC),a,b,c,d,e0]:=by unfold rC;rw[l]
 have k:x.B=[.cQ .u8 x.b4,.cQ .u8 x.gv,.cQ .u8 x.cE,.cU x.bS,.cQ r n,.sl (z hs) (hs.flatMap pC),a,b,c,d,e0,.sl (z x.bb) (x.bb.flatMap sC)]:=by unfold jo.B;rw[e,rc];rfl
 rw[H.cq.go (NVs.E (.cV (.cX nv) (.cV (.cX nv) .db)) _)];rw[rc]at q1;rw[k]at q1 q2⊢;simp only[IK,q1,q2,m,o,p,q,z5,h,nU,decide_true,beq_self_eq_true,aA,aS,aI,cZ,splice,AV.cP,fl5,a05,a88,EVX,seval]
def ah8(m:Has C CP Cj)(x:jo)(hr:IU x.br)(O:St)(f:Ok O):ai C CP [.cX x.B] O=J (.cX x.B,O):=by
 have nv:=jo.af x hr.af;obtain⟨n,hs,j,e,t⟩:=hr.j9;obtain⟨a,b,c,d,e0,x0,q,h,i,k,l,z5⟩:=fO j;have rc:rC n hs j=[.cQ r n,.sl (z hs) (hs.flatMap pC),a,b,c,d,e0]:=by unfold rC;rw[q]
 have p:x.B=[.cQ .u8 x.b4,.cQ .u8 x.gv,.cQ .u8 x.cE,.cU x.bS,.cQ r n,.sl (z hs) (hs.flatMap pC),a,b,c,d,e0,.sl (z x.bb) (x.bb.flatMap sC)]:=by unfold jo.B;rw[e,rc];rfl
 have g:=λL=>bu f (vs:=[.cX x.B]) (NVs.cV (.cX nv) .db).cl L;rw[m.go (NVs.E (.cV (.cX nv) .db) _)];rw[p]at g nv⊢;generalize o:iF=s;simp only[Cj,h,i,k,l,z5,aA,aS,aI,cZ,splice,AV.cP,fl5,a05,a88,EVX,seval];rw[<-o];refine(Ia (vs:=[.cX [.cQ .u8 x.b4,.cQ .u8 x.gv,.cQ .u8 x.cE,.cU x.bS,.cQ r n,.sl (z hs) (hs.flatMap pC),a,b,c,d,e0,.sl (z x.bb) (x.bb.flatMap sC)]]) ?_ (.cV (.cX nv) .db)).trans (by rw[g];rfl);simp only[aZ,aI,h,i,k,l,z5,fl5,EVX,seval]
end Go.Ev
namespace Go.Ev
open List renaming length→z
open Go.IntKind renaming i64→r
open Option renaming some→J, none→U
open Bool renaming true→eT, false→eF
variable{C C1:Ctx}
def ags (H:aaU C C1) {c:kZ} {path:V D} (cl:Qi c path=eF):∃(R:jR) (e:E) (a:IB),R.ok/\(∀(now:E),F6 C1 c.h c.l R now (a.K now))/\∀(now:E) (fs:V PS),z fs<=1000->ES fs->∀(Y:St),Ok Y->
  (yV c.nm fs c.rc c.sc e≠0/\ai C dJ [.cX {c with aw:=now,fs:=fs}.B] Y=J (.de [.ep,.cQ r (yV c.nm fs c.rc c.sc e)],Y))\/
  (yV c.nm fs c.rc c.sc e=0/\∃(p:Rp) (T:St),ai C dJ [.cX {c with aw:=now,fs:=fs}.B] Y=J (.de [.da p.r 0,.cQ r 0],T)/\adK C1 a {c with aw:=now,fs:=fs} R Y T p):=by
 obtain⟨R,e,b,k⟩:=amL H cl;obtain⟨a,d⟩:=H.e6 c.h c.l (JC cl).1 R b;exact⟨R,e,a,b,d,k a d⟩
def QG (H:atW C C1) (path:V D) (e:z path<=LB):∃(a:Bool) (go:dV->V gI) (fd:dV->w9 (V AV)),∀{K:Dz} {p:Rp},p.bN C1 K->z p.F<=800000->∀{S:St},Ok S->p.az S->∀b:Nj,
  ∃(x:jo) (d:V aQ) (S':St) (c:w9 P) (n:P),ai C lZ [.da p.r 0,.cU path,.cX b.B] S=J (.cX x.B,S')/\Stp S S' p (p.to d c)/\(p.to d c).bN C1 K/\uG a p.R p.aw (Io K p b go fd) n p.F=J (x,d)/\afA x:=by
 obtain⟨a,go,fd,-,h⟩:=Ov H path e;exact⟨a,go,fd,h⟩
set_option maxHeartbeats 4000000
def JH{C:Ctx}{call:bY}{n:P}(d g:P)(p:Bool)(i:XI)(l:V XOp)(A:As)(O:St)(h:look A g=.cW p):qH C call n (og d g p i::l) A O=Z5 (J d) A O (opR call (aF C (avA C A) n O i)) (qH C call n l):=by
 have w:lK (og d g p i) A=eT:=by unfold lK og;simp only[h];cases p<;>rfl
 rw[qH];unfold wZ;rw[w];rfl
def Ja{C:Ctx}{n:P}{ss:V St}(d g:P)(p:Bool)(i:XI)(l:V XOp)(A:As)(v:AV)(rs:V (As×AV)):fQ C n ss (og d g p i::l) ((A,v)::rs)=fQ C n ss l rs:=by rw[fQ];have:lG C n (og d g p i) A v ss (og d g p i).bo=eT:=w8;rw[this,aH9,aE0]
def agI(x:jo)(hr:IU x.br):∃(r1 r2 r3 r4 r5 i j:AV),x.B=[.cQ .u8 x.b4,.cQ .u8 x.gv,.cQ .u8 x.cE,.cU x.bS,r1,r2,r3,r4,r5,i,j,.sl (z x.bb) (x.bb.flatMap sC)]/\r1.Q=eT/\r2.Q=eT/\r3.Q=eT/\r4.Q=eT/\r5.Q=eT/\i.Q=eT/\j.Q=eT:=by obtain⟨a,b,c,d,e,f,g,h,k⟩:=seven hr;refine⟨a,b,c,d,e,f,g,?_,k⟩;unfold jo.B;rw[h];rfl
end Go.Ev
