/- What the law wants alone. No conditions. -/
import Derived.Test.YtaaomenfchndjaaGreatDoorLX
import Derived.Test.YtaaomenfchndjaaGreatDoorTI
set_option linter.unusedVariables false
set_option linter.unusedSimpArgs false
set_option linter.defProp false
set_option maxRecDepth 1000000
open _root_ renaming List→N,if_neg→l,rfl→w8,if_pos→y,Int→I,UInt8→D,Nat→V,Option→O
open List renaming length_filter_le→w9,filter_cons_of_pos→K,filter_cons_of_neg→L,filter_nil→R
namespace Go.Ev
open Option renaming some→J, none→U
open Bool renaming true→eT, false→eF
open Go.IntKind renaming i64→r
open List renaming length→z
open Go.RowKit
section
variable{T:Nat->Bool}{P:Program}{W:World}{t e:TypeId}
end
def arx{P:Program}{W:World}{t e:TypeId}{base:V}(a:P.underlying t=J (.slice e)):∀cs,¬Value.okWide P W .any base t (.agg cs):=λcs h=>by simp[Value.okWide,a,Cell.okWide,Cell.ok]at h
abbrev vZ:FuncId:=5
abbrev o8:FuncId:=21
noncomputable section
end
theorem aem{fs gs:N PS}{F:N aQ}{file:N D}{cap:I}(h:Fits fs gs (sD fs F file cap).2):sD gs F file cap=sD fs F file cap:=by
 unfold sD at*;cases hf:F.find? (λf=>decide (f.C=file))with
 |some f=>rfl|none=>rw[hf]at h;dsimp only at h⊢;have:=h (zX fs file cap) (by simp);grind [zt,aml,zX]
def Vq(K:Dz){fs gs:N PS}{sc:I}{F:N aQ}(h:Fits fs gs (aW K fs sc F).2):aW K gs sc F=aW K fs sc F:=by grind [aW,aem]
def al5(K:Dz){fs gs:N PS}{rc sc:I}{rl:N D}{a:mP}{ks:N PS}{F:N aQ}(h:Fits fs gs (dS K fs rc sc rl a ks F).2):dS K gs rc sc rl a ks F=dS K fs rc sc rl a ks F:=by
 have hs:=Vq K (h.bR (YJ K fs rc sc rl a ks F));unfold dS at*;dsimp only at*;rw[hs];split
 ·next c=>
  rw[y c]at h;split;·rfl
  ·next p d=>
   rw[d]at h;dsimp only at h;have q:∀b,Fits fs gs (vO K fs rl a ks p b (aW K fs sc F).2).2->vO K gs rl a ks p b (aW K fs sc F).2=vO K fs rl a ks p b (aW K fs sc F).2:=λb h=>by grind [vO,aem]
   grind
 ·rfl
def QR(F:N aQ)(n:N D):Bool:=F.any λf=>decide (f.C=n)
def TQ(F:N aQ)(fs more:N PS):N PS:=more.filter (λp=>!QR F p.1)++fs.filter (λp=>QR F p.1)
def ak4(F:N aQ)(fs more:N PS):Fits fs (TQ F fs more) F:=λf hf=>by have w:QR F f.C=eT:=aJ7.mpr ⟨f,hf,by simp⟩;unfold aml TQ;grind
def aoV{z g:mG}{gs:N PS}(k:g={z with fs:=gs})(c:N Wp)(vs:N (N D))(F:N aQ)(h:Fits z.fs gs (agu (qX z c vs F))):qX g c vs F=qX z c vs F:=by
 subst k;unfold qX at*;cases j:c.getLast? with
 |none=>rfl
 |some w=>
  rw[j]at h;dsimp only at h⊢;by_cases b:w.C∈vs;·simp only[y b]
  by_cases d:z.O<=vs.length;·simp only[l b,y d]
  by_cases f:z.L<w.L;·simp only[l b,l d,y f]
  simp only[l b,l d,l f]at h⊢;by_cases a:vs=[]/\(aW z.K z.fs z.sc F).1.2≠0;·simp only[y a]at h;rw[Vq z.K h,y a,y a]
  ·simp only[l a,JF]at h;obtain⟨i,e⟩:=afK z w (oN z vs F);have q:JS {z with fs:=gs} w (oN z vs F)=JS z w (oN z vs F):=al5 z.K (gs:=gs) h;by_cases v:vs=[];·have o:oN z vs F=(aW z.K z.fs z.sc F).2:=y v;have s:aW z.K gs z.sc F=aW z.K z.fs z.sc F:=Vq z.K (h.bR ⟨i,by rw[e,o]⟩);rw[s,l a,l a,show oN {z with fs:=gs} vs F=oN z vs F from(y v).trans (by rw[s,o]),q];rfl
   ·rw[l λx=>v x.1,l λx=>v x.1,show oN {z with fs:=gs} vs F=oN z vs F from(l v).trans (l v).symm,q];rfl
def ap5{z f:mG}{gs:N PS}(j:f={z with fs:=gs}){n e:V}{a:N Wp}{vs:N (N D)}{F:N aQ}{x b:jo×N aQ}(h:uB z n a vs F=J x)(i:Fits z.fs gs x.2)(g:uB f e a vs F=J b):b=x:=by
 refine X8 (rr:=x) (I:=λ_ _ F G=>G=F) (Q:=λb=>b=x) (λn a vs F G hI d=>?_) n e a vs F _ b w8 h g;subst hI;have k:=aoV j a vs G (i.bR (acl d));cases c:qX z a vs G with
 |inl q=>rw[c]at k d;cases d;exact .inl ⟨_,k,w8⟩|inr s=>rw[c]at k;exact .inr ⟨_,_,_,_,w8,k,w8⟩
noncomputable section
def dM:KC:=(.mk ?k:LsA 5 [] 0).1
attribute [local irreducible] dM
def dZ:KC:=(.mk ?k:LsA 5 [dM] 1).1
attribute [local irreducible] dZ
def jy:KF:=(.mk ?k:KsA 5 [dM,dZ]).1
def iK:KC:=(.mk ?k:LsA 21 [] 0).1
attribute [local irreducible] iK
def kX:KF:=(.mk ?k:KsA 21 [iK]).1
end
variable{C C1:Ctx}
def kZ.dC(c:kZ)(fv:AV):N AV:=[.cU c.nm,.cU c.am,fv,.cW c.h,TB c.l,.cQ r c.aw,.cQ r c.b0,.cQ r c.b1,.cQ r c.rc,.cQ r c.sc]
structure Grow(c:kZ)(d:Nat)(T:St)(xs:List PS)(fv:AV)(oo:Option Nat):Prop where
 ok:Ok T
 az:T[d]?=some (.cP (c.dC fv) ⟨false,none⟩)
 ej:VF T fv 2 pC xs oo
 hz:∀q,oo=some q->d<q
def ahJ(c:kZ){n:V}{fv:AV}(h:below n fv=eT):AO.below n (.cP (c.dC fv) ⟨eF,U⟩)=eT:=by have:=below_mono (a97 n) _ (X7 c.l).cl;simp[AO.below,kZ.dC,ae,below,h,this]
def aib {c:kZ} {d:V} {T:St} {xs:N PS} {fv:AV} {oo:O V} (g:Grow c d T xs fv oo) (p:PS) (j:z xs<=2000):
  ∃S a,uD T 2 32 U fv 1 [.cU p.1,.cU p.2]=J (.dj (z T) 0 (z xs+1) 2,S)/\S[d]?=J (.cP (c.dC fv) ⟨eF,U⟩)/\S.set d (.cP (c.dC (.dj (z T) 0 (z xs+1) 2)) ⟨eF,U⟩)=a/\Grow c d a (xs++[p]) (.dj (z T) 0 (z xs+1) 2) (J (z T))/\(∀k,k<d->a[k]?=T[k]?)/\z T<=z a:=by
 have dl:=(a00.mp g.az).1;obtain⟨S,a1,l1,n1,f,b⟩:=aaD (c:=pC) (sz:=2) (bytes:=32) g.ok (λ_=>w8) (λ_=>w8) g.ej (by omega) (by omega) p;have h:S[d]?=J (.cP (c.dC fv) ⟨eF,U⟩):=f d _ (λe=>by have:=g.hz d e;omega) g.az;refine⟨S,_,a1,h,w8,⟨Ok.bd b d (ahJ c (by simp only[below,decide_eq_true_eq];omega)),bF h _,.inr ⟨z T,w8,by simp,by simp,aH n1 (by omega) _⟩,λq e=>by cases e;exact dl⟩,λk i=>?_,by rw[a99,l1];omega⟩;have e:T[k]?=J T[k]:=a01 (by omega);rw[e];exact aH (f k _ (λe=>by have:=g.hz k e;omega) e) (by omega) _
def arN:∀xs:N PS,NVs (xs.flatMap pC)|[]=>.db|p::xs=>by rw[aF0];exact .cV (.cU _) (.cV (.cU _) (arN xs))
def aue {c:kZ} {d:V} {T:St} {xs:N PS} {fv:AV} {oo:O V} (g:Grow c d T xs fv oo):
  ∃a,hand eF [.cX (c.dC fv)] T=J ([.cX {c with fs:=xs}.B],a)/\Ok a/\z a=z T/\∀k,k<d->a[k]?=T[k]?:=by
 have f:=(X7 c.l);have e:∀(fs:N V) (n:V) (l:N AV),cu T (eX T 11) fv=J (.sl n l,fs)->bI T (eX T 11) [.cX (c.dC fv)]=J ([.cX [.cU c.nm,.cU c.am,.sl n l,.cW c.h,TB c.l,.cQ r c.aw,.cQ r c.b0,.cQ r c.b1,.cQ r c.rc,.cQ r c.sc]],fs):=λfs n l h=>by have j:=(NVs.cV (.cW c.h) (.cV f (.cV (.cQ r c.aw) (.cV (.cQ r c.b0) (.cV (.cQ r c.b1) (.cV (.cQ r c.rc) (.cV (.cQ r c.sc) .db))))))).nf T (eX T 11);unfold kZ.dC;rw[aN,bK,aN,aN,aN,h,j,mg];simp[cu]
 rcases g.ej with⟨rfl,_,rfl⟩|⟨q,e1,e2,rfl,e4⟩;·refine⟨T,?_,g.ok,w8,λ_ _=>w8⟩;rw[iY,e [] 0 [] (dQ _ _)];rfl
 ·have b:z (xs.flatMap pC)=z xs*2:=bz wB xs;have nv:NVs (xs.flatMap pC):=arN xs;refine⟨T.set q (.cP (xs.flatMap pC) ⟨eT,U⟩),?_,Ok.bd g.ok q (AO.Y (a97 _) _ nv.cl),a99,λk i=>?_⟩;·rw[iY,e [q] (z xs) (xs.flatMap pC) (Eo e4 b nv),<-qf e4];rfl
  ·have:=g.hz q e1;rw[aE2 (by omega)]
def akK{nm:N D}{fs gs:N PS}{rc sc e:I}(h:yV nm fs rc sc e=0)(f:z gs<=256)(d:okD fs=eT->okD gs=eT):yV nm gs rc sc e=0:=by
 unfold yV aiw at*;by_cases b:role nm=eF;·simp[b]at h
 ·rw[l b]at h⊢;rw[l (Nat.not_lt.mpr f)];by_cases c:256<z fs;·simp[c]at h
  ·rw[l c]at h;cases a:okD fs;·simp[a]at h
   ·rw[d a];rw[a]at h;exact h
def anO(F:N aQ)(fs more:N PS):z (TQ F fs more)<=z more+z fs:=by unfold TQ;rw[a03];exact Nat.add_le_add (w9 _ _) (w9 _ _)
def ae5(F:N aQ)(fs more:N PS)(P:PS->Prop)(b:∀p∈more,P p)(h2:∀p∈fs,P p):∀p∈TQ F fs more,P p:=λp a=>by
 unfold TQ at a;rcases aE4.mp a with h|h;·exact b p (List.mem_filter.mp h).1
 ·exact h2 p (List.mem_filter.mp h).1
def ai3 (nm n:N D) (F:N aQ) (o:z F<=1000000) {O:St}:∀(k i:V),i+k=z F->
  aG C (ai C) 19 [0,1,5] iK [(0,.sl (z F) (F.flatMap (qP nm))),(1,.cU n),(5,.cQ r i)] O=J (if QR (F.drop i) n then(.ea,[(4,.cW eT)],O)else(.dq 0,[],O))
 |0,i,hi=>by rw[aB (he:=w8),aC0 (by omega)];have h:¬((i:I)<(z F:I)):=(by omega);simp only[iK,h,QR,List.any_nil,aF3,if_false,bC,EVX,seval]
 |k+1,i,hi=>by
  rw[aB (he:=w8)];have h:((i:I)<(z F:I)):=(by omega);have a:i<z F:=(by omega);have l:F[i]?=J F[i]:=a01 a;have m:F.drop i=F[i]::F.drop (i+1):=aB6 a;have e:=wrS i (by omega);have d:(0:I)<=i:=(by omega);have fl:=bz (aas nm) F;have b:=iy (aas nm) l;rw[m];generalize F[i]=f at*;have j:qP nm f=[.cU nm,.cU f.C,.cQ r f.cm,.cQ r f.aq]:=w8;have g:=ai3 (O:=O) nm n F o k (i+1) (by omega);generalize q:aG C (ai C) 19 [0,1,5] iK=s at*;by_cases c:f.C=n;·have w:QR (f::F.drop (i+1)) n=eT:=(by simp[QR,c]);rw[y w];simp only[iK,h,a,d,e,g,c,fl,b,j,bC,EVX,seval]
  ·have w:QR (f::F.drop (i+1)) n=QR (F.drop (i+1)) n:=(by simp[QR,c]);rw[w];simp only[iK,h,a,d,e,g,c,fl,b,j,bC,EVX,seval]
def aqg (c:Has C o8 kX) (nm n:N D) (F:N aQ) (b:z F<=1000000) {O:St} (e:Ok O):
  ai C o8 [.sl (z F) (F.flatMap (qP nm)),.cU n] O=J (.cW (QR F n),O):=by
 have d:hand eF [.sl (z F) (F.flatMap (qP nm)),.cU n] O=J ([.sl (z F) (F.flatMap (qP nm)),.cU n],O):=NVs.E (.cV (akb nm F) (.cV (.cU _) .db)) O;have a:=ai3 (C:=C) (O:=O) nm n F b (z F) 0 (by omega);rw[show((0:V):I)=0 from w8,aB8]at a;rw[c.go d];cases w:QR F n;·rw[w,l (by decide)]at a;simp only[kX,a,EVX,seval]
 ·rw[w,y w8]at a;simp only[kX,a,EVX,seval]
def abn (t:Has C o8 kX) (c:kZ) (F:N aQ) (s:z F<=1000000) (more:N PS) (x:z more<=1000) (b d:V) (v1 v6 v11:AV):∀(n i:V) (xs:N PS) (fv:AV) (oo:O V) (T:St),i+n=z more->z xs+n<=2000->Grow c d T xs fv oo->
  ∃(e:AV) (f:O V) (l:St),aG C (ai C) 133 [1,3,4,6,11,12,13,14] dM [(1,v1),(3,.sl (z more) (more.flatMap pC)),(4,.da b 0),(6,v6),(11,v11),(12,.sl (z F) (F.flatMap (qP c.nm))),(13,.da d 0),(14,.cQ r i)] T=J (.dq 0,[(1,v1),(4,.da b 0),(6,v6),(11,v11),(12,.sl (z F) (F.flatMap (qP c.nm))),(13,.da d 0)],l)/\
   Grow c d l (xs++(more.drop i).filter λp=>!QR F p.1) e f/\(∀k,k<d->l[k]?=T[k]?)/\z T<=z l
 |0,i,xs,fv,oo,T,hi,D,g=>by refine⟨fv,oo,T,?_,by rw[aC0 (by omega),R,aB3];exact g,λ_ _=>w8,a09 _⟩;rw[aB (he:=w8)];have h:¬((i:I)<(z more:I)):=(by omega);simp only[dM,h,bC,EVX,seval]
 |n+1,i,xs,fv,oo,T,hi,D,g=>by
  have h:((i:I)<(z more:I)):=(by omega);have j:i<z more:=(by omega);have A:more[i]?=J more[i]:=a01 j;have B:more.drop i=more[i]::more.drop (i+1):=aB6 j;have y:=wrS i (by omega);have u:(0:I)<=i:=(by omega);have fl:=bz wB more;have q:=iy wB A;rw[B];generalize more[i]=p at*;rw[show pC p=[.cU p.1,.cU p.2]from w8]at q;have o:=aqg t c.nm p.1 F s g.ok;have gd:=g.az;unfold kZ.dC at gd;cases w:QR F p.1;·obtain⟨S,a,a1,a2,a3,a4,a5,a6⟩:=aib g p (by omega);obtain⟨e,f,l,r1,r2,r3,r4⟩:=abn t c F s more x b d v1 v6 v11 n (i+1) _ _ _ a (by omega) (by simp;omega) a4;refine⟨e,f,l,?_,by rw[K (by simp[w])];simpa using r2,λk m=>by rw[r3 k m,a5 k m],by omega⟩;rw[w]at o;rw[<-r1,aB (he:=w8)];unfold kZ.dC at a2 a3;generalize m:aG C (ai C) 133 [1,3,4,6,11,12,13,14] dM=E at*;simp only[dM,h,j,u,y,fl,q,o,gd,a1,a2,a3,bC,AV.cP,AV.Q,splice,a88,a05,EVX,seval]
  ·obtain⟨e,f,l,r1,r2,r3,r4⟩:=abn t c F s more x b d v1 v6 v11 n (i+1) xs fv oo T (by omega) (by omega) g;refine⟨e,f,l,?_,by rw[L (by simp[w])];exact r2,r3,r4⟩;rw[w]at o;rw[<-r1,aB (he:=w8)];generalize m:aG C (ai C) 133 [1,3,4,6,11,12,13,14] dM=E at*;simp only[dM,h,j,u,y,fl,q,o,gd,bC,AV.cP,AV.Q,splice,a88,a05,EVX,seval]
def ag0 (v:Has C o8 kX) (c:kZ) (F:N aQ) (u:z F<=1000000) (A:z c.fs<=1000) (b d:V) (hb:b<d) (v1 v6 v11:AV):∀(n i:V) (xs:N PS) (fv:AV) (oo:O V) (T:St),i+n=z c.fs->z xs+n<=2000->Grow c d T xs fv oo->T[b]?=J (.cP c.B ⟨eF,U⟩)->
  ∃(e:AV) (f:O V) (l:St),aG C (ai C) 133 [1,4,6,11,12,13,15] dZ [(1,v1),(4,.da b 0),(6,v6),(11,v11),(12,.sl (z F) (F.flatMap (qP c.nm))),(13,.da d 0),(15,.cQ r i)] T=J (.dq 2,[(1,v1),(6,v6),(11,v11),(12,.sl (z F) (F.flatMap (qP c.nm))),(13,.da d 0)],l)/\
   Grow c d l (xs++(c.fs.drop i).filter λp=>QR F p.1) e f/\(∀k,k<d->l[k]?=T[k]?)/\z T<=z l
 |0,i,xs,fv,oo,T,hi,G,g,o=>by refine⟨fv,oo,T,?_,by rw[aC0 (by omega),R,aB3];exact g,λ_ _=>w8,a09 _⟩;rw[aB (he:=w8)];have h:¬((i:I)<(z c.fs:I)):=(by omega);unfold kZ.B at o;simp only[dZ,h,o,bC,EVX,seval]
 |n+1,i,xs,fv,oo,T,hi,G,g,o=>by
  have h:((i:I)<(z c.fs:I)):=(by omega);have j:i<z c.fs:=(by omega);have D:c.fs[i]?=J c.fs[i]:=a01 j;have E:c.fs.drop i=c.fs[i]::c.fs.drop (i+1):=aB6 j;have B:=wrS i (by omega);have x:(0:I)<=i:=(by omega);have fl:=bz wB c.fs;have t:=iy wB D;rw[E];generalize c.fs[i]=p at*;rw[show pC p=[.cU p.1,.cU p.2]from w8]at t;have s:=aqg v c.nm p.1 F u g.ok;have gd:=g.az;unfold kZ.dC at gd;have m:=o;unfold kZ.B at m;cases w:QR F p.1;·obtain⟨e,f,l,r1,r2,r3,r4⟩:=ag0 v c F u A b d hb v1 v6 v11 n (i+1) xs fv oo T (by omega) (by omega) g o;refine⟨e,f,l,?_,by rw[L (by simp[w])];exact r2,r3,r4⟩;rw[w]at s;rw[<-r1,aB (he:=w8)];generalize q:aG C (ai C) 133 [1,4,6,11,12,13,15] dZ=H at*;simp only[dZ,h,j,x,B,fl,t,s,gd,m,bC,AV.cP,AV.Q,splice,a88,a05,EVX,seval]
  ·obtain⟨S,a,a1,a2,a3,a4,a5,a6⟩:=aib g p (by omega);obtain⟨e,f,l,r1,r2,r3,r4⟩:=ag0 v c F u A b d hb v1 v6 v11 n (i+1) _ _ _ a (by omega) (by simp;omega) a4 (by rw[a5 b hb];exact o);refine⟨e,f,l,?_,by rw[K (by simp[w])];simpa using r2,λk q=>by rw[r3 k q,a5 k q],by omega⟩;rw[w]at s;rw[<-r1,aB (he:=w8)];unfold kZ.dC at a2 a3;generalize q:aG C (ai C) 133 [1,4,6,11,12,13,15] dZ=H at*;simp only[dZ,h,j,x,B,fl,t,s,gd,m,a1,a2,a3,bC,AV.cP,AV.Q,splice,a88,a05,EVX,seval]
set_option maxHeartbeats 4000000
def aoR{z:mG}{gs:N PS}{b:Bool}{R:jR}{now:I}{n g:V}{F:N aQ}{i e:jo×N aQ}(h:uG b R now z n F=J i)(f:Fits z.fs gs i.2)(a:uG b R now {z with fs:=gs} g F=J e):e=i:=by
 unfold uG at h a;by_cases c:b=eF;·rw[y c]at h a;cases h;cases a;rfl
 rw[l c]at h a;by_cases d:R.bx<=now;·rw[y d]at h a;cases h;cases a;rfl
 rw[l d]at h a;exact ap5 w8 h f a
def Yt (H:ahn C C1) (hW:Has C o8 kX) (hO:Has C vZ jy) (c:kZ) (path:List UInt8) (b:Nj) (more:List PS) (O:St) (B:Ok O):
  ai C vZ [.cX c.B,.cU path,.cX b.B,.sl more.length (more.flatMap pC)] O=J (.cW eT,O):=by
 have cb:AO.below 0 (.cP c.B ⟨eF,U⟩)=eT:=c.af.cl;have bb:AO.below 0 (.cP b.B ⟨eF,U⟩)=eT:=w8;have v:Ok (O++[.cP c.B ⟨eF,U⟩,.cP b.B ⟨eF,U⟩]):=B.H (by simp only[a08,aC6,cb,bb,aD0]);have Z:=λb=>bu B (vs:=[.cW b]) w8;have f:=aax H.hV c path _ v;have ls:=OZ H.hV.fR [] [] more _ v;have g:=H.g8 _ v;have bc:b.B=[.cQ r b.O,.cQ r b.L,.cQ r b.rc,.cQ r b.sc]:=w8;have E:c.B=[.cU c.nm,.cU c.am,.sl c.fs.length (c.fs.flatMap pC),.cW c.h,.sl c.l.length (c.l.flatMap iH.B),.cQ r c.aw,.cQ r c.b0,.cQ r c.b1,.cQ r c.rc,.cQ r c.sc]:=w8;have hn:hand eF [.cX c.B,.cU path,.cX b.B,.sl more.length (more.flatMap pC)] O=J ([.cX c.B,.cU path,.cX b.B,.sl more.length (more.flatMap pC)],O):=NVs.E (.cV (.cX c.af) (.cV (.cU _) (.cV (.cX (aan b)) (.cV (rV more) .db)))) O;rw[hO.go hn];cases cl:Qi c path
 case true=>rw[cl]at f;rw[bc]at f g⊢;rw[E]at f g⊢;simp only[jy,f,g,Z,aA,aI,AV.cP,AV.Q,EVX,seval]
 rw[cl]at f;cases V:U6 [] [] more
 case true=>rw[V]at ls;rw[bc]at f g ls⊢;rw[E]at f g ls⊢;simp only[jy,f,ls,g,Z,aA,aI,AV.cP,AV.Q,EVX,seval]
 rw[V]at ls;obtain⟨v1,v2,v3,v4,v5,v6⟩:=JC cl;obtain⟨w1,_,w3⟩:=ZY V;have hw:IntKind.i64.wrap ((c.fs.length:Int)+(more.length:Int))=(c.fs.length:Int)+(more.length:Int):=wrE (by omega);by_cases cn:256<c.fs.length+more.length;·have s:(256:Int)<(c.fs.length:Int)+(more.length:Int):=(by omega);rw[bc]at f g ls⊢;rw[E]at f g ls⊢;simp only[jy,f,ls,hw,s,g,Z,bC,aA,aI,AV.cP,AV.Q,EVX,seval]
 have s:¬(256:Int)<(c.fs.length:Int)+(more.length:Int):=by omega
 obtain⟨R,e,Q,az,hK,mk⟩:=ags H.eM cl;rcases mk c.aw c.fs v3 v5 _ v with⟨m1,u⟩|⟨m1,p,T,u,l⟩;·have af:(yV c.nm c.fs c.rc c.sc e !=0)=eT:=(by simpa using m1);change ai C dJ [.cX c.B] _=_ at u;rw[bc]at f g ls u⊢;rw[E]at f g ls u⊢;simp only[jy,f,ls,hw,s,g,af,u,Z,bC,aA,aI,AV.cP,AV.Q,beq_self_eq_true,EVX,seval]
 change ai C dJ [.cX c.B] _=_ at u;obtain⟨p1,p2,p3,p4,p5,p6,p7,p8⟩:=l.of;change p.aw=c.aw at p4;change p.rc=c.rc at p5;change p.sc=c.sc at p6;change p.nm=c.nm at p7;change p.fs=c.fs at p8;have lT:=l.dt;have l1:(O++[AO.cP c.B ⟨eF,U⟩,.cP b.B ⟨eF,U⟩]).length=O.length+2:=by simp
 rw[l1]at lT;have pl:∀i,p.b9 i->O.length+2<=i/\i<T.length:=λi hi=>⟨by have:=l.ah i hi;rw[l1]at this;exact this,Rp.lt l.az hi⟩;have old:∀i x,i<O.length+2->(O++[AO.cP c.B ⟨eF,U⟩,.cP b.B ⟨eF,U⟩])[i]?=J x->T[i]?=J x:=λi x hi h=>by rw[QL l.bR (by rw[l1];exact hi)];exact h
 have cT:T[O.length]?=J (.cP c.B ⟨eF,U⟩):=old _ _ (by omega) (by rw[aA];rfl);have bT:T[O.length+1]?=J (.cP b.B ⟨eF,U⟩):=old _ _ (by omega) (by rw[aI];rfl);obtain⟨P,go,fd,step⟩:=QG H.jN path v6;obtain⟨x,F,S,ax,k1,s1,t1,K,D,sm1⟩:=step l.bN (by rw[l.F];decide) l.ok l.az b;have lS:=t1.dt;have fl:=(aaH D (Ah l.bN.bV.e6 l.bN.bV.am l.bN.cH p.sc).1.dt).1;rw[l.F]at fl D;have fl:F.length<=8193:=by simpa using fl
 have nx:=jo.af x sm1.br.af;have xb:AO.below 0 (.cP x.B ⟨eF,U⟩)=eT:=nx.cl;have N:Ok (S++[.cP x.B ⟨eF,U⟩]):=t1.ok.H (by rw[a08,xb];rfl);have W:=yj H.cH N (Rp.eD t1.az [.cP x.B ⟨eF,U⟩]) K.dd;change ai C fU [.da p.r 0] _=J (.sl F.length (F.flatMap (qP p.nm)),_)at W;rw[p7]at W;have j:∀i x,i<O.length+2->T[i]?=J x->S[i]?=J x:=λi x hi h=>t1.bp i x (λhh=>by have:=(pl _ hh).1;omega) h;have cS:=j _ _ (by omega) cT;have bS:=j _ _ (by omega) bT;have G:=ak4 F c.fs more;obtain⟨m,d⟩:∃m,S++[AO.cP x.B ⟨eF,U⟩,.cP (c.dC .cY) ⟨eF,U⟩]=m:=⟨_,w8⟩;have aq:m.length=S.length+2:=by rw[<-d];simp
 have ok0:Ok m:=d▸t1.ok.H (by
  have:=ahJ c (n:=0) (fv:=.cY) w8;simp only[a08,aC6,xb,this,aD0])
 have g0:Grow c (S.length+1) m [] .cY U:=⟨ok0,by rw[<-d,aI];rfl,.inl ⟨w8,w8,w8⟩,λq e=>nomatch e⟩;have c0:m[O.length]?=J (.cP c.B ⟨eF,U⟩):=d▸aj cS _;have b0:m[O.length+1]?=J (.cP b.B ⟨eF,U⟩):=d▸aj bS _;have x0:m[S.length]?=J (.cP x.B ⟨eF,U⟩):=by rw[<-d,aA];rfl
 obtain⟨ab,o1,T1,X,g2,g3,g4⟩:=abn hW c F (by omega) more w1 O.length (S.length+1) (.cU path) (.da (O.length+1) 0) (.da S.length 0) more.length 0 [] .cY U _ (by omega) (by simp;omega) g0;rw[aB8,a88]at g2;have an:(more.filter λp=>!QR F p.1).length<=more.length:=w9 _ _;obtain⟨ac,o2,T2,h2,h3,h4,h5⟩:=ag0 hW c F (by omega) v3 O.length (S.length+1) (by omega) (.cU path) (.da (O.length+1) 0) (.da S.length 0) c.fs.length 0 _ ab o1 T1 (by omega) (by omega) g2 (by rw[g3 _ (by omega)];exact c0);rw[aB8]at h3;change Grow c (S.length+1) T2 (TQ F c.fs more) ac o2 at h3;have el:=anO F c.fs more;have ed:=ae5 F c.fs more (λp=>p.2.length<=LB) w3 v5;have ek:okD c.fs=eT->okD (TQ F c.fs more)=eT:=λh=>by unfold okD at*;rw[aB0]at*;refine ae5 F c.fs more _ (λp hp=>?_) h;have:=(Yy more _ (Nat.not_le.mp (of_decide_eq_false V))).2 p hp;exact decide_eq_true (by omega)
 obtain⟨T3,q1,q2,q3,q4⟩:=aue h3;have ah:NVs {c with fs:=TQ F c.fs more}.B:=kZ.af _;have mh:=Nb H.eM.di.hA q1 (NVs.E (.cV (.cX ah) .db) T3) q3;have I:∀k,k<S.length+1->T3[k]?=m[k]?:=λk A=>by rw[q4 k A,h4 k A,g3 k A]
 have au:S.length+2<=T3.length:=by omega
 generalize TQ F c.fs more=Y at*;rcases mk c.aw Y (by omega) ed T3 q2 with⟨n1,_⟩|⟨n1,q,a,n2,ns⟩;·exact absurd (akK m1 (by omega) ek) n1
 rw[<-mh]at n2;obtain⟨_,_,b3,b4,b5,b6,b7,b8⟩:=ns.of;change q.aw=c.aw at b4;change q.rc=c.rc at b5;change q.sc=c.sc at b6;change q.nm=c.nm at b7;change q.fs=Y at b8;have lU:=ns.dt;have t:∀k,k<S.length+1->a[k]?=m[k]?:=λk A=>by rw[QL ns.bR (by omega),I k A]
 obtain⟨y,F2,S2,ay,k2,s2,t2,M,i2,ak⟩:=step ns.bN (by rw[ns.F];decide) ns.ok ns.az b;rw[ns.F]at i2;have ez:Io (Q.K c.aw) q b go fd={Io (Q.K c.aw) p b go fd with fs:=Y}:=by unfold Io;rw[b8,b5,b6,p5,p6]
 change uG P q.R q.aw (Io (Q.K c.aw) q b go fd) k2 []=_ at i2;rw[ez,b3,b4]at i2;rw[p3,p4]at D;change uG P R c.aw (Io (Q.K c.aw) p b go fd) k1 []=_ at D;have eq:=aoR D (by show Fits p.fs Y F;rw[p8];exact G) i2;obtain⟨rfl,rfl⟩:y=x/\F2=F:=⟨congrArg Prod.fst eq,congrArg Prod.snd eq⟩;have ql:∀i,q.b9 i->T3.length<=i:=λi hi=>ns.ah i hi;have w:∀k x,k<S.length+1->m[k]?=J x->S2[k]?=J x:=λk x A h=>t2.bp k x (λhh=>by have:=ql k hh;omega) (by rw[t k A];exact h);have bU:a[O.length+1]?=J (.cP b.B ⟨eF,U⟩):=by rw[t _ (by omega)];exact b0
 have xU:a[S.length]?=J (.cP y.B ⟨eF,U⟩):=by rw[t _ (by omega)];exact x0
 have x2:=w _ _ (by omega) x0;have f1:=ah8 H.told y sm1.br _ t2.ok;have f2:=Vg H.cq y sm1.br (by have:=sm1.bb;omega) _ t2.ok;have f3:=yj H.cH t2.ok t2.az M.dd;change ai C fU [.da q.r 0] _=J (.sl F2.length (F2.flatMap (qP q.nm)),_)at f3;rw[b7]at f3;have f5:=Oo H.lU c.nm F2 (by omega) S2;have keep:S2.take O.length=O:=by
  apply aD6;intro i;by_cases h:i<O.length;·rw[List.getElem?_take_of_lt h];have e0:O[i]?=J O[i]:=a01 h;rw[w i _ (by omega) (d▸aj (j i _ (by omega) (old i _ (by omega) (aj e0 _))) _),e0]
  ·have l2:=t2.dt;rw[aB9 (by rw[aD7];omega),aB9 (by omega)]
 have al:=jP (vs:=[.cW eT]) B w8 keep;have gd:=h3.az;have z:((0:Int) !=0)=eF:=w8;obtain⟨a1,a2,a3,a4,a5,a6,a7,yc,z1,z2,z3,z4,z5,z6,z7⟩:=agI y sm1.br;simp only[aB1]at X h2;clear sm1 ak nx xb N q1 q2 q3 q4 mh ek ed el ns K M t1 t2 w t I keep ok0 g0 g2 g3 h3 l mk hK D i2 eq;subst d;unfold kZ.dC TB at gd n2 X;rw[yc]at s1 s2 f1 f2 xU x2 W X;rw[bc]at f g ls u s1 s2 bT bS bU⊢;rw[E]at f g ls u cT cS⊢;have aa:=λL=>aj cS L;have gx:=λL=>aU (w8:S.length=_) L;have sx:=λL z=>fV (w8:S.length=_) L z;have ad:=λL k=>yG (w8:S.length=_) L k;simp only[jy,f,ls,hw,s,g,z,u,bT,s1,W,aa,gx,sx,ad,X,h2,gd,n2,bU,s2,xU,x2,f1,f2,f3,f5,al,z1,z2,z3,z4,z5,z6,z7,JH,Ja,jT,bC,aA,aS,aI,cZ,AV.cP,fl5,splice,List.set,beq_self_eq_true,EVX,seval]
end Go.Ev
namespace Go.Proofs.YtaaomenfchndjaaGreatDoor
open Option renaming some→J, none→U
open Bool renaming true→eT, false→eF
open Go.IntKind renaming i64→r
open List renaming length→z
open Go.Ev Go.RowKit
noncomputable section
def aug(u1 u2:TypeId)(c:kZ)(p:N D)(b:Nj)(more:N PS):ai (CL u1 u2) vZ [.cX c.B,.cU p,.cX b.B,.sl (z more) (more.flatMap pC)] []=J (.cW eT,[]):=
 Yt law9 (oQ (b:=eT)) (oQ (b:=eT)) c p b more [] ok0
end
end Go.Proofs.YtaaomenfchndjaaGreatDoor
