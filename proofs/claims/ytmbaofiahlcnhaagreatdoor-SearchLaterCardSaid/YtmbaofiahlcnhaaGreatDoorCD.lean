/- Code. No conditions. -/
import Derived.Test.YtmbaofiahlcnhaaGreatDoorCC
import Derived.Test.YtmbaofiahlcnhaaGreatDoorCB
import Derived.Test.YtmbaofiahlcnhaaGreatDoorEC
set_option linter.unusedVariables false
set_option linter.unusedSimpArgs false
set_option linter.defProp false
namespace Go.Ev
open Bool renaming false→eF, true→eT
open Option renaming some→J, none→U
open List renaming length→z
open Go.IntKind renaming i64→r
set_option maxRecDepth 100000
variable{C:Ctx}{PK:PkI}
def bT:Fz:=⟨eF,J (305,eT)⟩
def uT:Fz:=⟨eF,J (5,eF)⟩
structure BldHas(C:Ctx):Prop where
 jx:∀(O:St) (o:Nat) (b:AV),O[o]?=some (.cH [.ev,b] bT)->ai C fP [.c8 o 0] O=some (.dT,O.set o (.cH [.c8 o 0,b] bT))
 jz:∀(O:St) (o:Nat) (b:AV),O[o]?=some (.cH [.c8 o 0,b] bT)->ai C fP [.c8 o 0] O=some (.dT,O)
 kt:∀(O:St) (o:Nat) (p:AV),O[o]?=some (.cH [p,.cY] bT)->ai C fJ [.c8 o 0] O=some (.cV [],O)
 ku:∀(O:St) (o q:Nat) (p:AV) (w:LU),O[o]?=some (.cH [p,.dj q 0 w.length 1] bT)->O[q]?=some (.cH (ofBytes w) uT)->w≠[]->w.length<=1099511627776->ai C fJ [.c8 o 0] O=some (.cV w,O.set q .eq)
 lR:Has C ou jG
 kB:Has C fO pK
def Bk(Y:St)(o:Nat)(w:LU)(qo:Option Nat):Prop:=∃p b,Y[o]?=J (.cH [p,b] bT)/\(p=.ev\/p=.c8 o 0)/\((qo=U/\w=[]/\b=.cY)\/∃q,qo=J q/\q≠o/\w≠[]/\b=.dj q 0 (z w) 1/\Y[q]?=J (.cH (ofBytes w) uT))
structure TrB(o:Nat)(Y:St)(qo:Option Nat)(Y':St)(qo':Option Nat):Prop where
 ok:Ok Y'
 dt:Y.length<=Y'.length
 bv:∀i x,i≠o->qo≠some i->Y[i]?=some x->Y'[i]?=some x
 q:∀i,qo'=some i->qo=some i\/Y.length<=i
def TrB.ah{o:Nat}{Y:St}{qo:Option Nat}(h:Ok Y):TrB o Y qo Y qo:=⟨h,a06 _,λ_ _ _ _ h=>h,λ_ h=>.inl h⟩
def TrB.N{o:Nat}{Y Y1 Y2:St}{qo q1 q2:Option Nat}(h:TrB o Y qo Y1 q1)(k:TrB o Y1 q1 Y2 q2):TrB o Y qo Y2 q2 where
 ok:=k.ok
 dt:=aB9 h.dt k.dt
 bv:=λi x hi hq hx=>k.bv i x hi (λe=>by
  grind [TrB]) (h.bv i x hi hq hx)
 q:=λi e=>by grind [TrB]
def TrB.H{o:Nat}{Y:St}{qo:Option Nat}(h:Ok Y){L:St}(a:L.all (AO.below (z Y+z L))=eT):TrB o Y qo (Y++L) qo:=⟨h.eG a,by simp,λ_ _ _ _ b=>aj b L,λ_ e=>.inl e⟩
def Bk.H{o:Nat}{Y:St}{qo:Option Nat}{w:LU}(h:Bk Y o w qo)(L:St):Bk (Y++L) o w qo:=by obtain⟨p,b,a,h2,h3⟩:=h;refine⟨p,b,aj a L,h2,?_⟩;grind
def Bk.lt{o:Nat}{Y:St}{qo:Option Nat}{w:LU}(h:Bk Y o w qo):o<z Y:=by obtain⟨p,b,a,h2,h3⟩:=h;exact(a00.mp a).1
def Bk.mo{o:Nat}{Y:St}{qo:Option Nat}{w:LU}(h:Bk Y o w qo){i:Nat}(e:qo=J i):i<z Y:=by obtain⟨p,b,a,h2,h3⟩:=h;grind
def YG{o:Nat}{Y S:St}{qo a:Option Nat}{w:LU}(vs:LA)(j:o<z Y)(h:TrB o Y qo S a)(b:Bk S o w a):TrB o Y qo (tidy (z Y) vs S) a/\Bk (tidy (z Y) vs S) o w a:=by
 unfold tidy;split;·exact⟨h,b⟩
 split
 ·rename_i d;rw[a01]at d;have g:z (S.take (z Y))=z Y:=by have:=h.dt;simp;omega
  have e:∀i,i<z Y->(S.take (z Y))[i]?=S[i]?:=λi hi=>by rw[aA4,if_pos hi]
  obtain⟨p,c,f,h2,h3⟩:=b;refine⟨⟨?_,by rw[g];exact a06 _,λi x hi k l=>?_,h.q⟩,p,c,by rw[e _ j];exact f,h2,?_⟩;·unfold Ok;rw[g];exact d.2
  ·grind [TrB]
  ·rcases h3 with h3|⟨q,e1,e2,e3,e4,e5⟩;·exact .inl h3
   ·refine .inr ⟨q,e1,e2,e3,e4,?_⟩;have hb:=a97.mp d.2 (.cH [p,c] bT) (a08 (by rw[e _ j];exact f));have:q<z Y:=by rw[e4]at hb;simp only[AO.below,ae,below,a01,decide_eq_true_eq]at hb;exact hb.2.1
    rw[e _ this];exact e5
 ·exact⟨h,b⟩
def ajl(H:BldHas C){o:Nat}{Y:St}{w:LU}{qo:Option Nat}(a:Ok Y)(hb:Bk Y o w qo):∃b c,ai C fP [.c8 o 0] Y=J (.dT,c)/\c[o]?=J (.cH [.c8 o 0,b] bT)/\z c=z Y/\Ok c/\(∀i x,i≠o->Y[i]?=J x->c[i]?=J x)/\((qo=U/\w=[]/\b=.cY)\/∃q,qo=J q/\q≠o/\w≠[]/\b=.dj q 0 (z w) 1/\c[q]?=J (.cH (ofBytes w) uT)):=by
 have e:=hb.lt;obtain⟨p,b,d,h2,h3⟩:=hb;rcases h2 with rfl|rfl
 ·refine⟨b,_,H.jx Y o b d,aX d _,by simp,?_,λi x hi f=>aG f hi _,?_⟩;·refine a.bd o ?_;have:=a97.mp a _ (a08 d);simp only[AO.below,ae,below,aA5,a01,decide_eq_true_eq]at this⊢;exact⟨e,this.2⟩
  ·rcases h3 with h3|⟨q,e1,e2,e3,e4,e5⟩;·exact .inl h3
   ·exact .inr ⟨q,e1,e2,e3,e4,aG e5 e2 _⟩
 ·exact⟨b,Y,H.jz Y o b d,d,rfl,a,λ_ _ _ h=>h,h3⟩
def amS {o:Nat} {Y:St} {w cs:LU} {b:AV} {qo:Option Nat} (a:Ok Y) (c:Y[o]?=J (.cH [.c8 o 0,b] bT)) (h3:(qo=U/\w=[]/\b=.cY)\/∃q,qo=J q/\q≠o/\w≠[]/\b=.dj q 0 (z w) 1/\Y[q]?=J (.cH (ofBytes w) uT)) (g:cs≠[]) (d:z w+z cs<=1099511627776):
  ∃S:St,tX Y 1 1 (J (5,eF)) b (z cs) (ofBytes cs)=J (.dj (z Y) 0 (z (w++cs)) 1,S++[.cH (ofBytes (w++cs)) uT])/\z S=z Y/\S[o]?=J (.cH [.c8 o 0,b] bT)/\(∀i x,qo≠J i->Y[i]?=J x->S[i]?=J x)/\Ok S:=by
 have f:¬z cs=0:=λe=>g (az0 e);rcases h3 with⟨rfl,rfl,rfl⟩|⟨q,rfl,e2,e3,rfl,e5⟩;·refine⟨Y,?_,rfl,c,λ_ _ _ h=>h,a⟩;rw[J7 _ _ (ofBytes cs) f (by simp at d;omega) (by simp at d;omega)];rfl
 ·refine⟨Y.set q .eq,?_,by simp,aG c (λe=>e2 e.symm) _,λi x hi j=>aG j (λe=>hi (by rw[e])) _,a.bd q rfl⟩;unfold tX;rw[if_neg f];simp only[e5];rw[if_pos ⟨trivial,by rw[aI];omega,by omega,by omega⟩,NM,a04];rfl
def FT (H:BldHas C) {o:Nat} {Y:St} {w:LU} {qo:Option Nat} (s:LU) (m:Ok Y) (hb:Bk Y o w qo) (E:z w+z s<=1099511627776):
  ∃h f,ai C ou [.c8 o 0,.cV s] Y=J (.df [.cU r (z s),.ej],h)/\Bk h o (w++s) f/\TrB o Y qo h f:=by
 have G:=hb.lt;obtain⟨b,g,t,a,c,u,v,d⟩:=ajl H m hb;have F:hand eF [.c8 o 0,.cV s] Y=J ([.c8 o 0,.cV s],Y):=rfl;rw[H.lR.go F];by_cases hs:s=[]
 ·subst hs;have D:tX g 1 1 (J (5,eF)) b 0 []=J (b,g):=(by rcases d with⟨_,_,rfl⟩|⟨q,_,_,_,rfl,_⟩<;>rfl);have B:=DD g [.cU r 0,.ej];rw[c]at B;have K:=set_self a;have fb:b.C=eT:=(by rcases d with⟨_,_,rfl⟩|⟨q,_,_,_,rfl,_⟩<;>rfl);refine⟨g,qo,?_,?_,u,by rw[c];exact a06 _,λi x hi _ k=>v i x hi k,λi e=>.inl e⟩;·dsimp only[bT]at*;rcases d with⟨_,_,rfl⟩|⟨q,_,_,_,rfl,_⟩<;>simp only[jG,t,a,D,B,K,splice,ofBytes,List.map_nil,a94,AV.C,AV.cH,EVX,seval]
  ·rw[ay5];exact⟨_,b,a,.inr rfl,d⟩
 ·obtain⟨S,a1,a2,a3,a4,a5⟩:=amS u a d hs E;have fl:=yE s;rw[c]at a1;have A:=λL y=>fK a3 L y;have sg:=λL=>aj a3 L;have n:Ok (S.set o (.cH [.c8 o 0,.dj (z Y) 0 (z (w++s)) 1] bT)++[.cH (ofBytes (w++s)) uT]):=by
   have:=(Ok.eG a5 (l:=[.cH (ofBytes (w++s)) uT]) (by simp[AO.below,kY])).bd o (x:=.cH [.c8 o 0,.dj (z Y) 0 (z (w++s)) 1] bT) (by
    simp only[AO.below,ae,below,aA5,a01,decide_eq_true_eq,a04,a90,a94];omega)
   rwa[A]at this
  have j:Bk (S.set o (.cH [.c8 o 0,.dj (z Y) 0 (z (w++s)) 1] bT)++[.cH (ofBytes (w++s)) uT]) o (w++s) (J (z Y)):=by refine⟨_,_,aj (aX a3 _) _,.inr rfl,.inr ⟨_,rfl,by omega,by simp[hs],rfl,?_⟩⟩;rw[bK (by simp[a2,c])];rfl
  have p:TrB o Y qo (S.set o (.cH [.c8 o 0,.dj (z Y) 0 (z (w++s)) 1] bT)++[.cH (ofBytes (w++s)) uT]) (J (z Y)):=by refine⟨n,by simp[a2,c],λi x hi I k=>aj (aG (a4 i x I (v i x hi k)) hi _) _,λi e=>.inr ?_⟩;cases e;exact a06 _
  obtain⟨t1,t2⟩:=YG [.cU r (z s),.ej] G p j;refine⟨_,_,?_,t2,t1⟩;dsimp only[bT,uT]at*;simp only[jG,t,a,a1,A,sg,fl,splice,AV.C,AV.cH,EVX,seval]
def yJ (H:BldHas C) {o:Nat} {Y:St} {w:LU} {qo:Option Nat} (c:UInt8) (h:Ok Y) (hb:Bk Y o w qo) (u:z w+1<=1099511627776):
  ∃d a,ai C fO [.c8 o 0,.cU .u8 c.toNat] Y=J (.ej,d)/\Bk d o (w++[c]) a/\TrB o Y qo d a:=by
 have A:=hb.lt;obtain⟨b,F,p,m,g,q,s,t⟩:=ajl H h hb;have v:hand eF [.c8 o 0,.cU .u8 c.toNat] Y=J ([.c8 o 0,.cU .u8 c.toNat],Y):=rfl;rw[H.kB.go v];obtain⟨S,a1,a2,a3,a4,a5⟩:=amS (cs:=[c]) q m t (by simp) u;rw[g]at a1;have n:=λL y=>fK a3 L y;have sg:=λL=>aj a3 L;have j:Ok (S.set o (.cH [.c8 o 0,.dj (z Y) 0 (z (w++[c])) 1] bT)++[.cH (ofBytes (w++[c])) uT]):=by
  have:=(Ok.eG a5 (l:=[.cH (ofBytes (w++[c])) uT]) (by simp[AO.below,kY])).bd o (x:=.cH [.c8 o 0,.dj (z Y) 0 (z (w++[c])) 1] bT) (by
   simp only[AO.below,ae,below,aA5,a01,decide_eq_true_eq,a04,a90,a94];omega)
  rwa[n]at this
 have f:Bk (S.set o (.cH [.c8 o 0,.dj (z Y) 0 (z (w++[c])) 1] bT)++[.cH (ofBytes (w++[c])) uT]) o (w++[c]) (J (z Y)):=by refine⟨_,_,aj (aX a3 _) _,.inr rfl,.inr ⟨_,rfl,by omega,by simp,rfl,?_⟩⟩;rw[bK (by simp[a2,g])];rfl
 have k:TrB o Y qo (S.set o (.cH [.c8 o 0,.dj (z Y) 0 (z (w++[c])) 1] bT)++[.cH (ofBytes (w++[c])) uT]) (J (z Y)):=by refine⟨j,by simp[a2,g],λi x hi B D=>aj (aG (a4 i x B (s i x hi D)) hi _) _,λi e=>.inr ?_⟩;cases e;exact a06 _
 obtain⟨t1,t2⟩:=YG [.ej] A k f;refine⟨_,_,?_,t2,t1⟩;have E:ofBytes [c]=[.cU .u8 c.toNat]:=rfl;have l1:[c].length=1:=rfl;dsimp only[bT,uT]at*;rw[E,l1]at a1;simp only[pK,p,m,a1,n,sg,splice,AV.C,AV.cH,EVX,seval]
structure QJ(C:Ctx):Prop extends BldHas C where
 ha:∀s:LU,s.length<=4096->∀O,Ok O->∃(q:LU) (e:Int),ai C wS [.cV s] O=some (.df [.cV q,.cU .i64 e],O)/\q.length<=65536
 ht:∀n O,Ok O->∃s:LU,ai C QY [.cU .i64 n] O=some (.cV s,O)/\s.length<=64
 mR:Has C dZ Be
 mS:Has C yj Jp
 mT:Has C uD kz
def afu (H:QJ C) {o:Nat} {Y:St} {w:LU} {qo:Option Nat} (s:LU) (hs:z s<=4096) (a:Ok Y) (hb:Bk Y o w qo) (h:z w+65536<=1099511627776):
  ∃c d b,ai C yj [.cV s,.c8 o 0] Y=J (bW [],c)/\Bk c o d b/\TrB o Y qo c b/\z d<=z w+65536:=by
 obtain⟨q,e,q1,q2⟩:=H.ha s hs Y a;obtain⟨S,g,r1,r2,r3⟩:=FT H.toBldHas q a hb (by omega);have f:hand eF [.cV s,.c8 o 0] Y=J ([.cV s,.c8 o 0],Y):=rfl;obtain⟨t1,t2⟩:=YG [] hb.lt r3 r2;refine⟨_,_,g,?_,t2,t1,by rw[a04];omega⟩;rw[H.mS.go f];simp only[Jp,q1,r1,EVX,seval]
structure WE(o a b:Nat)(Y:St)(qo:Option Nat):Prop where
 na:a≠o
 nb:b≠o
 qa:qo≠some a
 qb:qo≠some b
 ca:Y[a]?=some (.cH [.ea (.func yj) [] [.c8 o 0]] FZ)
 cb:Y[b]?=some (.cH [.ea (.func uD) [] [.c8 o 0,.c8 a 0,.c8 b 0]] FZ)
def TrB.qn{o i:Nat}{Y b:St}{qo a:Option Nat}(t:TrB o Y qo b a)(hi:i<z Y)(h:qo≠J i):a≠J i:=λe=>by
 rcases t.q _ e with e|e;·exact h e
 ·omega
def WE.bk{o a b:Nat}{Y d:St}{qo c:Option Nat}(h:WE o a b Y qo)(t:TrB o Y qo d c):WE o a b d c:=
 ⟨h.na,h.nb,t.qn (a00.mp h.ca).1 h.qa,t.qn (a00.mp h.cb).1 h.qb,t.bv _ _ h.na h.qa h.ca,t.bv _ _ h.nb h.qb h.cb⟩
def aqw(C:Ctx)(j:JV):Prop:=∀(o a b:Nat) (Y:St) (w:LU) (e:Option Nat),Ok Y->Bk Y o w e->WE o a b Y e->j.w.gv->z w+j.w.g4*131076<=1099511627776+65538->
 ∃d f c,ai C uD [j.av,.c8 o 0,.c8 a 0,.c8 b 0] Y=J (bW [],d)/\Bk d o f c/\TrB o Y e d c/\z f+65538<=z w+j.w.g4*131076
def aju:∀j:JW,1<=j.g4|.mk _ _ _ _ is=>by show 1<=PU is+1;omega
def aft (H:QJ C) (is:List JV) (hn:z is<=8192) (M:∀j∈is,aqw C j) (o a b:Nat):∀(n i:Nat),i+n=z is->∀(Y:St) (w:LU) (qo:Option Nat),Ok Y->Bk Y o w qo->WE o a b Y qo->ZT ((is.drop i).map (·.w))->z w+PU ((is.drop i).map (·.w))*131076<=1099511627776->
  ∃B V t,aH C (ai C) 76 [1,3,34,35,36] fG [(1,.c8 o 0),(3,.c8 b 0),(34,.sl (z is) (aJ is)),(35,.cU r (z is)),(36,.cU r i)] Y=J (.dq 1,[(1,.c8 o 0)],B)/\Bk B o V t/\TrB o Y qo B t/\z V<=z w+PU ((is.drop i).map (·.w))*131076
 |0,i,hi,Y,w,qo,k,hb,N,E,F=>by refine⟨Y,w,qo,?_,hb,.ah k,by omega⟩;rw[aA (he:=rfl)];have h:¬((i:Int)<(z is:Int)):=(by omega);simp only[fG,h,EVX,seval]
 |n+1,i,hi,Y,w,qo,k,hb,N,E,F=>by
  have h:((i:Int)<(z is:Int)):=(by omega);have h2:i<z is:=(by omega);have u:=wrS i (by omega);have S:(0:Int)<=(i:Int):=(by omega);have d2:=AP is i h2;have sl:=jF is;have hj:is[i]∈is:=aB3 h2;have Z:is.drop i=is[i]::is.drop (i+1):=ay6 h2;generalize is[i]=j at*;generalize aJ (is.drop (i+1))=R at*;rw[Z,az3]at E F⊢;obtain⟨g1,g2⟩:=E;rw[PU]at F⊢;have cp:=aju j.w;have q:=JV.dt j;have P:=JV.C j;have Q:(j.B++R).take 5=j.B:=by rw[<-q];simp
  have O:5<=z (j.B++R):=(by simp[q]);have s:j.B.take 5=j.B:=a95 (by rw[JV.dt];exact a06 _);have aa:5<=z j.B:=by rw[JV.dt];exact a06 _
  have T:∀a b c d e:AV,splice [a,b,c,d,e] 0 j.B=j.B:=λa b c d e=>by simp[splice,q]
  have hL:([.cH j.B FZ]:St).all (AO.below (z Y+1))=eT:=by simp only[a07,az6,aA5,AO.below];exact aK (a99 _) _ j.ay
  have f:=TrB.H (o:=o) (qo:=qo) k hL;have m:=hb.H [.cH j.B FZ];have I:=N.bk f;have p:(Y++[AO.cH j.B FZ]:St)[z Y]?=J (.cH j.B FZ):=by rw[bK rfl];rfl
  have s1:=λL y=>iF (rfl:z Y=_) L y;have ne:z Y≠o:=by have:=hb.lt;omega
  have nq:qo≠J (z Y):=λe=>by have:=hb.mo e;omega
  have key:∃g u q2,(if 0<(i:Int)then ai C fO [.c8 o 0,.cU .u8 44] (Y++[AO.cH j.B FZ])=J (.ej,g)else g=Y++[AO.cH j.B FZ])/\Bk g o u q2/\TrB o (Y++[AO.cH j.B FZ]) qo g q2/\z u<=z w+1:=by
   split;·obtain⟨g,q2,e1,e2,e3⟩:=yJ H.toBldHas 44 f.ok m (by omega);exact⟨g,_,q2,e1,e2,e3,by simp⟩
   ·exact⟨_,w,qo,rfl,m,.ah f.ok,by omega⟩
  obtain⟨g,G,q2,x,k2,A,k4⟩:=key;have l:=I.bk A;have D:=A.bv _ _ ne nq p;obtain⟨W,w3,q3,e1,e2,e3,e4⟩:=M j hj o a b g G q2 A.ok k2 l g1 (by omega);have K:=l.bk e3;obtain⟨X,w4,q4,f1,f2,f3,f4⟩:=aft H is hn M o a b n (i+1) (by omega) W w3 q3 e3.ok e2 K g2 (by omega);refine⟨X,w4,q4,?_,f2,((f.N A).N e3).N f3,by omega⟩;have cb:=l.cb;unfold JV.av at e1;rw[aA (he:=rfl)];generalize hk:aH C (ai C) 76 [1,3,34,35,36] fG=kk at*;by_cases v:0<(i:Int);·rw[if_pos v]at x;simp only[fG,h,h2,u,S,d2,sl,v,x,e1,f1,cb,D,s1,q,P,Q,O,s,T,jH,a88,AV.cH,EVX,seval]
  ·rw[if_neg v]at x;subst x;simp only[fG,h,h2,u,S,d2,sl,v,e1,f1,cb,p,s1,q,P,Q,O,s,T,jH,a88,AV.cH,EVX,seval]
def ajC (H:QJ C) (is:List JV) (ns:List LU) (S:z ns=z is) (t:∀x∈ns,z x<=4096) (hn:z is<=8192) (IH:∀j∈is,aqw C j) (c0 c1 c2:AV) (o a b v0:Nat) (hv:v0≠o):∀(n i:Nat),i+n=z is->∀(Y:St) (w:LU) (qo:Option Nat),Ok Y->Bk Y o w qo->WE o a b Y qo->qo≠J v0->Y[v0]?=J (.cH [c0,c1,c2,.sl (z ns) (ns.map .cV),.sl (z is) (aJ is)] FZ)->ZT ((is.drop i).map (·.w))->z w+PU ((is.drop i).map (·.w))*131076<=1099511627776->
  ∃N w' A,aH C (ai C) 76 [1,2,3,4,53,54,55] gU [(1,.c8 o 0),(2,.c8 a 0),(3,.c8 b 0),(4,.c8 v0 0),(53,.sl (z is) (aJ is)),(54,.cU r (z is)),(55,.cU r i)] Y=J (.dq 3,[(1,.c8 o 0)],N)/\Bk N o w' A/\TrB o Y qo N A/\z w'<=z w+PU ((is.drop i).map (·.w))*131076
 |0,i,hi,Y,w,qo,m,hb,hw,_,_,P,Q=>by refine⟨Y,w,qo,?_,hb,.ah m,by omega⟩;rw[aA (he:=rfl)];have h:¬((i:Int)<(z is:Int)):=(by omega);simp only[gU,h,EVX,seval]
 |n+1,i,hi,Y,w,qo,m,hb,hw,B,l,P,Q=>by
  have h:((i:Int)<(z is:Int)):=(by omega);have h2:i<z is:=(by omega);have g:i<z ns:=(by omega);have E:=wrS i (by omega);have p2:(0:Int)<=(i:Int):=(by omega);have d2:=AP is i h2;have dr:=aaP ns i g;have sl:=jF is;have sn:z (ns.map AV.cV)=z ns:=(by simp);have hj:is[i]∈is:=aB3 h2;have hx:ns[i].length<=4096:=t _ (aB3 g);have dn:is.drop i=is[i]::is.drop (i+1):=ay6 h2;generalize is[i]=j at*;generalize ns[i]=x at*;generalize hR:aJ (is.drop (i+1))=R at*;rw[dn,az3]at P Q⊢;obtain⟨g1,g2⟩:=P;rw[PU]at Q⊢;have cp:=aju j.w;have u:=JV.dt j;have jf:=JV.C j;have jt:(j.B++R).take 5=j.B:=by rw[<-u];simp
  have je:5<=z (j.B++R):=(by simp[u]);have v:j.B.take 5=j.B:=a95 (by rw[JV.dt];exact a06 _);have ab:5<=z j.B:=by rw[JV.dt];exact a06 _
  have sp:∀a b c d e:AV,splice [a,b,c,d,e] 0 j.B=j.B:=λa b c d e=>by simp[splice,u]
  have hL:([.cH j.B FZ]:St).all (AO.below (z Y+1))=eT:=by simp only[a07,az6,aA5,AO.below];exact aK (a99 _) _ j.ay
  have f:=TrB.H (o:=o) (qo:=qo) m hL;have q:=hb.H [.cH j.B FZ];have X:=hw.bk f;have O:(Y++[AO.cH j.B FZ]:St)[z Y]?=J (.cH j.B FZ):=by rw[bK rfl];rfl
  have s1:=λL y=>iF (rfl:z Y=_) L y;have ne:z Y≠o:=by have:=hb.lt;omega
  have nq:qo≠J (z Y):=λe=>by have:=hb.mo e;omega
  have vl:v0<z Y:=(a00.mp l).1;have key:∃k E q2,(if 0<(i:Int)then ai C fO [.c8 o 0,.cU .u8 44] (Y++[AO.cH j.B FZ])=J (.ej,k)else k=Y++[AO.cH j.B FZ])/\Bk k o E q2/\TrB o (Y++[AO.cH j.B FZ]) qo k q2/\z E<=z w+1:=by
   split;·obtain⟨k,q2,e1,e2,e3⟩:=yJ H.toBldHas 44 f.ok q (by omega);exact⟨k,_,q2,e1,e2,e3,by simp⟩
   ·exact⟨_,w,qo,rfl,q,.ah f.ok,by omega⟩
  obtain⟨k,ac,q2,K,k2,M,k4⟩:=key;have F:=X.bk M;obtain⟨Y3,w3,q3,t1,t2,t3,t4⟩:=afu H x hx M.ok k2 (by omega);have Z:=F.bk t3;obtain⟨Y4,q4,V,u2,W⟩:=yJ H.toBldHas 58 t3.ok t2 (by omega);have p:=Z.bk W;have G:=(M.N t3).N W;have s:=G.bv _ _ ne nq O;have v2:=M.bv _ _ hv B (f.bv _ _ hv B l);have D:=G.qn (by simp;omega) B;have v4:=G.bv _ _ hv B (f.bv _ _ hv B l);obtain⟨Y5,w5,q5,e1,e2,e3,e4⟩:=IH j hj o a b Y4 _ q4 W.ok u2 p g1 (by grind);rw[a04,a90,a94]at e4;have aa:=p.bk e3;have v5:=e3.bv _ _ hv D v4;have T:=e3.qn (a00.mp v4).1 D;obtain⟨Y6,w6,q6,f1,f2,f3,f4⟩:=ajC H is ns S t hn IH c0 c1 c2 o a b v0 hv n (i+1) (by omega) Y5 w5 q5 e3.ok e2 aa T v5 g2 (by omega);refine⟨Y6,w6,q6,?_,f2,((f.N G).N e3).N f3,by omega⟩;have ca:=F.ca;have cb:=p.cb;have q58:((58:UInt8).toNat:Int)=58:=rfl;rw[q58]at V;unfold JV.av at e1;rw[aA (he:=rfl)];generalize hk:aH C (ai C) 76 [1,2,3,4,53,54,55] gU=kk at*;by_cases I:0<(i:Int);·rw[if_pos I]at K;simp only[gU,h,h2,g,E,p2,d2,dr,sl,sn,I,K,t1,V,e1,f1,ca,cb,s,v2,s1,u,jf,jt,je,v,sp,jH,a88,AV.cH,EVX,seval]
  ·rw[if_neg I]at K;subst K;simp only[gU,h,h2,g,E,p2,d2,dr,sl,sn,I,t1,V,e1,f1,ca,cb,s,v2,s1,u,jf,jt,je,v,sp,jH,a88,AV.cH,EVX,seval]
set_option maxHeartbeats 1000000 in
def abY(H:QJ C):∀(m:Nat) (j:JV),SizeOf.sizeOf j.w<m->aqw C j
 |0,j,I=>absurd I (by omega)
 |m+1,j,I=>by
  intro o a b Y w p B hb hw Z hl;obtain⟨k,n,t,ns,is,i,h3,h2,h4,rfl⟩:=j.ex;have E:∀x∈is,aqw C x:=λx hx=>abY H m x (by have:=JV.kf k n t ns is i h3 h2 h4 x hx;omega);have ho:=hb.lt;have K:hand eF [(JV.mk k n t ns is i h3 h2 h4).av,.c8 o 0,.c8 a 0,.c8 b 0] Y=J ([(JV.mk k n t ns is i h3 h2 h4).av,.c8 o 0,.c8 a 0,.c8 b 0],Y):=by rw[lF,aO,(JV.nv _).nf,aO,aO,aO];rfl
  have ca:(JV.mk k n t ns is i h3 h2 h4).av=.da [.cU .u8 k,.cU r n,.cV t,.sl (z ns) (ns.map .cV),.sl (z is) (aJ is)]:=by unfold JV.av;rw[JV.bB]
  obtain⟨⟨T,V,g3⟩,F⟩:(z t<=4096/\(∀x∈ns,z x<=4096)/\(k≠4->k≠5->is.map (λx:JV=>x.w)=[]))/\ZT (is.map λx:JV=>x.w):=Z;have ct:(JV.mk k n t ns is i h3 h2 h4).w.g4=PU (is.map (·.w))+1:=rfl;rw[ct]at hl⊢;have X:([.cH [.cU .u8 k,.cU r n,.cV t,.sl (z ns) (ns.map .cV),.sl (z is) (aJ is)] FZ]:St).all (AO.below (z Y+1))=eT:=by have:=aK (a99 (z Y+1)) _ (JV.ay (JV.mk k n t ns is i h3 h2 h4));rw[JV.bB]at this;simp only[a07,az6,aA5,AO.below];exact this
  have c:=TrB.H (o:=o) (qo:=p) B X;have d:=hb.H [.cH [.cU .u8 k,.cU r n,.cV t,.sl (z ns) (ns.map .cV),.sl (z is) (aJ is)] FZ];have l:=hw.bk c;have g:(Y++[AO.cH [.cU .u8 k,.cU r n,.cV t,.sl (z ns) (ns.map .cV),.sl (z is) (aJ is)] FZ]:St)[z Y]?=J (.cH [.cU .u8 k,.cU r n,.cV t,.sl (z ns) (ns.map .cV),.sl (z is) (aJ is)] FZ):=by rw[bK rfl];rfl
  have s1:=λL y=>iF (rfl:z Y=_) L y;have ne:z Y≠o:=(by omega);have D:p≠J (z Y):=λe=>by have:=hb.mo e;omega
  have W:=l.ca;suffices hh:∃(S:St) (q:LU) (f:Option Nat),Bk S o q f/\TrB o (Y++[.cH [.cU .u8 k,.cU r n,.cV t,.sl (z ns) (ns.map .cV),.sl (z is) (aJ is)] FZ]) p S f/\z q+65538<=z w+(PU (is.map λx:JV=>x.w)+1)*131076/\ai C uD [(JV.mk k n t ns is i h3 h2 h4).av,.c8 o 0,.c8 a 0,.c8 b 0] Y=J (bW [],tidy (z Y) [] S) by obtain⟨S,q,f,x1,x2,x3,x4⟩:=hh;obtain⟨y1,y2⟩:=YG [] ho (c.N x2) x1;exact⟨_,_,_,x4,y2,y1,x3⟩
  rw[ca]at K⊢;rw[H.mT.go K];by_cases M:k=1
  ·subst M;cases G:(n==1)with
   |true=>obtain⟨S,f,r1,r2,r3⟩:=FT H.toBldHas [116,114,117,101] c.ok d (by simp;omega);exact⟨S,_,f,r2,r3,by simp;omega,by simp only[kz,G,r1,g,AV.cH,EVX,seval]⟩
   |false=>obtain⟨S,f,r1,r2,r3⟩:=FT H.toBldHas [102,97,108,115,101] c.ok d (by simp;omega);exact⟨S,_,f,r2,r3,by simp;omega,by simp only[kz,G,r1,g,AV.cH,EVX,seval]⟩
  by_cases N:k=2;·subst N;obtain⟨x,x1,x2⟩:=H.ht n _ c.ok;obtain⟨S,f,r1,r2,r3⟩:=FT H.toBldHas x c.ok d (by omega);exact⟨S,_,f,r2,r3,by simp;omega,by simp only[kz,x1,r1,g,AV.cH,EVX,seval]⟩
  by_cases O:k=3;·subst O;obtain⟨S,q,f,r1,r2,r3,r4⟩:=afu H t T c.ok d (by omega);exact⟨S,q,f,r2,r3,by omega,by simp only[kz,r1,W,g,jH,AV.cH,a09,EVX,seval]⟩
  by_cases P:k=4;·subst P;obtain⟨s,q1,r1,r2,r3⟩:=yJ H.toBldHas 91 c.ok d (by omega);obtain⟨R,w2,q2,e1,e2,e3,e4⟩:=aft H is h2 E o a b (z is) 0 (by omega) s _ q1 r3.ok r2 (l.bk r3) F (by rw[a04,a90,a94,ay9];omega);obtain⟨u,q3,f1,v,A⟩:=yJ H.toBldHas 93 e3.ok e2 (by rw[a04,a90,a94,ay9]at e4;omega);rw[a04,a90,a94,ay9]at e4;have h:=r3.bv _ _ ne D g;rw[show(((91:UInt8).toNat:Nat):Int)=91 from rfl]at r1;rw[show(((93:UInt8).toNat:Nat):Int)=93 from rfl]at f1;simp only[ay1]at e1;exact⟨u,_,q3,v,(r3.N e3).N A,by rw[a04,a90,a94];omega,by simp only[kz,r1,e1,f1,h,g,AV.cH,bP,EVX,seval]⟩
  by_cases Q:k=5;·subst Q;have h5:=h3 rfl;obtain⟨s,q1,r1,r2,r3⟩:=yJ H.toBldHas 123 c.ok d (by omega);have h:=r3.bv _ _ ne D g;obtain⟨R,w2,q2,e1,e2,e3,e4⟩:=ajC H is ns (by omega) V h2 E _ _ _ o a b (z Y) ne (z is) 0 (by omega) s _ q1 r3.ok r2 (l.bk r3) (r3.qn (by simp) D) h F (by rw[a04,a90,a94,ay9];omega);rw[a04,a90,a94,ay9]at e4;obtain⟨u,q3,f1,v,A⟩:=yJ H.toBldHas 125 e3.ok e2 (by omega);rw[show(((123:UInt8).toNat:Nat):Int)=123 from rfl]at r1;rw[show(((125:UInt8).toNat:Nat):Int)=125 from rfl]at f1;simp only[ay1]at e1;exact⟨u,_,q3,v,(r3.N e3).N A,by rw[a04,a90,a94];omega,by simp only[kz,r1,e1,f1,h,g,AV.cH,bP,EVX,seval]⟩
  have n1:(k==1)=eF:=(by simpa using M);have n2:(k==2)=eF:=(by simpa using N);have n3:(k==3)=eF:=(by simpa using O);have n4:(k==4)=eF:=(by simpa using P);have n5:(k==5)=eF:=(by simpa using Q);exact⟨_,w,p,d,.ah c.ok,by omega,by simp only[kz,n1,n2,n3,n4,n5,g,AV.cH,EVX,seval]⟩
def TrB.cj{o n:Nat}{O Y S:St}{d:Option Nat}(h:TrB o Y U S d)(b:n=z O)(c:Y.take n=O)(f:n<=o):S.take n=O:=by
 subst b;apply aA9;intro i;rw[aA4];split
 ·rename_i hi;have a:(Y.take (z O))[i]?=J O[i]:=by rw[c];exact a02 hi
  rw[aA4,if_pos hi]at a;rw[h.bv i _ (by omega) (λe=>by cases e) a,a02 hi]
 ·rw[aA1 (by omega)]
def X3(H:QJ C)(V:J6 C PK)(j:JV)(O:St)(a:Ok O):∃(s:LU) (e:Int),ai C dZ [j.av] O=J (.df [.cV s,.cU r e],O)/\z s<=LB:=by
 have i:hand eF [j.av] O=J ([j.av],O):=NVs.e (.cW j.nv .de) _;have g:Ok (O++[.cH j.B FZ]):=a.H (by rw[a07,show AO.below 0 (.cH j.B FZ)=eT from j.ay];rfl);obtain⟨b,l,t⟩:=Vt V j _ g;have u:=λ(s:LU) (e:Int)=>bz a (vs:=[.cV s,.cU r e]) rfl;have k:=JV.dt j;have d:j.B.take 5=j.B:=a95 (by rw[JV.dt];exact a06 _);have o:5<=z j.B:=by rw[JV.dt];exact a06 _
 cases b with
 |false=>refine⟨[],3,?_,lb0⟩;unfold JV.av at*;rw[H.mR.go i];simp only[Be,l,k,d,u,AV.cH,EVX,seval]
 |true=>
  obtain⟨x,n⟩:=t rfl
  let B:St:=[.cH j.B FZ,.cH [.ev,.cY] bT,.cH [.ea (.func yj) [] [.c8 (z O+1) 0]] FZ,.cH [.ea (.func uD) [] [.c8 (z O+1) 0,.c8 (z O+2) 0,.c8 (z O+3) 0]] FZ]
  have okB:Ok (O++B):=a.eG (by
   have:=aK (a99 (z O+4)) _ j.ay;simp[B,AO.below,ae,below,this])
  have m:Bk (O++B) (z O+1) [] U:=⟨.ev,.cY,by rw[aN];rfl,.inl rfl,.inl ⟨rfl,rfl,rfl⟩⟩;have v:WE (z O+1) (z O+2) (z O+3) (O++B) U:=⟨by omega,by omega,by simp,by simp,by rw[aN];rfl,by rw[aN];rfl⟩;obtain⟨S,w,A,e1,e2,e3,e4⟩:=abY H _ j (aH0 _) (z O+1) (z O+2) (z O+3) _ [] U okB m v n (by simp only[a94];omega);simp only[a94]at e4;have tk:S.take (z O)=O:=e3.cj rfl (by simp) (by omega);have fin:∃f,ai C fJ [.c8 (z O+1) 0] S=J (.cV w,f)/\f.take (z O)=O:=by
   obtain⟨p,c,x1,x2,x3⟩:=e2;rcases x3 with⟨_,rfl,rfl⟩|⟨q,x3,x4,x5,rfl,x6⟩;·exact⟨S,H.kt _ _ _ x1,tk⟩
   ·refine⟨_,H.ku _ _ _ _ _ x1 x6 x5 (by omega),?_⟩;rcases e3.q q x3 with h|h;·cases h
    ·have y:z (O++B)=z O+4:=(by simp[B]);rw[dK _ _ _ (by omega),tk]
  obtain⟨f,s1,s2⟩:=fin;have tq:=pG (vs:=[.cV w,.cU r 0]) a rfl s2;refine⟨w,0,?_,by simp only[LB];omega⟩;dsimp only[B,bT]at e1;unfold JV.av at*;rw[H.mR.go i];simp only[Be,l,e1,s1,tq,k,d,jH,AV.cH,AV.C,splice,EVX,seval]
structure YT(C:Ctx):Prop extends CopyHas C where
 fz:∀xs:List EL,xs≠[]->xs.length<=8192->∀O,Ok O->ai C fE [.sl xs.length (dH xs)] O=some (.dj O.length 0 xs.length 6,O++[.cH (dH xs) FZ])
 kq:SK C lW Ir
 of:Has C jW zI
def Bf(Y:St)(lo n sz:Nat)(l:LA)(x:AV):Prop:=(n=0/\x=.cY)\/(0<n/\∃q,x=.dj q 0 n sz/\Y[q]?=J (.cH l FZ)/\lo<=q)
def Bf.cE{Y:St}{lo n sz:Nat}{l:LA}{x:AV}(h:Bf Y lo n sz l x):same x x=eT:=by
 rcases h with⟨_,rfl⟩|⟨_,q,rfl,_⟩;·rfl
 ·exact agG ..
theorem Bf.flat{Y:St}{lo n sz:Nat}{l:LA}{x:AV}(h:Bf Y lo n sz l x):x.C=eT:=by rcases h with⟨_,rfl⟩|⟨_,q,rfl,_⟩<;>rfl
theorem Bf.D{Y a:St}{lo n sz:Nat}{l:LA}{x:AV}(h:Bf Y lo n sz l x)(k:∀q w,lo<=q->x=.dj q 0 n sz->Y[q]?=J w->a[q]?=J w):Bf a lo n sz l x:=by
 rcases h with h|⟨b,q,e,c,h2⟩;·exact .inl h
 ·exact .inr ⟨b,q,e,k q _ h2 e c,h2⟩
def VF {Y:St} {lo n sz bytes:Nat} {l:LA} {x:AV} (cs:LA) (h:Bf Y lo n sz l x) (b:z l=n*sz) (hb:(n+1)*bytes<=70368744177664) (c:n+1<=70368744177664) (hok:Ok Y):
  ∃S:St,tX Y sz bytes U x 1 cs=J (.dj (z Y) 0 (n+1) sz,S++[.cH (l++cs) FZ])/\z S=z Y/\(∀i w,x≠ .dj i 0 n sz\/i<lo->Y[i]?=J w->S[i]?=J w)/\Ok S:=by
 rcases h with⟨rfl,rfl⟩|⟨d,q,rfl,a,h2⟩;·refine⟨Y,?_,rfl,λ_ _ _ h=>h,hok⟩;have:l=[]:=az0 (by omega);subst this;rw[J7 _ U cs (by omega) (by omega) (by omega)];rfl
 ·refine⟨Y.set q .eq,?_,by simp,λi w hi h=>aG h (by
   rcases hi with hi|hi;·exactλe=>hi (by rw[e])
   ·omega) _,hok.bd _ rfl⟩
  exact MR cs a (by omega) b hb c
structure OI(O:St)(xs:List EL)(i:Nat)(x1 x2:AV)(Y:St):Prop where
 ok:Ok Y
 bp:Y[O.length]?=some kG
 ed:Y[O.length+1]?=some (.cH (dH xs) FZ)
 v:Y[O.length+2]?=some (.cH [.cU .u8 5,.cU .i64 0,.cV [],x1,x2] FZ)
 a1:Bf Y (O.length+3) i 1 (kL (xs.take i)) x1
 a2:Bf Y (O.length+3) i 5 (vJ (xs.take i)) x2
 ne:∀q,x1=.dj q 0 i 1->x2≠ .dj q 0 i 5
 b4:Y.take O.length=O
def acZ(xs:List EL):ae 0 (kL xs)=eT:=by have:=uU (xs.map λx=>x.1.1);rwa[List.map_map]at this
def acG (H:YT C) (O:St) (xs:List EL) (hN:z xs<=8192):∀(n i:Nat),i+n=z xs->∀(x1 x2:AV) (Y:St),OI O xs i x1 x2 Y->
  (∃p s a,aH C (ai C) 51 [2,4,5,13,14,15] dD [(2,.c8 (z O) 0),(4,.dj (z O+1) 0 (z xs) 6),(5,.c8 (z O+2) 0),(13,.dj (z O+1) 0 (z xs) 6),(14,.cU r (z xs)),(15,.cU r i)] Y=J (.dq 0,[(2,.c8 (z O) 0),(5,.c8 (z O+2) 0)],a)/\OI O xs (z xs) p s a)\/
  (∃a,aH C (ai C) 51 [2,4,5,13,14,15] dD [(2,.c8 (z O) 0),(4,.dj (z O+1) 0 (z xs) 6),(5,.c8 (z O+2) 0),(13,.dj (z O+1) 0 (z xs) 6),(14,.cU r (z xs)),(15,.cU r i)] Y=J (.ef,[(2,.c8 (z O) 0),(3,.cU r 7)],a)/\a[z O]?=J kG/\a.take (z O)=O)
 |0,i,hi,x1,x2,Y,I=>by
  have h:¬((i:Int)<(z xs:Int)):=by omega
  refine .inl ⟨x1,x2,Y,?_,by have:i=z xs:=by omega
                             subst this;exact I⟩
  rw[aA (he:=rfl)];simp only[dD,h,EVX,seval]
 |n+1,i,hi,x1,x2,Y,I=>by
  obtain⟨hok,hres,b,hv,E,g,ab,hpre⟩:=I;have G:i<z xs:=(by omega);have h:((i:Int)<(z xs:Int)):=(by omega);have pi:(0:Int)<=(i:Int):=(by omega);have u:=wrS i (by omega);have di:=FP xs i G;have ht:xs.take (i+1)=xs.take i++[xs[i]]:=(by rw[aC5 G]);have lt:z (xs.take i)=i:=by simp;omega
  have K:=KY (xs.take i);have M:=PR (xs.take i);rw[lt]at K M;have ca:∀l,AV.cH (.da l)=l:=λ_=>rfl;have nl:z O+2<z Y:=(a00.mp hv).1;have j:0<i->∃(y:EL),(dH xs).drop ((i-1)*6)=elC y++(dH (xs.drop i)):=λh0=>by have:=FP xs (i-1) (by omega);rw[show i-1+1=i by omega]at this;exact⟨_,this⟩
  generalize hm:xs[i]=x at*;have af:Ok (Y++[.cH (elC x) FZ]):=hok.H (by rw[a07,show AO.below 0 (.cH (elC x) FZ)=eT from Kz x];rfl);have r0:=λL=>aj b L;have b0:=λL=>aj hv L;have c0:=λL=>aj hres L;have aa:=λL y=>fK hres L y;have V:=λL=>bK (rfl:z Y=_) L;have s1:=λL y=>iF (rfl:z Y=_) L y;have eh:(elC x).head? =J (.cV x.1.1):=rfl;have et:(elC x).drop 1=x.2.B:=rfl;have ek:x.2.B.take 5=x.2.B:=a95 (by rw[JV.dt];exact a06 _);have el:5<=z x.2.B:=by rw[JV.dt];exact a06 _
  have jl:=JV.dt x.2;have jf:=JV.C x.2;have ac:x1≠ .dj (z Y) 0 i 1:=λe=>by
   rcases E with⟨_,d⟩|⟨_,q,d,t,_⟩;·rw[d]at e;cases e
   ·rw[d]at e;have:=(a00.mp t).1;cases e;omega
  have ah:∀q,x2=.dj q 0 i 5->q<z Y:=λq e=>by
   rcases g with⟨_,d⟩|⟨_,q',d,t,_⟩;·rw[d]at e;cases e
   ·rw[d]at e;have:=(a00.mp t).1;cases e;exact this
  obtain⟨S1,n1,Z,v,n4⟩:=VF (bytes:=16) [.cV x.1.1] (E.D λq w hq e u=>aj u [AO.cH (elC x) FZ]) (by rw[K,aB5]) (by omega) (by omega) af;rw[<-NL,a04,a90,a94]at n1;rw[a04,a90,a94]at Z;simp only[az5]at n1 Z;have v1:=v _ _ (.inr (by omega)) (b0 [AO.cH (elC x) FZ]);have r1:=v _ _ (.inr (by omega)) (r0 [AO.cH (elC x) FZ]);have c1:=v _ _ (.inr (by omega)) (c0 [AO.cH (elC x) FZ]);have an:=v (z Y) _ (.inl ac) (by rw[V];rfl);have A:=λL=>aj v1 L;have m:=λL y=>fK v1 L y;have f:=λL=>aj (aX v1 (.cH [.cU .u8 5,.cU r 0,.cV [],.dj (z Y+1) 0 (i+1) 1,x2] FZ)) L;have D:=λL=>aj (aG an (show z Y≠z O+2 by omega) (.cH [.cU .u8 5,.cU r 0,.cV [],.dj (z Y+1) 0 (i+1) 1,x2] FZ)) L;have S:Ok (S1.set (z O+2) (.cH [.cU .u8 5,.cU r 0,.cV [],.dj (z Y+1) 0 (i+1) 1,x2] FZ)++[AO.cH (kL (xs.take i++[x])) FZ]):=by
   have:=(n4.H (L:=[AO.cH (kL (xs.take i++[x])) FZ]) (by
    rw[a07,show AO.below 0 (AO.cH (kL (xs.take i++[x])) FZ)=eT from acZ _];rfl)).bd (z O+2) (x:=(.cH [.cU .u8 5,.cU r 0,.cV [],.dj (z Y+1) 0 (i+1) 1,x2] FZ)) (by
    have h2:below (z Y+1+1) x2=eT:=by have:=a97.mp hok _ (a08 hv);simp only[AO.below,ae,below,aA5,a01]at this;exact below_mono (by omega) x2 this.2.2.2.2
    simp only[AO.below,ae,below,aA5,aA6,a01,decide_eq_true_eq,a04,a90,a94,Z];exact⟨by omega,h2⟩)
   rwa[m]at this
  have L2:z (S1.set (z O+2) (.cH [.cU .u8 5,.cU r 0,.cV [],.dj (z Y+1) 0 (i+1) 1,x2] FZ))=z Y+1:=(by rw[a96,Z]);have F:Bf (S1.set (z O+2) (.cH [.cU .u8 5,.cU r 0,.cV [],.dj (z Y+1) 0 (i+1) 1,x2] FZ)++[AO.cH (kL (xs.take i++[x])) FZ]) (z O+3) i 5 (vJ (xs.take i)) x2:=g.D λq w hq e u=>aj (aG (v q w (.inl λd=>ab q d e) (aj u _)) (by omega) _) _;have cpy:=LG H.toCopyHas x.2 _ S;have sx:=g.cE;obtain⟨T,X,N,P,m4⟩:=VF (bytes:=80) x.2.B F M (by omega) (by omega) S;rw[<-Sl,a04,L2,a90,a94]at X;rw[a04,L2,a90,a94]at N;simp only[az5,aF1,Nat.reduceAdd]at X N;have v3:=P _ _ (.inr (by omega)) (f [AO.cH (kL (xs.take i++[x])) FZ]);have r3:=P _ _ (.inr (by omega)) (aj (aG r1 (show z O+1≠z O+2 by omega) (.cH [.cU .u8 5,.cU r 0,.cV [],.dj (z Y+1) 0 (i+1) 1,x2] FZ)) [AO.cH (kL (xs.take i++[x])) FZ]);have c3:=P _ _ (.inr (by omega)) (aj (aG c1 (show z O≠z O+2 by omega) (.cH [.cU .u8 5,.cU r 0,.cV [],.dj (z Y+1) 0 (i+1) 1,x2] FZ)) [AO.cH (kL (xs.take i++[x])) FZ]);have Q:=P (z Y+1) (AO.cH (kL (xs.take i++[x])) FZ) (.inl λe=>by have:=ah _ e;omega) (by rw[bK L2];rfl);have B:=λL=>aj v3 L;have o:=λL y=>fK v3 L y;have al:T.take (z O)=O:=by
   apply aA9;intro k;rw[aA4];split
   ·rename_i W;have t:(Y.take (z O))[k]?=J O[k]:=by rw[hpre];exact a02 W
    rw[aA4,if_pos W]at t;rw[P k _ (.inr (by omega)) (aj (aG (v k _ (.inr (by omega)) (aj t _)) (by omega) _) _),a02 W]
   ·rw[aA1 (by omega)]
  have ad:Ok (T.set (z O+2) (.cH [.cU .u8 5,.cU r 0,.cV [],.dj (z Y+1) 0 (i+1) 1,.dj (z Y+2) 0 (i+1) 5] FZ)++[AO.cH (vJ (xs.take i++[x])) FZ]):=by
   have:=(m4.H (L:=[AO.cH (vJ (xs.take i++[x])) FZ]) (by
    rw[a07,show AO.below 0 (AO.cH (vJ (xs.take i++[x])) FZ)=eT from gY _];rfl)).bd (z O+2) (x:=(.cH [.cU .u8 5,.cU r 0,.cV [],.dj (z Y+1) 0 (i+1) 1,.dj (z Y+2) 0 (i+1) 5] FZ)) (by
    simp only[AO.below,ae,below,aA5,aA6,a01,decide_eq_true_eq,a04,a90,a94,N];omega)
   rwa[o]at this
  have I2:OI O xs (i+1) (.dj (z Y+1) 0 (i+1) 1) (.dj (z Y+2) 0 (i+1) 5) (T.set (z O+2) (.cH [.cU .u8 5,.cU r 0,.cV [],.dj (z Y+1) 0 (i+1) 1,.dj (z Y+2) 0 (i+1) 5] FZ)++[AO.cH (vJ (xs.take i++[x])) FZ]):=by
   rw[<-ht]at Q⊢;refine⟨by rw[ht];exact ad,aj (aG c3 (by omega) _) _,aj (aG r3 (by omega) _) _,aj (aX v3 _) _,.inr ⟨by omega,_,rfl,aj (aG Q (by omega) _) _,by omega⟩,.inr ⟨by omega,_,rfl,?_,by omega⟩,λq e1 e2=>(by injection e1;injection e2;omega),?_⟩;·rw[bK (by rw[a96,N])];rfl
   ·rw[oD _ _ _ (by rw[a96,N];omega),dK _ _ _ (by omega),al]
  have ak:=acG H O xs hN n (i+1) (by omega) _ _ _ I2
  have go:∀co,aH C (ai C) 51 [2,4,5,13,14,15] dD [(2,.c8 (z O) 0),(4,.dj (z O+1) 0 (z xs) 6),(5,.c8 (z O+2) 0),(13,.dj (z O+1) 0 (z xs) 6),(14,.cU r (z xs)),(15,.cU r (i+1:Nat))] (T.set (z O+2) (.cH [.cU .u8 5,.cU r 0,.cV [],.dj (z Y+1) 0 (i+1) 1,.dj (z Y+2) 0 (i+1) 5] FZ)++[AO.cH (vJ (xs.take i++[x])) FZ])=co->
    (aH C (ai C) 51 [2,4,5,13,14,15] dD [(2,.c8 (z O) 0),(4,.dj (z O+1) 0 (z xs) 6),(5,.c8 (z O+2) 0),(13,.dj (z O+1) 0 (z xs) 6),(14,.cU r (z xs)),(15,.cU r i)] Y=co\/∃a,aH C (ai C) 51 [2,4,5,13,14,15] dD [(2,.c8 (z O) 0),(4,.dj (z O+1) 0 (z xs) 6),(5,.c8 (z O+2) 0),(13,.dj (z O+1) 0 (z xs) 6),(14,.cU r (z xs)),(15,.cU r i)] Y=J (.ef,[(2,.c8 (z O) 0),(3,.cU r 7)],a)/\a[z O]?=J kG/\a.take (z O)=O):=λco e=>by
   have c:=cpy;unfold JV.av at c;rw[aA (he:=rfl)];generalize W:aH C (ai C) 51 [2,4,5,13,14,15] dD=kk at*;by_cases hz:(i:Int)>0;·obtain⟨y,dy⟩:=j (by omega);have w1:IntKind.i64.wrap ((i:Int)-1)=((i-1:Nat):Int):=wrE (by omega);have l1:i-1<z xs:=(by omega);have p1:(0:Int)<=((i-1:Nat):Int):=(by omega);have hy:∀R,(elC y++R).head? =J (.cV y.1.1):=λ_=>rfl;cases hd:decide (y.1.1=x.1.1)with|true=>refine .inr ⟨Y.set (z O) kG++[AO.cH (elC x) FZ],?_,aj (aX hres _) _,by rw[oD _ _ _ (by simp;omega),dK _ _ _ (a06 _),hpre]⟩;dsimp only[kG]at*;simp only[hz,dy,w1,l1,p1,hy,hd,c0,aa,dD,h,G,pi,di,b,r0,V,s1,eh,ca,wF,jB,oZ,splice,a88,a04,aE9,EVX,seval]|false=>refine .inl ?_;simp only[hz,dy,w1,l1,p1,hy,hd,dD,h,G,pi,u,di,b,r0,b0,V,s1,eh,et,ek,jl,jf,n1,A,m,f,D,c,sx,X,B,o,e,ca,wF,jB,oZ,splice,a88,a04,aE9,EVX,seval]
   ·refine .inl ?_;simp only[hz,dD,h,G,pi,u,di,b,b0,V,s1,eh,et,ek,jl,jf,n1,A,m,f,D,c,sx,X,B,o,e,ca,wF,jB,oZ,splice,a88,a04,aE9,EVX,seval]
  rcases ak with⟨p,s,a,e1,e2⟩|⟨a,e1,e2⟩
  ·rcases go _ e1 with e|e;·exact .inl ⟨p,s,a,e,e2⟩
   ·exact .inr e
  ·rcases go _ e1 with e|e;·exact .inr ⟨a,e,e2⟩
   ·exact .inr e
def Xw(H:YT C)(xs:List EL)(A:xs≠[])(M:z xs<=8192)(O:St)(h:Ok O):∃(j:JV) (e:Int),ai C jW [.sl (z xs) (dH xs)] O=J (.df [j.av,.cU r e],O):=by
 have N:hand eF [.sl (z xs) (dH xs)] O=J ([.sl (z xs) (dH xs)],O):=NVs.e (.cW (.sl _ (wG xs)) .de) _;have cl:=H.fz xs A M (O++[kG]) (h.H rfl);have w:∀i:List EL,AO.below 0 (.cH (dH i) FZ)=eT:=wG;obtain⟨i,D,m⟩:=H.kq (O++[kG,.cH (dH xs) FZ]) (h.H (by rw[a07,a07,w];rfl)) (z O+1) (by simp) U (z xs) (by omega) xs rfl;unfold row at m;rw[fF,fF]at m;dsimp only[List.set,afk]at m;have F:OI O i 0 .cY .cY (O++[kG,.cH (dH i) FZ,.cH [.cU .u8 5,.cU r 0,.cV [],.cY,.cY] FZ]):=by refine⟨h.H (by rw[a07,a07,w];rfl),by rw[aF];rfl,by rw[aN];rfl,by rw[aN];rfl,.inl ⟨rfl,rfl⟩,.inl ⟨rfl,rfl⟩,λq e=>(by cases e),by simp⟩
 have v:=acG H O i (by omega) (z i) 0 (by omega) _ _ _ F;rw[D]at v;have n:O.set (z O) .eq=O:=List.set_eq_of_length_le (a06 _);have l:∀a b c:AO,(O++[a,b,c]:St)[z O+2]?=J c:=λa b c=>by rw[aN];rfl
 have fin:∃(j:JV) (e:Int) (x:RX),aH C (ai C) 51 [2,4,5,13,14,15] dD [(2,.c8 (z O) 0),(4,.dj (z O+1) 0 (z xs) 6),(5,.c8 (z O+2) 0),(13,.dj (z O+1) 0 (z xs) 6),(14,.cU r (z xs)),(15,.cU r 0)] (O++[kG,.cH (dH i) FZ,.cH [.cU .u8 5,.cU r 0,.cV [],.cY,.cY] FZ])=x/\
   ((x=J (.ef,[(2,.c8 (z O) 0),(3,.cU r 7)],(match x with|J (_,_,Y)=>Y|U=>[]))/\∀E,look E 2=.c8 (z O) 0->look E 3=.cU r 7->mD (z O) [.eS 2 eT 5,.fX 3] (J (.ef,E,(match x with|J (_,_,Y)=>Y|U=>[])))=J (.df [j.av,.cU r e],O))\/
    ∃g c,x=J (.dq 0,[(2,.c8 (z O) 0),(5,.c8 (z O+2) 0)],g)/\g[z O]?=J kG/\g[z O+2]?=J (.cH c FZ)/\z c=5/\c.all AV.C=eT/\∀E,look E 2=.c8 (z O) 0->look E 3=.cU r 0->mD (z O) [.eS 2 eT 5,.fX 3] (J (.ef,E,g.set (z O) (.cH c FZ)))=J (.df [j.av,.cU r e],O)):=by
  simp only[ay1]at v;rcases v with⟨x1,x2,g,l1,l2⟩|⟨g,l1,l2,l3⟩
  ·obtain⟨hok,hres,B,hv,s,t,u,hpre⟩:=l2;have T:¬z xs=0:=λe=>A (az0 e);rcases s with⟨e,_⟩|⟨_,q1,rfl,a1,a2⟩;·omega
   rcases t with⟨e,_⟩|⟨_,q2,rfl,b1,Q⟩;·omega
   rw[a95 (by omega)]at a1 b1;refine⟨abo i (by omega),0,_,l1,.inr ⟨g,_,rfl,hres,hv,rfl,rfl,λE h2 h3=>?_⟩⟩;have:=adO (Y:=g.set (z O) (.cH [.cU .u8 5,.cU r 0,.cV [],.dj q1 0 (z xs) 1,.dj q2 0 (z xs) 5] FZ)) (o:=z O) (x:=.eq) h rfl 0 E h2 h3 (by rw[dK _ _ _ (a06 _),hpre,n]) i (by omega) q1 q2 (by rw[D];exact aX hres _) (aG a1 (by omega) _) (aG b1 (by omega) _) (by omega) (by omega) (λe=>u q1 rfl (by rw[e]));rwa[n]at this
  ·refine⟨JV.aa,7,_,l1,.inl ⟨rfl,λE h2 h3=>?_⟩⟩;have:=Js (Y:=g) (o:=z O) (x:=.eq) h rfl 7 E h2 h3 (by rw[l3,n]) l2;rwa[n]at this
 obtain⟨j,e,x,f1,k⟩:=fin;refine⟨j,e,?_⟩;rw[H.of.go N];generalize S:mD=R at*;rcases k with⟨k,p⟩|⟨g,c,k,I,K,y,L,p⟩;·generalize(match x with|J (_,_,Y)=>Y|U=>[])=g at*;rw[k]at f1;have G:=p [(2,.c8 (z O) 0),(3,.cU r 7)] rfl rfl;unfold kG at*;simp only[zI,cl,m,f1,G,l,splice,AV.cH,AV.C,EVX,seval]
 ·rw[k]at f1;have t5:c.take 5=c:=a95 (by omega);have P:∀a b d e f:AV,splice [a,b,d,e,f] 0 c=c:=λa b d e f=>by simp[splice,y]
  unfold kG at*;simp only[zI,cl,m,f1,l,I,K,y,L,t5,P,AV.cH,AV.C,EVX,seval];refine p _ ?_ ?_<;>rfl
def U4:List Sh:=[.ds,.cU r,.cU r,.eB [.ds,.ds]]
structure DK(C:Ctx)(PK:PkI):Prop where
 eW:dh C PK LW (.pk [.ds] .ds)
 ht:dh C PK Nw (.pk [.ds,.cU .i64,.cU .i64] (.cU .i64))
 bx:dh C PK Iq (.pk [.ds,.cU .i64] .jv)
 eD:dh C PK LV (.pk [.cU .i64] (.df []))
 mN:dh C PK LQ (.pk [] (.cU .i64))
 of:dh C PK ac7 (.iP [.jv])
 ck:dh C PK Ug (.ez [.ds,.jv] (.df [.da U4,.cU .i64]))
 nw:dh C PK Em (.ez [.ds] (.df [.cU .i64,.cU .i64]))
 kN:dh C PK kE (.ez [.jv] .cX)
 mn:Has C Uh SB
 mm:Has C yC Dh
 i8:Has C uo EU
 i7:Has C um ET
 mj:Has C yB Df
 hc:Has C yA Ov
def NT{f:FuncId}{args:List Sh}{res:Sh}(h:dh C PK f (.pk args res)){O:St}{o:Nat}{ms:List Nat}{azs:LA}(b:Ok O)(d:NVs azs)(e:PK.ok O o ms)(c:Mt V0 args azs):∃v a,ai C f (.c8 o 0::azs) O=J (v,a)/\M V0 res v/\Ok a/\z a=z O/\(∀i,i∉o::ms->a[i]?=O[i]?)/\PK.ok a o ms:=
 h O o ms azs azs O b (by rw[lF,aO,d.nf];rfl) b e c
def adm(n0 p:Nat)(os:List Nat)(Y:St)(x:AV):Prop:=x=.cY\/∃q rs,x=.dj q 0 (z rs) 4/\Y[q]?=J (.cH rs.flatten FZ)/\z rs<=LS/\MRs V0 U4 rs/\q∉os/\q≠p/\n0<=q
structure SI(PK:PkI)(O0:St)(o p:Nat)(ms:List Nat)(x:AV)(Y:St):Prop where
 ok:Ok Y
 pk:PK.ok Y o ms
 lt:∀i∈o::ms,i<Y.length
 ge:∀i∈o::ms,O0.length<=i
 np:p∉o::ms
 gp:O0.length<=p
 s:∃a b,Y[p]?=some (.cH [.cU .i64 a,.cU .i64 b,x] FZ)
 dz:adm O0.length p (o::ms) Y x
 an:∀(i:Nat) (y:AO),O0[i]?=some y->Y[i]?=some y
def SI.pl{O0:St}{o p:Nat}{ms:List Nat}{x:AV}{Y:St}(h:SI PK O0 o p ms x Y):p<z Y:=by obtain⟨a,b,h⟩:=h.s;exact(a00.mp h).1
def SI.gL{O0:St}{o p:Nat}{ms:List Nat}{x:AV}{Y c:St}(h:SI PK O0 o p ms x Y)(g:Ok c)(h2:z c=z Y)(h3:∀i,i∉o::ms->c[i]?=Y[i]?)(h4:PK.ok c o ms):SI PK O0 o p ms x c:=by
 obtain⟨a,b,hs⟩:=h.s;refine⟨g,h4,λi hi=>by rw[h2];exact h.lt i hi,h.ge,h.np,h.gp,⟨a,b,by rw[h3 _ h.np];exact hs⟩,?_,λi y d=>?_⟩
 ·rcases h.dz with j|⟨q,rs,e1,e2,e3,e4,e5,e,f⟩;·exact .inl j
  ·exact .inr ⟨q,rs,e1,by rw[h3 _ e5];exact e2,e3,e4,e5,e,f⟩
 ·rw[h3];·exact h.an i y d
  ·intro hi;have:=h.ge i hi;have:=(a00.mp d).1;omega
def SI.H{O0:St}{o p:Nat}{ms:List Nat}{x:AV}{Y:St}(h:SI PK O0 o p ms x Y)(L:St)(e:L.all (AO.below (z Y+z L))=eT):SI PK O0 o p ms x (Y++L):=by
 obtain⟨a,b,hs⟩:=h.s;refine⟨h.ok.eG e,PK.fr h.pk λi hi=>by rw[aA3 (h.lt i hi)],λi hi=>by rw[a04];have:=h.lt i hi;omega,h.ge,h.np,h.gp,⟨a,b,aj hs L⟩,?_,λi y g=>aj (h.an i y g) L⟩;rcases h.dz with f|⟨q,rs,e1,e2,e3,e4,e5,c,d⟩;·exact .inl f
 ·exact .inr ⟨q,rs,e1,aj e2 L,e3,e4,e5,c,d⟩
def SI.co{O0:St}{o p:Nat}{ms:List Nat}{x:AV}{Y:St}(h:SI PK O0 o p ms x Y)(a b:Int):SI PK O0 o p ms x (Y.set p (.cH [.cU r a,.cU r b,x] FZ)):=by
 obtain⟨k,l,hs⟩:=h.s;refine⟨h.ok.bd p ?_,PK.fr h.pk λi hi=>?_,λi hi=>by rw[a96];exact h.lt i hi,h.ge,h.np,h.gp,⟨a,b,aX hs _⟩,?_,λi y f=>?_⟩;·have:=a97.mp h.ok _ (a08 hs);simp only[AO.below,ae,below,aA6]at this⊢;exact this
 ·rw[List.getElem?_set_ne (λe=>h.np (by rw[e];exact hi))]
 ·rcases h.dz with j|⟨q,rs,e1,e2,e3,e4,e5,d,g⟩;·exact .inl j
  ·exact .inr ⟨q,rs,e1,aG e2 d _,e3,e4,e5,d,g⟩
 ·have:=h.gp;have:=(a00.mp f).1;exact aG (h.an i y f) (by omega) _
def SI.hw{O0:St}{o p n:Nat}{ms:List Nat}{x:AV}{S:St}(h:SI PK O0 o p ms x S)(vs:LA)(t:n<=z S)(g:p<n)(f:∀i∈o::ms,i<n)(s:z O0<=n):SI PK O0 o p ms x (Ev.tidy n vs S):=by
 unfold Ev.tidy;split;·exact h
 split
 ·rename_i d;rw[a01]at d;have e:z (S.take n)=n:=by simp;omega
  have c:∀i,i<n->(S.take n)[i]?=S[i]?:=λi hi=>by rw[aA4,if_pos hi]
  obtain⟨a,b,hs⟩:=h.s;refine⟨?_,PK.fr h.pk λi hi=>c i (f i hi),λi hi=>by rw[e];exact f i hi,h.ge,h.np,h.gp,⟨a,b,by rw[c _ g];exact hs⟩,?_,λi y j=>?_⟩;·unfold Ok;rw[e];exact d.2
  ·rcases h.dz with m|⟨q,rs,e1,e2,e3,e4,e5,k,l⟩;·exact .inl m
   ·refine .inr ⟨q,rs,e1,?_,e3,e4,e5,k,l⟩;have hb:=a97.mp d.2 _ (a08 ((c _ g).trans hs));have:q<n:=by rw[e1]at hb;simp only[AO.below,ae,below,aA5,aA6,decide_eq_true_eq]at hb;exact hb
    rw[c _ this];exact e2
  ·rw[c _ (by have:=(a00.mp j).1;omega)];exact h.an i y j
 ·exact h
def avn(C:Ctx)(PK:PkI)(f:FuncId):Prop:=∀(a:St) (o p:Nat) (ms:List Nat) (Y:St),SI PK a o p ms .cY Y->z a<=z Y->∃b x,ai C f [.c8 o 0,.c8 p 0] Y=J (bW [],b)/\SI PK a o p ms x b/\z Y<=z b
def amw(C:Ctx)(PK:PkI)(f:FuncId):Prop:=∀(a:St) (o p:Nat) (ms:List Nat) (Y:St),SI PK a o p ms .cY Y->z a<=z Y->∃b,ai C f [.c8 o 0,.c8 p 0] Y=J (bW [],b)/\SI PK a o p ms .cY b/\z Y<=z b
def Wy(s:LU)(h:z s<=LB){l:List Sh}{m:LA}(k:Mt V0 l m):Mt V0 (.ds::l) (.cV s::m):=.cW _ _ _ _ (.ds s h) k
def XV(n:Int){l:List Sh}{m:LA}(k:Mt V0 l m):Mt V0 (.cU r::l) (.cU r n::m):=.cW _ _ _ _ (.cU _ n) k
def Ol{n:Nat}{vs:LA}{S:St}(h:n<=z S):n<=z (Ev.tidy n vs S):=by
 unfold Ev.tidy;split;·exact h
 split;·simp;omega
 ·exact h
end Go.Ev
namespace Go.Ev
open Bool renaming false→eF, true→eT
open Option renaming some→J, none→U
open List renaming length→z
open Go.IntKind renaming i64→r
set_option maxRecDepth 100000
variable{C:Ctx}{V:Val}
structure SnV where
 bL:Int
 bw:Int
 ax:List nI
def SnV.B(s:SnV):LA:=[.cU r s.bL,.cU r s.bw,.sl (z s.ax) (s.ax.flatMap nI.B)]
structure SnV.ok(s:SnV):Prop where
 dt:s.ax.length<=8192
 cx:∀p∈s.ax,Cm p.aL/\p.E.length<=LB
def ai4(d:LA)(h:Ms V [.ds,.ds] d):∃s,d=pC s/\z s.1<=LB/\z s.2<=LB:=by obtain⟨s,b,rfl,a,c⟩:=uq h;obtain⟨u,b,rfl,h3,h2⟩:=uq c;rw[xM h2];exact⟨(s,u),rfl,a,h3⟩
def ard(f:LA)(h:Ms V U4 f):∃p,f=nI.B p/\Cm p.aL/\z p.E<=LB:=by obtain⟨s,b,rfl,a,c⟩:=uq h;obtain⟨n,b,rfl,h2⟩:=vV c;obtain⟨m,b,rfl,h3⟩:=vV h2;obtain⟨hs,b,rfl,d,hb,h4⟩:=Ap ai4 h3;rw[xM h4];exact⟨⟨s,n,m,hs⟩,rfl,⟨d,hb⟩,a⟩
def ao4{v:AV}(h:M V (.da [.cU r,.cU r,.eB U4]) v):∃s:SnV,v=.da s.B/\s.ok:=by
 cases h with
 |da _ v h=>obtain⟨a,b,rfl,c⟩:=vV h;obtain⟨e,b,rfl,h2⟩:=vV c;obtain⟨l,b,rfl,l1,q1,h3⟩:=Ap ard h2;rw[xM h3];exact⟨⟨a,e,l⟩,rfl,l1,q1⟩
theorem nI.af(p:nI):NVs p.B:=.cW (.cV _) (.cW (.cU _ _) (.cW (.cU _ _) (.cW (wL _) .de)))
theorem nI.ay(p:nI):ae 0 p.B=eT:=p.af.cl
theorem SnV.af(s:SnV):NVs s.B:=.cW (.cU _ _) (.cW (.cU _ _) (.cW (.sl _ (gu (λp=>p.ay) s.ax)) .de))
structure ChkTot(C:Ctx):Prop where
 b6:SH C
 m1:∀hs:List PS,Cm hs->∃(d:LU) (b:Bool),∀Y,ai C zl [.sl hs.length (hs.flatMap pC),.cV [115,104,97,50,53,54]] Y=some (.df [.cV d,.cX b],Y)
 rd:∀data:LU,data.length<=LB->∃(j:JV) (n e:Int),∀Y,ai C iL [.cV data] Y=some (.df [j.av,.cU .i64 n,.cU .i64 e],Y)
 sg:∀j:JV,∃(r:AV) (e:Int),M V0 afy r/\∀Y,ai C uJ [j.av] Y=some (.df [r,.cU .i64 e],Y)
 tg:∀j:JV,∃(t:fB) (e:Int),t.ok/\∀Y,ai C yD [j.av] Y=some (.df [.da t.B,.cU .i64 e],Y)
 sn:∀j:JV,∃(s:SnV) (e:Int),s.ok/\∀Y,ai C yA [j.av] Y=some (.df [.da s.B,.cU .i64 e],Y)
 f7:∀a b:Int,∃ov:Bool,∀Y,ai C qj [.cU .i64 a,.cU .i64 b] Y=some (.cX ov,Y)
 e7:∀s:LU,s.length<=LB->∃d:LU,∀Y,ai C sD [.cV s] Y=some (.cV d,Y)
 cK:∀(h:Bool) (l:List iK) (r:AV) (th:Int) (ids:List LU) (ks:List PS),xK l=false->uy ids->Cm ks->M V0 afy r->∃b:Bool,∀Y o,Y[o]?=some (PY h l)->ai C jK [.c8 o 0,r,.da (aC th ids),.sl ks.length (ks.flatMap pC)] Y=some (.cX b,Y)
def inf(h:Bool)(l:List iK)(o:Nat)(th:Int)(ids:List LU)(ks:List PS)(pn:LU)(pv pl:Int)(ph:AV)(now:Int)(data:LU)(size:Int):InF:=
 ⟨.c8 o 0,th,.sl (z ids) (ids.flatMap sC),.sl (z ks) (ks.flatMap pC),pn,pv,pl,ph,now,data,size⟩
structure lN where
 bL:Int
 bw:Int
 ks:List PS
 rt:lJ
 sn:lJ
 tg:lJ
def lN.B(d:lN):LA:=[.cU r d.bL,.cU r d.bw,.sl (z d.ks) (d.ks.flatMap pC),.cU r d.rt.th,.sl (z d.rt.O) (d.rt.O.flatMap sC),.cU r d.sn.th,.sl (z d.sn.O) (d.sn.O.flatMap sC),.cU r d.tg.th,.sl (z d.tg.O) (d.tg.O.flatMap sC)]
def lN.f2(d:lN):d.B=[.cU r d.bL,.cU r d.bw,.sl (z d.ks) (d.ks.flatMap pC),.cU r d.rt.th,.sl (z d.rt.O) (d.rt.O.flatMap sC),.cU r d.sn.th,.sl (z d.sn.O) (d.sn.O.flatMap sC),.cU r d.tg.th,.sl (z d.tg.O) (d.tg.O.flatMap sC)]:=rfl
theorem lN.af(d:lN):NVs d.B:=.cW (.cU _ _) (.cW (.cU _ _) (.cW (wL _) (.cW (.cU _ _) (.cW (nz _) (.cW (.cU _ _) (.cW (nz _) (.cW (.cU _ _) (.cW (nz _) .de))))))))
def apZ (H:ChkTot C) (h:Bool) (l:List iK) (R:lN) (data:LU) (b1:xK l=eF) (w:uy R.sn.O) (x:Cm R.ks) (y:z data<=LB):
  ∃(S:SnV) (e1 e2 e3:Int) (en:Bool) (ov:Int->Bool),S.ok/\(∀now Y,ai C qj [.cU r S.bw,.cU r now] Y=J (.cX (ov now),Y))/\∀(now size:Int) (O:St) (o:Nat),Ok O->O[o]?=J (PY h l)->
   ai C qC [.c8 o 0,.da R.B,.cU r now,.cV data,.cU r size] O=
    J (.df [.da (if Vf size e1 e2 e3 en (ov now)=0 then S.B else zSn),.cU .u8 (Vf size e1 e2 e3 en (ov now))],O):=by
 obtain⟨j,n1,e1,q1⟩:=H.rd data y;obtain⟨N,e2,v,q2⟩:=H.sg j;obtain⟨en,q5⟩:=H.cK h l N R.sn.th R.sn.O R.ks b1 w x v;obtain⟨k,s,rfl,F⟩:=ae3 v;obtain⟨S,e3,t,q3⟩:=H.sn k;obtain⟨ov,q4⟩:=Classical.axiomOfChoice (λnow=>H.f7 S.bw now);obtain⟨x0,x1,x2,x3,x4,D,g,i,m,n,q⟩:=j.hu;obtain⟨r0,r1,r2,r3,r4,E,b,c,d,e,f⟩:=k.hu;unfold JV.av at q1 q2 q3;rw[D]at q1 q2;rw[E]at q2 q3 q5;refine⟨S,e1,e2,e3,en,ov,t,q4,λnow size O o a u=>?_⟩;have A:o<z O:=(a00.mp u).1;have hI:(inf h l o R.sn.th R.sn.O R.ks [] 0 (-1) .cY now data size).ok (z O):=⟨.inr ⟨o,rfl,A⟩,xN _ (nz _),xN _ (wL _),rfl⟩;exact TN H.b6 a hI ⟨rfl,rfl⟩ ⟨rfl,rfl,rfl,rfl⟩
  {x0:=x0,x1:=x1,x2:=x2,x3:=x3,x4:=x4,n1:=n1,e1:=e1,r0:=r0,r1:=r1,r2:=r2,r3:=r3,r4:=r4,r5:=.sl (z s) (s.flatMap pC),e2:=e2,en:=en
   hH:=g,hJ:=i,hK:=m,hL:=n,hM:=q,iN:=b,iQ:=c,iS:=d,iX:=e,i1:=f,i6:=xN _ (wL s)
   rd:=λY _=>q1 Y,sg:=λ_ Y _=>q2 Y
   cK:=λ_ _ Y _ B=>q5 Y o (B o _ u)
   sv:=S.bL,sx:=S.bw,s2:=.sl (z S.ax) (S.ax.flatMap nI.B),e3:=e3,ov:=ov now
   h2:=xN _ (.sl _ (gu (λp=>p.ay) S.ax))
   sn:=λ_ _ Y _=>q3 Y,f7:=λY _=>q4 now Y}
  (IJ _ _) (IJ _ _) (IJ _ _) (xN _ (nz _)) (IJ _ _) (xN _ (nz _))
end Go.Ev
namespace Go.Ev
open Bool renaming false→eF, true→eT
open Option renaming some→J, none→U
open List renaming length→z
open Go.IntKind renaming i64→r
set_option maxRecDepth 100000
variable{C:Ctx}
def LJ:fB:=⟨0,0,[],⟨[],[],0,[],0,[]⟩⟩
def Vx:LJ.ok:=⟨by decide,λ_ h=>(by cases h),⟨by decide,by decide,λ_ h=>(by cases h),by decide⟩,⟨λ_ h=>(by cases h),by decide,⟨λ_ h=>(by cases h),by decide,.eB _ [] (by decide) (.de _),⟨by decide,λ_ h=>(by cases h)⟩,.eB _ [] (by decide) (.de _),by decide⟩⟩⟩
def aeq(T:fB)(c:Int):fB:=if c=0 then T else LJ
def arM(T:fB)(c:Int):(if c=0 then T.B else zTn)=(aeq T c).B:=by unfold aeq;split<;>rfl
def arN{T:fB}(h:T.ok)(c:Int):(aeq T c).ok:=by
 unfold aeq;split;·exact h
 ·exact Vx
theorem fB.dt(t:fB):z t.B=9:=rfl
def fB.fl(t:fB):t.B.all AV.C=eT:=rfl
def fB.tk(t:fB):t.B.take 9=t.B:=rfl
def aqs:SnV:=⟨0,0,[]⟩
def aep(S:SnV)(c:Int):SnV:=if c=0 then S else aqs
def arI(S:SnV)(c:Int):(if c=0 then S.B else zSn)=(aep S c).B:=by unfold aep;split<;>rfl
def arJ{S:SnV}(h:S.ok)(c:Int):(aep S c).ok:=by
 unfold aep;split;·exact h
 ·exact⟨by decide,λ_ h=>by cases h⟩
theorem SnV.dt(t:SnV):z t.B=3:=rfl
def SnV.fl(t:SnV):t.B.all AV.C=eT:=rfl
def SnV.tk(t:SnV):t.B.take 3=t.B:=rfl
variable{V:Val}
def arU{a:AV}(h:Wl a=eT):NV a:=by cases a<;>first|(cases h;done)|exact .cX _|exact .cU _ _|exact .cV _
def agH{l:LA}(h:l.all Wl=eT):NVs l:=λv hv=>arU (a97.mp h v hv)
def am0{l:LA}(h:l.all Wl=eT):l.all AV.C=eT:=by rw[a97]at*;intro v hv;have:=h v hv;cases v<;>first|(cases this;done)|rfl
def IR{l:List iK}(h:xK l=eF):z l<=8192/\∀p∈l,z p.id<=LB/\z p.hP<=LB/\z p.e7<=LB:=by simp only[xK,aE2,decide_eq_false_iff_not,List.any_eq_false,afY,Bool.not_eq_true]at h;grind [LB]
def auk{th:Int}{ids:List LU}(h:uy ids):M V (.da [.cU r,.eB [.ds]]) (.da (aC th ids)):=
 .da _ _ (.eo _ _ _ _ rfl (.cU _ _) (.eo _ _ _ _ rfl (aab ids (λs hs=>.eo _ _ _ _ rfl (.ds _ (h.2 s hs)) .de) h.1) .de))
def aov{l:List PS}(h:Cm l):M V (.eB [.ds,.ds]) (.sl (z l) (l.flatMap pC)):=
 aab l (λp a=>.eo _ _ _ _ rfl (.ds _ (h.2 p a).1) (.eo _ _ _ _ rfl (.ds _ (h.2 p a).2) .de)) h.1
def arj{l:List iK}(h:xK l=eF):M V (.eB [.ds,.ds,.ds]) (WF l):=
 aab l (λp a=>.eo _ _ _ _ rfl (.ds _ ((IR h).2 p a).1) (.eo _ _ _ _ rfl (.ds _ ((IR h).2 p a).2.1) (.eo _ _ _ _ rfl (.ds _ ((IR h).2 p a).2.2) .de))) (IR h).1
end Go.Ev
namespace Go.Ev
open Bool renaming false→eF, true→eT
open Option renaming some→J, none→U
open List renaming length→z
open Go.IntKind renaming i64→r
set_option maxRecDepth 100000
variable{C:Ctx}{PK:PkI}
def aow{V:Val}{v:AV}(h:M V .ds v):∃s,v=.cV s/\z s<=LB:=wY h
def alM(H:DK C PK):amw C PK yC:=by
 intro q o p ms Y I d;obtain⟨v,t,e1,n,j,k,l,m⟩:=NT (azs:=[.cV [95,116,121,112,101]]) H.eW I.ok (.cW (.cV _) .de) I.pk (Wy _ (by simp[LB]) .de);obtain⟨s,rfl,_⟩:=aow n;have a:=I.gL j k l m;have e:=Jz o p Y;rw[H.mm.go e];cases c:decide (s=[115,110,97,112,115,104,111,116])with
 |true=>refine⟨_,?_,a.hw [] (by omega) I.pl I.lt d,Ol (by omega)⟩;simp only[Dh,e1,c,mX,AV.cH,AV.C,EVX,seval]|false=>obtain⟨w,u,f1,n1,f,g,h,i⟩:=NT (azs:=[.cU r 13]) H.eD a.ok (.cW (.cU _ _) .de) a.pk (XV _ .de);refine⟨_,?_,(a.gL f g h i).hw [] (by omega) I.pl I.lt d,Ol (by omega)⟩;simp only[Dh,e1,c,f1,mX,AV.cH,AV.C,EVX,seval]
def aeh(H:DK C PK):amw C PK uo:=by intro l o p ms Y I e;obtain⟨v,m,e1,k,g,h,i,j⟩:=NT (azs:=[.cV [118,101,114,115,105,111,110],.cU r 1,.cU r 1099511627776]) H.ht I.ok (.cW (.cV _) (.cW (.cU _ _) (.cW (.cU _ _) .de))) I.pk (Wy _ (by simp[LB]) (XV _ (XV _ .de)));obtain⟨n,rfl⟩:=Qs k;have c:=I.gL g h i j;obtain⟨a,b,hs⟩:=c.s;have f:=Jz o p Y;rw[H.i8.go f];refine⟨_,?_,(c.co n b).hw [] (by rw[a96];omega) I.pl I.lt e,Ol (by rw[a96];omega)⟩;simp only[EU,e1,hs,splice,AV.cH,AV.C,EVX,seval]
def aox{V:Val}{a b:Sh}{v:AV}(h:M V (.df [a,b]) v):∃x y,v=.df [x,y]/\M V a x/\M V b y:=by cases h with|df _ l h=>obtain⟨x,y,rfl,c,h2⟩:=ae1 h;exact⟨x,y,rfl,c,h2⟩
def aeg(H:DK C PK):amw C PK um:=by intro D o p ms Y I g;obtain⟨v,E,e1,A,m,q,t,u⟩:=NT (azs:=[.cV [101,120,112,105,114,101,115]]) H.eW I.ok (.cW (.cV _) .de) I.pk (Wy _ (by simp[LB]) .de);obtain⟨s,rfl,hs⟩:=aow A;have c:=I.gL m q t u;obtain⟨w,e2,B⟩:=gZ H.nw (.cW (.cV s) .de) (Wy _ hs .de) c.ok;obtain⟨x,y,rfl,q1,q2⟩:=aox B;obtain⟨n,rfl⟩:=Qs q1;obtain⟨e,rfl⟩:=Qs q2;obtain⟨w,F,f1,n1,i,j,k,l⟩:=NT (azs:=[.cU r e]) H.eD c.ok (.cW (.cU _ _) .de) c.pk (XV _ .de);have f:=c.gL i j k l;obtain⟨a,b,hs⟩:=f.s;have h:=Jz o p Y;rw[H.i7.go h];refine⟨_,?_,(f.co a n).hw [] (by rw[a96];omega) I.pl I.lt g,Ol (by rw[a96];omega)⟩;simp only[ET,e1,e2,f1,hs,splice,AV.cH,AV.C,EVX,seval]
def ms1{V:Val}{s:Sh}{t:List Sh}{l:LA}(hs:s.eo=eT)(h:Ms V (s::t) l):∃v b,l=v::b/\M V s v/\Ms V t b:=by
 cases h with
 |eo _ _ v b a h2 h3=>exact⟨v,b,rfl,h2,h3⟩|jv _ j b h=>cases hs|jg _ _ _ j d a h2=>cases hs
def alO{l:LA}(h:Ms V0 U4 l):∃(s:LU) (a b:Int) (rs:List LA),l=[.cV s,.cU r a,.cU r b,.sl (z rs) rs.flatten]/\ae 0 rs.flatten=eT:=by
 obtain⟨v1,b1,rfl,c,d⟩:=ms1 rfl h;obtain⟨v2,i,rfl,h2,e⟩:=ms1 rfl d;obtain⟨v3,j,rfl,h3,f⟩:=ms1 rfl e;obtain⟨v4,k,rfl,h4,g⟩:=ms1 rfl f;cases g;obtain⟨s,rfl,_⟩:=wY c;obtain⟨a,rfl⟩:=Qs h2;obtain⟨b,rfl⟩:=Qs h3;cases h4 with
 |eB _ rs m hr=>exact⟨s,a,b,rs,rfl,(MRs.af (by rfl) hr).cl⟩
def abD(n0 p a:Nat)(os:List Nat)(Y:St)(i:Nat)(x:AV):Prop:=(i=0/\x=.cY)\/(0<i/\∃q rs,x=.dj q 0 i 4/\z rs=i/\Y[q]?=J (.cH rs.flatten FZ)/\MRs V0 U4 rs/\q∉os/\q≠p/\n0<=q/\q≠a)
def awU(PK:PkI)(O0:St)(o p:Nat)(ms:List Nat)(Y:St)(x:RX):Prop:=∃a b,(x=J (.dq 0,[],a)\/x=J (.ef,[],a))/\SI PK O0 o p ms b a/\z Y<=z a
def abD.of{n0 p b i:Nat}{os:List Nat}{Y:St}{x:AV}(hi:i<=8192)(h:abD n0 p b os Y i x):adm n0 p os Y x:=by
 rcases h with⟨_,rfl⟩|⟨_,q,rs,rfl,e1,e2,e3,e4,e5,a,_⟩;·exact .inl rfl
 ·exact .inr ⟨q,rs,by rw[e1],e2,by rw[e1];exact hi,e3,e4,e5,a⟩
def aqF {Y:St} {n0 p c i:Nat} {os:List Nat} {x:AV} {l:LA} (h:abD n0 p c os Y i x) (b:Ms V0 U4 l) (hi:i<=8192) (hok:Ok Y):
  ∃(S:St) (rs:List LA),tX Y 4 56 U x 1 l=J (.dj (z Y) 0 (i+1) 4,S++[.cH rs.flatten FZ])/\z rs=i+1/\MRs V0 U4 rs/\z S=z Y/\(∀k y,k∈os\/k=p\/k<n0\/k=c->Y[k]?=J y->S[k]?=J y)/\Ok S:=by
 rcases h with⟨rfl,rfl⟩|⟨g,q,rs,rfl,e1,e2,e3,e4,e5,f,d⟩;·refine⟨Y,[l],?_,rfl,MRs.eo b,rfl,λ_ _ _ h=>h,hok⟩;rw[J7 _ U l (by omega) (by omega) (by omega)];simp
 ·refine⟨Y.set q .eq,rs++[l],?_,by simp[e1],e3.eG (MRs.eo b),by simp,λk y a h=>aG h (λe=>?_) _,hok.bd _ rfl⟩;·rw[MR l e2 (by omega) (by rw[MRs.dt e3,e1];rfl) (by omega) (by omega)];simp
  ·subst e;rcases a with a|a|a|a;·exact e4 a
   ·exact e5 a
   ·omega
   ·exact d a
def acy (H:DK C PK) (O0:St) (o p c:Nat) (ms:List Nat) (W X Z:AV) (ns:List LU) (is:List JV) (N:z ns<=z is) (h8:z is<=8192) (B:∀x∈ns,z x<=LB) (D:c≠p) (Q:c∉o::ms) (P:z O0<=c):∀(n i:Nat),i+n=z ns->∀(x:AV) (Y:St),SI PK O0 o p ms x Y->abD (z O0) p c (o::ms) Y i x->z O0<=z Y->
  Y[c]?=J (.cH [W,X,Z,.sl (z ns) (ns.map .cV),.sl (z is) (aJ is)] FZ)->
  awU PK O0 o p ms Y (aH C (ai C) 45 [0,1,4,12,13,14] dP [(0,.c8 o 0),(1,.c8 p 0),(4,.c8 c 0),(12,.sl (z ns) (ns.map .cV)),(13,.cU r (z ns)),(14,.cU r i)] Y)
 |0,i,hi,x,Y,I,A,hl,hv=>by have h:¬((i:Int)<(z ns:Int)):=(by omega);refine⟨Y,x,.inl ?_,I,a06 _⟩;rw[aA (he:=rfl)];simp only[dP,h,EVX,seval]
 |n+1,i,hi,x,Y,I,A,hl,hv=>by
  have h:((i:Int)<(z ns:Int)):=(by omega);have h2:i<z is:=(by omega);have d:i<z ns:=(by omega);have w2:=wrS i (by omega);have p2:(0:Int)<=(i:Int):=(by omega);have d2:=AP is i h2;have dr:=aaP ns i d;have sl:=jF is;have sn:z (ns.map AV.cV)=z ns:=(by simp);have hx:ns[i].length<=LB:=B _ (aB3 d);generalize is[i]=j at*;generalize ns[i]=s at*;generalize aJ (is.drop (i+1))=R at*;have G:=JV.dt j;have jf:=JV.C j;have jt:(j.B++R).take 5=j.B:=by rw[<-G];simp
  have je:5<=z (j.B++R):=(by simp[G]);obtain⟨v,e1,m1⟩:=gZ H.ck (azs:=[.cV s,j.av]) (.cW (.cV s) (.cW j.nv .de)) (Wy _ hx (.cW _ _ _ _ (.jv j) .de)) I.ok;obtain⟨a,b,rfl,m2,m3⟩:=aox m1;obtain⟨e,rfl⟩:=Qs m3;cases m2 with
  |da _ l ml=>
  obtain⟨s1,a1,b1,f,rfl,hb⟩:=alO ml;have hL:([.cH [.cV s1,.cU r a1,.cU r b1,.sl (z f) f.flatten] FZ]:St).all (AO.below (z Y+1))=eT:=by simp only[a07,az6,aA5,AO.below,ae,below,aA6];exact aK (a99 _) _ hb
  have g:=I.H _ hL;have g1:=λL=>bK (rfl:z Y=_) L;have E:=λL y=>iF (rfl:z Y=_) L y;unfold JV.av at e1;cases ce:(e !=0)with
  |true=>obtain⟨w,O3,f1,n1,j1,j2,j3,j4⟩:=NT (azs:=[.cU r e]) H.eD g.ok (.cW (.cU _ _) .de) g.pk (XV _ .de);refine⟨O3,x,.inr ?_,g.gL j1 j2 j3 j4,by rw[j2];simp⟩;rw[aA (he:=rfl)];generalize m:aH C (ai C) 45 [0,1,4,12,13,14] dP=kk at*;simp only[dP,h,h2,d,w2,p2,d2,dr,sl,sn,hv,e1,ce,f1,g1,E,G,jf,jt,je,splice,a88,AV.cH,AV.C,EVX,seval]
  |false=>
   have O:abD (z O0) p c (o::ms) (Y++[AO.cH [.cV s1,.cU r a1,.cU r b1,.sl (z f) f.flatten] FZ]) i x:=by
    rcases A with A|⟨h0,q,rs,y1,y2,y3,y4,y5,y6,y7,y8⟩;·exact .inl A
    ·exact .inr ⟨h0,q,rs,y1,y2,aj y3 _,y4,y5,y6,y7,y8⟩
   obtain⟨S,rs,t1,t2,t3,t4,t5,t6⟩:=aqF O ml (by omega) g.ok;rw[a04,a90,a94]at t1 t4;simp only[az5]at t1 t4;obtain⟨a0,b0,hs⟩:=g.s;have t:=t5 p _ (.inr (.inl rfl)) hs;have pv:=λL y=>fK t L y;have gv:=λL=>aj t L;have pl:=I.pl;have V:Ok (S.set p (.cH [.cU r a0,.cU r b0,.dj (z Y+1) 0 (i+1) 4] FZ)++[.cH rs.flatten FZ]):=by
    have:=(t6.H (L:=[.cH rs.flatten FZ]) (by
     rw[a07,show AO.below 0 (.cH rs.flatten FZ)=eT from(MRs.af (by rfl) t3).cl];rfl)).bd p (x:=.cH [.cU r a0,.cU r b0,.dj (z Y+1) 0 (i+1) 4] FZ) (by
     simp only[AO.below,ae,below,aA5,aA6,decide_eq_true_eq,a04,a90,a94,t4];omega)
    rwa[pv]at this
   have F:z (S.set p (.cH [.cU r a0,.cU r b0,.dj (z Y+1) 0 (i+1) 4] FZ))=z Y+1:=(by rw[a96,t4]);have u:(S.set p (.cH [.cU r a0,.cU r b0,.dj (z Y+1) 0 (i+1) 4] FZ)++[.cH rs.flatten FZ]:St)[z Y+1]?=J (.cH rs.flatten FZ):=by rw[bK F];rfl
   have no:z Y+1∉o::ms:=λhi=>by have:=I.lt _ hi;omega
   have vl:c<z Y:=(a00.mp hv).1;have I3:SI PK O0 o p ms (.dj (z Y+1) 0 (i+1) 4) (S.set p (.cH [.cU r a0,.cU r b0,.dj (z Y+1) 0 (i+1) 4] FZ)++[.cH rs.flatten FZ]):=by
    refine⟨V,PK.fr g.pk λk m=>?_,λk m=>by rw[a04,F];have:=I.lt k m;omega,I.ge,I.np,I.gp,⟨a0,b0,aj (aX t _) _⟩,.inr ⟨_,rs,by rw[t2],u,by rw[t2];simp only[LS];omega,t3,no,by omega,by omega⟩,λk y hy=>?_⟩;·have M:=g.lt k m;have e:=a02 M;rw[e];exact aj (aG (t5 k _ (.inl m) e) (λe'=>I.np (by rw[<-e'];exact m)) _) _
    ·have:=(a00.mp hy).1;have:=I.gp;exact aj (aG (t5 k _ (.inr (.inr (.inl (by omega)))) (g.an k y hy)) (by omega) _) _
   have T:abD (z O0) p c (o::ms) (S.set p (.cH [.cU r a0,.cU r b0,.dj (z Y+1) 0 (i+1) 4] FZ)++[.cH rs.flatten FZ]) (i+1) (.dj (z Y+1) 0 (i+1) 4):=
    .inr ⟨by omega,_,rs,rfl,t2,u,t3,no,by omega,by omega,by omega⟩
   obtain⟨Y',x',r1,r2,r3⟩:=acy H O0 o p c ms W X Z ns is N h8 B D Q P n (i+1) (by omega) _ _ I3 T (by rw[a04,F];omega) (aj (aG (t5 c _ (.inr (.inr (.inr rfl))) (aj hv _)) D _) _);have go:∀du,aH C (ai C) 45 [0,1,4,12,13,14] dP [(0,.c8 o 0),(1,.c8 p 0),(4,.c8 c 0),(12,.sl (z ns) (ns.map .cV)),(13,.cU r (z ns)),(14,.cU r (i+1:Nat))] (S.set p (.cH [.cU r a0,.cU r b0,.dj (z Y+1) 0 (i+1) 4] FZ)++[.cH rs.flatten FZ])=du->aH C (ai C) 45 [0,1,4,12,13,14] dP [(0,.c8 o 0),(1,.c8 p 0),(4,.c8 c 0),(12,.sl (z ns) (ns.map .cV)),(13,.cU r (z ns)),(14,.cU r i)] Y=du:=λdu er=>by have xf:x.C=eT:=(by rcases A with⟨_,rfl⟩|⟨_,q,_,rfl,_⟩<;>rfl);rw[aA (he:=rfl)];generalize m:aH C (ai C) 45 [0,1,4,12,13,14] dP=kk at*;simp only[dP,h,h2,d,w2,p2,d2,dr,sl,sn,hv,e1,ce,hs,t1,pv,gv,er,xf,g1,E,G,jf,jt,je,splice,a88,AV.cH,AV.C,EVX,seval]
   refine⟨Y',x',r1.imp (λe=>go _ e) (λe=>go _ e),r2,by rw[a04,F]at r3;omega⟩
def alL(H:DK C PK):avn C PK yB:=by
 intro f o p ms Y I i;obtain⟨v,a,e1,w,m,q,s,u⟩:=NT (azs:=[.cV [109,101,116,97],.cU r 256]) H.bx I.ok (.cW (.cV _) (.cW (.cU _ _) .de)) I.pk (Wy _ (by simp[LB]) (XV _ .de));have b:=I.gL m q s u;obtain⟨j,rfl⟩:=acm w;obtain⟨k,n,t,ns,is,d,h3,h2,h4,rfl⟩:=j.ex;have ca:(JV.mk k n t ns is d h3 h2 h4).av=.da [.cU .u8 k,.cU r n,.cV t,.sl (z ns) (ns.map .cV),.sl (z is) (aJ is)]:=by unfold JV.av;rw[JV.bB]
 rw[ca]at e1;have h:([.cH [.cU .u8 k,.cU r n,.cV t,.sl (z ns) (ns.map .cV),.sl (z is) (aJ is)] FZ]:St).all (AO.below (z a+1))=eT:=by have:=aK (a99 (z a+1)) _ (JV.ay (JV.mk k n t ns is d h3 h2 h4));rw[JV.bB]at this;simp only[a07,az6,aA5,AO.below];exact this
 have e:=b.H _ h;have c:(a++[AO.cH [.cU .u8 k,.cU r n,.cV t,.sl (z ns) (ns.map .cV),.sl (z is) (aJ is)] FZ]:St)[z a]?=J (.cH [.cU .u8 k,.cU r n,.cV t,.sl (z ns) (ns.map .cV),.sl (z is) (aJ is)] FZ):=by rw[bK rfl];rfl
 have s1:=λL y=>iF (rfl:z a=_) L y;obtain⟨A,x,r1,r2,r3⟩:=acy H f o p (z a) ms _ _ _ ns is d h2 h4.ns (by have:=b.pl;omega) (λhi=>by have:=b.lt _ hi;omega) (by omega) (z ns) 0 (by omega) .cY _ e (.inl ⟨rfl,rfl⟩) (by simp;omega) c;simp only[a04,a90,a94]at r3;have l:=Jz o p Y;rw[H.mj.go l];refine⟨_,x,?_,r2.hw [] (by omega) I.pl I.lt i,Ol (by omega)⟩;simp only[Int.natCast_zero,ay1]at r1;rcases r1 with r1|r1;·simp only[Df,e1,c,s1,r1,splice,AV.cH,AV.C,Iz,a09,EVX,seval]
 ·simp only[Df,e1,c,s1,r1,splice,AV.cH,AV.C,Iz,a09,EVX,seval]
def NR:LA:=[.ea (.func yC) [] [],.ea (.func uo) [] [],.ea (.func um) [] [],.ea (.func yB) [] []]
def agi(H:DK C PK)(O:St):ai C Uh [] O=J (.sl 4 NR,O):=by rw[H.mn.go (by rfl)];have a:hand eF [.eC 4 NR] O=J ([.sl 4 NR],O):=rfl;simp only[SB,AV.cH,AV.C,rep,EVX,seval];rfl
def YA (H:DK C PK) (O0:St) (o p b:Nat) (ms:List Nat) (f:FuncId) (i:Nat) (hi:i<4) (R:LA) (d:NR.drop i=.ea (.func f) [] []::R) (Y a:St) (e:ai C f [.c8 o 0,.c8 p 0] (Y++[.cH [.ea (.func f) [] []] FZ])=J (bW [],a)):
  aH C (ai C) 33 [2,4,5,15,16,17] qc [(2,.c8 b 0),(4,.c8 o 0),(5,.c8 p 0),(15,.sl 4 NR),(16,.cU r 4),(17,.cU r i)] Y=aH C (ai C) 33 [2,4,5,15,16,17] qc [(2,.c8 b 0),(4,.c8 o 0),(5,.c8 p 0),(15,.sl 4 NR),(16,.cU r 4),(17,.cU r (i+1:Nat))] a:=by
 have h:((i:Int)<(4:Int)):=by omega
 have j:=wrS i (by omega);have g:(0:Int)<=(i:Int):=by omega
 have pl:z NR=4:=rfl;have c:=λL=>bK (rfl:z Y=_) L;have s1:=λL y=>iF (rfl:z Y=_) L y
 conv=>lhs;rw[aA (he:=rfl)]
 generalize l:aH C (ai C) 33 [2,4,5,15,16,17] qc=m at*;simp only[qc,h,hi,j,g,pl,d,e,c,s1,jH,splice,a88,AV.cH,AV.C,EVX,seval]
def afw {O Y:St} {p:Nat} {os:List Nat} {n0:Nat} (c:Ok O) (k:z O<=n0) (a b e:Int) (x:AV) (f:adm n0 p os Y x) (E:As) (h2:look E 2=.c8 (z O+1) 0) (h3:look E 3=.cU r e) (j:Y[z O+1]?=J (.cH [.cU r a,.cU r b,x] FZ)) (g:Y.take (z O)=O):
  ∃v,mD (z O) [.eS 2 eT 3,.fX 3] (J (.ef,E,Y))=J (v,O)/\M V0 (.df [.da [.cU r,.cU r,.eB U4],.cU r]) v:=by
 have h:∀rs,z rs<=LS->MRs V0 U4 rs->M V0 (.df [.da [.cU r,.cU r,.eB U4],.cU r]) (.df [.da [.cU r a,.cU r b,.sl (z rs) rs.flatten],.cU r e]):=λrs i h2=>
  .df _ _ (.cW _ _ _ _ (.da _ _ (.eo _ _ _ _ rfl (.cU _ _) (.eo _ _ _ _ rfl (.cU _ _) (.eo _ _ _ _ rfl (.eB _ rs i h2) .de)))) (XV e .de))
 have l:x.C=eT:=by rcases f with rfl|⟨q,_,rfl,_⟩<;>rfl
 rw[xx];have hr:aU E Y [.eS 2 eT 3,.fX 3]=J [.da [.cU r a,.cU r b,x],.cU r e]:=by simp only[aU,h2,h3,j,pt,AV.C,ay9,a90,a94,List.take,a07,az6,l];rfl
 rw[hr];dsimp only;rcases f with rfl|⟨q,rs,rfl,e2,e3,e4,e5,m,n⟩
 ·have d:hand eF [.da [.cU r a,.cU r b,.cY],.cU r e] Y=J ([.da [.cU r a,.cU r b,.sl 0 []],.cU r e],Y):=by rw[lF,aO,bG,aO,aO,aO,dO,qY];rfl
  rw[d];dsimp only;rw[pG c rfl g];exact⟨_,rfl,h [] (by simp) (.de _)⟩
 ·have nv:=MRs.af (by rfl) e4;have d:hand eF [.da [.cU r a,.cU r b,.dj q 0 (z rs) 4],.cU r e] Y=J ([.da [.cU r a,.cU r b,.sl (z rs) rs.flatten],.cU r e],Y.set q (.cH rs.flatten ⟨eT,U⟩)):=by rw[lF,aO,bG,aO,aO,aO,G8 e2 (show z rs.flatten=z rs*4 from MRs.dt e4) nv,qY,<-tu e2];rfl
  rw[d];dsimp only;rw[pG c (by simp only[ae,below,nv.cl,aA5]) (by rw[dK _ _ _ (by omega),g])];exact⟨_,rfl,h rs e3 e4⟩
def aiP(H:DK C PK)(j:JV)(O:St)(d:Ok O):∃v,ai C yA [j.av] O=J (v,O)/\M V0 (.df [.da [.cU r,.cU r,.eB U4],.cU r]) v:=by
 have P:hand eF [j.av] O=J ([j.av],O):=NVs.e (.cW j.nv .de) _;have l:Ok (O++[.cH j.B FZ,.cH [.cU r 0,.cU r 0,.cY] FZ]):=d.H (by rw[a07,show AO.below 0 (.cH j.B FZ)=eT from j.ay];rfl);obtain⟨vm,I,m2⟩:=gZ H.kN (azs:=[j.av]) (.cW j.nv .de) (.cW _ _ _ _ (.jv j) .de) l;obtain⟨b,rfl⟩:=NI m2;have G:=JV.dt j;have F:=JV.C j;have k:j.B.take 5=j.B:=a95 (by rw[JV.dt];exact a06 _);have g:5<=z j.B:=by rw[JV.dt];exact a06 _
 have m0:∀e,M V0 (.df [.da [.cU r,.cU r,.eB U4],.cU r]) (.df [.da [.cU r 0,.cU r 0,.sl 0 []],.cU r e]):=λe=>
  .df _ _ (.cW _ _ _ _ (.da _ _ (.eo _ _ _ _ rfl (.cU _ _) (.eo _ _ _ _ rfl (.cU _ _) (.eo _ _ _ _ rfl (.eB _ [] (by simp) (.de _)) .de)))) (XV e .de))
 cases b with
 |false=>have ty:=λ(e:Int)=>bz d (vs:=[.da [.cU r 0,.cU r 0,.sl 0 []],.cU r e]) rfl;refine⟨_,?_,m0 3⟩;unfold JV.av at*;rw[H.hc.go P];simp only[Ov,I,G,F,k,g,ty,aU,bG,dO,AV.cH,AV.C,splice,EVX,seval]
 |true=>
  obtain⟨L,o,ms,f1,f2,A,f4⟩:=H.of _ [j.av] [j.av] _ l (NVs.e (.cW j.nv .de) _) l (.cW _ _ _ _ (.jv j) .de);generalize t:O++[AO.cH j.B FZ,.cH [.cU r 0,.cU r 0,.cY] FZ]=c at*;have l2:z c=z O+2:=by rw[<-t];simp
  have lo:(((4:Nat):Int))=4:=rfl;have N:c[z O]?=J (.cH j.B FZ):=by rw[<-t,aF];rfl
  have lT:z c<=z (c++L):=(by simp);have kT:∀(i:Nat) (y:AO),c[i]?=J y->(c++L)[i]?=J y:=λi y E=>aj E _;generalize hT:c++L=T at*;have W:SI PK c o (z T) ms .cY (T++[.cH [.cU r 0,.cU r 0,.cY] FZ]):=(by refine⟨f2.H rfl,PK.fr f4 λi hi=>by rw[aA3 (A i hi).2],λi hi=>by have:=(A i hi).2;rw[a04];omega,λi hi=>(A i hi).1,λhi=>by have:=(A _ hi).2;omega,lT,⟨0,0,by rw[bK rfl];rfl⟩,.inl rfl,λi y E=>aj (kT i y E) _⟩);have fb:∀(f:FuncId) (n:Nat),([.cH [.ea (.func f) [] []] FZ]:St).all (AO.below n)=eT:=λf n=>rfl;obtain⟨Y1,p1,X,l1⟩:=alM H c o _ ms _ (W.H _ (fb yC _)) (by rw[a04,a04];omega);obtain⟨Y2,p2,Z,R⟩:=aeh H c o _ ms _ (X.H _ (fb uo _)) (by simp only[a04,a90,a94]at l1⊢;omega);obtain⟨Y3,p3,I3,k3⟩:=aeg H c o _ ms _ (Z.H _ (fb um _)) (by simp only[a04,a90,a94]at l1 R⊢;omega);obtain⟨K,x,p4,B,k4⟩:=alL H c o _ ms _ (I3.H _ (fb yB _)) (by simp only[a04,a90,a94]at l1 R k3⊢;omega);have q1:=YA H c o _ (z O+1) ms _ 0 (by omega) _ rfl _ _ p1;have q2:=YA H c o _ (z O+1) ms _ 1 (by omega) _ rfl _ _ p2;have q3:=YA H c o _ (z O+1) ms _ 2 (by omega) _ rfl _ _ p3;have q4:=YA H c o _ (z O+1) ms _ 3 (by omega) _ rfl _ _ p4;have q5:aH C (ai C) 33 [2,4,5,15,16,17] qc [(2,.c8 (z O+1) 0),(4,.c8 o 0),(5,.c8 (z T) 0),(15,.sl 4 NR),(16,.cU r 4),(17,.cU r (3+1:Nat))] K=J (.dq 0,[(2,.c8 (z O+1) 0),(4,.c8 o 0),(5,.c8 (z T) 0)],K):=by rw[aA (he:=rfl)];have h:¬((((3+1:Nat):Nat):Int)<(4:Int)):=(by omega);simp only[qc,h,EVX,seval]
  rw[q2]at q1;rw[q3]at q1;rw[q4,q5]at q1;obtain⟨w,s,d1,d2,j1,j2,j3,j4⟩:=NT (azs:=[]) H.mN B.ok .de B.pk .de;obtain⟨e,rfl⟩:=Qs d2;have m:=B.gL j1 j2 j3 j4;obtain⟨a,b,hs⟩:=m.s;have hres:s[z O+1]?=J (.cH [.cU r 0,.cU r 0,.cY] FZ):=m.an _ _ (by rw[<-t,aN];rfl);have hpre:s.take (z O)=O:=by
   apply aA9;intro i;rw[aA4];split
   ·rename_i hi;have h1:c[i]?=J O[i]:=by rw[<-t];exact aj (a02 hi) _
    rw[m.an i _ h1,a02 hi]
   ·rw[aA1 (by omega)]
  have u:∀y:AO,(s.set (z O+1) y).take (z O)=O:=λy=>by rw[dK _ _ _ (by omega),hpre]
  have V:=λy=>aX hres y;unfold JV.av at*;rw[H.hc.go P];simp only[Int.natCast_zero,ay1]at q1;cases ce:(e !=0)with
  |true=>obtain⟨v,v1,v2⟩:=afw (n0:=z c) (p:=0) (os:=[]) (Y:=s.set (z O+1) (.cH [.cU r 0,.cU r 0,.cY] FZ)) d (by omega) 0 0 e .cY (.inl rfl) [(2,.c8 (z O+1) 0),(3,.cU r e)] rfl rfl (V _) (u _);refine⟨v,?_,v2⟩;rw[<-v1];simp only[Ov,I,f1,agi H,q1,d1,ce,hres,N,bK,iF,G,F,k,g,t,AV.cH,AV.C,splice,EVX,seval]
  |false=>
   have e0:e=0:=(by simpa using ce);have mf:x.C=eT:=(by rcases m.dz with rfl|⟨q,_,rfl,_⟩<;>rfl);have S:adm (z c) (z T) (o::ms) (s.set (z O+1) (.cH [.cU r a,.cU r b,x] FZ)) x:=by
    rcases m.dz with hm|⟨q,rs,y1,y2,y3,y4,y5,y6,y7⟩;·exact .inl hm
    ·exact .inr ⟨q,rs,y1,aG y2 (by omega) _,y3,y4,y5,y6,y7⟩
   obtain⟨v,v1,v2⟩:=afw (Y:=s.set (z O+1) (.cH [.cU r a,.cU r b,x] FZ)) d (by omega) a b 0 x S [(2,.c8 (z O+1) 0),(3,.cU r 0)] rfl rfl (V _) (u _);refine⟨v,?_,v2⟩;rw[<-v1];clear v1 v2 S;rcases m.dz with Q|⟨q,rs,Q,_⟩<;>subst Q<;>simp only[Ov,I,f1,agi H,q1,d1,ce,hres,hs,N,bK,iF,G,F,k,g,t,AV.cH,AV.C,splice,EVX,seval]
def akQ {tg:Option (TypeId×Bool)} (O:St) (k:Nat) (acc cs:LU) (m:Nat) (c:z cs=m) (e:0<m) (b:z acc+m<=70368744177664):
  tX (pile O k (.cH (ofBytes acc) FZ)) 1 1 tg (.dj (z O+k) 0 (z acc) 1) m (ofBytes cs)=J (.dj (z O+(k+1)) 0 (z (acc++cs)) 1,pile O (k+1) (.cH (ofBytes (acc++cs)) FZ)):=by
 have a:¬m=0:=by omega
 have d:(if U=tg then tg else U)=U:=by split<;>simp_all
 unfold tX;rw[if_neg a];simp only[NS];rw[if_pos ⟨trivial,by rw[aI];omega,by omega,b⟩,agj,XB,NM,a04,c,d]
def aka{O:St}(h:Ok O)(k:Nat)(acc:LU)(fz:Fz):Ok (pile O k (.cH (ofBytes acc) fz)):=by unfold pile;refine h.eG ?_;rw[aH9,a01];refine⟨?_,by simp[AO.below,kY]⟩;rw[a97];intro x a;obtain⟨_,rfl⟩:=List.mem_replicate.mp a;rfl
def asj(v:Int):∃b:UInt8,IntKind.u8.wrap v=(b.toNat:Int):=by
 have h:0<=IntKind.u8.wrap v/\IntKind.u8.wrap v<256:=by rw[IntKind.wrap_u8];omega
 refine⟨UInt8.ofNat (IntKind.u8.wrap v).toNat,?_⟩;simp only[UInt8.toNat_ofNat'];omega
structure YL(C:Ctx)(PK:PkI):Prop where
 hW:Has C BI E5
 is:dh C PK Np (.ez [.ds] .cX)
 f3:dh C PK nY (.ez [.ds,.cU .i64] (.df [.cU .i64,.cX]))
def afo(H:YL C PK)(s:LU)(hs:z s<=LB)(i:Int){O:St}(a:Ok O):∃(d:Int) (b:Bool),ai C nY [.cV s,.cU r i] O=J (.df [.cU r d,.cX b],O):=by obtain⟨v,c,h2⟩:=gZ H.f3 (.cW (.cV s) (.cW (.cU r i) .de)) (.cW _ _ _ _ (.ds s hs) (.cW _ _ _ _ (.cU _ _) .de)) a;obtain⟨w,rfl,e⟩:=anW h2;obtain⟨x,y,rfl,f,g⟩:=ae1 e;obtain⟨d,rfl⟩:=Qs f;obtain⟨b,rfl⟩:=NI g;exact⟨d,b,c⟩
def Xi (H:YL C PK) (s:LU) (hs:z s<=LB) (O:St) (c:Ok O):∀(n i k:Nat) (acc:LU),i+2*n=z s->z acc+n<=z s->
  ∃(e:Nat) (a:LU),aH C (ai C) 50 [0,4,5] nS [(0,.cV s),(4,.dj (z O+k) 0 (z acc) 1),(5,.cU r i)] (pile O k (.cH (ofBytes acc) FZ))=
   J (.dq 0,[(4,.dj (z O+e) 0 (z a) 1)],pile O e (.cH (ofBytes a) FZ))/\z a<=z s
 |0,i,k,acc,hi,m=>by refine⟨k,acc,?_,by omega⟩;rw[aA (he:=rfl)];have h:¬((i:Int)<(z s:Int)):=(by omega);simp only[nS,h,bP,EVX,seval]
 |n+1,i,k,acc,hi,m=>by have f:=hs;simp only[LB]at f;have h:((i:Int)<(z s:Int)):=(by omega);have g:=wrS i (by omega);have j:IntKind.i64.wrap ((i:Int)+2)=((i+2:Nat):Int):=wrE (by omega);obtain⟨d1,b1,e1⟩:=afo H s hs (i:Int) (aka c k acc FZ);obtain⟨d2,u,e2⟩:=afo H s hs ((i+1:Nat):Int) (aka c k acc FZ);have t:¬((4:Int)<0):=(by decide);obtain⟨v,hv⟩:∃v,v=(BitVec.ofInt IntKind.i64.bits (IntKind.i64.wrap (d1*2^(min (4:Nat) IntKind.i64.bits)))|||BitVec.ofInt IntKind.i64.bits d2).toNat:=⟨_,rfl⟩;obtain⟨b,hb⟩:=asj (IntKind.i64.wrap (v:Int));have d:∀tg,tX (pile O k (.cH (ofBytes acc) FZ)) 1 1 tg (.dj (z O+k) 0 (z acc) 1) 1 [.cU .u8 b.toNat]=J (.dj (z O+(k+1)) 0 (z (acc++[b])) 1,pile O (k+1) (.cH (ofBytes (acc++[b])) FZ)):=λtg=>akQ O k acc [b] 1 rfl (by omega) (by omega);obtain⟨e,a,q,p⟩:=Xi H s hs O c n (i+2) (k+1) (acc++[b]) (by omega) (by simp;omega);refine⟨e,a,?_,p⟩;rw[aA (he:=rfl)];generalize w:aH C (ai C) 50 [0,4,5] nS=l at*;simp only[nS,h,g,j,e1,e2,t,<-hv,hb,d,q,bP,splice,EVX,seval]
def hex_Decode(H:YL C PK)(s:LU)(hs:z s<=LB)(O:St)(c:Ok O):∃(t:LU) (e:Int),ai C BI [.cV s] O=J (.df [.cV t,.cU r e],O)/\z t<=LB:=by
 rw[H.hW.go (NVs.e (.cW (.cV _) .de) _)];have g:=hs;simp only[LB]at g;obtain⟨v,d,h2⟩:=gZ H.is (.cW (.cV s) .de) (.cW _ _ _ _ (.ds s hs) .de) c;obtain⟨b,rfl⟩:=NI h2;cases b with
 |false=>exact⟨[],3,by simp only[E5,d,bi,EVX,seval],by simp[LB]⟩
 |true=>
  have i:¬((2:Int)=0):=(by decide);cases hr:((z s:Int).tmod 2 !=0)with
  |true=>exact⟨[],4,by simp only[E5,d,i,hr,bi,EVX,seval],by simp[LB]⟩
  |false=>
   have f:(z s:Int).tmod 2=0:=(by simpa using hr);rw[aH6 (by omega)]at f;obtain⟨u,a,h,w⟩:=Xi H s hs O c (z s/2) 0 0 [] (by omega) (by simp;omega);simp only[a94,aH4,ay1]at h;have p:IntKind.i64.wrap ((z s:Int).tdiv 2)=((z s/2:Nat):Int):=by
    have:(z s:Int).tdiv 2=((z s/2:Nat):Int):=by rw[Int.tdiv_eq_ediv_of_nonneg (by omega)];omega
    rw[this,w64]<;>omega
   have k:(0:Int)<=((z s/2:Nat):Int):=(by omega);have l:((z s/2:Nat):Int)<=9223372036854775807:=(by omega);have m:((z s/2:Nat):Int)<=140737488355328:=(by omega);have j:(0:Int)<=0:=(by decide);have n:O++[AO.cH [] FZ]=pile O 0 (.cH (ofBytes []) FZ):=rfl;have hb:=vN a;have o:(ofBytes a).take (z a)=ofBytes a:=a95 (by rw[aI];omega);have q:tidy (z O) [.cV a,.cU r 0] (pile O u (.cH (ofBytes a) FZ))=O:=ad4 c rfl _ _;refine⟨a,0,?_,by omega⟩;simp only[E5,d,i,hr,p,j,k,l,m,n,h,hb,o,q,NS,aI,aF4,Int.one_mul,aB5,ay9,az5,and_self,EVX,seval]
def abu(H:YL C PK):dh C PK BI (.ez [.ds] (.df [.ds,.cU r])):=
 nK H.hW rfl λc g=>by obtain⟨x,rfl,d⟩:=Ro g;obtain⟨a,rfl,f⟩:=wY d;intro O b;obtain⟨t,e,h,i⟩:=hex_Decode H a f O b;exact⟨_,h,.df _ _ (.cW _ _ _ _ (.ds t i) (.cW _ _ _ _ (.cU _ _) .de))⟩
def aeF(H:Oy C)(c:Has C iL uZ):dh C PK iL (.ez [.ds] (.df [.jv,.cU r,.cU r])):=
 nK c rfl λd g=>by obtain⟨x,rfl,f⟩:=Ro g;obtain⟨a,rfl,i⟩:=wY f;intro O b;obtain⟨j,p,e,h⟩:=alT H c a O b;exact⟨_,h,.df _ _ (.cW _ _ _ _ (.jv j) (.cW _ _ _ _ (.cU _ _) (.cW _ _ _ _ (.cU _ _) .de)))⟩
def aeH(H:J6 C PK):dh C PK kE (.ez [.jv] .cX):=
 nK H.kN rfl λc e=>by obtain⟨x,rfl,d⟩:=Ro e;obtain⟨j,rfl⟩:=acm d;intro O a;obtain⟨b,h,_⟩:=Vt H j O a;exact⟨_,h,.cX b⟩
def abw(H:CopyHas C):dh C PK BM (.ez [.jv] .jv):=
 nK H.f0 rfl λb d=>by obtain⟨x,rfl,c⟩:=Ro d;obtain⟨j,rfl⟩:=acm c;intro O a;exact⟨_,LG H j O a,.jv j⟩
def aeG(H:CopyHas C)(F:Yi C)(c:Has C Ej Az):dh C PK Ej (.ez [.jv,.ds] (.df [.jv,.cX])):=
 nK c rfl λd f=>by obtain⟨x,y,rfl,e,h2⟩:=ae1 f;obtain⟨j,rfl⟩:=acm e;obtain⟨s,rfl,_⟩:=wY h2;intro O a;obtain⟨g,b,h⟩:=amj H F c j s O a;exact⟨_,h,.df _ _ (.cW _ _ _ _ (.jv g) (.cW _ _ _ _ (.cX b) .de))⟩
def Yb(H:QJ C)(V:J6 C PK)(d:Has C dZ Be):dh C PK dZ (.ez [.jv] (.df [.ds,.cU r])):=
 nK d rfl λb g=>by obtain⟨x,rfl,c⟩:=Ro g;obtain⟨j,rfl⟩:=acm c;intro O a;obtain⟨s,e,h,f⟩:=X3 H V j O a;exact⟨_,h,.df _ _ (.cW _ _ _ _ (.ds s f) (.cW _ _ _ _ (.cU _ _) .de))⟩
def agU(H:YT C)(g:Has C jW zI):dh C PK jW (.ez [.fS 2 [.ds,.jv,.ds,.jv]] (.df [.jv,.cU r])):=
 nK g rfl λd i=>by
  obtain⟨x,rfl,f⟩:=Ro i;obtain⟨l,rfl,h2⟩:=anU f;intro O a;cases h2 with
  |eo _ _ v1 b1 _ x1 k=>
   obtain⟨s1,rfl,l1⟩:=wY x1;cases k with
   |eo _ _ _ _ h _ _=>exact absurd h (by decide)
   |jv _ b p m=>
    cases m with
    |eo _ _ v3 q _ x3 n=>
     obtain⟨s2,rfl,l2⟩:=wY x3;cases n with
     |eo _ _ _ _ h _ _=>exact absurd h (by decide)|jv _ c s o=>cases o;obtain⟨j,e,h⟩:=Xw H [(⟨s1,l1⟩,b),(⟨s2,l2⟩,c)] (by simp) (by simp) O a;have e1:dH [(⟨s1,l1⟩,b),(⟨s2,l2⟩,c)]=.cV s1::(b.B++.cV s2::(c.B++[])):=(by simp[dH,elC]);rw[e1]at h;exact⟨_,h,.df _ _ (.cW _ _ _ _ (.jv j) (.cW _ _ _ _ (.cU _ _) .de))⟩
variable{V:Val}
def aiO(H:DK C PK):dh C PK yA (.ez [.jv] (.df [.da [.cU r,.cU r,.eB U4],.cU r])):=
 nK H.hc rfl λb d=>by obtain⟨x,rfl,c⟩:=Ro d;obtain⟨j,rfl⟩:=acm c;intro O a;obtain⟨v,h,k⟩:=aiP H j O a;exact⟨v,h,k⟩
def au8{v:AV}(h:M V (.df [.ds,.cX]) v):∃s b,v=.df [.cV s,.cX b]:=by
 cases h with
 |df _ _ h=>
  cases h with
  |cW _ _ x b a h2=>
   cases h2 with
   |cW _ _ y b h3 h4=>cases h4;cases a;cases h3;exact⟨_,_,rfl⟩
def atd{D:Ctx}{PK:PkI}{f:FuncId}{l args:List Sh}(h:dh D PK f (.ro l args .cX))(k:cls args=eT){cs:LA}{fz:Fz}(c:Ms V0 l cs)(hb:ae 0 cs=eT){azs:LA}(g:Mt V0 args azs):∃b:Bool,∀(O:St) (o:Nat),O[o]?=J (.cH cs fz)->pRo D f (.c8 o 0::azs) O=J (.cX b,O):=by
 have i:=Mt.af g k;have a:Ok [AO.cH cs fz]:=by
  have:Ok ([]++[AO.cH cs fz]):=aaf.H (by
   have:AO.below 0 (.cH cs fz)=eT:=hb;rw[a07,this];rfl)
  exact this
 have d:∀(Y:St) (o:Nat),hand eF (.c8 o 0::azs) Y=J (.c8 o 0::azs,Y):=λY o=>by show(match dS Y 12 (.c8 o 0::azs)with|J (l,fs)=>J (l,freeze Y fs)|U=>U)=_;rw[show dS Y 12 (.c8 o 0::azs)=(match bI Y (dS Y 11) (.c8 o 0),aZ Y (dS Y 11) azs with|J (v,fs),J (l,j)=>J (v::l,fs++j)|_,_=>U)from rfl,i.nf,show bI Y (dS Y 11) (.c8 o 0)=J (.c8 o 0,[])from rfl];rfl
 obtain⟨v,e,hv⟩:=h [.cH cs fz] 0 azs azs [.cH cs fz] cs fz a (d _ 0) a rfl c g;obtain⟨b,rfl⟩:=IB hv;refine⟨b,λO o m=>?_⟩;simp only[pRo,d,m,i.cl,hb,e,and_self,if_true,below]
end Go.Ev
namespace Go.Ev
open Bool renaming false→eF, true→eT
open Option renaming some→J, none→U
open List renaming length→z
open Go.IntKind renaming i64→r
set_option maxRecDepth 100000
variable{C:Ctx}{V:Val}
structure lN.ok(r:lN):Prop where
 ks:Cm r.ks
 rt:uy r.rt.O
 sn:uy r.sn.O
 tg:uy r.tg.O
def ai5(d:LA)(h:Ms V [.ds] d):∃s,d=sC s/\z s<=LB:=by obtain⟨s,b,rfl,a,c⟩:=uq h;rw[xM c];exact⟨s,rfl,a⟩
def ao3{v:AV}(h:M V (.da [.cU r,.cU r,.eB [.ds,.ds],.cU r,.eB [.ds],.cU r,.eB [.ds],.cU r,.eB [.ds]]) v):∃j:lN,v=.da j.B/\j.ok:=by
 cases h with
 |da _ v h=>obtain⟨a,b,rfl,c⟩:=vV h;obtain⟨e,b,rfl,h2⟩:=vV c;obtain⟨k,b,rfl,l1,q1,h3⟩:=Ap ai4 h2;obtain⟨t1,b,rfl,h4⟩:=vV h3;obtain⟨f,b,rfl,l2,q2,h5⟩:=Ap ai5 h4;obtain⟨t2,b,rfl,h6⟩:=vV h5;obtain⟨g,b,rfl,l3,q3,h7⟩:=Ap ai5 h6;obtain⟨t3,b,rfl,h8⟩:=vV h7;obtain⟨i,b,rfl,l4,q4,d⟩:=Ap ai5 h8;rw[xM d];exact⟨⟨a,e,k,⟨t1,f⟩,⟨t2,g⟩,⟨t3,i⟩⟩,rfl,⟨l1,q1⟩,⟨l2,q2⟩,⟨l3,q3⟩,⟨l4,q4⟩⟩
def ahc:lN:=⟨0,0,[],⟨0,[]⟩,⟨0,[]⟩,⟨0,[]⟩⟩
def aat(R:lN)(e:Int):lN:=if e=0 then R else ahc
structure RootHas(C:Ctx):Prop extends ChkTot C where
 dv:Has C BH Bg
 oq:∀data:LU,data.length<=LB->∃(r:AV) (e:Int),M V0 afy r/\∀Y,ai C Eh [.cV data] Y=some (.df [r,.cU .i64 e],Y)
 oe:∀j:JV,∃(r:lN) (e:Int),r.ok/\∀Y,ai C Jt [j.av] Y=some (.df [.da r.B,.cU .i64 e],Y)
def abm (H:RootHas C) (h:Bool) (l:List iK) (b1:xK l=eF) (data:LU) (A:z data<=LB):
  ∃(R:lN) (e:Int),R.ok/\∀(O:St) (o:Nat),Ok O->O[o]?=J (PY h l)->ai C BH [.c8 o 0,.cV data] O=J (.df [.da (aat R e).B,.cU r e],O):=by
 obtain⟨du,e1,y,q1⟩:=H.oq data A;obtain⟨k,g,rfl,Z⟩:=ae3 y;obtain⟨R,e2,b,q2⟩:=H.oe k;obtain⟨en,q3⟩:=H.cK h l _ R.rt.th R.rt.O R.ks b1 b.rt b.ks y;obtain⟨r0,r1,r2,r3,r4,F,⟨⟨i,S,n0⟩,K⟩,⟨⟨f1,T,n1⟩,M⟩,⟨⟨j,V,n2⟩,N⟩,⟨⟨m,W,n3⟩,P⟩,⟨⟨n,X,n4⟩,Q⟩⟩:=k.hu;unfold JV.av at q2;rw[F]at q1 q2 q3;simp only[a09,a98]at q1 q3;have p:∀(o:Nat) (Y:St),hand eF [.c8 o 0,.cV data] Y=J ([.c8 o 0,.cV data],Y):=λ_ _=>rfl;have x:below 0 (.sl (z g) (g.flatMap pC))=eT:=(wL g).cl;have pe:AO.below 0 (.cH [r0,r1,r2,r3,r4,.sl (z g) (g.flatMap pC)] FZ)=eT:=by simp only[AO.below,ae,K,M,N,P,Q,x,az9]
 have pr:AO.below 0 (.cH R.B FZ)=eT:=R.af.cl;have zn:AO.below 0 (.cH [.cU r 0,.cU r 0,.cY,.cU r 0,.cY,.cU r 0,.cY,.cU r 0,.cY] FZ)=eT:=rfl;have q:=R.f2;have zc:aat R (-1)=ahc:=if_neg (by decide);have refuse:∀(O:St) (e:Int) (L:St) (E:As),Ok O->look E 4=.c8 (z O) 0->look E 5=.cU r e->(∃d,L=.cH [.cU r 0,.cU r 0,.cY,.cU r 0,.cY,.cU r 0,.cY,.cU r 0,.cY] FZ::d)->mD (z O) [.eS 4 eT 9,.fX 5] (J (.ef,E,O++L))=J (.df [.da ahc.B,.cU r e],O):=by intro O e L E a h4 h5 B;obtain⟨d,rfl⟩:=B;have res:aU E (O++.cH [.cU r 0,.cU r 0,.cY,.cU r 0,.cY,.cU r 0,.cY,.cU r 0,.cY] FZ::d) [.eS 4 eT 9,.fX 5]=J [.da [.cU r 0,.cU r 0,.cY,.cU r 0,.cY,.cU r 0,.cY,.cU r 0,.cY],.cU r e]:=(by simp only[aU,h4,h5,aF,EVX,seval]);have D:hand eF [.da [.cU r 0,.cU r 0,.cY,.cU r 0,.cY,.cU r 0,.cY,.cU r 0,.cY],.cU r e] (O++.cH [.cU r 0,.cU r 0,.cY,.cU r 0,.cY,.cU r 0,.cY,.cU r 0,.cY] FZ::d)=J ([.da ahc.B,.cU r e],O++.cH [.cU r 0,.cU r 0,.cY,.cU r 0,.cY,.cU r 0,.cY,.cU r 0,.cY] FZ::d):=rfl;rw[vO res D,bz a rfl];rfl
 by_cases s:e1=0
 case neg=>have t:(e1 !=0)=eT:=(by simpa using s);refine⟨R,e1,b,λO o a f=>?_⟩;rw[H.dv.go (p o O),aat,if_neg s];generalize c:mD=w;simp only[Bg,q1,t,i,f1,j,m,n,splice,aF,aN,fF,EVX,seval];rw[<-c];exact refuse _ _ _ _ a rfl rfl ⟨_,rfl⟩
 subst s;by_cases u:e2=0
 case neg=>have v:(e2 !=0)=eT:=(by simpa using u);refine⟨R,e2,b,λO o a f=>?_⟩;rw[H.dv.go (p o O),aat,if_neg u];rw[q]at q2;generalize c:mD=w;simp only[Bg,q1,q2,v,i,f1,j,m,n,splice,aF,aN,fF,EVX,seval];rw[<-c];exact refuse _ _ _ _ a rfl rfl ⟨_,rfl⟩
 subst u;rw[q]at q2;rw[show aC R.rt.th R.rt.O=[.cU r R.rt.th,.sl (z R.rt.O) (R.rt.O.flatMap sC)]from rfl]at q3;cases en with
 |false=>refine⟨R,4,b,λO o a f=>?_⟩;rw[H.dv.go (p o O),aat,if_neg (by decide)];have q4:=λL=>q3 (O++L) o (aj f L);generalize c:mD=w;simp only[Bg,q1,q2,q4,i,f1,j,m,n,splice,aF,aN,fF,EVX,seval];rw[<-c];exact refuse _ _ _ _ a rfl rfl ⟨_,rfl⟩|true=>refine⟨R,0,b,λO o a f=>?_⟩;rw[H.dv.go (p o O),aat,if_pos rfl];have q4:=λL=>q3 (O++L) o (aj f L);have I:=λL=>bz a (vs:=[.da R.B,.cU r 0]) (by rw[ae,below,R.af.cl];rfl) L;have G:NVs [.da R.B,.cU r 0]:=.cW (.da R.af) (.cW (.cU _ _) .de);generalize c:mD=w;simp only[Bg,q1,q2,q4,i,f1,j,m,n,splice,aF,aN,fF,EVX,seval];rw[<-c];refine(Fj (vs:=[.da R.B,.cU r 0]) ?_ G).trans (by rw[I];rfl);rw[q];simp only[aU,aF,EVX,seval]
end Go.Ev
namespace Go.Ev
open Bool renaming false→eF, true→eT
open Option renaming some→J, none→U
open List renaming length→z
open Go.IntKind renaming i64→r
set_option maxRecDepth 100000
variable{C:Ctx}
structure bD where
 E:LU
 cq:Int
 al:Int
 am:LU
def bD.bp(f:bD):LA:=[.cU r f.cq,.cU r f.al,.cV f.am]
def bD.cG(f:bD):AV×AV:=(.cV f.E,.da f.bp)
def afF(file:LU)(cap:Int):Option PS->bD|J p=>if cap<z p.2 then⟨file,cap,-2,[]⟩else⟨file,cap,z p.2,p.2⟩|U=>⟨file,cap,-1,[]⟩
def NC(fs:List PS)(file:LU)(cap:Int):bD:=afF file cap (fs.find? λp=>decide (p.1=file))
def CY(Y:St)(fv:AV)(fs:List PS)(fo:Option Nat):Prop:=(fs=[]/\fo=U/\fv=.eC 0 [])\/(∃q a,fo=J q/\fs≠[]/\fv=.dj q 0 (z fs) 2/\Y[q]?=J (.cH (fs.flatMap pC) a))\/(fo=U/\fv=.sl (z fs) (fs.flatMap pC))
def abe{a:Type}(Y:St)(v:AV)(sz:Nat)(c:a->LA)(xs:List a)(oo:Option Nat):Prop:=(xs=[]/\oo=U/\v=.cY)\/∃q,oo=J q/\xs≠[]/\v=.dj q 0 (z xs) sz/\Y[q]?=J (.cH (xs.flatMap c) FZ)
def atq(Y:St)(ov:AV)(F:List bD)(oo:Option Nat):Prop:=abe Y ov 1 (λf=>[.cV f.E]) F oo
def CY.H{Y:St}{fv:AV}{fs:List PS}{fo:Option Nat}(h:CY Y fv fs fo)(L:St):CY (Y++L) fv fs fo:=by
 rcases h with h|⟨q,e,a,b,c,d⟩|h;·exact .inl h
 ·exact .inr (.inl ⟨q,e,a,b,c,aj d L⟩)
 ·exact .inr (.inr h)
def CY.bl{Y:St}{fv:AV}{fs:List PS}{fo:Option Nat}(h:CY Y fv fs fo){n:Nat}(b:z Y<=n):below n fv=eT:=by
 rcases h with⟨_,_,rfl⟩|⟨q,a,_,_,rfl,d⟩|⟨_,rfl⟩;·rfl
 ·have:=(a00.mp d).1;simp only[below,decide_eq_true_eq];omega
 ·exact aK (a99 _) _ (gu (λ_=>rfl) fs)
def ahM (Y:St) (fv:AV) (fs:List PS) (fo:Option Nat) (hf:CY Y fv fs fo) (H:z fs<=1000) (file:LU) (cap:Int):∀(n i:Nat) (G:St),i+n=z fs->
  ∃f,aH C (ai C) 39 [1,2,6,12,13,14] fV [(1,.cV file),(2,.cU r cap),(6,.c8 (z Y) 0),(12,fv),(13,.cU r (z fs)),(14,.cU r i)] (Y++([.cH [.cU r 0,.cU r 0,.cV []] FZ]++G))=
   J (match(fs.drop i).find? (λp=>decide (p.1=file))with|J p=>(.ef,[(6,.c8 (z Y) 0)],Y++([.cH (afF file cap (J p)).bp FZ]++f))|U=>(.dq 0,[(2,.cU r cap),(6,.c8 (z Y) 0)],Y++([.cH [.cU r 0,.cU r 0,.cV []] FZ]++f))):=by
 intro n
 induction n with
 |zero=>intro i G hi;refine⟨G,?_⟩;rw[aA (he:=rfl),az1 (by omega)];have h:¬((i:Int)<(z fs:Int)):=(by omega);simp only[fV,h,List.find?_nil,EVX,seval]
 |succ n l=>
  intro i G hi;rcases hf with⟨rfl,_,_⟩|⟨q,D,e1,e2,rfl,x⟩|⟨_,rfl⟩;·simp at hi
  all_goals
   have fl:=bZ Dy fs;have a:i<z fs:=(by omega);have e:=kK Dy (a02 a);have w:fs.drop i=fs[i]::fs.drop (i+1):=ay6 a;rw[w];generalize fs[i]=p at*;rw[show pC p=[.cV p.1,.cV p.2]from rfl]at e;simp only[a09,a98]at e;obtain⟨f,l⟩:=l (i+1) (G++[.cH [.cV p.1,.cV p.2] FZ]) (by omega);have h:((i:Int)<(z fs:Int)):=(by omega);have h3:(0:Int)<=i:=(by omega);have B:=wrS i (by omega);have s:(Y++([.cH [.cU r 0,.cU r 0,.cV []] FZ]++G))[z Y]?=J (.cH [.cU r 0,.cU r 0,.cV []] FZ):=by rw[aF];rfl
   have u:∀y:AO,(Y++([AO.cH [.cU r 0,.cU r 0,.cV []] FZ]++G)).set (z Y) y=Y++([y]++G):=λy=>by rw[dm];rfl
   have m:Y++([.cH [.cU r 0,.cU r 0,.cV []] FZ]++(G++[.cH [.cV p.1,.cV p.2] FZ]))=(Y++([.cH [.cU r 0,.cU r 0,.cV []] FZ]++G))++[.cH [.cV p.1,.cV p.2] FZ]:=(by simp);first|have j:=aj x ([.cH [.cU r 0,.cU r 0,.cV []] FZ]++G)|have j:=trivial
   rw[m]at l;rw[aA (he:=rfl)];generalize F:aH C (ai C) 39 [1,2,6,12,13,14] fV=k at*;generalize E:Y++([.cH [.cU r 0,.cU r 0,.cV []] FZ]++G)=T at*;have t:=λL=>aj s L;have v:=λL y=>fK s L y;by_cases c:p.1=file
   ·subst c;rw[List.find?_cons_of_pos (by simp)];refine⟨G++[.cH [.cV p.1,.cV p.2] FZ],?_⟩;by_cases g:cap<(z p.2:Int);·simp only[fV,h,h3,a,e,fl,j,t,v,g,bP,aF,AV.cH,AV.C,splice,EVX,seval];rw[u];simp[afF,g,bD.bp]
    ·simp only[fV,h,h3,a,e,fl,j,t,v,g,bP,aF,AV.cH,AV.C,splice,EVX,seval];rw[u];simp[afF,g,bD.bp]
   ·rw[List.find?_cons_of_neg (by simpa using c)];refine⟨f,?_⟩;rw[<-l];simp only[fV,h,h3,B,a,e,fl,j,c,aF,AV.cH,AV.C,splice,EVX,seval]
def aaO (l:Has C yS tZ) (Y:St) (h:Ok Y) (s:Nat) (nm:AV) (m ov:AV) (fv:AV) (fs:List PS) (fo:Option Nat) (hs:Y[s]?=J (.cH [nm,fv,m,ov] FZ)) (hf:CY Y fv fs fo) (n:z fs<=1000) (file:LU) (cap:Int):
  ai C yS [.c8 s 0,.cV file,.cU r cap] Y=J (.da (NC fs file cap).bp,Y):=by
 have o:hand eF [.c8 s 0,.cV file,.cU r cap] Y=J ([.c8 s 0,.cV file,.cU r cap],Y):=rfl;rw[l.go o];obtain⟨t,d⟩:=ahM (C:=C) Y fv fs fo hf n file cap (z fs) 0 [] (by omega);rw[show((0:Nat):Int)=0 from rfl,ay9,ay5]at d;have g:=λL=>aj hs L;have f:bP (Y++[.cH [.cU r 0,.cU r 0,.cV []] FZ]) 1 fv=J (z fs):=by rcases hf with⟨rfl,_,rfl⟩|⟨q,v,e1,e2,rfl,u⟩|⟨_,rfl⟩<;>rfl
 have i:=λ(a b:Int) (c:LU)=>bz h (vs:=[.da [.cU r a,.cU r b,.cV c]]) rfl;unfold NC;cases e:fs.find? (λp=>decide (p.1=file))with
 |some p=>rw[e]at d;unfold bD.bp at d⊢;simp only[a09,a98]at d;simp only[tZ,g,f,d,i,aU,bG,aF,EVX,seval]|none=>rw[e]at d;have j:=λL:St=>aF Y (.cH [.cU r 0,.cU r 0,.cV []] FZ::L);have k:=λ(L:St) (y:AO)=>dm Y (.cH [.cU r 0,.cU r 0,.cV []] FZ::L) y;simp only[afF,bD.bp,a09,a98]at d⊢;simp only[tZ,g,f,d,i,aU,bG,aF,j,k,AV.cH,AV.C,splice,EVX,seval]
def O5(n:LU):∀(F:List bD) (i:Nat),(∀f,F.find? (λf=>decide (f.E=n))=J f->∃k,lZ (.cV n) (F.map bD.cG) i=J (J (k,.da f.bp)))/\(F.find? (λf=>decide (f.E=n))=U->lZ (.cV n) (F.map bD.cG) i=J U)
 |[],i=>⟨λf h=>(by cases h),λ_=>rfl⟩
 |g::F,i=>by
  obtain⟨a,h2⟩:=O5 n F (i+1);have b:lZ (.cV n) ((g::F).map bD.cG) i=match decide (n=g.E)with
   |eT=>J (J (i,.da g.bp))|eF=>lZ (.cV n) (F.map bD.cG) (i+1):=by
   rw[az3,bD.cG,lZ,Z8,kZ];cases decide (n=g.E)<;>rfl
  grind
structure kH(Y:St)(nm:LU)(fs:List PS)(F:List bD)(s m:Nat)(fo oo:Option Nat):Prop where
 st:∃fv ov,Y[s]?=some (.cH [.cV nm,fv,.ec m,ov] FZ)/\CY Y fv fs fo/\atq Y ov F oo
 mp:Y[m]?=some (.ec (F.map bD.cG))
 dt:F.length<=1000000/\fs.length<=1000
 k5:fo≠some s
 os:oo≠some s
 mb:∀q,fo=some q->oo≠some q
def kH.sm{Y:St}{nm fs F s m fo oo}(h:kH Y nm fs F s m fo oo):s≠m:=λe=>by grind [h.st,h.mp]
def kH.fm{Y:St}{nm fs F s m fo oo}(h:kH Y nm fs F s m fo oo):fo≠J m:=λe=>by
 obtain⟨f,ov,_,h2,_⟩:=h.st;rcases h2 with⟨_,h2,_⟩|⟨q,g,a,b,c,d⟩|⟨h2,_⟩;·rw[e]at h2;cases h2
 ·rw[e]at a;cases a;rw[h.mp]at d;cases d
 ·rw[e]at h2;cases h2
def kH.om{Y:St}{nm fs F s m fo oo}(h:kH Y nm fs F s m fo oo):oo≠J m:=λe=>by
 obtain⟨f,ov,_,_,h2⟩:=h.st;rcases h2 with⟨_,h2,_⟩|⟨q,a,b,c,d⟩;·rw[e]at h2;cases h2
 ·rw[e]at a;cases a;rw[h.mp]at d;cases d
def tH(fs:List PS)(F:List bD)(file:LU)(cap:Int):bD×List bD:=match F.find? (λf=>decide (f.E=file))with|J f=>(f,F)|U=>(NC fs file cap,F++[NC fs file cap])
structure StoHas(C:Ctx):Prop where
 dr:Has C GR F9
 ma:Has C yS tZ
 b2:Has C oI Bj
def LC(H:StoHas C){Y:St}{s:Nat}{nm fv ov:AV}{m:Nat}(hs:Y[s]?=J (.cH [nm,fv,.ec m,ov] FZ)):ai C GR [.c8 s 0] Y=J (.cX eT,Y):=by have a:=jM s Y;rw[H.dr.go a];simp only[F9,hs,EVX,seval]
def abA (H:StoHas C) {Y:St} (d:Ok Y) {nm fs F s m fo oo} (h:kH Y nm fs F s m fo oo) (file:LU) (cap:Int) (o:0<=cap/\cap<=65536) (f:bD) (hf:F.find? (λf=>decide (f.E=file))=J f):
  ai C oI [.c8 s 0,.cV file,.cU r cap] Y=J (.df [.cV f.am,.cU r f.al,.cU r 0],Y):=by
 have j:hand eF [.c8 s 0,.cV file,.cU r cap] Y=J ([.c8 s 0,.cV file,.cU r cap],Y):=rfl;obtain⟨n,ov,hs,_,_⟩:=h.st;have i:=h.mp;have q1:=LC H hs;obtain⟨k,q2⟩:=(O5 file F 0).1 f hf;have e:¬cap<0:=by omega
 have g:¬(65536:Int)<cap:=by omega
 have l:=λ(a:LU) (b c:Int)=>bz d (vs:=[.cV a,.cU r b,.cU r c]) rfl;rw[H.b2.go j];unfold bD.bp at q2;simp only[Bj,q1,q2,e,g,hs,i,mapOf,l,aF,dm,AV.cH,AV.C,splice,EVX,seval]
def OZ(fs:List PS)(file:LU)(cap:Int):(NC fs file cap).E=file:=by
 unfold NC afF;split;·split<;>rfl
 ·rfl
def aaZ{n i:Nat}{x:AO}{S:St}(vs:LA)(hi:i<n)(h:S[i]?=J x)(hb:x.below n=eF):tidy n vs S=S:=by
 unfold tidy;split;·rfl
 ·rw[if_neg];intro a;rw[a01,a97]at a;have:=a.2 x (a08 (i:=i) (by rw[aA4,if_pos hi];exact h));rw[hb]at this;cases this
def aes {b:Type} {Y:St} (a:Ok Y) {v:AV} {sz bytes:Nat} {c:b->LA} (k:∀x,z (c x)=sz) (hb:∀x,ae 0 (c x)=eT) {xs:List b} {oo:Option Nat} (h:abe Y v sz c xs oo) (d:(z xs+1)*bytes<=70368744177664) (f:z xs+1<=70368744177664) (y:b):
  ∃S,tX Y sz bytes U v 1 (c y)=J (.dj (z Y) 0 (z xs+1) sz,S)/\z S=z Y+1/\S[z Y]?=J (.cH ((xs++[y]).flatMap c) FZ)/\(∀i x,oo≠J i->Y[i]?=J x->S[i]?=J x)/\Ok S:=by
 have nb:∀l:List b,ae 0 (l.flatMap c)=eT:=λl=>gu hb l;have fl:(xs++[y]).flatMap c=xs.flatMap c++c y:=by simp
 rcases h with⟨rfl,rfl,rfl⟩|⟨q,rfl,n,rfl,j⟩;·refine⟨Y++[.cH (c y) FZ],?_,by simp,by rw[aF,fl];rfl,λi x _ g=>aj g _,a.H (by simp only[a07,az6,AO.below,hb,az9])⟩;unfold tX;rw[if_neg (by decide)];simp only[a94,az5]at d f⊢;rw[if_pos ⟨d,f⟩]
 ·have m:=(a00.mp j).1;refine⟨Y.set q .eq++[.cH ((xs++[y]).flatMap c) FZ],?_,by simp,by rw[bK (by simp)];rfl,λi x hi g=>aj (aG g (λe=>hi (by rw[e])) _) _,?_⟩;·unfold tX;rw[if_neg (by decide)];simp only[j];rw[if_pos ⟨trivial,bZ k xs,d,f⟩,fl];simp
  ·refine Ok.H (Ok.bd a q rfl) ?_;simp only[a07,az6,AO.below,nb,az9]
def al6(n:Nat)(F:List bD):AO.below n (.ec (F.map bD.cG))=eT:=by
 have c:ae n ((F.map bD.cG).map (·.1))=eT:=by
  induction F with
  |nil=>rfl|cons a l b=>rw[az3,az3,ae,b];rfl
 have h2:ae n ((F.map bD.cG).map (·.2))=eT:=by
  clear c
  induction F with
  |nil=>rfl|cons a l b=>rw[az3,az3,ae,b];rfl
 rw[AO.below,c,h2];rfl
def abz (H:StoHas C) {Y:St} (D:Ok Y) {nm fs F s m fo oo} (h:kH Y nm fs F s m fo oo) (hF:z F<1000000) (file:LU) (cap:Int) (hc:0<=cap/\cap<=65536) (hf:F.find? (λf=>decide (f.E=file))=U):
  ∃w G,ai C oI [.c8 s 0,.cV file,.cU r cap] Y=J (.df [.cV (NC fs file cap).am,.cU r (NC fs file cap).al,.cU r 0],w)/\Ok w/\kH w nm fs (F++[NC fs file cap]) s m fo G/\z Y<=z w/\(∀i x,i≠s->i≠m->oo≠J i->Y[i]?=J x->w[i]?=J x)/\∀q,G=J q->z Y<=q:=by
 have Z:hand eF [.c8 s 0,.cV file,.cU r cap] Y=J ([.c8 s 0,.cV file,.cU r cap],Y):=rfl;obtain⟨v,ov,hs,l,A⟩:=h.st;have N:=h.mp;have q1:=LC H hs;have q2:=(O5 file F 0).2 hf;have V:¬cap<0:=by omega
 have W:¬(65536:Int)<cap:=by omega
 have u:=OZ fs file cap;obtain⟨co,hr⟩:∃co,NC fs file cap=co:=⟨_,rfl⟩;rw[hr]at u⊢;have sl:s<z Y:=(a00.mp hs).1;have ml:m<z Y:=(a00.mp N).1;have rb:AO.below 0 (.cH co.bp FZ)=eT:=rfl;have ok0:Ok (Y++[.cH co.bp FZ]):=D.H (by rw[a07,rb];rfl);have q3:=aaO H.ma _ (D.H (L:=[.cH [.cU r 0,.cU r 0,.cV []] FZ]) rfl) s _ _ ov v fs fo (aj hs _) (l.H _) h.dt.2 file cap;rw[hr]at q3;obtain⟨T0,g⟩:∃T,Y++[.cH co.bp FZ]=T:=⟨_,rfl⟩;have l0:z T0=z Y+1:=by rw[<-g];simp
 have s0:T0[s]?=_:=g▸aj hs _;have Q:T0[m]?=_:=g▸aj N _;have x0:T0[z Y]?=J (.cH co.bp FZ):=by rw[<-g,aF];rfl
 rw[g]at ok0;have E:Ok (T0.set m (.ec ((F++[co]).map bD.cG))):=Ok.bd ok0 m (al6 _ _);obtain⟨t,j⟩:∃T,T0.set m (.ec ((F++[co]).map bD.cG))=T:=⟨_,rfl⟩;have l1:z t=z Y+1:=by rw[<-j,a96,l0]
 have s1:t[s]?=_:=j▸aG s0 h.sm _;have m1:t[m]?=J (.ec ((F++[co]).map bD.cG)):=j▸aX Q _;have x1:t[z Y]?=J (.cH co.bp FZ):=j▸aG x0 (by omega) _;rw[j]at E;have B:atq t ov F oo:=by
  rcases A with k|⟨q,a,b,c,d⟩;·exact .inl k
  ·refine .inr ⟨q,a,b,c,?_⟩;have:T0[q]?=_:=g▸aj d _;exact j▸aG this (λe=>h.om (by rw[a,e])) _
 obtain⟨I,a1,l2,R,K,O⟩:=aes (c:=λf:bD=>[AV.cV f.E]) (sz:=1) (bytes:=16) E (λ_=>rfl) (λ_=>rfl) B (by omega) (by omega) co
 rw[l1]at a1 l2 R;have s2:=K s _ h.os s1;have m2:=K m _ h.om m1;have x2:=K (z Y) _ (λe=>by
  rcases A with⟨_,k,_⟩|⟨q,a,_,_,d⟩;·rw[k]at e;cases e
  ·rw[a]at e;cases e;have:=(a00.mp d).1;omega) x1
 obtain⟨S,o⟩:∃S,I.set s (.cH [.cV nm,v,.ec m,.dj (z Y+1) 0 (z F+1) 1] FZ)=S:=⟨_,rfl⟩;have x3:S[z Y]?=J (.cH co.bp FZ):=o▸aG x2 (by omega) _;have s3:S[s]?=J (.cH [.cV nm,v,.ec m,.dj (z Y+1) 0 (z F+1) 1] FZ):=o▸aX s2 _;have m3:S[m]?=J (.ec ((F++[co]).map bD.cG)):=o▸aG m2 (λe=>h.sm e.symm) _;have n3:S[z Y+1]?=J (.cH ((F++[co]).flatMap λf=>[.cV f.E]) FZ):=o▸aG R (by omega) _;have old:∀i x,i≠s->i≠m->oo≠J i->Y[i]?=J x->S[i]?=J x:=λi x M h2 h3 hx=>by have a0:T0[i]?=J x:=g▸aj hx _;have a1:t[i]?=J x:=j▸aG a0 h2 _;exact o▸aG (K i x h3 a1) M _
 have ty:=λvs:LA=>aaZ (n:=z Y) vs sl s3 (by simp[AO.below,ae,below]);have e0:(F++[co]).map bD.cG=F.map bD.cG++[(.cV file,.da co.bp)]:=by rw[List.map_append,<-u];rfl
 refine⟨S,J (z Y+1),?_,?_,?_,?_,old,λq e=>by cases e;omega⟩
 ·rw[H.b2.go Z];rw[u]at a1;have p:T0.set m (.ec (F.map bD.cG++[(.cV file,.da co.bp)]))=t:=by rw[<-e0];exact j
  unfold bD.bp at q3 g x0 x3 p;have z0:=λL:St=>aF Y (.cH [.cU r 0,.cU r 0,.cV []] FZ::L);have z1:=λ(L:St) (y:AO)=>dm Y (.cH [.cU r 0,.cU r 0,.cV []] FZ::L) y;simp only[Bj,q1,q2,q3,V,W,hs,N,s0,Q,x0,s1,s2,g,p,o,a1,x3,mapOf,ty,z0,z1,AV.cH,AV.C,splice,EVX,seval]
 ·have:=Ok.bd O s (x:=.cH [.cV nm,v,.ec m,.dj (z Y+1) 0 (z F+1) 1] FZ) (by
   have fb:below (z I) v=eT:=(by exact l.bl (by omega));have M:m<z I:=(by omega);have h2:z Y+1<z I:=(by omega);simp[AO.below,ae,below,fb,M,h2])
  rwa[o]at this
 ·refine⟨⟨v,_,s3,?_,.inr ⟨z Y+1,rfl,by simp,by simp,n3⟩⟩,m3,⟨by simp;omega,h.dt.2⟩,h.k5,λe=>by cases e;omega,λq e X=>?_⟩
  ·rcases l with k|⟨q,P,a,b,c,d⟩|k;·exact .inl k
   ·exact .inr (.inl ⟨q,P,a,b,c,old q _ (λe=>h.k5 (by rw[a,e])) (λe=>h.fm (by rw[a,e])) (h.mb q a) d⟩)
   ·exact .inr (.inr k)
  ·cases X;rcases l with⟨_,k,_⟩|⟨q,P,a,b,c,d⟩|⟨k,_⟩;·rw[k]at e;cases e
   ·rw[a]at e;cases e;have:=(a00.mp d).1;omega
   ·rw[k]at e;cases e
 ·rw[<-o,a96];omega
def Uniq(F:List bD):Prop:=∀f∈F,F.find? (λg=>decide (g.E=f.E))=J f
structure TelHas(C:Ctx):Prop extends StoHas C where
 told:Has C GN F8
 m0:Has C CU CP
def nameB(b:UInt8):Bool:=(97<=b.toNat&&b.toNat<=122)||(65<=b.toNat&&b.toNat<=90)||(48<=b.toNat&&b.toNat<=57)||b.toNat==46||b.toNat==95||b.toNat==45
def UW(a:Has C qQ qI)(b:UInt8)(O:St):ai C qQ [.cU .u8 b.toNat] O=J (.cX (nameB b),O):=by
 rw[a.go (NVs.e (.cW (.cU _ _) .de) _)];simp only[qI,EVX,seval];repeat' (first|rw[aqS]|rw[aqR]|rw[awg]|rw[awf]);split<;>(try simp only[*,EVX,seval])
 all_goals (simp only[decide_eq_true_eq,decide_eq_false_iff_not,beq_iff_eq,beq_eq_false_iff_ne,ne_eq]at*;rw[a05,ay8,AV.cX.injEq,aH5];simp[nameB];omega)
def NK (b:Has C qQ qI) (s:LU) (hs:z s<=64) (O:St):∀(n i:Nat),i+n=z s->
  aH C (ai C) 27 [0,17,18] sO [(0,.cV s),(17,.cU r (z s)),(18,.cU r i)] O=
   if(s.drop i).all nameB then J (.dq 0,[],O)else J (.ef,[(2,.cX eF)],O)
 |0,i,hi=>by rw[aA (he:=rfl)];have h:¬((i:Int)<(z s:Int)):=(by omega);have a:s.drop i=[]:=az1 (by omega);simp only[sO,h,a,EVX,seval]
 |n+1,i,hi=>by
  rw[aA (he:=rfl)];generalize e:aH C (ai C) 27 [0,17,18] sO=k;have h:((i:Int)<(z s:Int)):=(by omega);have h2:i<z s:=(by omega);have hb:s[i]?=J s[i]:=a02 h2;have a:s.drop i=s[i]::s.drop (i+1):=ay6 h2;have f:=wrS i (by omega);have h3:(0:Int)<=i:=(by omega);cases c:nameB s[i];·simp only[sO,h,a,h3,hb,c,aF3,UW b,EVX,seval]
  ·simp only[sO,h,a,h3,hb,f,c,aA6,UW b,EVX,seval];rw[<-e,NK b s hs O n (i+1) (by omega)]
def role(s:LU):Bool:=!s.isEmpty&&z s<=64&&s.head? !=J 46&&s.all nameB
def VX(g:Has C xG Aw)(h:Has C qQ qI)(s:LU)(O:St):ai C xG [.cV s] O=J (.cX (role s),O):=by
 rw[g.go (NVs.e (.cW (.cV _) .de) _)];cases s with
 |nil=>simp only[Aw,EVX,seval];rfl
 |cons b l=>
  have f:(b::l)≠[]:=(by simp);have hb:(b::l)[0]?=J b:=rfl;have hr:role (b::l)=(z (b::l)<=64&&b.toNat !=46&&(b::l).all nameB):=by
   have:(b.toNat=46)↔(b=46):=by rw[<-aI0];rfl
   have e:(b==46)=(b.toNat==46):=by rw[aH5];simp[this]
   simp[role,bne,e]
  rw[hr];have d:=λc=>NK h (b::l) c O (z (b::l)) 0 (by omega);generalize b::l=s at*;simp only[Aw,f,EVX,seval];by_cases c:z s<=64
  ·have a:¬(64:Int)<(z s:Int):=(by omega);have d:=d c;simp only[ay9,ay1]at d;simp only[a,hb,EVX,seval];rw[anc];split<;>rename_i h5<;>simp only[beq_iff_eq]at h5
   ·have:(b.toNat !=46)=eF:=by simp;omega
    simp only[this,Bool.and_false,aF3,EVX,seval]
   ·have:(b.toNat !=46)=eT:=by simp;omega
    simp only[this,c,aA6,d,EVX,seval];cases s.all nameB<;>simp only[EVX,seval]
  ·have a:(64:Int)<(z s:Int):=(by omega);simp only[a,c,aF3,EVX,seval]
def mg:LU:=[46,106,115,111,110]
def Xe(s:LU):AV:=if role s then .df [.cV (s++mg),.cU r 0]else .df [.cV [],.cU r 3]
def apk{s:LU}(h:role s=eT):z s<=64:=by simp[role]at h;exact h.1.1.2
def Pm(b:Has C qh xm)(hr:Has C xG Aw)(a:Has C qQ qI)(s:LU)(O:St):ai C qh [.cV s] O=J (Xe s,O):=by
 rw[b.go (NVs.e (.cW (.cV _) .de) _)];unfold Xe;cases h:role s;·simp only[xm,VX hr a,h,EVX,seval]
 ·have hb:sV .add s [46,106,115,111,110]=J (.cV (s++mg)):=atL (by have:=apk h;simp;omega);simp only[xm,VX hr a,h,hb,EVX,seval]
def okD(fs:List PS):Bool:=fs.all λp=>decide (z p.2<=65536)
def aij(nm:LU)(fs:List PS):Int:=if role nm=eF then 3 else if 256<z fs then 5 else if okD fs then 0 else 5
def aoL (Y:St) (nm:LU) (fv:AV) (fs:List PS) (fo:Option Nat) (hf:CY Y fv fs fo) (A:z fs<=256):∀(n i:Nat) (G:St),i+n=z fs->G.all (AO.below 0)=eT->
  ∃b,b.all (AO.below 0)=eT/\aH C (ai C) 31 [0,1,14,15,16] sQ [(0,.cV nm),(1,fv),(14,fv),(15,.cU r (z fs)),(16,.cU r i)] (Y++G)=
   J (if okD (fs.drop i)then(.dq 0,[(0,.cV nm),(1,fv)],Y++b)else(.ef,[(4,.ev),(5,.cU r 5)],Y++b)):=by
 intro n
 induction n with
 |zero=>intro i G hi m;refine⟨G,m,?_⟩;rw[aA (he:=rfl),az1 (by omega)];have h:¬((i:Int)<(z fs:Int)):=(by omega);simp only[sQ,h,okD,az6,EVX,seval]
 |succ n g=>
  intro i G hi m;rcases hf with⟨rfl,_,_⟩|⟨q,w,e1,e2,rfl,s⟩|⟨_,rfl⟩;·simp at hi
  all_goals
   have fl:=bZ Dy fs;have a:i<z fs:=(by omega);have f:=kK Dy (a02 a);have o:fs.drop i=fs[i]::fs.drop (i+1):=ay6 a;rw[o];generalize fs[i]=p at*;rw[show pC p=[.cV p.1,.cV p.2]from rfl]at f;simp only[a09,a98]at f;have e:(G++[AO.cH [.cV p.1,.cV p.2] FZ]).all (AO.below 0)=eT:=by rw[aH9,m];rfl
   obtain⟨b,t,g⟩:=g (i+1) (G++[.cH [.cV p.1,.cV p.2] FZ]) (by omega) e;have h:((i:Int)<(z fs:Int)):=(by omega);have h3:(0:Int)<=i:=(by omega);have v:=wrS i (by omega);first|have l:=aj s G|have l:=trivial
   have d:Y++(G++[.cH [.cV p.1,.cV p.2] FZ])=(Y++G)++[.cH [.cV p.1,.cV p.2] FZ]:=(by simp);rw[d]at g;rw[aA (he:=rfl)];generalize y:aH C (ai C) 31 [0,1,14,15,16] sQ=k at*;generalize x:Y++G=T at*;by_cases c:z p.2<=65536;·have j:¬(65536:Int)<(z p.2:Int):=(by omega);refine⟨b,t,?_⟩;have:okD (p::fs.drop (i+1))=okD (fs.drop (i+1)):=(by simp[okD,c]);rw[this,<-g];simp only[sQ,h,h3,v,a,f,fl,l,j,bP,aF,dm,AV.cH,AV.C,splice,EVX,seval]
   ·have j:(65536:Int)<(z p.2:Int):=(by omega);refine⟨G++[.cH [.cV p.1,.cV p.2] FZ],e,?_⟩;have:okD (p::fs.drop (i+1))=eF:=(by simp[okD,c]);rw[this,d];simp only[sQ,h,h3,a,f,fl,l,j,bP,aF,dm,AV.cH,AV.C,splice,EVX,seval]
def Yg(C:Ctx)(fv:AV)(fs:List PS)(fo:Option Nat):Prop:=∀Y:St,Ok Y->CY Y fv fs fo->∃b a L,ai C lm [fv] Y=J (b,Y++L)/\Ok (Y++L)/\CY (Y++L) b fs a/\∀q,a=J q->z Y<=q
def kH.sl{Y:St}{nm fs F s m fo oo}(h:kH Y nm fs F s m fo oo):s<z Y:=by grind [kH]
def kH.ml{Y:St}{nm fs F s m fo oo}(h:kH Y nm fs F s m fo oo):m<z Y:=(a00.mp h.mp).1
def abe.H{f:Type}{Y:St}{v:AV}{sz:Nat}{c:f->LA}{xs:List f}{oo:Option Nat}(h:abe Y v sz c xs oo)(L:St):abe (Y++L) v sz c xs oo:=by
 rcases h with h|⟨q,a,b,e,d⟩;·exact .inl h
 ·exact .inr ⟨q,a,b,e,aj d L⟩
def kH.H{Y:St}{nm fs F s m fo oo}(h:kH Y nm fs F s m fo oo)(L:St):kH (Y++L) nm fs F s m fo oo:=by obtain⟨a,ov,hs,hf,hv⟩:=h.st;exact⟨⟨a,ov,aj hs L,hf.H L,abe.H hv L⟩,aj h.mp L,h.dt,h.k5,h.os,h.mb⟩
structure NewHas(C:Ctx):Prop extends TelHas C where
 cS:Has C qQ qI
 kg:Has C xG Aw
 eN:Su C Iw D6
def ame (H:NewHas C) {Y:St} (i:Ok Y) (nm:LU) {fv:AV} {fs:List PS} {fo:Option Nat} (hf:CY Y fv fs fo) (p:Yg C fv fs fo) (F:z fs<=1000):
  (aij nm fs≠0/\ai C Iw [.cV nm,fv] Y=J (.df [.ev,.cU r (aij nm fs)],Y))\/
  (aij nm fs=0/\∃s m b L,ai C Iw [.cV nm,fv] Y=J (.df [.c8 s 0,.cU r 0],Y++L)/\Ok (Y++L)/\kH (Y++L) nm fs [] s m b U/\z Y<=s/\z Y<=m/\∀q,b=J q->z Y<=q):=by
 have f:bP Y 1 fv=J (z fs):=by rcases hf with⟨rfl,_,rfl⟩|⟨q,y,e1,e2,rfl,x⟩|⟨_,rfl⟩<;>rfl
 have h:=λY=>VX H.kg H.cS nm Y;have G:=λL=>λe:Int=>bz i (vs:=[.ev,.cU r e]) rfl L;unfold aij;rw[H.eN.go];cases hr:role nm;·left;rw[hr]at h;have v:=DD Y;rw[if_pos rfl];refine⟨by decide,?_⟩;simp only[D6,h,v,qL,aU,EVX,seval]
 ·rw[hr]at h;rw[if_neg (by decide)];by_cases c:256<z fs;·left;have v:=DD Y;have k:(256:Int)<(z fs:Int):=(by omega);rw[if_pos c];refine⟨by decide,?_⟩;simp only[D6,h,f,k,v,qL,aU,EVX,seval]
  ·rw[if_neg c];have k:¬(256:Int)<(z fs:Int):=(by omega);obtain⟨g,E,j⟩:=aoL (C:=C) Y nm fv fs fo hf (by omega) (z fs) 0 [] (by omega) rfl;rw[show((0:Nat):Int)=0 from rfl,ay9,ay5]at j;cases A:okD fs;·left;rw[if_neg (by decide)];rw[A,if_neg (by decide)]at j;refine⟨by decide,?_⟩;simp only[D6,h,f,k,j,G,qL,aU,EVX,seval]
   ·right;rw[if_pos rfl];rw[A,if_pos rfl]at j;refine⟨rfl,?_⟩;have t:Ok (Y++g):=i.H E;obtain⟨a,b,L,a1,a2,a3,a4⟩:=p _ t (hf.H g);obtain⟨T,o⟩:∃T,Y++g++L=T:=⟨_,rfl⟩;have K:z T=z Y+z g+z L:=by rw[<-o];simp;omega
    rw[o]at a1 a2 a3;simp only[a04]at a4;have D:a.cH=[a]:=(by rcases a3 with⟨_,_,rfl⟩|⟨q,y,_,_,rfl,d⟩|⟨_,rfl⟩<;>rfl);have n:below (z T+1+1) a=eT:=(by exact a3.bl (by omega));have u:Ok ((T++[.ec []])++[.cH [.cV nm,a,.ec (z T),.cY] FZ]):=by have:Ok (T++[.ec []]):=a2.H rfl;refine Vj this ?_;simp[AO.below,ae,below,n];omega
    have w:tidy (z Y) [.c8 (z T+1) 0,.cU r 0] (T++[.ec [],.cH [.cV nm,a,.ec (z T),.cY] FZ])=T++[.ec [],.cH [.cV nm,a,.ec (z T),.cY] FZ]:=wW (by simp[ae,below];omega) _;have e1:T++[.ec [],.cH [.cV nm,a,.ec (z T),.cY] FZ]=Y++(g++L++[.ec [],.cH [.cV nm,a,.ec (z T),.cY] FZ]):=by rw[<-o];simp
    refine⟨z T+1,z T,b,g++L++[.ec [],.cH [.cV nm,a,.ec (z T),.cY] FZ],?_,by rw[<-e1];simpa using u,?_,by omega,by omega,λq e=>by have:=a4 q e;omega⟩;·rw[<-e1];simp only[D6,h,f,k,j,a1,D,splice,w,qL,aU,EVX,seval]
    ·rw[<-e1];have x:∀q,b=J q->q<z T:=λq e=>by
      rcases a3 with⟨_,l,_⟩|⟨I,y,l,_,_,d⟩|⟨l,_⟩;·rw[l]at e;cases e
      ·grind
      ·rw[l]at e;cases e
     refine⟨⟨a,.cY,by simp,a3.H _,.inl ⟨rfl,rfl,rfl⟩⟩,by simp,⟨by simp,F⟩,λe=>?_,(λe=>nomatch e),(λq e B=>nomatch B)⟩;have:=x _ e;omega
def aa7(n:Int):Bool:=decide (0<=n)&&decide (n<=65536)
def agx(a:Has C Je yZ)(n:Int)(Y:St):ai C Je [.cU r n] Y=J (.cX (aa7 n),Y):=by
 have b:hand eF [.cU r n] Y=J ([.cU r n],Y):=rfl;rw[a.go b];unfold aa7;by_cases c:0<=n
 ·by_cases d:n<=65536;·simp only[yZ,c,d,EVX,seval]
  ·simp only[yZ,c,d,EVX,seval]
 ·simp only[yZ,c,EVX,seval];rfl
def Eu(s:Nat)(R:lN)(o:Nat)(now rc sc:Int):LA:=.c8 s 0::(R.B++[.c8 o 0,.cU r now,.cU r rc,.cU r sc])
structure bF(Y:St)(h:Bool)(l:List iK)(R:lN)(now rc sc:Int)(nm:LU)(fs:List PS)(F:List bD)(r s m o:Nat)(fo oo:Option Nat):Prop where
 rp:Y[r]?=some (.cH (Eu s R o now rc sc) FZ)
 bL:Y[o]?=some (PY h l)
 st:kH Y nm fs F s m fo oo
 rs:r≠s
 rm:r≠m
 ro:oo≠some r
 vs:o≠s
 vm:o≠m
 vo:oo≠some o
 b8:aa7 rc=true/\aa7 sc=true
def Es(nm:LU)(fs:List PS)(rc sc:Int)(e:Int):Int:=if aij nm fs≠0 then aij nm fs else if(aa7 rc&&aa7 sc)=eF then 1 else e
structure RNewHas(C:Ctx):Prop extends NewHas C,RootHas C where
 k8:Has C Je yZ
 nl:Su C KP Dc
def Tc(n:Nat):∀(a b:LA),ae n a=eT->ae n (a++b)=ae n b|[],_,_=>rfl|x::a,b,h=>by rw[ae,a01]at h;rw[a09,ae,h.1,Tc n a b h.2,aA6]
def agw (H:RNewHas C) (h:Bool) (l:List iK) (R:lN) (e:Int) (data:LU)
  (V:∀(O:St) (o:Nat),Ok O->O[o]?=J (PY h l)->ai C BH [.c8 o 0,.cV data] O=J (.df [.da (aat R e).B,.cU r e],O))
  {Y:St} (t:Ok Y) (o:Nat) (F:Y[o]?=J (PY h l)) (nm:LU) {fv:AV} {fs:List PS} {fo:Option Nat} (hf:CY Y fv fs fo) (y:Yg C fv fs fo) (W:z fs<=1000) (now b0 b1 rc sc:Int):
  (Es nm fs rc sc e≠0/\ai C KP [.da [.cV nm,.cV data,fv],.c8 o 0,.cU r now,.da [.cU r b0,.cU r b1,.cU r rc,.cU r sc]] Y=J (.df [.ev,.cU r (Es nm fs rc sc e)],Y))\/
  (Es nm fs rc sc e=0/\∃co s m c L,ai C KP [.da [.cV nm,.cV data,fv],.c8 o 0,.cU r now,.da [.cU r b0,.cU r b1,.cU r rc,.cU r sc]] Y=J (.df [.c8 co 0,.cU r 0],Y++L)/\Ok (Y++L)/\bF (Y++L) h l R now rc sc nm fs [] co s m o c U/\z Y<=co/\z Y<=s/\z Y<=m/\∀q,c=J q->z Y<=q):=by
 have fb:below (z Y) fv=eT:=by
  rcases hf with⟨_,_,rfl⟩|⟨q,fz,_,_,rfl,d⟩|⟨_,rfl⟩;·rfl
  ·have:=(a00.mp d).1;simp only[below,decide_eq_true_eq];omega
  ·exact aK (a99 _) _ (gu (λ_=>rfl) fs)
 have B:Ok (Y++[.cH [.cV nm,.cV data,fv] FZ,.cH [.cU r b0,.cU r b1,.cU r rc,.cU r sc] FZ]):=Vj t (by
  have:below (z Y+2) fv=eT:=below_mono (by omega) _ fb;simp[AO.below,ae,below,this])
 have K:=λ(L:St) (e:Int)=>bz t (vs:=[.ev,.cU r e]) rfl L;have u:=λn Y=>agx H.k8 n Y;have N:=ame H.toNewHas B nm (hf.H _) y W;unfold Es;rw[H.nl.go];rcases N with⟨n1,g⟩|⟨n1,s,m,c,L,g,i,v,Z,n5,G⟩;·left;rw[if_pos n1];refine⟨n1,?_⟩;have p:(aij nm fs !=0)=eT:=(by simpa using n1);simp only[Dc,g,p,K,qL,aU,AV.cH,EVX,seval]
 ·rw[if_neg (by rw[n1];decide)];have X:=g;rw[n1]at*;obtain⟨T,x⟩:∃T,(Y++[.cH [.cV nm,.cV data,fv] FZ,.cH [.cU r b0,.cU r b1,.cU r rc,.cU r sc] FZ])++L=T:=⟨_,rfl⟩;rw[x]at g i v;have a:T=Y++([.cH [.cV nm,.cV data,fv] FZ,.cH [.cU r b0,.cU r b1,.cU r rc,.cU r sc] FZ]++L):=(by rw[<-x,ay2]);have x4:T[z Y]?=J (.cH [.cV nm,.cV data,fv] FZ):=by rw[a,aF];rfl
  have x7:T[z Y+1]?=J (.cH [.cU r b0,.cU r b1,.cU r rc,.cU r sc] FZ):=by rw[a,aN];rfl
  have A:T[o]?=J (PY h l):=by rw[a];exact aj F _
  have k:=λ(M:St) (e:Int)=>K ([.cH [.cV nm,.cV data,fv] FZ,.cH [.cU r b0,.cU r b1,.cU r rc,.cU r sc] FZ]++L++M) e;simp only[<-ay2,x]at k;have b:=k [];rw[ay5]at b;cases f:aa7 rc&&aa7 sc
  ·left;rw[if_pos rfl];refine⟨by decide,?_⟩;cases p:aa7 rc;·simp only[Dc,g,u,p,x7,b,qL,aU,AV.cH,EVX,seval]
   ·rw[p,aA6]at f;simp only[Dc,g,u,p,f,x7,b,qL,aU,AV.cH,EVX,seval]
  ·rw[if_neg (by decide)];rw[a01]at f;have cr:=V T o i A;by_cases ce:e=0
   ·right;refine⟨ce,?_⟩;subst ce;rw[aat,if_pos rfl]at cr;have P:=R.f2;have I:ae 0 R.B=eT:=R.af.cl;have rp:Eu s R o now rc sc=[.c8 s 0,.cU r R.bL,.cU r R.bw,.sl (z R.ks) (R.ks.flatMap pC),.cU r R.rt.th,.sl (z R.rt.O) (R.rt.O.flatMap sC),.cU r R.sn.th,.sl (z R.sn.O) (R.sn.O.flatMap sC),.cU r R.tg.th,.sl (z R.tg.O) (R.tg.O.flatMap sC),.c8 o 0,.cU r now,.cU r rc,.cU r sc]:=rfl;have sT:s<z T:=by obtain⟨Q,ov,hs,_⟩:=v.st;exact(a00.mp hs).1
    have aa:o<z T:=(a00.mp A).1;have tl:z Y+2<=z T:=by rw[a];simp
    simp only[a04,a90,a94]at Z n5 G;have E:ae (z T+2) (Eu s R o now rc sc)=eT:=by unfold Eu;have S:s<z T+2:=(by omega);have h2:o<z T+2:=(by omega);have h3:=aK (a99 (z T+2)) _ I;rw[ae,Tc _ _ _ h3];simp[ae,below,S,h2]
    have D:Ok (T++[.cH R.B FZ,.cH (Eu s R o now rc sc) FZ]):=Vj i (by
     have h3:=aK (a99 (z T+2)) _ I;simp only[a90,a94,a07,az6,AO.below,h3,E,az9])
    have j:tidy (z Y) [.c8 (z T+1) 0,.cU r 0] (T++[.cH R.B FZ,.cH (Eu s R o now rc sc) FZ])=T++[.cH R.B FZ,.cH (Eu s R o now rc sc) FZ]:=wW (by simp[ae,below];omega) _;have e1:T++[.cH R.B FZ,.cH (Eu s R o now rc sc) FZ]=Y++([.cH [.cV nm,.cV data,fv] FZ,.cH [.cU r b0,.cU r b1,.cU r rc,.cU r sc] FZ]++L++[.cH R.B FZ,.cH (Eu s R o now rc sc) FZ]):=by rw[a];simp
    have y7:=λL=>aj x7 L;refine⟨z T+1,s,m,c,_,?_,by rw[<-e1];exact D,?_,by omega,by omega,by omega,λq e=>by have:=G q e;omega⟩;·rw[<-e1];rw[P]at cr j⊢;rw[rp]at j⊢;simp only[Dc,g,u,f.1,f.2,cr,x4,x7,y7,j,qL,aU,splice,AV.cH,AV.C,EVX,seval]
    ·rw[<-e1];have ol:o<z Y:=(a00.mp F).1;exact⟨by rw[aN];rfl,aj A _,v.H _,by omega,by have:=v.ml;omega,by simp,by omega,by omega,by simp,f⟩
   ·left;refine⟨ce,?_⟩;have w:(e !=0)=eT:=(by simpa using ce);rw[aat,if_neg ce]at cr;have zc:ahc.B=[.cU r 0,.cU r 0,.sl 0 [],.cU r 0,.sl 0 [],.cU r 0,.sl 0 [],.cU r 0,.sl 0 []]:=rfl;rw[zc]at cr;simp only[Dc,g,u,f.1,f.2,cr,w,x4,x7,k,qL,aU,splice,AV.cH,AV.C,EVX,seval]
structure Bc where
 nm:LU
 am:LU
 fs:List PS
 h:Bool
 l:List iK
 bm:Int
 b0:Int
 b1:Int
 rc:Int
 sc:Int
def Bc.B(c:Bc):LA:=[.cV c.nm,.cV c.am,.sl (z c.fs) (c.fs.flatMap pC),.cX c.h,WF c.l,.cU r c.bm,.cU r c.b0,.cU r c.b1,.cU r c.rc,.cU r c.sc]
theorem Bc.af(c:Bc):NVs c.B:=.cW (.cV _) (.cW (.cV _) (.cW (wL _) (.cW (.cX _) (.cW (aeW _) (.cW (.cU _ _) (.cW (.cU _ _) (.cW (.cU _ _) (.cW (.cU _ _) (.cW (.cU _ _) .de)))))))))
theorem kH.an{Y S:St}{nm fs F s m fo oo}(h:kH Y nm fs F s m fo oo)(hs:S[s]?=Y[s]?)(j:S[m]?=Y[m]?)(hf:∀q,fo=J q->S[q]?=Y[q]?)(k:∀q,oo=J q->S[q]?=Y[q]?):kH S nm fs F s m fo oo:=by
 obtain⟨g,ov,a,b,c⟩:=h.st;refine⟨⟨g,ov,by rw[hs];exact a,?_,?_⟩,by rw[j];exact h.mp,h.dt,h.k5,h.os,h.mb⟩
 ·rcases b with b|⟨q,i,b1,d,e,f⟩|b;·exact .inl b
  ·exact .inr (.inl ⟨q,i,b1,d,e,by rw[hf q b1];exact f⟩)
  ·exact .inr (.inr b)
 ·rcases c with c|⟨q,b1,d,e,f⟩;·exact .inl c
  ·exact .inr ⟨q,b1,d,e,by rw[k q b1];exact f⟩
theorem bF.an{Y S:St}{h l R now rc sc nm fs F f s m o fo oo}(a:bF Y h l R now rc sc nm fs F f s m o fo oo)(hr:S[f]?=Y[f]?)(d:S[o]?=Y[o]?)(hs:S[s]?=Y[s]?)(c:S[m]?=Y[m]?)(hf:∀q,fo=J q->S[q]?=Y[q]?)(b:∀q,oo=J q->S[q]?=Y[q]?):bF S h l R now rc sc nm fs F f s m o fo oo:=
 ⟨by rw[hr];exact a.rp,by rw[d];exact a.bL,a.st.an hs c hf b,a.rs,a.rm,a.ro,a.vs,a.vm,a.vo,a.b8⟩
theorem nI.dt(h:nI):z h.B=4:=rfl
theorem nI.below(h:nI):ae 0 h.B=eT:=by simp only[nI.B,ae,(wL h.aL).cl];rfl
def arw(l:List nI):NV (.sl (z l) (l.flatMap nI.B)):=.sl _ (gu nI.below l)
def PT:LA:=[.cV [],.cU r 0,.cU r 0,.cY]
def QD (m:VD C dM 2) (l:List nI) (u:z l<=1099511627776) (o:∀p∈l,z p.aL<=1099511627776) (file:LU) (O:St) (X:AO):∀(n i:Nat) (G:St),i+n=z l->
  ∃c,aH C (ai C) 36 [4,6,19,20,21] rM [(4,.c8 (z O+1) 0),(6,.cV file),(19,.sl (z l) (l.flatMap nI.B)),(20,.cU r (z l)),(21,.cU r i)] (O++X::.cH PT FZ::G)=
   match(l.drop i).find? (λp=>decide (p.E=file))with
   |U=>J (.dq 0,[(4,.c8 (z O+1) 0)],O++X::.cH PT FZ::c)|J p=>J (.ef,[(4,.c8 (z O+1) 0),(5,.cX eT)],O++X::.cH p.B FZ::c)
 |0,i,G,hi=>by rw[aA (he:=rfl)];have h:¬((i:Int)<(z l:Int)):=(by omega);have b:l.drop i=[]:=az1 (by omega);refine⟨G,?_⟩;simp only[rM,h,b,List.find?_nil,EVX,seval]
 |n+1,i,G,hi=>by
  rw[aA (he:=rfl)];have h:((i:Int)<(z l:Int)):=(by omega);have h2:i<z l:=(by omega);have hb:l[i]?=J l[i]:=a02 h2;have b:l.drop i=l[i]::l.drop (i+1):=ay6 h2;have v:=wrS i (by omega);have h3:(0:Int)<=i:=(by omega);have fl:=bZ nI.dt l;have fd:=kK nI.dt hb;have q:=o _ (aB3 h2);obtain⟨p,g⟩:∃p,p=l[i]:=⟨_,rfl⟩;rw[<-g]at fd b q;have e:=λY=>m (z p.aL) (p.aL.flatMap pC) Y (bZ Dy _) q (alb (f:=pC) (λx=>rfl) _);cases d:decide (p.E=file);·obtain⟨c,w⟩:=QD m l u o file O X n (i+1) (G++[.cH p.B FZ]) (by omega);refine⟨c,?_⟩;rw[b,List.find?_cons,d];dsimp only;rw[<-w];generalize t:aH C (ai C) 36 [4,6,19,20,21] rM=k;simp only[rM,h,h2,h3,v,d,fl,fd,nI.B,a09,aF0,aE1,ay2,a04,AV.cH,Iz,EVX,seval]
  ·refine⟨G++[.cH p.B FZ],?_⟩;rw[b,List.find?_cons,d];dsimp only;generalize t:aH C (ai C) 36 [4,6,19,20,21] rM=k;simp only[rM,h,h2,h3,d,fl,fd,e,nI.B,PT,a09,aF0,aE1,ay2,a04,AV.cH,Iz,EVX,seval]
def aaG(s:SnV):AV:=.da s.B
def aeJ(s:SnV):NV (aaG s):=.da (.cW (.cU _ _) (.cW (.cU _ _) (.cW (arw s.ax) .de)))
def pM(s:SnV)(d:LU):Option nI:=if role d then s.ax.find? (λp=>decide (p.E=d++mg))else U
def mO:LA:=[.cV [],.cU r 0,.cU r 0,.sl 0 []]
def alN:Option nI->AV|U=>.df [.da mO,.cX eF]|J p=>.df [.da p.B,.cX eT]
structure aho(C:Ctx):Prop where
 cS:Has C qQ qI
 b6:Has C xG Aw
 gW:Has C qh xm
 fz:VD C dM 2
 ck:Has C ZF J5
 cq:Has C Ik DX
structure VE(s:SnV):Prop where
 ax:s.ax.length<=1099511627776
 aL:∀p∈s.ax,p.aL.length<=1099511627776
def apX(h:aho C)(s:SnV)(hs:VE s)(f:LU)(O:St)(c:Ok O):ai C ZF [aaG s,.cV f] O=J (alN (pM s f),O):=by
 rw[h.ck.go (NVs.e (.cW (aeJ s) (.cW (.cV _) .de)) _)];unfold pM aaG SnV.B;have d:=λ(vs:LA) (hv:ae 0 vs=eT) (L:St)=>bz c hv L;cases hr:role f;·have b:Xe f=.df [.cV [],.cU r 3]:=(by simp[Xe,hr]);have t1:=d [.da mO,.cX eF] rfl;unfold mO at t1;simp only[J5,Pm h.gW h.b6 h.cS,b,aU,bG,dO,alN,mO,t1,AV.cH,AV.C,a09,aF0,aE1,EVX,seval]
 ·have b:Xe f=.df [.cV (f++mg),.cU r 0]:=(by simp[Xe,hr]);obtain⟨G,a⟩:=QD h.fz s.ax hs.ax hs.aL (f++mg) O (.cH [.cU r s.bL,.cU r s.bw,.sl (z s.ax) (s.ax.flatMap nI.B)] FZ) (z s.ax) 0 [] (by omega);rw[ay9]at a;simp only[ay1,PT]at a;rw[if_pos rfl];cases hf:s.ax.find? (λp=>decide (p.E=f++mg))with|none=>rw[hf]at a;have t1:=d [.da mO,.cX eF] rfl;unfold mO at t1;simp only[J5,Pm h.gW h.b6 h.cS,b,a,aU,bG,dO,alN,mO,t1,AV.cH,AV.C,a09,aF0,aE1,EVX,seval]|some p=>rw[hf]at a;have t1:=d [.da p.B,.cX eT] (by simp only[ae,below,nI.below];rfl);unfold nI.B at t1;simp only[J5,Pm h.gW h.b6 h.cS,b,a,aU,bG,alN,nI.B,t1,AV.cH,a09,EVX,seval]
def abk(o:Option nI)(a:Int):AV:=match o with|U=>.df [.da mO,.cU r 0,.cU .u8 1]|J p=>if p.I<0 then .df [.da p.B,.cU r a,.cU .u8 0]else if p.I>a then .df [.da mO,.cU r 0,.cU .u8 3]else .df [.da p.B,.cU r p.I,.cU .u8 0]
def ase{O:St}(c:Ok O)(a b:LA)(d:ae 0 a=eT)(hb:ae 0 b=eT)(x y:Fz):Ok (O++[.cH a x,.cH b y]):=
 Vj c (by simp[AO.below,aK (a99 _) _ d,aK (a99 _) _ hb])
def al0(h:aho C)(s:SnV)(hs:VE s)(i:LU)(c:Int)(O:St)(d:Ok O):ai C Ik [aaG s,.cV i,.cU r c] O=J (abk (pM s i) c,O):=by
 rw[h.cq.go (NVs.e (.cW (aeJ s) (.cW (.cV _) (.cW (.cU _ _) .de))) _)];have f:=ase d [.cU r s.bL,.cU r s.bw,.sl (z s.ax) (s.ax.flatMap nI.B)] PT (by have:=(aeJ s).cl;unfold aaG SnV.B at this;rw[below]at this;exact this) rfl FZ FZ;have q:=apX h s hs i _ f;have g:=λ(vs:LA) (hv:ae 0 vs=eT) (L:St)=>bz d hv L;unfold aaG SnV.B PT at*;have t1:=λa b=>g [.da mO,.cU r a,.cU .u8 b] rfl;unfold mO at t1;cases hf:pM s i with
 |none=>rw[hf]at q;unfold alN mO at q;dsimp only at q;simp only[DX,q,aU,bG,dO,abk,mO,t1,AV.cH,AV.C,a09,aF0,aE1,EVX,seval]
 |some p=>
  rw[hf]at q;have pc:p.B=[.cV p.E,.cU r p.cg,.cU r p.I,.sl (z p.aL) (p.aL.flatMap pC)]:=rfl;unfold alN at q;dsimp only at q;rw[pc]at q;have t2:=λa b=>g [.da p.B,.cU r a,.cU .u8 b] (by simp only[ae,below,nI.below];rfl);rw[pc]at t2;by_cases e:p.I<0;·simp only[DX,q,e,aU,bG,abk,pc,t2,AV.cH,AV.C,a09,aF0,aE1,EVX,seval]
  ·by_cases h2:c<p.I;·simp only[DX,q,e,h2,aU,bG,dO,abk,mO,t1,AV.cH,AV.C,a09,aF0,aE1,EVX,seval]
   ·simp only[DX,q,e,h2,aU,bG,abk,pc,t2,AV.cH,AV.C,a09,aF0,aE1,EVX,seval]
noncomputable section
structure TSP(P:Program)(f:Nat)where
 k:TF
 p:(cTF P f).getD ⟨0,[],.eI⟩=k:=by conv=>lhs;reduce;simp only[RD,seval]
abbrev TsA(f:Nat):Type:=TSP Go.Proofs.Tryz.prog f
def DL:TF:=(.mk ?k:TsA qi).1
def wZ:TF:=(.mk ?k:TsA su).1
def nX:TF:=(.mk ?k:TsA oh).1
def jE:TF:=(.mk ?k:TsA iM).1
end
def fC:CFn:=⟨7,[(.eS 2 eT 3),(.eS 3 eF 1)],[o 2 (.eN [(.cU r 0),(.cU r 0),.cY] U),
 o 3 (.eN [(.cU .u8 0)] U)],4,BL,[(.t 2),(.t 3)],
 (.eK (.fe [.op (m 5 0),
 .op (o 6 (.gM oh [(.t 5)])),
 .op (u (.fI 3 (.t 2) (.t 6))),
 .op (u (.fI 1 (.t 3) (.c (.cU .u8 0))))])
 .ef)⟩
def oG:KC:=
 (.eK (.fe [m 4 2,
 o 5 (.e9 .neq 5 eT (.t 4) (.c .ej))])
 (.eJ (.t 5)
 (.fe [o 6 (.hA [(.cU r 0),(.cU r 0),.cY] []),
 m 7 2,
 o 8 (.gM qi [(.t 7)]),
 u (.fI 3 (.t 0) (.t 6)),
 u (.fI 1 (.t 1) (.t 8))])
 .eI))
def dU:KFn:=⟨9,3,2,oG.V⟩
def jA:CFn:=⟨16,[(.eS 8 eT 9),(.eS 9 eF 1)],[o 6 (.iB (.t 2)),
 o 8 (.eN [(.cU r 0),(.cU r 0),.cY,.cY,.cY,(.cU r 0),.cY,(.cU r 0),(.cV [])] U),
 o 9 (.eN [(.cU .u8 0)] U)],10,GK,[(.t 8),(.t 9)],
 (.eK (.fe [.op (m 11 0),
 .op (m 12 1),
 .op (o 13 (.ii eT 2 (.t 6))),
 .op (m 14 3),
 .op (o 15 (.gM iM [(.t 11),(.t 12),(.t 13),(.t 14)])),
 .op (u (.fI 9 (.t 8) (.t 15))),
 .op (u (.fI 1 (.t 9) (.c (.cU .u8 0))))])
 .ef)⟩
def tY:KC:=
 (.eK (.fe [m 4 2,
 o 5 (.e9 .neq 5 eT (.t 4) (.c .ej))])
 (.eJ (.t 5)
 (.fe [o 6 (.hA [(.cU r 0),(.cU r 0),.cY,.cY,.cY,(.cU r 0),.cY,(.cU r 0),(.cV [])] []),
 m 7 2,
 o 8 (.gM qi [(.t 7)]),
 u (.fI 9 (.t 0) (.t 6)),
 u (.fI 1 (.t 1) (.t 8))])
 .eI))
def gV:KFn:=⟨9,3,2,tY.V⟩
def mG(C:Ctx)(ct:yY)(n:Nat):List TOp->As->St->Option (TX×As×St)
 |[],A,O=>J (.dp,A,O)
 |.op o::l,A,O=>match lH o A with
  |eT=>match aB C (avA C A) n O o.i with
   |J (.ew v b)=>mG C ct n l (A8 A o.aM v) b|J (.fh f args b)=>match ct f args b with|J (.ef v,a)=>mG C ct n l (A8 A o.aM v) a|J (.fT v,a)=>J (.fT v,A,a)|U=>U
   |U=>U
  |eF=>mG C ct n l (A8 A o.aM .dT) O
 |.ir x::l,A,O=>match avA C A x with|.eb t v=>J (.fT (.eb t v),A,O)|_=>U
 |.hU d t x::l,A,O=>match avA C A x with
  |.eb c v=>match Nat.beq c t with|eT=>mG C ct n l (A8 A (J d) (.df [v,.cX eT])) O|eF=>U
  |_=>U
def BD(C:Ctx)(call:bH)(ct:yY)(n:Nat):TC->As->St->Option (TX×As×St)
 |.eI,A,O=>J (.dp,A,O)|.fe l,A,O=>mG C ct n l A O|.eL l,A,O=>match xA C call n l A O with|J (d,e)=>J (.dp,d,e)|U=>U
 |.eK a b,A,O=>match BD C call ct n a A O with|J (.dp,d,e)=>BD C call ct n b d e|f=>f
 |.eJ c a b,A,O=>match avA C A c with|.cX eT=>BD C call ct n a A O|.cX eF=>BD C call ct n b A O|_=>U
 |.ef,A,O=>J (.ef,A,O)|.eD,_,_=>U
def aaX(n:Nat):List TOp->Bool|[]=>eT|.op o::l=>TV n o.aM&&aaX n l|.ir _::l=>aaX n l|.hU d _ _::l=>TV n (J d)&&aaX n l
def tok(n:Nat):TC->Bool|.fe l=>aaX n l|.eL l=>adN n l|.eK a b=>tok n a&&tok n b|.eJ _ a b=>tok n a&&tok n b|_=>eT
structure AgF(n:Nat)(e:Env)(A:As):Prop where
 dt:e.length=n
 bh:∀t,e.getD t .dT=look A t
def AgF.ag{n:Nat}{e A}(h:AgF n e A)(m:Nat):Ag n m e A:=⟨h.dt,λt _=>h.bh t⟩
def AgF.of{n:Nat}{e A}(a:z e=n)(h:∀m,Ag n m e A):AgF n e A:=⟨a,λt=>(h (bit t)).bh t (by rw[AX];simp)⟩
def AgF.b9{n:Nat}{e A}(h:AgF n e A){d:Option Nat}(a:TV n d=eT)(v:AV):AgF n (put e d v) (A8 A d v):=
 .of (by rw[La,h.dt]) λm=>Ag.b9 (h.ag _) a v
def avq(n:Nat):Option (TX×Env×St)->Option (TX×As×St)->Prop|U,U=>True|J (x,e,O),J (b,A,a)=>x=b/\O=a/\AgF n e A|_,_=>False
def Om{C:Ctx}{ct:yY}{n:Nat}:∀(l:List TOp) (e:Env) (A:As) (O:St),aaX n l=eT->AgF n e A->avq n (Ad C ct l e O) (mG C ct n l A O)
 |[],e,A,O,_,h=>⟨rfl,rfl,h⟩
 |.op o::l,e,A,O,b,h=>by
  rw[aaX,a01]at b;unfold Ad mG;rw[Ag.hh (h.ag _)];cases lH o A with
  |false=>exact Om l _ _ O b.2 (h.b9 b.1 _)
  |true=>
   dsimp only;rw[Ag.lY (h.ag _)];cases aB C (avA C A) n O o.i with
   |none=>trivial
   |some x=>cases x with
    |ew v c=>exact Om l _ _ c b.2 (h.b9 b.1 _)
    |fh f args c=>
     dsimp only;cases ct f args c with
     |none=>trivial
     |some j=>
      obtain⟨a,g⟩:=j;cases a with
      |ef v=>exact Om l _ _ g b.2 (h.b9 b.1 _)|fT v=>exact⟨rfl,rfl,h⟩
 |.ir x::l,e,A,O,b,h=>by unfold Ad mG;rw[akS x (h.ag _).c7];cases avA C A x<;>first|exact trivial|exact⟨rfl,rfl,h⟩
 |.hU d t x::l,e,A,O,b,h=>by
  rw[aaX,a01]at b;unfold Ad mG;rw[akS x (h.ag _).c7];cases avA C A x with
  |eb i v=>
   dsimp only;cases Nat.beq i t with
   |true=>exact Om l _ _ O b.2 (h.b9 b.1 _)|false=>trivial
  |_=>trivial
def ad3{C:Ctx}{call:bH}{ct:yY}{n:Nat}:∀(c:TC) (e:Env) (A:As) (O:St),tok n c=eT->AgF n e A->avq n (evT C call ct c e O) (BD C call ct n c A O)
 |.eI,e,A,O,_,h=>⟨rfl,rfl,h⟩|.ef,e,A,O,_,h=>⟨rfl,rfl,h⟩|.eD,e,A,O,_,h=>trivial|.fe l,e,A,O,g,h=>Om l e A O g h
 |.eL l,e,A,O,g,h=>by
  unfold evT BD uh xA;have q:=λN=>aew (C:=C) (call:=call) (N:=N) l e A O g (h.ag _);cases i:xB C call l e O with
  |none=>
   cases h2:qM C call n l A O with
   |none=>trivial|some R=>have:=q 0;rw[i,h2]at this;exact this.elim
  |some R=>
   cases h2:qM C call n l A O with
   |none=>have:=q 0;rw[i,h2]at this;exact this.elim
   |some j=>
    obtain⟨f,Y,rs,u⟩:=R;obtain⟨t,y,k,w⟩:=j;have q0:=q 0;rw[i,h2]at q0;obtain⟨a,b,c,d⟩:=q0;subst a b;have e0:AgF n f t:=.of c.dt λN=>by simp_all
    dsimp only;rw[d];cases gG C n u l k with
    |true=>exact⟨rfl,rfl,e0⟩|false=>trivial
 |.eK a b,e,A,O,g,h=>by
  rw[tok,a01]at g;unfold evT BD;have q:=ad3 (C:=C) (call:=call) (ct:=ct) a e A O g.1 h;cases i:evT C call ct a e O with
  |none=>rw[i]at q;cases h2:BD C call ct n a A O with|none=>trivial|some R=>rw[h2]at q;exact q.elim
  |some R=>rw[i]at q;cases h2:BD C call ct n a A O with
   |none=>rw[h2]at q;exact q.elim
   |some j=>
    rw[h2]at q;obtain⟨x,s,o⟩:=R;obtain⟨B,m,p⟩:=j;obtain⟨rfl,rfl,q3⟩:=q;cases x with
    |dp=>exact ad3 b s m o g.2 q3|ef=>exact⟨rfl,rfl,q3⟩|fT v=>exact⟨rfl,rfl,q3⟩
 |.eJ c a b,e,A,O,g,h=>by
  rw[tok,a01]at g;unfold evT BD;rw[akS c (h.ag _).c7];cases avA C A c with
  |cX x=>cases x with|true=>exact ad3 a e A O g.1 h|false=>exact ad3 b e A O g.2 h
  |_=>trivial
def Y7(n:Nat)(args:LA)(h:z args<=n):AgF n (args++List.replicate (n-z args) .dT) (lQ 0 args):=
 .of (by simp;omega) λm=>adx m n args h
def Qe(n0:Nat)(rs:List XR)(A:As)(O:St):Option (AV×St):=match aU A O rs with|U=>U|J vs=>match hand eF vs O with|U=>U|J (vs,a)=>J (bW vs,tidy n0 vs a)
def SN(n0:Nat)(rs:List XR):Option (TX×As×St)->Option (Ans×St)|U=>U|J (.fT v,_,a)=>J (.fT v,tidy n0 [v] a)|J (_,A,a)=>match Qe n0 rs A a with|J (v,b)=>J (.ef v,b)|U=>U
theorem ahH{n:Nat}{e:Env}{A:As}(h:AgF n e A)(O0:St)(rs:List XR)(O:St):afv O0 rs e O=Qe (z O0) rs A O:=by unfold afv Qe;rw[We rs (h.ag _)];rfl
def aev {C:Ctx} {call:bH} {ct:yY} {x:TF} (hok:tok x.L x.aE=eT) {args:LA} {O:St} {args1:LA} {O1:St} (d:hand eF args O=J (args1,O1)) (b:Nat.ble (z args1) x.L=eT):
  runT C call ct x args O=SN (z O) x.Y (BD C call ct x.L x.aE (lQ 0 args1) O1):=by
 unfold runT;rw[d];dsimp only;rw[b];dsimp only;have q:=ad3 (C:=C) (call:=call) (ct:=ct) x.aE _ _ O1 hok (Y7 x.L args1 (az7 b));cases a:evT C call ct x.aE (args1++List.replicate (x.L-z args1) .dT) O1 with
 |none=>rw[a]at q;cases h2:BD C call ct x.L x.aE (lQ 0 args1) O1 with|none=>rfl|some j=>rw[h2]at q;exact q.elim
 |some j=>rw[a]at q;cases h2:BD C call ct x.L x.aE (lQ 0 args1) O1 with|none=>rw[h2]at q;exact q.elim|some e=>rw[h2]at q;obtain⟨y,h,g⟩:=j;obtain⟨i,f,c⟩:=e;obtain⟨rfl,rfl,q3⟩:=q;grind [SN,ahH]
def an7(n:Nat)(a:LA)(f m:Nat)(v:AV)(h:z a<=n)(hr:f<n)(e:m<n):AgF n (((a++List.replicate (n-z a) AV.dT).set f v).set m v) ((m,v)::(f,v)::lQ 0 a):=by have b:=Y7 n a h;have c:=b.b9 (d:=J f) (by simpa[TV]using hr) v;exact c.b9 (d:=J m) (by simpa[TV]using e) v
def wJ:XC->Bool|.eK a b=>wJ a&&wJ b|.eJ _ a b=>wJ a&&wJ b|.eE _ b=>wJ b|.eV b=>wJ b|.fp _=>eF|_=>eT
def vP{C:Ctx}{call:bH}{n:Nat}:∀(x:XC) (e:Env) (O:St),wJ x=eT->evC C call n x e O=ni C call x e O
 |.eI,_,_,_=>rfl|.fe _,_,_,_=>rfl|.eL _,_,_,_=>rfl
 |.eK a b,e,O,h=>by
  rw[wJ,a01]at h;unfold evC ni;rw[vP a e O h.1];cases ni C call a e O with
  |none=>rfl
  |some j=>
   obtain⟨x,f,d⟩:=j;cases x with
   |dp=>exact vP b f d h.2|dq i=>rfl|ef=>rfl
 |.eJ c a b,e,O,h=>by
  rw[wJ,a01]at h;unfold evC ni;cases av C e c with
  |cX x=>cases x with|true=>exact vP a e O h.1|false=>exact vP b e O h.2
  |_=>rfl
 |.eE id b,e,O,h=>by rw[wJ]at h;unfold evC ni;rw[vP b e O h];rfl
 |.dq _,_,_,_=>rfl|.ef,_,_,_=>rfl|.eV b,e,O,h=>by rw[wJ]at h;unfold evC ni;exact vP b e O h
 |.eD,_,_,_=>rfl
noncomputable def Po(C:Ctx)(call:bH)(ct:yY)(x:CFn)(k:KFn)(K:KC)(n0:Nat)(args1:LA)(O1:St):Option (AV×St):=
 match dY C call x.L x.cP (lQ 0 args1) O1 with
 |U=>U|J (a,c)=>match BD C call ct x.L x.aE ((x.d,.ea (.func x.g3) [] (x.b8.map (avA C a)))::a) c with|U=>U|J (tx,b,d)=>match eX C (MC ct) k.L K ((k.m,thrown tx)::(k.r,thrown tx)::lQ 0 (x.b8.map (avA C a))) d with|J (.dq _,_,_)=>U|U=>U|J (_,_,e)=>Qe n0 x.Y b e
def ajr(x:CFn)(k:KFn)(K:KC):Bool:=(live k.L 0 K 0 λ_=>0).isSome&&wJ k.aE&&adN x.L x.cP&&tok x.L x.aE&&Nat.blt x.d x.L&&Nat.blt k.r k.L&&Nat.blt k.m k.L&&Nat.ble (z x.b8) k.L
def agh {C:Ctx} {call:bH} {ct:yY} {x:CFn} {k:KFn} {K:KC} (v:K.V=k.aE) (hok:ajr x k K=eT) {args:LA} {O:St} {args1:LA} {O1:St} (A:hand eF args O=J (args1,O1)) (B:Nat.ble (z args1) x.L=eT):
  Ar C call ct x k args O=Po C call ct x k K (z O) args1 O1:=by
 simp only[ajr,a01,Nat.blt_eq]at hok;obtain⟨⟨⟨⟨⟨⟨⟨D,E⟩,F⟩,G⟩,H⟩,I⟩,L⟩,P⟩:=hok;unfold Ar Po;rw[A];dsimp only;have q:=λN=>YB (C:=C) (call:=call) (N:=N) x.cP _ _ O1 F ((Y7 x.L args1 (az7 B)).ag _);cases j:tV C call x.cP (args1++List.replicate (x.L-z args1) .dT) O1 with
 |none=>
  cases h2:dY C call x.L x.cP (lQ 0 args1) O1 with
  |none=>rfl|some du=>have:=q 0;rw[j,h2]at this;exact this.elim
 |some du=>
  cases h2:dY C call x.L x.cP (lQ 0 args1) O1 with
  |none=>have:=q 0;rw[j,h2]at this;exact this.elim
  |some e=>
   obtain⟨e0,f⟩:=du;obtain⟨b,o⟩:=e;have q0:=q 0;rw[j,h2]at q0;obtain⟨a,c⟩:=q0;subst a;have m:AgF x.L e0 b:=.of c.dt λN=>by simp_all
   have t:x.b8.map (av C e0)=x.b8.map (avA C b):=List.map_congr_left λy _=>akS y (m.ag _).c7;dsimp only;rw[t];have u:=m.b9 (d:=J x.d) (by simpa[TV]using H) (.ea (.func x.g3) [] (x.b8.map (avA C b)));have q2:=ad3 (C:=C) (call:=call) (ct:=ct) x.aE _ _ f G u;unfold put A8 at q2;dsimp only at q2;generalize e0.set x.d (.ea (.func x.g3) [] (x.b8.map (avA C b)))=e1 at q2⊢;generalize(x.d,AV.ea (.func x.g3) [] (x.b8.map (avA C b)))::b=l at q2⊢;cases h3:evT C call ct x.aE e1 f with
   |none=>
    rw[h3]at q2;cases h4:BD C call ct x.L x.aE l f with
    |none=>rfl|some du=>rw[h4]at q2;exact q2.elim
   |some du=>
    rw[h3]at q2;cases h4:BD C call ct x.L x.aE l f with
    |none=>rw[h4]at q2;exact q2.elim
    |some e=>
     rw[h4]at q2;obtain⟨tx,e2,g⟩:=du;obtain⟨Q,R,p⟩:=e;obtain⟨rfl,rfl,q3⟩:=q2;dsimp only;rw[vP _ _ _ E,<-v];have n:=an7 k.L (x.b8.map (avA C b)) k.r k.m (thrown tx) (by simpa using az7 P) I L;rw[aB0]at n;obtain⟨M,w⟩:=aA7.mp D;have q4:=zx (C:=C) (call:=MC ct) K _ M _ w _ _ g (n.ag M);revert q4;cases ni C (MC ct) K.V (((x.b8.map (avA C b)++List.replicate (k.L-z x.b8) AV.dT).set k.r (thrown tx)).set k.m (thrown tx)) g<;>cases eX C (MC ct) k.L K ((k.m,thrown tx)::(k.r,thrown tx)::lQ 0 (x.b8.map (avA C b))) g;·intro _;rfl
     ·intro h;exact h.elim
     ·intro h;exact h.elim
     ·rename_i du e;obtain⟨y,e3,T⟩:=du;obtain⟨V,S,s⟩:=e;rintro⟨h5,h6,_⟩;subst h5 h6;cases y with|dq i=>rfl|dp=>exact ahH q3 O x.Y _|ef=>exact ahH q3 O x.Y _
def Yo{C:Ctx}{call:bH}{T:FuncId->Option TF}{f:FuncId}{x:TF}(h:T f=J x)(n:Nat)(args:LA)(O:St):qf C call T (n+1) f args O=runT C call (qf C call T n) x args O:=by rw[qf,h]
def adJ{C:Ctx}{call:bH}{T:FuncId->Option TF}{f:FuncId}(h:T f=U)(n:Nat){args:LA}{O:St}{v:AV}{O':St}(a:call f args O=J (v,O')):qf C call T n f args O=J (.ef v,O'):=by
 cases n with
 |zero=>rw[qf,a]|succ n=>rw[qf,h];dsimp only;rw[a]
def akm{C:Ctx}{ct:yY}{f:FuncId}{args:LA}{O:St}{v:AV}{O':St}(h:ct f args O=J (.ef v,O')):MC ct f args O=J (v,O'):=by rw[MC,h]
variable{call:bH}{ct:yY}{n:Nat}
abbrev TR:=Option (TX×As×St)
def outT(ct:yY)(d:Option Nat)(A:As)(x:Option Out)(k:As->St->TR):TR:=match x with
 |J (.ew v b)=>k (A8 A d v) b|J (.fh f args b)=>match ct f args b with|J (.ef v,a)=>k (A8 A d v) a|J (.fT v,a)=>J (.fT v,A,a)|U=>U
 |U=>U
def wK(d:Nat)(A:As)(v:AV)(O:St)(k):outT ct (J d) A (J (.ew v O)) k=k ((d,v)::A) O:=rfl
def uQ(A:As)(v:AV)(O:St)(k):outT ct U A (J (.ew v O)) k=k A O:=rfl
def atD(d:Option Nat)(A:As)(f:Option (Ans×St))(k:As->St->TR):TR:=match f with|J (.ef v,a)=>k (A8 A d v) a|J (.fT v,a)=>J (.fT v,A,a)|U=>U
def uP(d:Option Nat)(A:As)(f:FuncId)(args:LA)(O:St)(k):outT ct d A (J (.fh f args O)) k=atD d A (ct f args O) k:=rfl
def xw(d:Nat)(A:As)(v:AV)(O:St)(k):atD (J d) A (J (.ef v,O)) k=k ((d,v)::A) O:=rfl
def y9(d:Option Nat)(A:As)(v:AV)(O:St)(k):atD d A (J (.fT v,O)) k=J (.fT v,A,O):=rfl
def EN(A:As)(O:St):mG C ct n [] A O=J (.dp,A,O):=rfl
def Ye(d:Nat)(i:XI)(l:List TOp)(A:As)(O:St):mG C ct n (.op (o d i)::l) A O=outT ct (J d) A (aB C (avA C A) n O i) (mG C ct n l):=rfl
def ab2(i:XI)(l:List TOp)(A:As)(O:St):mG C ct n (.op (u i)::l) A O=outT ct U A (aB C (avA C A) n O i) (mG C ct n l):=rfl
def Yd(d s:Nat)(l:List TOp)(A:As)(O:St):mG C ct n (.op (m d s)::l) A O=mG C ct n l ((d,look A s)::A) O:=rfl
def asT(d t:Nat)(A:As)(x:AV)(k:As->TR):TR:=match x with
 |.eb a v=>match Nat.beq a t with|eT=>k ((d,.df [v,.cX eT])::A)|eF=>U
 |_=>U
def Oo(d:Nat)(t:TypeId)(x:XA)(l:List TOp)(A:As)(O:St):mG C ct n (.hU d t x::l) A O=asT d t A (avA C A x) λA=>mG C ct n l A O:=by rw[mG];unfold asT;cases avA C A x<;>rfl
def Gi(d t:Nat)(A:As)(v:AV)(k):asT d t A (.eb t v) k=k ((d,.df [v,.cX eT])::A):=by unfold asT;dsimp only;rw[Nat.beq_refl]
def pnT(A:As)(O:St)(x:AV):TR:=match x with|.eb t v=>J (.fT (.eb t v),A,O)|_=>U
def MG(x:XA)(l:List TOp)(A:As)(O:St):mG C ct n (.ir x::l) A O=pnT A O (avA C A x):=by rw[mG];unfold pnT;cases avA C A x<;>rfl
def EH(A:As)(O:St)(t:TypeId)(v:AV):pnT A O (.eb t v)=J (.fT (.eb t v),A,O):=rfl
def apH(d:TR)(k:As->St->TR):TR:=match d with|J (.dp,A,O)=>k A O|d=>d
def mi(A:As)(O:St)(k):apH (J (.dp,A,O)) k=k A O:=rfl
def zD(A:As)(O:St)(k):apH (J (.ef,A,O)) k=J (.ef,A,O):=rfl
def zC(v:AV)(A:As)(O:St)(k):apH (J (.fT v,A,O)) k=J (.fT v,A,O):=rfl
def EM(a b:TC)(A:As)(O:St):BD C call ct n (.eK a b) A O=apH (BD C call ct n a A O) (BD C call ct n b):=by grind [BD,apH]
def ajv(x:AV)(a b:TR):TR:=match x with|.cX eT=>a|.cX eF=>b|_=>U
def zN(c:XA)(a b:TC)(A:As)(O:St):BD C call ct n (.eJ c a b) A O=ajv (avA C A c) (BD C call ct n a A O) (BD C call ct n b A O):=by rw[BD];grind [ajv]
def sW(a b:TR):ajv (.cX eT) a b=a:=rfl
def lV(a b:TR):ajv (.cX eF) a b=b:=rfl
def EJ(l:List TOp)(A:As)(O:St):BD C call ct n (.fe l) A O=mG C ct n l A O:=rfl
def zO(A:As)(O:St):BD C call ct n .eI A O=J (.dp,A,O):=rfl
def EK(A:As)(O:St):BD C call ct n .ef A O=J (.ef,A,O):=rfl
def drT(d:Option (As×St)):TR:=match d with|J (A,O)=>J (.dp,A,O)|U=>U
def zg(A:As)(O:St):drT (J (A,O))=J (.dp,A,O):=rfl
def zH(l:List XOp)(A:As)(O:St):BD C call ct n (.eL l) A O=drT (xA C call n l A O):=by rw[BD];grind [drT]
end Go.Ev
namespace Go.Ev
open Bool renaming false→eF, true→eT
open Option renaming some→J, none→U
open List renaming length→z
open Go.IntKind renaming i64→r
set_option maxRecDepth 100000
variable{C:Ctx}{call:bH}{ct:yY}
def TT(f:FuncId):Option TF:=match Nat.beq f qi with|eT=>J DL|eF=>match Nat.beq f su with|eT=>J wZ|eF=>match Nat.beq f oh with|eT=>J nX|eF=>match Nat.beq f iM with|eT=>J jE|eF=>U
def Ci(c:Int):AV:=.eb 198 (.da [.cU .u8 c])
def caught_is(n:Nat)(c:Int){O:St}(b:Ok O):qf C call TT (n+1) qi [Ci c] O=J (.ef (.cU .u8 c),O):=by rw[Yo (x:=DL) rfl,aev (args1:=[Ci c]) (O1:=O) (by rfl) (by rfl) (by rfl)];have d:=λL=>bz b (vs:=[.cU .u8 c]) rfl L;unfold Ci;simp only[DL,EM,zN,EJ,zO,EK,lV,mi,EN,Ye,ab2,Yd,MG,Oo,Gi,EH,wK,uQ,SN,Qe,aU,d,AV.cH,AV.C,splice,EVX,seval]
end Go.Ev
namespace Go.Ev
open Bool renaming false→eF, true→eT
open Option renaming some→J, none→U
open List renaming length→z
open Go.IntKind renaming i64→r
set_option maxRecDepth 100000
variable{C:Ctx}
def ahL (H:RNewHas C) (hf:Has C qh xm) (n:Nat) {h l R now rc sc nm fs F q s m o fo oo} (rl:LU) (b:Int) {O:St} (j:Ok O) (a:bF O h l R now rc sc nm fs F q s m o fo oo) (hr:role rl=eT) {d:LU} {y:Int} {S:St} (i:ai C oI [.c8 s 0,.cV (rl++mg),.cU r b] O=J (.df [.cV d,.cU r y,.cU r 0],S)) (g:tidy (z O) [.cV d,.cU r y] S=S):
  qf C (ai C) TT (n+1) su [.c8 q 0,.cV rl,.cU r b] O=J (.ef (.df [.cV d,.cU r y]),S):=by
 rw[Yo (x:=wZ) rfl,aev (args1:=[.c8 q 0,.cV rl,.cU r b]) (O1:=O) (by rfl) (by rfl) (by rfl)];have q1:=adJ (C:=C) (call:=ai C) (T:=TT) (f:=qh) rfl n (Pm hf H.kg H.cS rl O);have e:Xe rl=.df [.cV (rl++mg),.cU r 0]:=by simp[Xe,hr]
 rw[e]at q1;have q2:=adJ (C:=C) (call:=ai C) (T:=TT) (f:=oI) rfl n i;have rp:=a.rp;unfold Eu at rp;simp only[wZ,q1,q2,rp,g,EM,zN,EJ,zO,EK,lV,mi,EN,Ye,Yd,MG,EH,wK,uP,xw,SN,Qe,aU,AV.cH,splice,EVX,seval]
structure Req(O S:St)(s m:Nat)(F F':List bD)(oo oo':Option Nat):Prop where
 ok:Ok S
 dt:O.length<=S.length
 bv:∀i x,i≠s->i≠m->oo≠some i->O[i]?=some x->S[i]?=some x
 eN:∀q,oo'=some q->oo=some q\/O.length<=q
 j3:(S.take O.length=O/\F'=F/\oo'=oo)\/∃x,S[s]?=some x/\x.below O.length=false
def Req.ah{O:St}(h:Ok O)(s m:Nat)(F:List bD)(oo:Option Nat):Req O O s m F F oo oo:=
 ⟨h,a06 _,λ_ _ _ _ _ h=>h,λ_ h=>.inl h,.inl ⟨List.take_length,rfl,rfl⟩⟩
def Zd{n k:Nat}(h:n<=k){x:AO}(a:x.below k=eF):x.below n=eF:=by
 cases b:x.below n;·rfl
 ·rw[AO.au h x b]at a;cases a
def Req.bE{O L S:St}{s m F g oo e}(q:Req (O++L) S s m F g oo e):Req O S s m F g oo e:=by
 have f:z O<=z (O++L):=by simp
 refine⟨q.ok,aB9 f q.dt,λi x a b c d=>q.bv i x a b c (aj d _),λk h=>?_,?_⟩
 ·rcases q.eN k h with h|h;·exact .inl h
  ·exact .inr (aB9 f h)
 ·rcases q.j3 with⟨a,b,c⟩|⟨x,a,b⟩
  ·refine .inl ⟨?_,b,c⟩;have:=congrArg (List.take (z O)) a;rw[List.take_take,aF7 f,List.take_left']at this;·exact this
   ·rfl
  ·exact .inr ⟨x,a,Zd f b⟩
theorem Req.ab{O S T:St}{s m F j oo f}(q:Req O S s m F j oo f)(hs:s<z O)(ok:Ok T)(n:z S<=z T)(h:∀i x,i<z O->S[i]?=J x->T[i]?=J x):Req O T s m F j oo f:=by
 refine⟨ok,aB9 q.dt n,λi x a b c d=>h i x (a00.mp d).1 (q.bv i x a b c d),q.eN,?_⟩;rcases q.j3 with⟨a,b,c⟩|⟨x,a,b⟩
 ·refine .inl ⟨?_,b,c⟩;refine aA9 λk=>?_;rw[aA4];split
  ·next g=>
   have e:O[k]?=J O[k]:=a02 g;have e2:S[k]?=O[k]?:=by have:=congrArg (λl=>l[k]?) a;rw[aA4,if_pos g]at this;exact this
   rw[e];exact h k _ g (by rw[e2,e])
  ·next g=>exact(aA1 (by omega)).symm
 ·exact .inr ⟨x,h s x hs a,b⟩
def Req.N{O S T:St}{s m F t g oo j f}(p:Req O S s m F t oo j)(q:Req S T s m t g j f)(hs:s<z O)(w:s≠m):Req O T s m F g oo f:=by
 refine⟨q.ok,aB9 p.dt q.dt,λi x a b c d=>q.bv i x a b (λe=>?_) (p.bv i x a b c d),λk h=>?_,?_⟩
 ·have:=(a00.mp d).1;rcases p.eN i e with e|e;·exact c e
  ·omega
 ·rcases q.eN k h with h|h;·exact p.eN k h
  ·exact .inr (aB9 p.dt h)
 ·rcases q.j3 with⟨a,b,c⟩|⟨x,a,b⟩
  ·have tk:∀k x,k<z S->S[k]?=J x->T[k]?=J x:=λk x v e=>by have:=congrArg (λl=>l[k]?) a;rw[aA4,if_pos v]at this;rw[this,e]
   rcases p.j3 with⟨n,o,u⟩|⟨x,n,o⟩;·refine .inl ⟨?_,by rw[b,o],by rw[c,u]⟩;have:=congrArg (List.take (z O)) a;rw[List.take_take,aF7 p.dt,n]at this;exact this
   ·exact .inr ⟨x,tk s x (aC9 hs p.dt) n,o⟩
  ·exact .inr ⟨x,a,Zd p.dt b⟩
structure ahp(n:Nat)(r s m o:Nat)(fo oo:Option Nat):Prop where
 r:r<n
 s:s<n
 m:m<n
 o:o<n
 fo:∀q,fo=some q->q<n
 oo:∀q,oo=some q->q<n
def bF.lt{Y:St}{h l R now rc sc nm fs F x s m o fo oo}(a:bF Y h l R now rc sc nm fs F x s m o fo oo):ahp (z Y) x s m o fo oo:=by
 obtain⟨i,ov,f,h2,h3⟩:=a.st.st;refine⟨(a00.mp a.rp).1,(a00.mp f).1,(a00.mp a.st.mp).1,(a00.mp a.bL).1,λq e=>?_,λq e=>?_⟩
 ·rcases h2 with⟨_,h,_⟩|⟨g,j,b1,c,d,b⟩|⟨h,_⟩;·rw[h]at e;cases e
  ·rw[b1]at e;cases e;exact(a00.mp b).1
  ·rw[h]at e;cases e
 ·rcases h3 with⟨_,h,_⟩|⟨g,b1,c,d,b⟩;·rw[h]at e;cases e
  ·rw[b1]at e;cases e;exact(a00.mp b).1
def bF.bo{Y S:St}{h l R now rc sc nm fs F d s m o fo oo}(a:bF Y h l R now rc sc nm fs F d s m o fo oo)(b:∀i x,(i=d\/i=s\/i=m\/i=o\/fo=J i\/oo=J i)->Y[i]?=J x->S[i]?=J x):bF S h l R now rc sc nm fs F d s m o fo oo:=by
 have k:=a.lt;have e:∀i,i<z Y->(i=d\/i=s\/i=m\/i=o\/fo=J i\/oo=J i)->S[i]?=Y[i]?:=λi hi c=>by have:=a02 hi;rw[this];exact b i _ c this
 exact a.an (e d k.r (.inl rfl)) (e o k.o (by simp)) (e s k.s (by simp)) (e m k.m (by simp)) (λq h=>e q (k.fo q h) (by simp[h])) (λq h=>e q (k.oo q h) (by simp[h]))
def bF.eG{Y:St}{h l R now rc sc nm fs F d s m o fo oo}(a:bF Y h l R now rc sc nm fs F d s m o fo oo)(L:St):bF (Y++L) h l R now rc sc nm fs F d s m o fo oo:=a.bo λi x _ h=>aj h L
def Req.nk{O S:St}{h l R now rc sc nm fs F d i s m o fo oo c}(a:bF O h l R now rc sc nm fs F i s m o fo oo)(q:Req O S s m F d oo c)(b:kH S nm fs d s m fo c):bF S h l R now rc sc nm fs d i s m o fo c:=by
 have k:=a.lt;have f:c≠J i:=λe=>by
  rcases q.eN i e with e|e;·exact a.ro e
  ·have:=k.r;omega
 have no:c≠J o:=λe=>by
  rcases q.eN o e with e|e;·exact a.vo e
  ·have:=k.o;omega
 exact⟨q.bv i _ a.rs a.rm a.ro a.rp,q.bv o _ a.vs a.vm a.vo a.bL,b,a.rs,a.rm,f,a.vs,a.vm,no,a.b8⟩
def Req.dy {O S:St} {h l R now rc sc nm fs F e f s m o fo oo c} (d:Ok O) (a:bF O h l R now rc sc nm fs F f s m o fo oo) (q:Req O S s m F e oo c) (b:bF S h l R now rc sc nm fs e f s m o fo c) (vs:LA) (hv:ae 0 vs=eT):
  ∃S',tidy (z O) vs S=S'/\bF S' h l R now rc sc nm fs e f s m o fo c/\Req O S' s m F e oo c:=by
 rcases q.j3 with⟨e1,e2,e3⟩|⟨x,e1,e2⟩
 ·refine⟨O,pG d hv e1,?_,?_⟩;·rw[e2,e3];exact a
  ·rw[e2,e3];exact .ah d _ _ _ _
 ·exact⟨S,aaZ vs a.lt.s e1 e2,b,q⟩
def aby (H:StoHas C) {O:St} (c:Ok O) {h l R now rc sc nm fs F y s m o fo oo} (a:bF O h l R now rc sc nm fs F y s m o fo oo) (j:z F<1000000) (file:LU) (cap:Int) (d:0<=cap/\cap<=65536):
  ∃S b,ai C oI [.c8 s 0,.cV file,.cU r cap] O=J (.df [.cV (tH fs F file cap).1.am,.cU r (tH fs F file cap).1.al,.cU r 0],S)/\bF S h l R now rc sc nm fs (tH fs F file cap).2 y s m o fo b/\Req O S s m F (tH fs F file cap).2 oo b/\∀vs,tidy (z O) vs S=S:=by
 unfold tH;cases hf:F.find? (λf=>decide (f.E=file))with
 |some f=>exact⟨O,oo,abA H c a.st file cap d f hf,a,.ah c _ _ _ _,λvs=>bi O vs⟩
 |none=>
  obtain⟨S,b,q1,q2,q3,q4,q5,q6⟩:=abz H c a.st j file cap d hf;have fr:∃x,S[s]?=J x/\x.below (z O)=eF:=by
   obtain⟨u,ov,i,_,h3⟩:=q3.st;rcases h3 with⟨h3,_⟩|⟨k,b1,p,g,t⟩;·simp at h3
   ·refine⟨_,i,?_⟩;have:=q6 k b1;have n:¬k<z O:=(by omega);rw[g];simp[AO.below,ae,below,n]
  have q:Req O S s m F (F++[NC fs file cap]) oo b:=⟨q2,q4,q5,λk e=>.inr (q6 k e),.inr fr⟩;obtain⟨x,e1,e2⟩:=fr;exact⟨S,b,q1,q.nk a q3,q,λvs=>aaZ vs a.lt.s e1 e2⟩
def fetch_any (H:RNewHas C) (f:StoHas C) (hf:Has C qh xm) (n:Nat) {h l R now rc sc nm fs F i s m o fo oo} (rl:LU) (b:Int) {O:St} (d:Ok O) (a:bF O h l R now rc sc nm fs F i s m o fo oo) (e:z F<1000000) (g:0<=b/\b<=65536) (hr:role rl=eT):
  ∃S c,qf C (ai C) TT (n+1) su [.c8 i 0,.cV rl,.cU r b] O=J (.ef (.df [.cV (tH fs F (rl++mg) b).1.am,.cU r (tH fs F (rl++mg) b).1.al]),S)/\bF S h l R now rc sc nm fs (tH fs F (rl++mg) b).2 i s m o fo c/\Req O S s m F (tH fs F (rl++mg) b).2 oo c:=by
 obtain⟨S,c,q1,q2,q3,q4⟩:=aby f d a e (rl++mg) b g;exact⟨S,c,ahL H hf n rl b d a hr q1 (q4 _),q2,q3⟩
structure Ht where
 sn:LU->Int->SnV×Int
 ro:nI->lJ->List PS->LU->Int->fB×Int
structure Jn(C:Ctx)(h:Bool)(l:List iK)(R:lN)(now:Int)(K:Ht):Prop where
 nn:∀d z,d.length<=LB->(K.sn d z).1.ok
 sn:∀d z (O:St) (o:Nat),d.length<=LB->Ok O->O[o]?=some (PY h l)->ai C qC [.c8 o 0,.da R.B,.cU .i64 now,.cV d,.cU .i64 z] O=some (.df [.da (K.sn d z).1.B,.cU .u8 (K.sn d z).2],O)
 ol:∀d z,(K.sn d z).2≠0->(K.sn d z).1=aqs
 oi:∀p a ks d z,(K.ro p a ks d z).2≠0->(K.ro p a ks d z).1=LJ
 lE:∀p a ks d z,d.length<=LB->(K.ro p a ks d z).1.ok
 ro:∀p a ks d z (O:St) (o:Nat),Cm p.aL->uy a.O->Cm ks->d.length<=LB->Ok O->O[o]?=some (PY h l)->ai C BF [.c8 o 0,.da p.B,.da a.B,.sl ks.length (ks.flatMap pC),.cU .i64 now,.cV d,.cU .i64 z] O=some (.df [.da (K.ro p a ks d z).1.B,.cU .u8 (K.ro p a ks d z).2],O)
def CJ(fs:List PS)(F:List bD):Prop:=∀f∈F,f=NC fs f.E f.cq
def ED(fs:List PS):Prop:=∀p∈fs,z p.2<=LB
def afG(fs:List PS)(file:LU)(cap:Int):(NC fs file cap).cq=cap:=by
 unfold NC afF;split;·split<;>rfl
 ·rfl
def ala{fs:List PS}(h:ED fs)(file:LU)(cap:Int):(NC fs file cap).am.length<=LB:=by
 unfold NC;cases hf:fs.find? (λp=>decide (p.1=file))with
 |none=>exact a99 _
 |some p=>
  unfold afF;dsimp only;split;·exact a99 _
  ·exact h p (List.mem_of_find?_eq_some hf)
def adT{fs:List PS}{F:List bD}(c:CJ fs F)(file:LU)(cap:Int):CJ fs (tH fs F file cap).2/\(tH fs F file cap).1=NC fs file (tH fs F file cap).1.cq:=by
 unfold tH;cases hf:F.find? (λf=>decide (f.E=file))with
 |some f=>have d:=c f (List.mem_of_find?_eq_some hf);have h2:f.E=file:=(by simpa using List.find?_some hf);rw[h2]at d;exact⟨c,d⟩
 |none=>
  refine⟨λf h=>?_,by dsimp only;rw[afG]⟩;rcases aD3.mp h with h|h;·exact c f h
  ·rw[aB2.mp h,OZ,afG]
def UA(fs:List PS)(F:List bD)(file:LU)(cap:Int):(tH fs F file cap).2.length<=z F+1:=by
 unfold tH;split;·exact aI2 _
 ·simp
def Jy{fs:List PS}{F:List bD}(b:ED fs)(a:CJ fs F)(file:LU)(cap:Int):(tH fs F file cap).1.am.length<=LB:=by rw[(adT a file cap).2];exact ala b _ _
def Hl:LU:=[115,110,97,112,115,104,111,116]
def bg(K:Ht)(fs:List PS)(sc:Int)(F:List bD):(SnV×Int)×List bD:=
 let g:=tH fs F (Hl++mg) sc
 (K.sn g.1.am g.1.al,g.2)
structure VC(C:Ctx):Prop extends RNewHas C where
 nr:StoHas C
 gW:Has C qh xm
 ki:Has C mZ qp
 ck:aho C
def Py(b:Has C mZ qp){h l R now rc sc nm fs F d s m o fo oo}{O:St}(a:bF O h l R now rc sc nm fs F d s m o fo oo):ai C mZ [.c8 d 0] O=J (.cX eT,O):=by have c:=jM d O;have rp:=a.rp;unfold Eu at rp;rw[b.go c];simp only[qp,rp,EVX,seval]
def TY{n0:Nat}{rs:List XR}{A:As}{O:St}{vs:LA}(h:aU A O rs=J vs)(hv:NVs vs):Qe n0 rs A O=J (bW vs,tidy n0 vs O):=by unfold Qe;rw[h];dsimp only;rw[hv.e]
def X0(c:Int)(v:AV):Ans:=if c=0 then .ef v else .fT (Ci c)
def Vg (H:VC C) (n:Nat) {h l R now rc sc nm fs F du s m o fo oo K} (Z:Jn C h l R now K) (hd:ED fs) (I:CJ fs F) {O:St} (v:Ok O) (a:bF O h l R now rc sc nm fs F du s m o fo oo) (Y:z F<1000000):
  ∃S d,qf C (ai C) TT (n+2) oh [.c8 du 0] O=J (X0 (bg K fs sc F).1.2 (.da (bg K fs sc F).1.1.B),S)/\bF S h l R now rc sc nm fs (bg K fs sc F).2 du s m o fo d/\Req O S s m F (bg K fs sc F).2 oo d:=by
 have k:=a.lt;have hc:0<=sc/\sc<=65536:=by have:=a.b8.2;unfold aa7 at this;simpa using this
 have N:Ok (O++[.cH [.cU r 0,.cU r 0,.cY] FZ]):=v.H rfl;obtain⟨S,d,q1,b,q⟩:=fetch_any H.toRNewHas H.nr H.gW n Hl sc N (a.eG _) Y hc (by decide);have e1:(tH fs F (Hl++mg) sc).2=(bg K fs sc F).2:=rfl;rw[e1]at b q;obtain⟨g,M⟩:∃g,tH fs F (Hl++mg) sc=g:=⟨_,rfl⟩;have e2:(bg K fs sc F).1=K.sn g.1.am g.1.al:=by rw[<-M];rfl
 have dl:z g.1.am<=LB:=by rw[<-M];exact Jy hd I _ _
 rw[e2];rw[M]at q1;have q2:=Z.sn g.1.am g.1.al S o dl q.ok b.bL;generalize K.sn g.1.am g.1.al=t at*;obtain⟨t,c⟩:=t;dsimp only at*;have kb:=b.lt;have dv:S[z O]?=J (.cH [.cU r 0,.cU r 0,.cY] FZ):=q.bv _ _ (by have:=k.s;omega) (by have:=k.m;omega) (λe=>by have:=k.oo _ e;omega) (by rw[aF];rfl);have A:AO.below 0 (.cH t.B FZ)=eT:=t.af.cl;have rp:=b.rp;have mk:=Py H.ki (a.eG [.cH [.cU r 0,.cU r 0,.cY] FZ]);have D:=adJ (C:=C) (call:=ai C) (T:=TT) (f:=mZ) rfl (n+1) mk;have qb:=q.bE;have p:Ok (S++[.cH t.B FZ]):=q.ok.H (by rw[a07,A];rfl);rw[Yo (x:=nX) rfl,aev (args1:=[.c8 du 0]) (O1:=O) (by rfl) (by rfl) (by rfl)];have zS:=λL=>aj dv L;have pS:=λL y=>fK dv L y;have w:=λL=>aj rp L;have j:(O++[.cH [.cU r 0,.cU r 0,.cY] FZ])[du]?=_:=aj a.rp _;have V:=R.f2;have W:t.B=[.cU r t.bL,.cU r t.bw,.sl (z t.ax) (t.ax.flatMap nI.B)]:=rfl;unfold Eu at rp w j;rw[V]at rp w j q2;rw[W]at q2 p A⊢;simp only[a09,a98]at rp w j;unfold Hl at q1;by_cases u:c=0
 ·subst u;have P:Ok ((S.set (z O) (.cH [.cU r t.bL,.cU r t.bw,.sl (z t.ax) (t.ax.flatMap nI.B)] FZ))++[.cH [.cU r t.bL,.cU r t.bw,.sl (z t.ax) (t.ax.flatMap nI.B)] FZ]):=(Ok.bd q.ok _ (AO.au (a99 _) _ A)).H (by rw[a07,A];rfl)
  have bT:bF (S.set (z O) (.cH [.cU r t.bL,.cU r t.bw,.sl (z t.ax) (t.ax.flatMap nI.B)] FZ)) h l R now rc sc nm fs (bg K fs sc F).2 du s m o fo d:=b.bo λi x hi e=>aG e (λX=>by
   subst X;rcases hi with e|e|e|e|e|e;·have:=k.r;omega
   ·have:=k.s;omega
   ·have:=k.m;omega
   ·have:=k.o;omega
   ·have:=k.fo _ e;omega
   ·rcases q.eN _ e with e|e;·have:=k.oo _ e;omega
    ·simp at e;omega) _
  have qT:=qb.ab k.s P (by simp) (λi x hi e=>aj (aG e (by omega) _) _);obtain⟨E,t1,t2,t3⟩:=qT.dy v a (bT.eG _) [.da [.cU r t.bL,.cU r t.bw,.sl (z t.ax) (t.ax.flatMap nI.B)]] (by rw[ae,below];rw[AO.below]at A;rw[A];rfl);refine⟨E,d,?_,t2,t3⟩;have sg:=aX dv (.cH [.cU r t.bL,.cU r t.bw,.sl (z t.ax) (t.ax.flatMap nI.B)] FZ);have Q:=λL=>aj sg L;simp only[nX,D,q1,q2,rp,j,zS,pS,zH,zg,EM,zN,EJ,zO,EK,sW,lV,mi,zD,zC,EN,Ye,ab2,Yd,MG,Oo,Gi,EH,wK,uQ,uP,xw,y9,SN,AV.cH,AV.C,splice,EVX,seval];rw[TY (vs:=[.da [.cU r t.bL,.cU r t.bw,.sl (z t.ax) (t.ax.flatMap nI.B)]]) (by simp only[aU,Q,EVX,seval]) (.cW (.da t.af) .de),t1];rfl
 ·have B:(c !=0)=eT:=(by simpa using u);obtain⟨E,t1,t2,t3⟩:=(qb.ab k.s p (by simp) (λi x hi e=>aj e _)).dy v a (b.eG _) [Ci c] rfl;refine⟨E,d,?_,t2,t3⟩;unfold Ci at t1;simp only[nX,D,q1,q2,rp,j,B,t1,X0,u,Ci,zH,zg,EM,zN,EJ,zO,EK,sW,lV,mi,zD,zC,EN,Ye,ab2,Yd,MG,Oo,Gi,EH,wK,uQ,uP,xw,y9,SN,AV.cH,AV.C,splice,EVX,seval]
end Go.Ev
