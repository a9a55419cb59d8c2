/- Code. No conditions. -/
import Derived.Test.YtpikfmmkcckclaaGreatDoorCB
import Derived.Test.YtpikfmmkcckclaaGreatDoorEB
set_option linter.unusedVariables false
set_option linter.unusedSimpArgs false
set_option linter.defProp false
namespace Go.Ev
set_option maxRecDepth 100000
variable{C:Ctx}
def aei(C:Ctx)(s:LU)(m:Nat):Prop:=∀(r:RV) (O:St) (o:Nat),Ok O->O[o]?=some (r.o s)->0<=r.after->0<=r.count->8192<=r.count+m->
 ∃(j:JV) (e:Int) (r':RV),ai C vP [.ref o 0] O=some (.tup [j.av,.int .i64 e],O.set o (r'.o s))/\0<=r'.after/\r.count<=r'.count/\(e=0->r.count<r'.count/\r'.count<=8192)
def am8(C:Ctx)(f:FuncId)(s:LU)(m:Nat):Prop:=∀(r:RV) (O:St) (o:Nat),Ok O->O[o]?=some (r.o s)->0<=r.after->0<=r.count->r.count<=8192->8192<=r.count+m->
 ∃(j:JV) (e:Int) (r':RV),ai C f [.ref o 0] O=some (.tup [j.av,.int .i64 e],O.set o (r'.o s))/\0<=r'.after/\r.count<=r'.count/\(e=0->r'.count<=8192)
def J6{O:St}(hσ:Ok O)(o:Nat){x:AO}(hx:x.below 0=true)(vs:LA)(hv:ae 0 vs=true)(L:St):tidy O.length vs (O.set o x++L)=O.set o x:=by
 have:=dE (hσ.set o hx) (vs:=vs) hv L;rwa[a95]at this
def o8:AO:=.cells [.int .u8 0,.int .i64 0,.str [],.nils,.nils] FZ
def aal(hC:Has C vP aV)(hw:Has C qm mg)(s:LU)(m:Nat)(hL:0<m->am8 C su s (m-1))(hO:0<m->am8 C oP s (m-1)):aei C s m:=by
 intro r O o hσ ho ha hct hm;have hn:=iI o O;have okz:∀(x:AO) (hx:x.below 0=true) (L:St),L.all (AO.below 0)=true->Ok (O.set o x++L):=fun x hx L hL=>(hσ.set o hx).plus hL;obtain⟨e1,w,we⟩:=Di hw s r (O++[o8]) o (aA ho _);rw[hC.go hn];obtain⟨pl,k,a,z,n,t,af,ct,dp⟩:=r;dsimp only[RV.o,RV.cs,o8]at*;have g0:=fun L=>aA ho L;have p0:=fun L y=>dJ ho L y;have g1:=fun x L=>aA (bg ho x) L;have p1:∀(x y:AO) (L:St),(O.set o x++L).set o y=O.set o y++L:=fun x y L=>by rw[dJ (bg ho x),ax4]
 have sself:=set_self ho;have tyL:∀(q m':Int) (w:LU) (e p' k' a' z' n':Int) (t':LU) (f' c' d':Int) (L:St),tidy O.length [.agg [.int .u8 q,.int .i64 m',.str w,.sl 0 [],.sl 0 []],.int .i64 e] (O.set o (.cells [.str s,.int .i64 p',.int .u8 k',.int .i64 a',.int .i64 z',.int .i64 n',.str t',.int .i64 f',.int .i64 c',.int .i64 d'] FZ)++L)=O.set o (.cells [.str s,.int .i64 p',.int .u8 k',.int .i64 a',.int .i64 z',.int .i64 n',.str t',.int .i64 f',.int .i64 c',.int .i64 d'] FZ):=fun q m' w e p' k' a' z' n' t' f' c' d' L=>J6 hσ o rfl _ rfl L;have tyJ:∀(j:JV) (e p' k' a' z' n':Int) (t':LU) (f' c' d':Int) (L:St),tidy O.length [.agg j.cs,.int .i64 e] (O.set o (.cells [.str s,.int .i64 p',.int .u8 k',.int .i64 a',.int .i64 z',.int .i64 n',.str t',.int .i64 f',.int .i64 c',.int .i64 d'] FZ)++L)=O.set o (.cells [.str s,.int .i64 p',.int .u8 k',.int .i64 a',.int .i64 z',.int .i64 n',.str t',.int .i64 f',.int .i64 c',.int .i64 d'] FZ):=fun j e p' k' a' z' n' t' f' c' d' L=>J6 hσ o rfl _ (by rw[ae,below,j.bel];rfl) L
 have ty0:∀(e:Int) (L:St),tidy O.length [.agg [.int .u8 0,.int .i64 0,.str [],.sl 0 [],.sl 0 []],.int .i64 e] (O++L)=O:=fun e L=>dE hσ (vs:=[.agg [.int .u8 0,.int .i64 0,.str [],.sl 0 [],.sl 0 []],.int .i64 e]) rfl L;by_cases h7:k=7
 ·subst h7;by_cases hc:8192<=ct
  ·refine⟨JV.zero,5,⟨pl,7,a,z,n,t,af,ct,dp⟩,?_,ha,aC4 _,fun h=>absurd h (by decide)⟩
   dsimp only[RV.o,RV.cs];rw[sself];simp only[aV,hc,g0,ty0,aY,aX,dA,AV.cells,AV.flat,JV.av,JV.zero_cs,splice,EVX,seval]
  ·have hw1:IntKind.i64.wrap (ct+1)=ct+1:=wrE (by omega)
   refine⟨JV.leaf 1 1 [] lb0,0,⟨pl,7,a,z,n,t,af,ct+1,dp⟩,?_,ha,by dsimp only;omega,fun _=>by dsimp only;omega⟩
   simp only[aV,hc,hw1,g0,p0,g1,kU,wW,tyL,aY,aX,dA,AV.cells,AV.flat,JV.av,JV.leaf_cs,splice,EVX,seval]
 by_cases h8:k=8
 ·subst h8;by_cases hc:8192<=ct
  ·refine⟨JV.zero,5,⟨pl,8,a,z,n,t,af,ct,dp⟩,?_,ha,aC4 _,fun h=>absurd h (by decide)⟩
   dsimp only[RV.o,RV.cs];rw[sself];simp only[aV,hc,g0,ty0,aY,aX,dA,AV.cells,AV.flat,JV.av,JV.zero_cs,splice,EVX,seval]
  ·have hw1:IntKind.i64.wrap (ct+1)=ct+1:=wrE (by omega)
   refine⟨JV.leaf 1 0 [] lb0,0,⟨pl,8,a,z,n,t,af,ct+1,dp⟩,?_,ha,by dsimp only;omega,fun _=>by dsimp only;omega⟩
   simp only[aV,hc,hw1,g0,p0,g1,kU,wW,tyL,aY,aX,dA,AV.cells,AV.flat,JV.av,JV.leaf_cs,splice,EVX,seval]
 by_cases h9:k=9
 ·subst h9;by_cases hc:8192<=ct
  ·refine⟨JV.zero,5,⟨pl,9,a,z,n,t,af,ct,dp⟩,?_,ha,aC4 _,fun h=>absurd h (by decide)⟩
   dsimp only[RV.o,RV.cs];rw[sself];simp only[aV,hc,g0,ty0,aY,aX,dA,AV.cells,AV.flat,JV.av,JV.zero_cs,splice,EVX,seval]
  ·have hw1:IntKind.i64.wrap (ct+1)=ct+1:=wrE (by omega)
   refine⟨JV.leaf 2 n [] lb0,0,⟨pl,9,a,z,n,t,af,ct+1,dp⟩,?_,ha,by dsimp only;omega,fun _=>by dsimp only;omega⟩
   simp only[aV,hc,hw1,g0,p0,g1,kU,wW,tyL,aY,aX,dA,AV.cells,AV.flat,JV.av,JV.leaf_cs,splice,EVX,seval]
 by_cases h10:k=10
 ·subst h10;by_cases hc:8192<=ct
  ·refine⟨JV.zero,5,⟨pl,10,a,z,n,t,af,ct,dp⟩,?_,ha,aC4 _,fun h=>absurd h (by decide)⟩
   dsimp only[RV.o,RV.cs];rw[sself];simp only[aV,hc,g0,ty0,aY,aX,dA,AV.cells,AV.flat,JV.av,JV.zero_cs,splice,EVX,seval]
  ·have hw1:IntKind.i64.wrap (ct+1)=ct+1:=wrE (by omega)
   refine⟨JV.leaf 3 0 t.1 t.2,0,⟨pl,10,a,z,n,t,af,ct+1,dp⟩,?_,ha,by dsimp only;omega,fun _=>by dsimp only;omega⟩
   simp only[aV,hc,hw1,g0,p0,g1,kU,wW,tyL,aY,aX,dA,AV.cells,AV.flat,JV.av,JV.leaf_cs,splice,EVX,seval]
 by_cases h1:k=1
 ·subst h1;by_cases hc:8192<=ct
  ·refine⟨JV.zero,5,⟨pl,1,a,z,n,t,af,ct,dp⟩,?_,ha,aC4 _,fun h=>absurd h (by decide)⟩
   dsimp only[RV.o,RV.cs];rw[sself];simp only[aV,hc,g0,ty0,aY,aX,dA,AV.cells,AV.flat,JV.av,JV.zero_cs,splice,EVX,seval]
  ·have hw1:IntKind.i64.wrap (ct+1)=ct+1:=wrE (by omega)
   by_cases hd:12<=dp
   ·refine⟨JV.zero,8,⟨pl,1,a,z,n,t,af,ct+1,dp⟩,?_,ha,by dsimp only;omega,fun h=>absurd h (by decide)⟩
    simp only[aV,hc,hw1,hd,g0,p0,g1,kU,wW,tyL,aY,aX,dA,AV.cells,AV.flat,JV.av,JV.zero_cs,splice,EVX,seval]
   ·obtain⟨j,e,r2,q1,q2,q3,q4⟩:=hO (by omega) ⟨pl,1,a,z,n,t,af,ct+1,IntKind.i64.wrap (dp+1)⟩ (O.set o (RV.o s ⟨pl,1,a,z,n,t,af,ct+1,IntKind.i64.wrap (dp+1)⟩)++[o8,o8]) o (okz _ rfl _ rfl) (g1 _ _) ha (by dsimp only;omega) (by dsimp only;omega) (by dsimp only;omega)
    rw[p1]at q1;obtain⟨pl2,k2,a2,z2,n2,t2,af2,ct2,dp2⟩:=r2;dsimp only[RV.o,RV.cs,o8]at q1 q2 q3 q4;have nf:=fun Y r=>j.nvs.nf Y r;have jl:=JV.len j;have jf:=JV.flat j;have jt:j.cs.take 5=j.cs:=a08 (by rw[JV.len];exact a06 _)
    have je:5<=j.cs.length:=by rw[JV.len];exact a06 _
    refine⟨j,e,⟨pl2,k2,a2,z2,n2,t2,af2,ct2,IntKind.i64.wrap (dp2-1)⟩,?_,q2,by dsimp only at*;omega,fun h=>⟨by dsimp only at*;omega,q4 h⟩⟩
    simp only[aV,hc,hw1,hd,q1,nf,jl,jf,jt,tyJ,g0,p0,g1,p1,Yc,kU,Yd,wW,aY,aX,AV.cells,AV.flat,JV.av,a95,splice,EVX,seval]
 by_cases h3:k=3
 ·subst h3;by_cases hc:8192<=ct
  ·refine⟨JV.zero,5,⟨pl,3,a,z,n,t,af,ct,dp⟩,?_,ha,aC4 _,fun h=>absurd h (by decide)⟩
   dsimp only[RV.o,RV.cs];rw[sself];simp only[aV,hc,g0,ty0,aY,aX,dA,AV.cells,AV.flat,JV.av,JV.zero_cs,splice,EVX,seval]
  ·have hw1:IntKind.i64.wrap (ct+1)=ct+1:=wrE (by omega)
   by_cases hd:12<=dp
   ·refine⟨JV.zero,8,⟨pl,3,a,z,n,t,af,ct+1,dp⟩,?_,ha,by dsimp only;omega,fun h=>absurd h (by decide)⟩
    simp only[aV,hc,hw1,hd,g0,p0,g1,kU,wW,tyL,aY,aX,dA,AV.cells,AV.flat,JV.av,JV.zero_cs,splice,EVX,seval]
   ·obtain⟨j,e,r2,q1,q2,q3,q4⟩:=hL (by omega) ⟨pl,3,a,z,n,t,af,ct+1,IntKind.i64.wrap (dp+1)⟩ (O.set o (RV.o s ⟨pl,3,a,z,n,t,af,ct+1,IntKind.i64.wrap (dp+1)⟩)++[o8,o8]) o (okz _ rfl _ rfl) (g1 _ _) ha (by dsimp only;omega) (by dsimp only;omega) (by dsimp only;omega)
    rw[p1]at q1;obtain⟨pl2,k2,a2,z2,n2,t2,af2,ct2,dp2⟩:=r2;dsimp only[RV.o,RV.cs,o8]at q1 q2 q3 q4;have nf:=fun Y r=>j.nvs.nf Y r;have jl:=JV.len j;have jf:=JV.flat j;have jt:j.cs.take 5=j.cs:=a08 (by rw[JV.len];exact a06 _)
    have je:5<=j.cs.length:=by rw[JV.len];exact a06 _
    refine⟨j,e,⟨pl2,k2,a2,z2,n2,t2,af2,ct2,IntKind.i64.wrap (dp2-1)⟩,?_,q2,by dsimp only at*;omega,fun h=>⟨by dsimp only at*;omega,q4 h⟩⟩
    simp only[aV,hc,hw1,hd,q1,nf,jl,jf,jt,tyJ,g0,p0,g1,p1,Yc,kU,Yd,wW,aY,aX,AV.cells,AV.flat,JV.av,a95,splice,EVX,seval]
 have n7:(k==7)=false:=by simpa using h7
 have n8:(k==8)=false:=by simpa using h8
 have n9:(k==9)=false:=by simpa using h9
 have n10:(k==10)=false:=by simpa using h10
 have n1:(k==1)=false:=by simpa using h1
 have n3:(k==3)=false:=by simpa using h3
 refine⟨JV.zero,e1,⟨pl,k,a,z,n,t,af,ct,dp⟩,?_,ha,aC4 _,fun h=>absurd h we⟩;dsimp only[RV.o,RV.cs];rw[sself];simp only[aV,n7,n8,n9,n10,n1,n3,w,g0,ty0,aY,aX,dA,AV.cells,AV.flat,JV.av,JV.zero_cs,splice,EVX,seval]
def OJ{Y:St}{q n sz:Nat}{l:LA}{fz:Fz}(hq:Y[q]?=some (.cells l fz))(hl:l.length=n*sz)(ns:NVs l):asb Y (df Y 11) (.msl q 0 n sz)=some (.sl n l,[q]):=by
 have nr:df Y 11 l=some (l,[]):=by
  show aT Y (df Y 10) l=_;exact ns.nf _ _
 unfold asb;rw[hq];show(if 0+n*sz<=l.length then match df Y 11 ((l.drop 0).take (n*sz))with|some (l,fs)=>some (AV.sl n l,q::fs)|none=>none else none)=_
 rw[if_pos (by omega),au0,a08 (by omega),nr]
def zL{Y:St}{q:Nat}{l:LA}(hq:Y[q]?=some (.cells l FZ)):freeze Y [q]=Y.set q (.cells l ⟨true,none⟩):=by
 unfold freeze;rw[hq];rfl
def zX{O S:St}{vs:LA}{x:AO}{o:Nat}(hσ:Ok O)(hx:x.below 0=true)(hv:ae 0 vs=true)(h:S.take O.length=O.set o x):tidy O.length vs S=O.set o x:=by
 unfold tidy;have hl:(S.take O.length).length=O.length:=by rw[h];simp
 have hok:(S.take O.length).all (AO.below O.length)=true:=by
  have:=hσ.set o hx;unfold Ok at this;rw[a95]at this;rw[h];exact this
 by_cases he:S.length=O.length
 ·rw[if_pos he,<-h,a08 (by omega)]
 ·rw[if_neg he,hok,aO (a98 _) _ hv];exact h
def aar(Y:St)(n0:Nat)(is:List JV)(x:AV):Prop:=(is=[]/\x=.nils)\/(is≠[]/\∃q,x=.msl q 0 is.length 5/\Y[q]?=some (.cells (aJ is) FZ)/\n0+2<=q)
structure aov(s:LU)(O:St)(o:Nat)(r:RV)(is:List JV)(x:AV)(Y:St):Prop where
 hok:Ok Y
 hr:Y[o]?=some (r.o s)
 hres:Y[O.length]?=some o8
 hv:Y[O.length+1]?=some (.cells [.int .u8 4,.int .i64 0,.str [],.nils,x] FZ)
 his:aar Y O.length is x
 hpre:Y.take O.length=O.set o (r.o s)
def arM(s:LU)(O:St)(o:Nat)(ct:Int)(x:RX):Prop:=∃(r':RV) (e:Int) (Y':St) (l:LA),x=some (.ret,[(2,.ref O.length 0),(3,.int .i64 e)],Y')/\0<=r'.after/\ct<=r'.count/\(e=0->r'.count<=8192)/\Y'.take O.length=O.set o (r'.o s)/\
 Y'[O.length]?=some (.cells l FZ)/\(l=[.int .u8 0,.int .i64 0,.str [],.nils,.nils]\/∃(is:List JV) (q:Nat),is.length<=8192/\l=[.int .u8 4,.int .i64 0,.str [],.nils,.msl q 0 is.length 5]/\Y'[q]?=some (.cells (aJ is) FZ)/\O.length+2<=q)
def Ok.set2{O:St}(h:Ok O)(o:Nat){x:AO}(hx:x.below O.length=true):Ok (O.set o x):=by
 unfold Ok at*;rw[a95];rw[a90]at*;intro y hy;rcases List.mem_or_eq_of_mem_set hy with hy|rfl
 ·exact h y hy
 ·exact hx
def aeo {Y:St} {n0 o:Nat} {is:List JV} {x:AV} (j:JV) (c:AO) (h:aar Y n0 is x) (hok:Ok Y) (hl:is.length<=8192) (ho:o<n0) {y z w:AO} (h1:Y[o]?=some y) (h2:Y[n0]?=some z) (h3:Y[n0+1]?=some w):
  ∃Y2:St,rO (Y++[c]) 5 80 none x 1 j.cs=some (.msl (Y.length+1) 0 (is.length+1) 5,Y2++[c,.cells (aJ (is++[j])) FZ])/\Y2.length=Y.length/\Y2[o]?=some y/\Y2[n0]?=some z/\Y2[n0+1]?=some w/\Y2.take n0=Y.take n0/\Ok Y2:=by
 rcases h with⟨e1,e2⟩|⟨e1,q,e2,e3,e4⟩
 ·subst e1;subst e2;refine⟨Y,?_,rfl,h1,h2,h3,rfl,hok⟩;rw[GV _ none j.cs (by omega) (by omega) (by omega)]
  simp[aJ]
 ·subst e2;have hq:(Y++[c])[q]?=some (.cells (aJ is) FZ):=aA e3 _;refine⟨Y.set q .dead,?_,by simp,aF h1 (by omega) _,aF h2 (by omega) _,aF h3 (by omega) _,dH _ _ _ (by omega) _,hok.set2 _ rfl⟩
  rw[SA j.cs hq (by omega) (jK is) (by omega) (by omega),dJ e3,FV]
  simp[aJ]
def ZL (H:ReadHas C) (s:LU) (hs:s.length<1099511627777) (m:Nat) (hV:aei C s m) (O:St) (o:Nat) (hoσ:o<O.length):∀(k:Nat) (r:RV) (is:List JV) (x:AV) (Y:St),aov s O o r is x Y->0<=r.after->(is.length:Int)<=r.count->r.count<=8192->8192<=r.count+k->8192<=r.count+m->
  arM s O o r.count (aH C (ai C) 53 [0,2,4] bZ [(0,.ref o 0),(2,.ref O.length 0),(4,.ref (O.length+1) 0)] Y)
 |k,r,is,x,Y,I,ha,hc1,hc2,hk,hm=>by
  obtain⟨hok,hr,hres,hv,his,hpre⟩:=I;obtain⟨j,e,r1,v1,v2,v3,v4⟩:=hV r Y o hok hr ha (by omega) hm
  have T1:(Y.set o (r1.o s)).length=Y.length:=by simp
  have hr1:=bg hr (r1.o s);have hres1:=aF hres (show O.length≠o by omega) (r1.o s)
  have hv1:=aF hv (show O.length+1≠o by omega) (r1.o s)
  have ok1:=hok.set o (RV.below s r1);have hpre1:(Y.set o (r1.o s)).take O.length=O.set o (r1.o s):=by rw[List.take_set,hpre,ax4]
  have his1:aar (Y.set o (r1.o s)) O.length is x:=by
   rcases his with h|⟨e1,q,e2,e3,e4⟩
   ·exact .inl h
   ·exact .inr ⟨e1,q,e2,aF e3 (by omega) _,e4⟩
  have nl:O.length+1<Y.length:=(a00.mp hv).1;generalize hS1:Y.set o (r1.o s)=S1 at*;have jl:=JV.len j;have jf:=JV.flat j;have jt:j.cs.take 5=j.cs:=a08 (by rw[JV.len];exact a06 _)
  have je:5<=j.cs.length:=by rw[JV.len];exact a06 _
  have d5:∀l:LA,l.length=5->l.drop 5=[]:=fun l h=>au1 (by omega)
  have b1:=fun L=>aA hv1 L;have c1:=fun L=>aA hres1 L;have p1:=fun L y=>dJ hres1 L y;dsimp only[o8]at*;rw[aG (he:=rfl)];cases ce:(e !=0)
  ·have e0:e=0:=by simpa using ce
   subst e0;obtain⟨w1,w2⟩:=v4 rfl;obtain⟨S2,a1,a2,a3,a4,a5,a6,a7⟩:=aeo j (.cells j.cs FZ) his1 ok1 (by omega) hoσ hr1 hres1 hv1
   rw[T1]at a1 a2;have b2:=fun L=>aA a5 L;have p2:=fun L y=>dJ a5 L y;have ok3:Ok ((S2++[AO.cells j.cs FZ,AO.cells (aJ (is++[j])) FZ]:St).set (O.length+1) (.cells [.int .u8 4,.int .i64 0,.str [],.nils,.msl (Y.length+1) 0 (is.length+1) 5] FZ)):=by
    refine Ok.set2 (a7.plus (by simp only[a88,aw1,AO.below,JV.bel,iq,aw7])) _ ?_
    rw[a04,a2];simp[AO.below,ae,below]
   rw[p2]at ok3;have hr3:=aF a3 (show o≠O.length+1 by omega) (.cells [.int .u8 4,.int .i64 0,.str [],.nils,.msl (Y.length+1) 0 (is.length+1) 5] FZ)
   have hres3:=aF a4 (show O.length≠O.length+1 by omega) (.cells [.int .u8 4,.int .i64 0,.str [],.nils,.msl (Y.length+1) 0 (is.length+1) 5] FZ)
   have hv3:=bg a5 (.cells [.int .u8 4,.int .i64 0,.str [],.nils,.msl (Y.length+1) 0 (is.length+1) 5] FZ);have hpre3:(S2.set (O.length+1) (.cells [.int .u8 4,.int .i64 0,.str [],.nils,.msl (Y.length+1) 0 (is.length+1) 5] FZ)).take O.length=O.set o (r1.o s):=by
    rw[dH _ _ _ (by omega),a6,hpre1]
   have T3:(S2.set (O.length+1) (.cells [.int .u8 4,.int .i64 0,.str [],.nils,.msl (Y.length+1) 0 (is.length+1) 5] FZ)).length=Y.length:=by simp[a2]
   generalize hS3:S2.set (O.length+1) (.cells [.int .u8 4,.int .i64 0,.str [],.nils,.msl (Y.length+1) 0 (is.length+1) 5] FZ)=S3 at*;obtain⟨r2,b,e2,m1,m2,m3,m4⟩:=UX H s hs 4 r1 v2 _ ok3 o (aA hr3 _);rw[dJ hr3]at m1;have hr4:=bg hr3 (r2.o s);have hres4:=aF hres3 (show O.length≠o by omega) (r2.o s)
   have hv4:=aF hv3 (show O.length+1≠o by omega) (r2.o s)
   have T4:(S3.set o (r2.o s)).length=Y.length:=by simp[T3]
   have ok4:=ok3.set o (RV.below s r2);rw[dJ hr3]at ok4;have hpre4:(S3.set o (r2.o s)).take O.length=O.set o (r2.o s):=by rw[List.take_set,hpre3,ax4]
   generalize hS4:S3.set o (r2.o s)=S4 at*;have c4:=fun L=>aA hres4 L;have p4:=fun L y=>dJ hres4 L y;have v5:=fun L=>aA hv4 L;have oq:∀y L,(S4.set O.length y++L)[O.length]?=some y:=fun y L=>aA (bg hres4 y) L;have pq:∀y L,(S4.set O.length y++L).take O.length=O.set o (r2.o s):=fun y L=>by
    rw[qW _ _ _ (by simp[T4];omega),dH _ _ _ (a06 _),hpre4]
   have blk:∀y L,(S4.set O.length y++(AO.cells j.cs FZ::AO.cells (aJ (is++[j])) FZ::L))[Y.length+1]?=some (.cells (aJ (is++[j])) FZ):=fun y L=>by
    rw[xK (by simp[T4])];rfl
   cases ce2:(e2 !=0)
   ·have e0:e2=0:=by simpa using ce2
    subst e0;cases b
    ·
     refine⟨r2,0,S4.set O.length (.cells [.int .u8 4,.int .i64 0,.str [],.nils,.msl (Y.length+1) 0 (is.length+1) 5] FZ)++[.cells j.cs FZ,.cells (aJ (is++[j])) FZ],_,?_,m2,by omega,fun _=>by omega,pq _ _,oq _ _,.inr ⟨is++[j],Y.length+1,by simp;omega,by simp,blk _ _,by omega⟩⟩
     generalize hk:aH C (ai C) 53 [0,2,4] bZ=kk at*;simp only[bZ,v1,b1,a1,b2,p2,hS3,m1,c4,p4,v5,jl,jf,jt,splice,d5,ce,AV.cells,AV.flat,JV.av,EVX,seval]
    ·
     have I2:aov s O o r2 (is++[j]) (.msl (Y.length+1) 0 (is.length+1) 5) (S4++[.cells j.cs FZ,.cells (aJ (is++[j])) FZ]):=by
      refine⟨ok4,aA hr4 _,aA hres4 _,aA hv4 _,.inr ⟨by simp,Y.length+1,by simp,?_,by omega⟩,?_⟩
      ·rw[xK T4];rfl
      ·rw[qW _ _ _ (by omega),hpre4]
     have hk0:0<k:=by omega
     obtain⟨k,rfl⟩:∃k',k=k'+1:=⟨k-1,by omega⟩
     have ih:=ZL H s hs m hV O o hoσ k r2 (is++[j]) _ _ I2 m2 (by simp;omega) (by omega) (by omega) (by omega)
     obtain⟨r',e',Y',l,i1,i2,i3,i4,i5,i6,i7⟩:=ih;refine⟨r',e',Y',l,?_,i2,by omega,i4,i5,i6,i7⟩
     generalize hk:aH C (ai C) 53 [0,2,4] bZ=kk at*;simp only[bZ,v1,b1,a1,b2,p2,hS3,m1,jl,jf,jt,splice,d5,ce,AV.cells,AV.flat,JV.av,i1,EVX,seval]
   ·refine⟨r2,e2,S4.set O.length (.cells [.int .u8 0,.int .i64 0,.str [],.nils,.nils] FZ)++[.cells j.cs FZ,.cells (aJ (is++[j])) FZ],_,?_,m2,by omega,fun h=>absurd h (by simpa using ce2),pq _ _,oq _ _,.inl rfl⟩
    generalize hk:aH C (ai C) 53 [0,2,4] bZ=kk at*;simp only[bZ,v1,b1,a1,b2,p2,hS3,m1,c4,p4,jl,jf,jt,splice,d5,ce,ce2,AV.cells,AV.flat,JV.av,EVX,seval]
  ·refine⟨r1,e,S1.set O.length (.cells [.int .u8 0,.int .i64 0,.str [],.nils,.nils] FZ)++[.cells j.cs FZ],_,?_,v2,v3,fun h=>absurd h (by simpa using ce),?_,aA (bg hres1 _) _,.inl rfl⟩
   ·generalize hk:aH C (ai C) 53 [0,2,4] bZ=kk at*;simp only[bZ,v1,c1,p1,jl,jf,splice,d5,ce,AV.cells,AV.flat,JV.av,EVX,seval]
   ·rw[qW _ _ _ (by simp[T1];omega),dH _ _ _ (a06 _),hpre1]
def Jk {O Y:St} {o:Nat} {x:AO} (hσ:Ok O) (hx:x.below 0=true) (e:Int) (E:As) (h2:look E 2=.ref O.length 0) (h3:look E 3=.int .i64 e) (hτ:Y.take O.length=O.set o x) (hl:Y[O.length]?=some (.cells [.int .u8 0,.int .i64 0,.str [],.nils,.nils] FZ)):
  xu O.length [.cell 2 true 5,.tmp 3] (some (.ret,E,Y))=some (.tup [JV.zero.av,.int .i64 e],O.set o x):=by
 rw[uD];have:aY E Y [.cell 2 true 5,.tmp 3]=some [.agg [.int .u8 0,.int .i64 0,.str [],.nils,.nils],.int .i64 e]:=by
  simp only[aY,h2,h3,hl,pt,au0,a07,a09,List.take];rfl
 rw[this];have hh:hand false [.agg [.int .u8 0,.int .i64 0,.str [],.nils,.nils],.int .i64 e] Y=some ([JV.zero.av,.int .i64 e],Y):=by
  rw[oW,aK,aX,aK,aK,aK,aK,aK,dA,vG,JV.av,JV.zero_cs];rfl
 dsimp only;rw[hh];dsimp only[bD];rw[zX hσ hx (by rw[ae,JV.av,below,JV.bel];rfl) hτ]
def ajs {O Y:St} {o:Nat} {x:AO} (hσ:Ok O) (hx:x.below 0=true) (e:Int) (E:As) (h2:look E 2=.ref O.length 0) (h3:look E 3=.int .i64 e) (hτ:Y.take O.length=O.set o x) (is:List JV) (his:is.length<=8192) (q:Nat) (hl:Y[O.length]?=some (.cells [.int .u8 4,.int .i64 0,.str [],.nils,.msl q 0 is.length 5] FZ)) (hq:Y[q]?=some (.cells (aJ is) FZ)) (hq2:O.length+2<=q):
  xu O.length [.cell 2 true 5,.tmp 3] (some (.ret,E,Y))=some (.tup [(JV.mk 4 0 [] [] is (by simp) (by omega) his (StB.nil lb0)).av,.int .i64 e],O.set o x):=by
 rw[uD];have:aY E Y [.cell 2 true 5,.tmp 3]=some [.agg [.int .u8 4,.int .i64 0,.str [],.nils,.msl q 0 is.length 5],.int .i64 e]:=by
  simp only[aY,h2,h3,hl,pt,au0,a07,a09,List.take];rfl
 rw[this];have hh:hand false [.agg [.int .u8 4,.int .i64 0,.str [],.nils,.msl q 0 is.length 5],.int .i64 e] Y=some ([(JV.mk 4 0 [] [] is (by simp) (by omega) his (StB.nil lb0)).av,.int .i64 e],Y.set q (.cells (aJ is) ⟨true,none⟩)):=by
  rw[oW,aK,aX,aK,aK,aK,aK,aK,dA,OJ hq (jK is) (H8 is),vG,JV.av,JV.mk_cs,<-zL hq];rfl
 dsimp only;rw[hh];dsimp only[bD];rw[zX hσ hx (by rw[ae,JV.av,below,JV.bel];rfl) (by rw[dH _ _ _ (by omega),hτ])]
def akm(H:ReadHas C)(hC:Has C su nJ)(s:LU)(hs:s.length<1099511627777)(m:Nat)(hV:aei C s m):am8 C su s m:=by
 intro r O o hσ ho ha hc0 hc hm;have hl:o<O.length:=(a00.mp ho).1;have hn:=iI o O;have ok1:Ok (O++[.cells [.int .u8 0,.int .i64 0,.str [],.nils,.nils] FZ,.cells [.int .u8 4,.int .i64 0,.str [],.nils,.nils] FZ]):=hσ.plus rfl;obtain⟨r1,e,n1,n2,n3,n4⟩:=rJ H.toNextHas s hs r ha _ ok1 o (aA ho _);rw[dJ ho]at n1;have g0:=fun x L=>aA (bg ho x) L;rw[hC.go hn];have L1:(O.set o (r1.o s)).length=O.length:=by simp
 have q0:=fun L=>fG L1 L;have q1:=fun L k=>xK L1 L k;have w0:=fun L y=>sN L1 L y;have e0:∀L:St,(O.set o (r1.o s)++L).take O.length=O.set o (r1.o s):=fun L=>by
  rw[av7 (by simp),a08 (by simp)]
 have q2:∀(x:AO) (L:St),(O.set o (r1.o s)++x::L)[O.length]?=some x:=fun x L=>by rw[q0];rfl
 have I:aov s O o r1 [] .nils (O.set o (r1.o s)++[o8,.cells [.int .u8 4,.int .i64 0,.str [],.nils,.nils] FZ]):=by
  refine⟨(hσ.set o (RV.below s r1)).plus rfl,g0 _ _,by rw[q0];rfl,by rw[q1];rfl,.inl ⟨rfl,rfl⟩,e0 _⟩
 obtain⟨r2,e2,Y2,l,i1,i2,i3,i4,i5,i6,i7⟩:=ZL H s hs m hV O o hl 8192 r1 [] .nils _ I n2 (by simp;omega) (by omega) (by omega) (by omega)
 cases ce:(e !=0)
 ·have c0:e=0:=by simpa using ce
  subst c0;cases c4:(r1.k==4)
  ·have hi:∃j:JV,xu O.length [.cell 2 true 5,.tmp 3] (some (.ret,[(2,.ref O.length 0),(3,.int .i64 e2)],Y2))=some (.tup [j.av,.int .i64 e2],O.set o (r2.o s)):=by
    rcases i7 with i7|⟨is,q,i7,i8,i9,i10⟩
    ·subst i7;exact⟨_,Jk hσ (RV.below s r2) e2 _ rfl rfl i5 i6⟩
    ·subst i8;exact⟨_,ajs hσ (RV.below s r2) e2 _ rfl rfl i5 is i7 q i6 i9 i10⟩
   obtain⟨j,hj⟩:=hi;refine⟨j,e2,r2,?_,i2,by omega,i4⟩
   rw[<-hj];dsimp only[RV.o,RV.cs,o8]at*
   congr 1
   simp only[nJ,n1,g0,c4,i1,splice,EVX,seval]
  ·refine⟨JV.leaf 4 0 [] lb0,0,r1,?_,n2,by omega,fun _=>by omega⟩
   have tk:=zX (S:=O.set o (r1.o s)++[AO.cells [.int .u8 4,.int .i64 0,.str [],.nils,.nils] FZ,AO.cells [.int .u8 4,.int .i64 0,.str [],.nils,.nils] FZ]) hσ (RV.below s r1) (vs:=[.agg [.int .u8 4,.int .i64 0,.str [],.sl 0 [],.sl 0 []],.int .i64 0]) rfl (e0 _);dsimp only[RV.o,RV.cs,o8]at*;simp only[nJ,n1,g0,q0,q1,w0,c4,splice,tk,aY,aX,dA,AV.cells,AV.flat,JV.av,JV.leaf_cs,EVX,seval]
 ·refine⟨JV.zero,e,r1,?_,n2,by omega,fun h=>absurd h (by simpa using ce)⟩
  have hj:=Jk hσ (RV.below s r1) e [(2,.ref O.length 0),(3,.int .i64 e)] rfl rfl (e0 _) (q2 (.cells [.int .u8 0,.int .i64 0,.str [],.nils,.nils] FZ) [.cells [.int .u8 4,.int .i64 0,.str [],.nils,.nils] FZ]);rw[<-hj];dsimp only[RV.o,RV.cs,o8]at*
  congr 1
  simp only[nJ,n1,q0,w0,ce,splice,EVX,seval]
def zO(l:List (LU×Int)):List (AV×AV):=l.map fun p=>(.str p.1,.int .i64 p.2)
def akt(l:List (LU×Int))(i:Nat)(s:LU)(n:Int):(zO l).set i (.str s,.int .i64 n)=zO (l.set i (s,n)):=by simp[zO,List.map_set]
def ai4(l:List (LU×Int))(s:LU)(n:Int):zO l++[(.str s,.int .i64 n)]=zO (l++[(s,n)]):=by simp[zO]
def WW(s:LU):∀(l:List (LU×Int)) (k:Nat),nO (.str s) (zO l) k=some none\/∃(i:Nat) (n:Int),nO (.str s) (zO l) k=some (some (i,.int .i64 n))/\k<=i/\i<k+l.length
 |[],k=>.inl rfl
 |p::l,k=>by
  have hm:zO (p::l)=(.str p.1,.int .i64 p.2)::zO l:=rfl;rw[hm];simp only[nO,ZI];cases jU s p.1
  ·rcases WW s l (k+1)with h|⟨i,n,h,h1,h2⟩
   ·left;exact h
   ·right;refine⟨i,n,h,by omega,?_⟩
    rw[a07];omega
  ·right;refine⟨k,p.2,rfl,a06 _,?_⟩;rw[a07];omega
def lookA(O:St)(z m k:AV):Option AV:=match mapOf O m with
 |some es=>match nO k es 0 with
  |some (some (_,v))=>some v
  |some none=>some z
  |none=>none
 |none=>none
def arH(O:St):Option AV->Option Out
 |some v=>some (.val v O)
 |none=>none
def yw(O:St)(v:AV):arH O (some v)=some (.val v O):=rfl
def Ut(a:XA->AV)(n0:Nat)(O:St)(z:AV)(m k:XA):aB C a n0 O (.lookup z m k false)=arH O (lookA O z (a m) (a k)):=by
 rw[aB.eq_32];unfold lookA;cases mapOf O (a m)with
 |none=>rfl
 |some es=>
  dsimp only;cases nO (a k) es 0 with
  |none=>rfl
  |some x=>
   cases x with
   |none=>rfl
   |some q=>rfl
def alX(O:St)(m k v:AV):Option St:=match m with
 |.map r=>match O[r]? with
  |some (.map es)=>match k with
   |.str s=>match nO (.str s) es 0 with
    |some (some (i,_))=>some (O.set r (.map (es.set i (.str s,v))))
    |some none=>some (O.set r (.map (es++[(.str s,v)])))
    |none=>none
   |_=>none
  |_=>none
 |_=>none
def arj:Option St->Option Out
 |some O=>some (.val .undef O)
 |none=>none
def Tn(O:St):arj (some O)=some (.val .undef O):=rfl
def ak5(a:XA->AV)(n0:Nat)(O:St)(m k v:XA):aB C a n0 O (.mapUpd m k v)=arj (alX O (a m) (a k) (a v)):=by
 rw[aB.eq_33];unfold alX;cases a m<;>try rfl
 dsimp only;rename_i r;cases O[r]? with
 |none=>rfl
 |some x=>
  cases x<;>try rfl
  dsimp only;cases a k<;>try rfl
  dsimp only;rename_i es s;cases nO (.str s) es 0 with
  |none=>rfl
  |some x=>
   cases x with
   |none=>rfl
   |some q=>rfl
def ada{O:St}{p:Nat}{l:List (LU×Int)}(h:O[p]?=some (.map (zO l)))(s:LU):∃n:Int,∀L:St,lookA (O++L) (.int .i64 0) (.map p) (.str s)=some (.int .i64 n):=by
 rcases WW s l 0 with f|⟨i,n,f,_,_⟩
 ·exact⟨0,fun L=>by simp only[lookA,mapOf,aA h,f]⟩
 ·exact⟨n,fun L=>by simp only[lookA,mapOf,aA h,f]⟩
def anJ{O:St}{p:Nat}{l:List (LU×Int)}(h:O[p]?=some (.map (zO l)))(s:LU)(n:Int):∃l':List (LU×Int),∀L:St,alX (O++L) (.map p) (.str s) (.int .i64 n)=some (O.set p (.map (zO l'))++L):=by
 rcases WW s l 0 with f|⟨i,n',f,_,_⟩
 ·exact⟨l++[(s,n)],fun L=>by simp only[alX,aA h,f,dJ h,ai4]⟩
 ·exact⟨l.set i (s,n),fun L=>by simp only[alX,aA h,f,dJ h,akt]⟩
def af0(k:Nat)(l:List (LU×Int)):(AO.map (zO l)).below k=true:=by
 show(ae k ((zO l).map (·.1))&&ae k ((zO l).map (·.2)))=true
 induction l with
 |nil=>rfl
 |cons p l ih=>
  rw[a01]at ih;show(ae k (.str p.1::(zO l).map (·.1))&&ae k (.int .i64 p.2::(zO l).map (·.2)))=true;rw[ae,ae,ih.1,ih.2];rfl
def adF:AO:=.cells [.str [],.int .u8 0,.int .i64 0,.str [],.nils,.nils] FZ
def zEL:EL:=(⟨[],lb0⟩,JV.zero)
def asY:elC zEL=[.str [],.int .u8 0,.int .i64 0,.str [],.sl 0 [],.sl 0 []]:=by simp[elC,zEL,JV.zero_cs]
def af1 (H:ReadHas C) (hC:Has C lD dB) (s:LU) (hs:s.length<1099511627777) (m:Nat) (hV:aei C s m) (r:RV) (O:St) (o p:Nat) (l:List (LU×Int)) (hσ:Ok O) (ho:O[o]?=some (r.o s)) (hp:O[p]?=some (.map (zO l))) (ha:0<=r.after) (hc0:0<=r.count) (hm:8192<=r.count+m):
  ∃(x:EL) (e:Int) (r':RV),ai C lD [.ref o 0,.map p] O=some (.tup [.agg (elC x),.int .i64 e],O.set o (r'.o s))/\0<=r'.after/\r.count<=r'.count/\(e=0->r.count<r'.count/\r'.count<=8192):=by
 have hn:hand false [.ref o 0,.map p] O=some ([.ref o 0,.map p],O):=rfl;have ok1:Ok (O++[adF]):=hσ.plus rfl;obtain⟨e0,w,we⟩:=Di H.wrong s r (O++[adF]) o (aA ho _);obtain⟨r1,e1,x1,x2,x3,x4⟩:=YN H s hs 6 r ha _ ok1 o (aA ho _);rw[dJ ho]at x1;have ho1:=bg ho (r1.o s);have ok2:Ok (O.set o (r1.o s)++[adF]):=(hσ.set o (RV.below s r1)).plus rfl;obtain⟨r2,e2,y1,y2,y3,y4⟩:=rJ H.toNextHas s hs r1 x2 _ ok2 o (aA ho1 _);rw[dJ ho1,ax4]at y1;have ho2:=bg ho (r2.o s);have ok3:Ok (O.set o (r2.o s)++[adF]):=(hσ.set o (RV.below s r2)).plus rfl;obtain⟨j,e3,r3,z1,z2,z3,z4⟩:=hV r2 _ o ok3 (aA ho2 _) y2 (by omega) (by omega)
 rw[dJ ho2,ax4]at z1;have g0:=fun L=>aA ho L;have tyZ:∀(x:AO) (hx:x.below 0=true) (e:Int) (L:St),tidy O.length [.agg [.str [],.int .u8 0,.int .i64 0,.str [],.sl 0 [],.sl 0 []],.int .i64 e] (O.set o x++L)=O.set o x:=fun x hx e L=>J6 hσ o hx _ rfl L;have tyx:∀(x:AO) (hx:x.below 0=true) (y:LA) (hy:ae 0 y=true) (e:Int) (L:St),tidy O.length [.agg y,.int .i64 e] (O.set o x++L)=O.set o x:=fun x hx y hy e L=>J6 hσ o hx _ (by rw[ae,below,hy];rfl) L
 have ty0:∀(e:Int) (L:St),tidy O.length [.agg [.str [],.int .u8 0,.int .i64 0,.str [],.sl 0 [],.sl 0 []],.int .i64 e] (O++L)=O:=fun e L=>dE hσ rfl L;have t1:=fun e L=>tyZ (r1.o s) (RV.below s r1) e L;have t2:=fun e L=>tyZ (r2.o s) (RV.below s r2) e L;have t3:=fun e L=>tyZ (r3.o s) (RV.below s r3) e L;have t4:=fun e L=>tyx (r3.o s) (RV.below s r3) (elC (r.t,j)) (Vt _) e L;have nf:=fun Y r'=>(amy (r.t,j)).nf Y r';have sself:=set_self ho;have jl:=JV.len j;have jf:=JV.flat j;have jt:j.cs.take 5=j.cs:=a08 (by rw[JV.len];exact a06 _)
 have je:5<=j.cs.length:=by rw[JV.len];exact a06 _
 have el:=nT (r.t,j);have ef:=yN (r.t,j);have et:(elC (r.t,j)).take 6=elC (r.t,j):=a08 (by rw[nT];exact a06 _)
 have d5:∀l:LA,l.length=5->l.drop 5=[]:=fun l h=>au1 (by omega)
 have eb:AV.str r.t.1::j.cs=elC (r.t,j):=rfl;rw[hC.go hn];dsimp only[RV.o,RV.cs,adF]at*;cases ck:(r.k !=10)
 ·
  obtain⟨n,go⟩:=ada hp r.t;cases cn:decide (n>0)
  ·cases c1:(e1 !=0)
   ·cases c2:(e2 !=0)
    ·cases c3:(e3 !=0)
     ·have c0:e3=0:=by simpa using c3
      subst c0;refine⟨(r.t,j),0,r3,?_,z2,by omega,fun _=>by have:=z4 rfl;omega⟩
      simp only[dB,ck,cn,go,↓Ut,yw,c1,c2,c3,x1,y1,z1,g0,t4,nf,jl,jf,jt,el,ef,et,eb,d5,Yc,kU,Yd,wW,aY,aX,AV.cells,JV.av,a95,splice,EVX,seval]
     ·refine⟨zEL,e3,r3,?_,z2,by omega,fun h=>absurd h (by simpa using c3)⟩
      simp only[dB,ck,cn,go,↓Ut,yw,c1,c2,c3,x1,y1,z1,g0,t3,jl,jf,d5,asY,Yc,kU,Yd,wW,aY,aX,dA,AV.cells,AV.flat,JV.av,a95,splice,EVX,seval]
    ·refine⟨zEL,e2,r2,?_,y2,by omega,fun h=>absurd h (by simpa using c2)⟩
     simp only[dB,ck,cn,go,↓Ut,yw,c1,c2,x1,y1,g0,t2,d5,asY,kU,wW,aY,aX,dA,AV.cells,AV.flat,splice,EVX,seval]
   ·refine⟨zEL,e1,r1,?_,x2,by omega,fun h=>absurd h (by simpa using c1)⟩
    simp only[dB,ck,cn,go,↓Ut,yw,c1,x1,g0,t1,d5,asY,kU,wW,aY,aX,dA,AV.cells,AV.flat,splice,EVX,seval]
  ·refine⟨zEL,7,r,?_,ha,by omega,fun h=>absurd h (by omega)⟩
   rw[sself];simp only[dB,ck,cn,go,↓Ut,yw,g0,ty0,d5,asY,aY,aX,dA,AV.cells,AV.flat,splice,EVX,seval]
 ·refine⟨zEL,e0,r,?_,ha,by omega,fun h=>absurd h we⟩
  rw[sself];simp only[dB,ck,w,g0,ty0,d5,asY,aY,aX,dA,AV.cells,AV.flat,splice,EVX,seval]
structure SortHas(C:Ctx):Prop where
 srt:Vm C fD BD
 sorted:Pe C Ah FC
def aoG(Y:St)(n0:Nat)(xs:List EL)(x:AV):Prop:=(xs=[]/\x=.nils)\/(xs≠[]/\∃q,x=.msl q 0 xs.length 6/\Y[q]?=some (.cells (kQ xs) FZ)/\n0+2<=q)
def ahx(xs:List EL)(x:EL):kQ (xs++[x])=kQ xs++elC x:=by simp[kQ]
def aoN {Y:St} {n0:Nat} {xs:List EL} {x:AV} (y:EL) (c:AO) (h:aoG Y n0 xs x) (hok:Ok Y) (hl:xs.length<=8192):
  ∃Y2:St,rO (Y++[c]) 6 96 none x 1 (elC y)=some (.msl (Y.length+1) 0 (xs.length+1) 6,Y2++[c,.cells (kQ (xs++[y])) FZ])/\Y2.length=Y.length/\(∀(i:Nat) (w:AO),i<n0+2->Y[i]?=some w->Y2[i]?=some w)/\Y2.take n0=Y.take n0/\Ok Y2:=by
 rcases h with⟨e1,e2⟩|⟨e1,q,e2,e3,e4⟩
 ·subst e1;subst e2;refine⟨Y,?_,rfl,fun _ _ _ h=>h,rfl,hok⟩;rw[GV _ none (elC y) (by omega) (by omega) (by omega)]
  simp[kQ]
 ·subst e2;have hq:(Y++[c])[q]?=some (.cells (kQ xs) FZ):=aA e3 _;refine⟨Y.set q .dead,?_,by simp,fun i w hi h=>aF h (by omega) _,dH _ _ _ (by omega) _,hok.set2 _ rfl⟩
  rw[SA (elC y) hq (by omega) (acB xs) (by omega) (by omega),dJ e3,ahx]
  simp
structure aoy(s:LU)(O:St)(o:Nat)(r:RV)(xs:List EL)(x:AV)(Y:St):Prop where
 hok:Ok Y
 hr:Y[o]?=some (r.o s)
 hres:Y[O.length]?=some o8
 hmap:∃l,Y[O.length+1]?=some (.map (zO l))
 hxs:aoG Y O.length xs x
 hpre:Y.take O.length=O.set o (r.o s)
def arP(s:LU)(O:St)(o:Nat)(ct:Int)(x:RX):Prop:=∃(r':RV) (e:Int) (Y':St) (l:LA),x=some (.ret,[(2,.ref O.length 0),(3,.int .i64 e)],Y')/\0<=r'.after/\ct<=r'.count/\(e=0->r'.count<=8192)/\Y'.take O.length=O.set o (r'.o s)/\
 Y'[O.length]?=some (.cells l FZ)/\(l=[.int .u8 0,.int .i64 0,.str [],.nils,.nils]\/∃(xs:List EL) (q1 q2:Nat),xs.length<=8192/\l=[.int .u8 5,.int .i64 0,.str [],.msl q1 0 xs.length 1,.msl q2 0 xs.length 5]/\Y'[q1]?=some (.cells (nR xs) FZ)/\Y'[q2]?=some (.cells (zk xs) FZ)/\O.length+2<=q1/\O.length+2<=q2/\q1≠q2)
def UD (H:ReadHas C) (HS:SortHas C) (hM:Has C lD dB) (s:LU) (hs:s.length<1099511627777) (m:Nat) (hV:aei C s m) (O:St) (o:Nat) (hoσ:o<O.length):∀(k:Nat) (r:RV) (xs:List EL) (x:AV) (Y:St),aoy s O o r xs x Y->0<=r.after->(xs.length:Int)<=r.count->r.count<=8192->8192<=r.count+k->8192<=r.count+m->
  arP s O o r.count (aH C (ai C) 59 [0,2,5,6] bM [(0,.ref o 0),(2,.ref O.length 0),(5,x),(6,.map (O.length+1))] Y)
 |k,r,xs,x,Y,I,ha,hc1,hc2,hk,hm=>by
  obtain⟨hok,hr,hres,⟨ml,hmap⟩,hxs,hpre⟩:=I;obtain⟨j,e,r1,v1,v2,v3,v4⟩:=af1 H hM s hs m hV r Y o (O.length+1) ml hok hr hmap ha (by omega) hm
  have T1:(Y.set o (r1.o s)).length=Y.length:=by simp
  have hr1:=bg hr (r1.o s);have hres1:=aF hres (show O.length≠o by omega) (r1.o s)
  have hmap1:=aF hmap (show O.length+1≠o by omega) (r1.o s)
  have ok1:=hok.set o (RV.below s r1);have hpre1:(Y.set o (r1.o s)).take O.length=O.set o (r1.o s):=by rw[List.take_set,hpre,ax4]
  have hxs1:aoG (Y.set o (r1.o s)) O.length xs x:=by
   rcases hxs with h|⟨e1,q,e2,e3,e4⟩
   ·exact .inl h
   ·exact .inr ⟨e1,q,e2,aF e3 (by omega) _,e4⟩
  have nl:O.length+1<Y.length:=(a00.mp hmap).1;generalize hS1:Y.set o (r1.o s)=S1 at*;have jl:=nT j;have jf:=yN j;have jt:(elC j).take 6=elC j:=a08 (by rw[nT];exact a06 _)
  have je:6<=(elC j).length:=by rw[nT];exact a06 _
  have eh:(elC j).head? =some (.str j.1.1):=rfl;have d6:∀l:LA,l.length=6->l.drop 6=[]:=fun l h=>au1 (by omega)
  have c1:=fun L=>aA hres1 L;have p1:=fun L y=>dJ hres1 L y;dsimp only[o8]at*;rw[aG (he:=rfl)];cases ce:(e !=0)
  ·have e0:e=0:=by simpa using ce
   subst e0;obtain⟨w1,w2⟩:=v4 rfl;obtain⟨S2,a1,a2,a3,a6,a7⟩:=aoN j (.cells (elC j) FZ) hxs1 ok1 (by omega)
   rw[T1]at a1 a2;have hr2:=a3 o _ (by omega) hr1
   have hres2:=a3 O.length _ (by omega) hres1
   have hmap2:=a3 (O.length+1) _ (by omega) hmap1
   have g2:=fun L=>fG (a2.trans T1.symm) L;obtain⟨n,lk⟩:=ada hmap2 j.1.1;obtain⟨ml2,up⟩:=anJ hmap2 j.1.1 (IntKind.i64.wrap (n+1));have ok3:Ok ((S2++[AO.cells (elC j) FZ,AO.cells (kQ (xs++[j])) FZ]:St).set (O.length+1) (.map (zO ml2))):=by
    exact Ok.set2 (a7.plus (by simp only[a88,aw1,AO.below,Vt,WC,aw7])) _ (af0 _ _)
   rw[dJ hmap2]at ok3;have hr3:=aF hr2 (show o≠O.length+1 by omega) (.map (zO ml2))
   have hres3:=aF hres2 (show O.length≠O.length+1 by omega) (.map (zO ml2))
   have hmap3:=bg hmap2 (.map (zO ml2));have hpre3:(S2.set (O.length+1) (.map (zO ml2))).take O.length=O.set o (r1.o s):=by
    rw[dH _ _ _ (by omega),a6,hpre1]
   have T3:(S2.set (O.length+1) (.map (zO ml2))).length=Y.length:=by simp[a2]
   generalize hS3:S2.set (O.length+1) (.map (zO ml2))=S3 at*;obtain⟨r2,b,e2,m1,m2,m3,m4⟩:=UX H s hs 2 r1 v2 _ ok3 o (aA hr3 _);rw[dJ hr3]at m1;have hr4:=bg hr3 (r2.o s);have hres4:=aF hres3 (show O.length≠o by omega) (r2.o s)
   have hmap4:=aF hmap3 (show O.length+1≠o by omega) (r2.o s)
   have T4:(S3.set o (r2.o s)).length=Y.length:=by simp[T3]
   have ok4:=ok3.set o (RV.below s r2);rw[dJ hr3]at ok4;have hpre4:(S3.set o (r2.o s)).take O.length=O.set o (r2.o s):=by rw[List.take_set,hpre3,ax4]
   generalize hS4:S3.set o (r2.o s)=S4 at*;have c4:=fun L=>aA hres4 L;have p4:=fun L y=>dJ hres4 L y;have blk:(S4++[AO.cells (elC j) FZ,AO.cells (kQ (xs++[j])) FZ]:St)[Y.length+1]?=some (.cells (kQ (xs++[j])) FZ):=by
    rw[xK T4];rfl
   cases ce2:(e2 !=0)
   ·have e0:e2=0:=by simpa using ce2
    subst e0;cases b
    ·
     have bl:Y.length+1<(S4++[AO.cells (elC j) FZ,AO.cells (kQ (xs++[j])) FZ]:St).length:=(a00.mp blk).1;obtain⟨xs',q1,q2,Y',k1,k2,k3,k4,k5,k6,k7,k8⟩:=adA HS.srt HS.sorted (Y.length+1) _ ok4 bl (xs.length+1) (by omega) none (xs++[j]) (by simp) (by omega)
     unfold row at k2 k3;rw[set_self blk]at k2;have tl:∀y:AO,(Y'.take (S4++[AO.cells (elC j) FZ,AO.cells (kQ (xs++[j])) FZ]:St).length).take O.length=O.set o (r2.o s):=fun _=>by
      rw[k3,dH _ _ _ (by omega),qW _ _ _ (by omega),hpre4]
     have tk:Y'.take O.length=O.set o (r2.o s):=by
      have:=tl .dead;rw[aD1,az7 (by simp[T4];omega)]at this
      exact this
     have rz:Y'[O.length]?=some (.cells [.int .u8 0,.int .i64 0,.str [],.nils,.nils] FZ):=by
      have h1:(Y'.take (S4++[AO.cells (elC j) FZ,AO.cells (kQ (xs++[j])) FZ]:St).length)[O.length]?=some (.cells [.int .u8 0,.int .i64 0,.str [],.nils,.nils] FZ):=by
       rw[k3];exact aF (aA hres4 _) (by omega) _
      rw[au7]at h1;rwa[if_pos (by simp[T4];omega)]at h1
     have ll:O.length<(S4++[AO.cells (elC j) FZ,AO.cells (kQ (xs++[j])) FZ]:St).length:=by simp[T4];omega
     refine⟨r2,0,Y'.set O.length (.cells [.int .u8 5,.int .i64 0,.str [],.msl q1 0 (xs.length+1) 1,.msl q2 0 (xs.length+1) 5] FZ),_,?_,m2,by omega,fun _=>by omega,by rw[dH _ _ _ (a06 _),tk],bg rz _,.inr ⟨xs',q1,q2,by rw[k1];omega,by rw[k1],aF k4 (by omega) _,aF k5 (by omega) _,by omega,by omega,k8⟩⟩
     generalize hk:aH C (ai C) 59 [0,2,5,6] bM=kk at*;simp only[bM,v1,a1,g2,lk,up,m1,k2,rz,jl,jf,jt,eh,splice,d6,ce,AV.cells,AV.flat,↓Ut,↓ak5,yw,Tn,EVX,seval]
    ·
     have I2:aoy s O o r2 (xs++[j]) (.msl (Y.length+1) 0 (xs.length+1) 6) (S4++[.cells (elC j) FZ,.cells (kQ (xs++[j])) FZ]):=by
      refine⟨ok4,aA hr4 _,aA hres4 _,⟨ml2,aA hmap4 _⟩,.inr ⟨by simp,Y.length+1,by simp,blk,by omega⟩,?_⟩
      rw[qW _ _ _ (by omega),hpre4]
     have hk0:0<k:=by omega
     obtain⟨k,rfl⟩:∃k',k=k'+1:=⟨k-1,by omega⟩
     have ih:=UD H HS hM s hs m hV O o hoσ k r2 (xs++[j]) _ _ I2 m2 (by simp;omega) (by omega) (by omega) (by omega)
     obtain⟨r',e',Y',l,i1,i2,i3,i4,i5,i6,i7⟩:=ih;refine⟨r',e',Y',l,?_,i2,by omega,i4,i5,i6,i7⟩
     generalize hk:aH C (ai C) 59 [0,2,5,6] bM=kk at*;simp only[bM,v1,a1,g2,lk,up,m1,i1,jl,jf,jt,eh,splice,d6,ce,AV.cells,↓Ut,↓ak5,yw,Tn,EVX,seval]
   ·refine⟨r2,e2,S4.set O.length (.cells [.int .u8 0,.int .i64 0,.str [],.nils,.nils] FZ)++[.cells (elC j) FZ,.cells (kQ (xs++[j])) FZ],_,?_,m2,by omega,fun h=>absurd h (by simpa using ce2),?_,aA (bg hres4 _) _,.inl rfl⟩
    ·generalize hk:aH C (ai C) 59 [0,2,5,6] bM=kk at*;simp only[bM,v1,a1,g2,lk,up,m1,c4,p4,jl,jf,jt,eh,splice,d6,ce,ce2,AV.cells,AV.flat,↓Ut,↓ak5,yw,Tn,EVX,seval]
    ·rw[qW _ _ _ (by simp[T4];omega),dH _ _ _ (a06 _),hpre4]
  ·refine⟨r1,e,S1.set O.length (.cells [.int .u8 0,.int .i64 0,.str [],.nils,.nils] FZ)++[.cells (elC j) FZ],_,?_,v2,v3,fun h=>absurd h (by simpa using ce),?_,aA (bg hres1 _) _,.inl rfl⟩
   ·generalize hk:aH C (ai C) 59 [0,2,5,6] bM=kk at*;simp only[bM,v1,c1,p1,jl,jf,splice,d6,ce,AV.cells,AV.flat,EVX,seval]
   ·rw[qW _ _ _ (by simp[T1];omega),dH _ _ _ (a06 _),hpre1]
def aeG{Y:St}{q1 q2:Nat}{l1 l2:LA}(h1:Y[q1]?=some (.cells l1 FZ))(h2:Y[q2]?=some (.cells l2 FZ))(hne:q1≠q2):freeze Y [q1,q2]=(Y.set q1 (.cells l1 ⟨true,none⟩)).set q2 (.cells l2 ⟨true,none⟩):=by
 unfold freeze;rw[h1];exact zL (aF h2 (fun e=>hne e.symm) _)
def an1(xs:List EL)(h:xs.length<=8192):JV:=.mk 5 0 [] (xs.map (·.1.1)) (xs.map (·.2)) (by simp) (by simp) (by simpa using h) ⟨lb0,fun x hx=>by
 obtain⟨y,_,rfl⟩:=ax1.mp hx;exact y.1.2⟩
def age {O Y:St} {o:Nat} {x:AO} (hσ:Ok O) (hx:x.below 0=true) (e:Int) (E:As) (h2:look E 2=.ref O.length 0) (h3:look E 3=.int .i64 e) (hτ:Y.take O.length=O.set o x) (xs:List EL) (hxs:xs.length<=8192) (q1 q2:Nat) (hl:Y[O.length]?=some (.cells [.int .u8 5,.int .i64 0,.str [],.msl q1 0 xs.length 1,.msl q2 0 xs.length 5] FZ)) (hq1:Y[q1]?=some (.cells (nR xs) FZ)) (hq2:Y[q2]?=some (.cells (zk xs) FZ)) (n1:O.length+2<=q1) (n2:O.length+2<=q2) (ne:q1≠q2):
  xu O.length [.cell 2 true 5,.tmp 3] (some (.ret,E,Y))=some (.tup [(an1 xs hxs).av,.int .i64 e],O.set o x):=by
 rw[uD];have:aY E Y [.cell 2 true 5,.tmp 3]=some [.agg [.int .u8 5,.int .i64 0,.str [],.msl q1 0 xs.length 1,.msl q2 0 xs.length 5],.int .i64 e]:=by
  simp only[aY,h2,h3,hl,pt,au0,a07,a09,List.take];rfl
 rw[this];have nn:NVs (nR xs):=by
  have:=alJ (xs.map (·.1.1));rw[List.map_map]at this;exact this
 have hh:hand false [.agg [.int .u8 5,.int .i64 0,.str [],.msl q1 0 xs.length 1,.msl q2 0 xs.length 5],.int .i64 e] Y=some ([(an1 xs hxs).av,.int .i64 e],(Y.set q1 (.cells (nR xs) ⟨true,none⟩)).set q2 (.cells (zk xs) ⟨true,none⟩)):=by
  rw[oW,aK,aX,aK,aK,aK,aK,aK,OJ hq1 (by rw[OD,aw9]) nn,OJ hq2 (TM xs) (H8 _),vG,<-aeG hq1 hq2 ne]
  unfold an1 JV.av;rw[JV.mk_cs,aw8,aw8,List.map_map];rfl
 dsimp only;rw[hh];dsimp only[bD];rw[zX hσ hx (by rw[ae,JV.av,below,JV.bel];rfl) (by rw[dH _ _ _ (by omega),dH _ _ _ (by omega),hτ])]
def af8(H:ReadHas C)(HS:SortHas C)(hM:Has C lD dB)(hC:Has C oP kX)(s:LU)(hs:s.length<1099511627777)(m:Nat)(hV:aei C s m):am8 C oP s m:=by
 intro r O o hσ ho ha hc0 hc hm;have hl:o<O.length:=(a00.mp ho).1;have hn:=iI o O;have ok1:Ok (O++[.cells [.int .u8 0,.int .i64 0,.str [],.nils,.nils] FZ]):=hσ.plus rfl;obtain⟨r1,e,n1,n2,n3,n4⟩:=rJ H.toNextHas s hs r ha _ ok1 o (aA ho _);rw[dJ ho]at n1;have g0:=fun x L=>aA (bg ho x) L;rw[hC.go hn];have L1:(O.set o (r1.o s)).length=O.length:=by simp
 have q0:=fun L=>fG L1 L;have q1:=fun L k=>xK L1 L k;have w0:=fun L y=>sN L1 L y;have e0:∀L:St,(O.set o (r1.o s)++L).take O.length=O.set o (r1.o s):=fun L=>by
  rw[av7 (by simp),a08 (by simp)]
 have q2:∀(x:AO) (L:St),(O.set o (r1.o s)++x::L)[O.length]?=some x:=fun x L=>by rw[q0];rfl
 have I:aoy s O o r1 [] .nils (O.set o (r1.o s)++[o8,.map []]):=by
  refine⟨(hσ.set o (RV.below s r1)).plus rfl,g0 _ _,by rw[q0];rfl,⟨[],by rw[q1];rfl⟩,.inl ⟨rfl,rfl⟩,e0 _⟩
 obtain⟨r2,e2,Y2,l,i1,i2,i3,i4,i5,i6,i7⟩:=UD H HS hM s hs m hV O o hl 8192 r1 [] .nils _ I n2 (by simp;omega) (by omega) (by omega) (by omega)
 cases ce:(e !=0)
 ·have c0:e=0:=by simpa using ce
  subst c0;cases c4:(r1.k==2)
  ·have hi:∃j:JV,xu O.length [.cell 2 true 5,.tmp 3] (some (.ret,[(2,.ref O.length 0),(3,.int .i64 e2)],Y2))=some (.tup [j.av,.int .i64 e2],O.set o (r2.o s)):=by
    rcases i7 with i7|⟨xs,q1,q2,hxs,i7,i8,i9,i10,i11,i12⟩
    ·subst i7;exact⟨_,Jk hσ (RV.below s r2) e2 _ rfl rfl i5 i6⟩
    ·subst i7;exact⟨_,age hσ (RV.below s r2) e2 _ rfl rfl i5 xs hxs q1 q2 i6 i8 i9 i10 i11 i12⟩
   obtain⟨j,hj⟩:=hi;refine⟨j,e2,r2,?_,i2,by omega,i4⟩
   rw[<-hj];dsimp only[RV.o,RV.cs,o8]at*
   congr 1
   simp only[kX,n1,g0,L1,c4,i1,EVX,seval]
  ·refine⟨JV.leaf 5 0 [] lb0,0,r1,?_,n2,by omega,fun _=>by omega⟩
   have tk:=zX (S:=O.set o (r1.o s)++[AO.cells [.int .u8 5,.int .i64 0,.str [],.nils,.nils] FZ]) hσ (RV.below s r1) (vs:=[.agg [.int .u8 5,.int .i64 0,.str [],.sl 0 [],.sl 0 []],.int .i64 0]) rfl (e0 _);dsimp only[RV.o,RV.cs,o8]at*;simp only[kX,n1,g0,q0,w0,c4,splice,tk,aY,aX,dA,AV.cells,AV.flat,JV.av,JV.leaf_cs,EVX,seval]
 ·refine⟨JV.zero,e,r1,?_,n2,by omega,fun h=>absurd h (by simpa using ce)⟩
  have hj:=Jk hσ (RV.below s r1) e [(2,.ref O.length 0),(3,.int .i64 e)] rfl rfl (e0 _) (q2 (.cells [.int .u8 0,.int .i64 0,.str [],.nils,.nils] FZ) []);rw[<-hj];dsimp only[RV.o,RV.cs,o8]at*
  congr 1
  simp only[kX,n1,q0,w0,ce,splice,EVX,seval]
structure Kw(C:Ctx):Prop extends ReadHas C,SortHas C where
 member:Has C lD dB
 object:Has C oP kX
 list:Has C su nJ
 value:Has C vP aV
def O8(H:Kw C)(s:LU)(hs:s.length<1099511627777):∀m:Nat,aei C s m
 |0=>aal H.value H.wrong s 0 (fun h=>absurd h (by omega)) (fun h=>absurd h (by omega))
 |m+1=>aal H.value H.wrong s (m+1) (fun _=>akm H.toReadHas H.list s hs m (O8 H s hs m)) (fun _=>af8 H.toReadHas H.toSortHas H.member H.object s hs m (O8 H s hs m))
def aig (H:Kw C) (hC:Has C iD rf) (s:LU) (O:St) (hσ:Ok O):
  ∃(j:JV) (p e:Int),ai C iD [.str s] O=some (.tup [j.av,.int .i64 p,.int .i64 e],O):=by
 have ty:∀(j:LA) (hj:ae 0 j=true) (p e:Int) (L:St),tidy O.length [.agg j,.int .i64 p,.int .i64 e] (O++L)=O:=fun j hj p e L=>dE hσ (by rw[ae,below,hj];rfl) L
 have tz:=fun p e L=>ty [.int .u8 0,.int .i64 0,.str [],.sl 0 [],.sl 0 []] rfl p e L;rw[hC.go (NVs.hand (.cons (.str _) .nil) _)];by_cases h:(65536:Int)<(s.length:Int)
 ·refine⟨JV.zero,0,5,?_⟩;simp only[rf,h,tz,aY,aX,dA,AV.cells,AV.flat,JV.av,JV.zero_cs,splice,EVX,seval]
 have hs:s.length<1099511627777:=by omega
 have ok0:∀r:RV,Ok (O++[o8,r.o s]):=fun r=>hσ.plus rfl;have o0:∀r:RV,(O++[o8,r.o s]:St)[O.length+1]?=some (r.o s):=fun r=>by rw[dM];rfl
 have s0:∀r r':RV,(O++[o8,r.o s]:St).set (O.length+1) (r'.o s)=O++[o8,r'.o s]:=fun r r'=>by rw[BJ];rfl
 obtain⟨r1,e1,n1,n2,n3,n4⟩:=rJ H.toNextHas s hs ⟨0,0,0,0,0,⟨[],lb0⟩,0,0,0⟩ (aC4 _) _ (ok0 _) (O.length+1) (o0 _);rw[s0]at n1;obtain⟨j,e2,r2,v1,v2,v3,v4⟩:=O8 H s hs 8192 r1 _ (O.length+1) (ok0 r1) (o0 _) n2 (by rw[n3];exact aC4 _) (by rw[n3];decide)
 rw[s0]at v1;have ok1:∀r:RV,Ok (O++[.cells j.cs FZ,r.o s]):=fun r=>hσ.plus (by rw[a88,a88,RV.below,show AO.below 0 (.cells j.cs FZ)=true from j.bel];rfl)
 have o1:∀r:RV,(O++[AO.cells j.cs FZ,r.o s]:St)[O.length+1]?=some (r.o s):=fun r=>by rw[dM];rfl
 have s1:∀r r':RV,(O++[AO.cells j.cs FZ,r.o s]:St).set (O.length+1) (r'.o s)=O++[AO.cells j.cs FZ,r'.o s]:=fun r r'=>by rw[BJ];rfl
 obtain⟨r3,e3,w1,w2,w3,w4⟩:=rJ H.toNextHas s hs r2 v2 _ (ok1 _) (O.length+1) (o1 _);rw[s1]at w1;have tj:=fun p e L=>ty j.cs j.bel p e L;have nf:=fun Y r'=>j.nvs.nf Y r';have jl:=JV.len j;have jf:=JV.flat j;have jt:j.cs.take 5=j.cs:=a08 (by rw[JV.len];exact a06 _)
 have je:5<=j.cs.length:=by rw[JV.len];exact a06 _
 have jd:j.cs.drop 5=[]:=au1 (by omega)
 have sj:∀a b c d e:AV,splice j.cs 0 [a,b,c,d,e]=[a,b,c,d,e]:=fun a b c d e=>by simp[splice,jd]
 have sk:∀a b c d e:AV,splice [a,b,c,d,e] 0 j.cs=j.cs:=fun a b c d e=>by simp[splice,jl]
 have ss:splice j.cs 0 j.cs=j.cs:=by simp[splice]
 dsimp only[RV.o,RV.cs,o8]at*;cases c1:(e1 !=0)
 ·cases c2:(e2 !=0)
  ·cases c3:(e3 !=0)
   ·cases c4:(r3.k !=11)
    ·refine⟨j,0,0,?_⟩;simp only[rf,h,n1,v1,w1,c1,c2,c3,c4,tj,nf,jl,jf,jt,ss,sk,aY,aX,AV.cells,AV.flat,JV.av,EVX,seval]
    ·refine⟨JV.zero,r3.place,11,?_⟩;simp only[rf,h,n1,v1,w1,c1,c2,c3,c4,tz,jl,jf,sj,sk,aY,aX,dA,AV.cells,AV.flat,JV.av,JV.zero_cs,EVX,seval]
   ·refine⟨JV.zero,r3.place,e3,?_⟩;simp only[rf,h,n1,v1,w1,c1,c2,c3,tz,jl,jf,sj,sk,aY,aX,dA,AV.cells,AV.flat,JV.av,JV.zero_cs,EVX,seval]
  ·refine⟨JV.zero,r2.place,e2,?_⟩;simp only[rf,h,n1,v1,c1,c2,tz,jl,jf,sj,sk,aY,aX,dA,AV.cells,AV.flat,JV.av,JV.zero_cs,EVX,seval]
 ·refine⟨JV.zero,r1.place,e1,?_⟩;simp only[rf,h,n1,c1,tz,aY,aX,dA,AV.cells,AV.flat,JV.av,JV.zero_cs,splice,EVX,seval]
def RG(ns:List LU)(i:Nat)(h:i<ns.length):(ns.map AV.str).drop i=.str ns[i]::(ns.map AV.str).drop (i+1):=by
 rw[as9 (by simpa using h)]
 simp
def RH(ns:List LU):(ns.map AV.str).length=ns.length:=by simp
def Jc (ns:List LU) (hn:ns.length<=8192) (O:St):∀(n i:Nat),i+n=ns.length->1<=i->
  aH C (ai C) 20 [0,3] dh [(0,.sl ns.length (ns.map .str)),(3,.int .i64 i)] O=some (.exit 0,[],O)\/aH C (ai C) 20 [0,3] dh [(0,.sl ns.length (ns.map .str)),(3,.int .i64 i)] O=some (.ret,[(2,.bool false)],O)
 |0,i,hi,h1=>by
  rw[aG (he:=rfl)];have h:¬((i:Int)<(ns.length:Int)):=by omega
  left;simp only[dh,h,EVX,seval]
 |n+1,i,hi,h1=>by
  have h:((i:Int)<(ns.length:Int)):=by omega
  have h2:i<ns.length:=by omega
  have h3:i-1<ns.length:=by omega
  have w1:IntKind.i64.wrap ((i:Int)-1)=((i-1:Nat):Int):=wrE (by omega)
  have w2:=wrS i (by omega)
  have p1:(0:Int)<=((i-1:Nat):Int):=by omega
  have p2:(0:Int)<=(i:Int):=by omega
  have d1:=RG ns (i-1) h3;have d2:=RG ns i h2;have sl:=RH ns;have ih:=Jc ns hn O n (i+1) (by omega) (by omega)
  rw[aG (he:=rfl)];generalize hk:aH C (ai C) 20 [0,3] dh=k at*;cases hb:Op.bytesLess ns[i-1] ns[i]
  ·right;simp only[dh,h,h2,h3,w1,p1,p2,d1,d2,sl,hb,a81,aB8,EVX,seval]
  ·rcases ih with ih|ih
   ·left;simp only[dh,h,h2,h3,w1,w2,p1,p2,d1,d2,sl,hb,ih,a81,aB8,EVX,seval]
   ·right;simp only[dh,h,h2,h3,w1,w2,p1,p2,d1,d2,sl,hb,ih,a81,aB8,EVX,seval]
def abX(ns:List LU):NV (.sl ns.length (ns.map .str)):=.sl _ (o9 ns)
def Vh(hC:Has C oV oD)(ns:List LU)(hn:ns.length<=8192)(O:St):∃b:Bool,ai C oV [.sl ns.length (ns.map .str)] O=some (.bool b,O):=by
 rw[hC.go (NVs.hand (.cons (abX ns) .nil) _)];by_cases h0:ns=[]
 ·subst h0;refine⟨true,?_⟩;have h:¬((1:Int)<0):=by omega
  have lp:aH C (ai C) 20 [0,3] dh [(0,.sl 0 []),(3,.int .i64 1)] O=some (.exit 0,[],O):=by
   rw[aG (he:=rfl)];simp only[dh,h,at6,EVX,seval]
  simp only[oD,a09,List.map_nil,lp,EVX,seval]
 ·have h1:1<=ns.length:=by
   cases ns with
   |nil=>exact absurd rfl h0
   |cons=>simp
  rcases Jc (C:=C) ns hn O (ns.length-1) 1 (by omega) (a06 _)with h|h
  ·refine⟨true,?_⟩;simp only[at6]at h;simp only[oD,h,EVX,seval]
  ·refine⟨false,?_⟩;simp only[at6]at h;simp only[oD,h,EVX,seval]
def Xf (ns:List LU) (x:LU) (hn:ns.length<=8192) (O:St):∀(n i:Nat),i+n=ns.length->
  aH C (ai C) 19 [0,1,7,8] bu [(0,.sl ns.length (ns.map .str)),(1,.str x),(7,.int .i64 ns.length),(8,.int .i64 i)] O=some (.exit 0,[],O)\/∃k:Nat,k<ns.length/\aH C (ai C) 19 [0,1,7,8] bu [(0,.sl ns.length (ns.map .str)),(1,.str x),(7,.int .i64 ns.length),(8,.int .i64 i)] O=some (.ret,[(4,.int .i64 k)],O)
 |0,i,hi=>by
  rw[aG (he:=rfl)];have h:¬((i:Int)<(ns.length:Int)):=by omega
  left;simp only[bu,h,EVX,seval]
 |n+1,i,hi=>by
  have h:((i:Int)<(ns.length:Int)):=by omega
  have h2:i<ns.length:=by omega
  have w2:=wrS i (by omega)
  have p2:(0:Int)<=(i:Int):=by omega
  have d2:=RG ns i h2;have sl:=RH ns;have ih:=Xf ns x hn O n (i+1) (by omega)
  rw[aG (he:=rfl)];generalize hk:aH C (ai C) 19 [0,1,7,8] bu=k at*;by_cases hb:x=ns[i]
  ·right;refine⟨i,h2,?_⟩;simp only[bu,h,h2,p2,d2,sl,<-hb,a81,aB8,decide_true,EVX,seval]
  ·rcases ih with ih|⟨k',k1,ih⟩
   ·left;simp only[bu,h,h2,w2,p2,d2,sl,hb,ih,a81,aB8,decide_false,EVX,seval]
   ·right;refine⟨k',k1,?_⟩;simp only[bu,h,h2,w2,p2,d2,sl,hb,ih,a81,aB8,decide_false,EVX,seval]
def slices_Index(hC:Has C lW iO)(ns:List LU)(x:LU)(hn:ns.length<=8192)(O:St):∃k:Int,ai C lW [.sl ns.length (ns.map .str),.str x] O=some (.int .i64 k,O)/\k<ns.length:=by
 rw[hC.go (NVs.hand (.cons (abX ns) (.cons (.str _) .nil)) _)];rcases Xf (C:=C) ns x hn O ns.length 0 (by omega)with h|⟨k,k1,h⟩
 ·refine⟨-1,?_,by omega⟩
  simp only[at6]at h;simp only[iO,h,EVX,seval]
 ·refine⟨k,?_,by omega⟩
  simp only[at6]at h;simp only[iO,h,EVX,seval]
def ap7 (hC:Has C jI uq) (ns:List LU) (x:LU) (O:St) (a b:Nat) (ha:O[a]?=some (.cells [.sl ns.length (ns.map .str)] FZ)) (hb:O[b]?=some (.cells [.str x] FZ)) (i:Nat) (hi:i<ns.length):
  ∃r:Bool,ai C jI [.int .i64 i,.ref a 0,.ref b 0] O=some (.bool r,O):=by
 have hn:hand false [.int .i64 i,.ref a 0,.ref b 0] O=some ([.int .i64 i,.ref a 0,.ref b 0],O):=rfl;have p2:(0:Int)<=(i:Int):=by omega
 have d2:=RG ns i hi;have sl:=RH ns;rw[hC.go hn];refine⟨!(Op.bytesLess ns[i] x),?_⟩;simp only[uq,ha,hb,hi,p2,d2,sl,a81,aB8,EVX,seval]
def JY (h1:Has C jI uq) (ns:List LU) (hn:ns.length<=8192) (x:LU) (O:St) (a b:Nat) (ha:O[a]?=some (.cells [.sl ns.length (ns.map .str)] FZ)) (hb:O[b]?=some (.cells [.str x] FZ)):∀(n i j:Nat),i<=j->j<=ns.length->j-i<=n->
  ∃r:Nat,r<=ns.length/\aH C (ai C) 26 [1,5,6] lS [(1,.func (.func jI) [] [.ref a 0,.ref b 0]),(5,.int .i64 i),(6,.int .i64 j)] O=some (.exit 0,[(5,.int .i64 r)],O)
 |n,i,j,hij,hj,hd=>by
  rw[aG (he:=rfl)];by_cases h:i<j
  ·have h':((i:Int)<(j:Int)):=by omega
   obtain⟨n,rfl⟩:∃m,n=m+1:=⟨n-1,by omega⟩
   obtain⟨r,q⟩:=ap7 h1 ns x O a b ha hb ((i+j)/2) (by omega)
   have ih1:=JY h1 ns hn x O a b ha hb n ((i+j)/2+1) j (by omega) hj (by omega)
   have ih2:=JY h1 ns hn x O a b ha hb n i ((i+j)/2) (by omega) (by omega) (by omega)
   have w1:IntKind.i64.wrap ((i:Int)+(j:Int))=((i+j:Nat):Int):=wrE (by omega)
   have w2:IntKind.u64.wrap ((i+j:Nat):Int)=((i+j:Nat):Int):=wu64 (by omega) (by omega)
   have w3:((i+j:Nat):Int).fdiv (2^min 1 IntKind.u64.bits)=(((i+j)/2:Nat):Int):=by
    show((i+j:Nat):Int).fdiv 2=_;rw[az6 _ (by omega)]
    omega
   have w4:IntKind.i64.wrap ((((i+j)/2:Nat)):Int)=(((i+j)/2:Nat):Int):=wrE (by omega)
   have w5:IntKind.i64.wrap ((((i+j)/2:Nat))+1:Int)=(((i+j)/2+1:Nat):Int):=wrE (by omega)
   have n1:¬((1:Int)<0):=by omega
   generalize hk:aH C (ai C) 26 [1,5,6] lS=k at*;generalize hm:(i+j)/2=m at*;cases r
   ·obtain⟨r',r1,ih⟩:=ih1;refine⟨r',r1,?_⟩;simp only[lS,h',w1,w2,w3,w4,w5,n1,q,jV,ih,au3,a99,EVX,seval]
   ·obtain⟨r',r1,ih⟩:=ih2;refine⟨r',r1,?_⟩;simp only[lS,h',w1,w2,w3,w4,n1,q,jV,ih,au3,a99,EVX,seval]
  ·have h':¬((i:Int)<(j:Int)):=by omega
   refine⟨i,by omega,?_⟩
   simp only[lS,h',EVX,seval]
def sort_Search (hC:Has C FT FD) (h1:Has C jI uq) (ns:List LU) (hn:ns.length<=8192) (x:LU) (O:St) (a b:Nat) (ha:O[a]?=some (.cells [.sl ns.length (ns.map .str)] FZ)) (hb:O[b]?=some (.cells [.str x] FZ)):
  ∃r:Nat,r<=ns.length/\ai C FT [.int .i64 ns.length,.func (.func jI) [] [.ref a 0,.ref b 0]] O=some (.int .i64 r,O):=by
 have hn':hand false [.int .i64 ns.length,.func (.func jI) [] [.ref a 0,.ref b 0]] O=some ([.int .i64 ns.length,.func (.func jI) [] [.ref a 0,.ref b 0]],O):=rfl;obtain⟨r,r1,q⟩:=JY h1 ns hn x O a b ha hb ns.length 0 ns.length (by omega) (by omega) (by omega)
 refine⟨r,r1,?_⟩;rw[hC.go hn'];simp only[at6]at q;simp only[FD,q,EVX,seval]
structure Vl(C:Ctx):Prop where
 asc:Has C oV oD
 idx:Has C lW iO
 srch:Has C FT FD
 f1:Has C jI uq
 find:Has C Qm CJ
def afB (H:Vl C) (ns:List LU) (hn:ns.length<=8192) (x:LU) (O:St) (hσ:Ok O):
  ∃(k:Int) (b:Bool),ai C Qm [.sl ns.length (ns.map .str),.str x] O=some (.tup [.int .i64 k,.bool b],O)/\(b=true->0<=k)/\k<=ns.length:=by
 have ty:∀(k:Int) (b:Bool) (L:St),tidy O.length [.int .i64 k,.bool b] (O++L)=O:=fun k b L=>dE hσ rfl L;rw[H.find.go (NVs.hand (.cons (abX ns) (.cons (.str _) .nil)) _)];obtain⟨b,hb⟩:=Vh H.asc ns hn (O++[.cells [.sl ns.length (ns.map .str)] FZ,.cells [.str x] FZ]);obtain⟨k,hk,k1⟩:=slices_Index H.idx ns x hn (O++[.cells [.sl ns.length (ns.map .str)] FZ,.cells [.str x] FZ]);obtain⟨r,r1,hr⟩:=sort_Search H.srch H.f1 ns hn x (O++[.cells [.sl ns.length (ns.map .str)] FZ,.cells [.str x] FZ]) O.length (O.length+1) (by rw[aQ];rfl) (by rw[dM];rfl)
 cases b
 ·refine⟨k,decide (k>=0),?_,by simp,by omega⟩
  simp only[CJ,hb,hk,ty,EVX,seval]
 ·by_cases h:r<ns.length
  ·have h':((r:Int)<(ns.length:Int)):=by omega
   have p2:(0:Int)<=(r:Int):=by omega
   have d2:=RG ns r h;have sl:=RH ns;refine⟨r,decide (ns[r]=x),?_,fun _=>by omega,by omega⟩
   simp only[CJ,hb,hr,ty,h,h',p2,d2,sl,a81,aB8,EVX,seval]
  ·have h':¬((r:Int)<(ns.length:Int)):=by omega
   refine⟨r,false,?_,fun h=>absurd h (by decide),by omega⟩
   simp only[CJ,hb,hr,ty,h',EVX,seval]
def WB(a b:AV)(l m:LA):sV (a::l) (b::m)=(diff a b||sV l m):=by rw[sV]
def aaf:∀(l m:List LU),l.length=m.length->sV (l.map .str) (m.map .str)=false->l=m
 |[],[],_,_=>rfl
 |[],_::_,h,_=>by simp at h
 |_::_,[],h,_=>by simp at h
 |a::l,b::m,h,hd=>by
  rw[av3,av3,WB,ay2]at hd;have h1:a=b:=by
   have:=hd.1;unfold diff at this;rw[nK]at this;simpa using this
  rw[h1,aaf l m (by simpa using h) hd.2]
mutual
def JW.same:∀(x y:JW) (R R':LA),sV (x.cs++R) (y.cs++R')=false->x=y/\sV R R'=false
 |.mk k n t ns is,.mk k' n' t' ns' is',R,R',h=>by
  rw[JW.cs,JW.cs]at h;simp only[a99,au3,WB,ay2]at h;obtain⟨h1,h2,h3,h4,h5,h6⟩:=h;unfold diff at h1 h2 h3 h4 h5;have e1:k=k':=by simpa using h1
  have e2:n=n':=by simpa using h2
  have e3:t=t':=by
   rw[nK]at h3;simpa using h3
  rw[ay2]at h4 h5;have e4:ns=ns':=aaf _ _ (by simpa using h4.1) h4.2
  have e5:is=is':=yU.same is is' (by simpa using h5.1) h5.2
  exact⟨by rw[e1,e2,e3,e4,e5],h6⟩
def yU.same:∀(l m:List JW),l.length=m.length->sV (yU l) (yU m)=false->l=m
 |[],[],_,_=>rfl
 |[],_::_,h,_=>by simp at h
 |_::_,[],h,_=>by simp at h
 |a::l,b::m,h,hd=>by
  rw[yU,yU]at hd;obtain⟨h1,h2⟩:=JW.same a b _ _ hd;rw[h1,yU.same l m (by simpa using h) h2]
end
def JV.differ{x y:JV}(h:x.w≠y.w)(R R':LA):sV (x.cs++R) (y.cs++R')=true:=by
 cases hd:sV (x.cs++R) (y.cs++R')
 ·exact absurd (JW.same x.w y.w R R' hd).1 h
 ·rfl
def JV.cs_ex(j:JV):∃(k n:Int) (t:LU) (ns:List LU) (is:List JV),j.cs=[.int .u8 k,.int .i64 n,.str t,.sl ns.length (ns.map .str),.sl is.length (aJ is)]/\ns.length<=8192/\is.length<=8192/\(∀x∈is,SizeOf.sizeOf x.w<SizeOf.sizeOf j.w)/\∃h1 h3 h2 h4,j=JV.mk k n t ns is h1 h3 h2 h4:=by
 obtain⟨k,n,t,ns,is,h1,h3,h2,h4,rfl⟩:=j.ex;refine⟨k,n,t,ns,is,JV.mk_cs ..,by omega,h2,?_,h1,h3,h2,h4,rfl⟩
 intro x hx;show SizeOf.sizeOf x.w<SizeOf.sizeOf (JW.mk k n t ns (is.map (·.w)));have:SizeOf.sizeOf x.w<SizeOf.sizeOf (is.map (·.w)):=List.sizeOf_lt_of_mem (List.mem_map_of_mem hx);simp;omega
def Abv(is:List JV)(x:AV):Prop:=x=.nilp\/∃(a:JV) (R:LA),x=.eptr (a.cs++R)/\ae 0 R=true/\∀j∈is,SizeOf.sizeOf j.w<SizeOf.sizeOf a.w
def Abv.nv{is:List JV}{x:AV}(h:Abv is x):NV x:=by
 rcases h with rfl|⟨a,R,rfl,hR,_⟩
 ·exact⟨fun _ _=>rfl,rfl⟩
 ·exact⟨fun _ _=>rfl,by rw[below];exact uB _ _ a.bel hR⟩
def aoJ(np:Bool){is:List JV}{x:AV}(h:Abv is x)(j:JV)(hj:j∈is)(R:LA):xn np .eql 3 false (.eptr (j.cs++R)) x=some (.bool false):=by
 rcases h with rfl|⟨a,R',rfl,_,hs⟩
 ·cases np<;>rfl
 ·have hd:=JV.differ (x:=j) (y:=a) (by
   intro e;have:=hs j hj;rw[e]at this;omega) R R'
  obtain⟨k,n,t,ns,is1,e1,_⟩:=j.cs_ex;obtain⟨k',n',t',ns',is2,e2,_⟩:=a.cs_ex;have hb:xn np .eql 3 false (.eptr (j.cs++R)) (.eptr (a.cs++R'))=binOp .eql 3 false (.eptr (j.cs++R)) (.eptr (a.cs++R')):=by
   cases np
   ·rfl
   ·unfold xn;rw[show afe (.eptr (j.cs++R)) (.eptr (a.cs++R'))=false from by rw[e1,e2];rfl]
  rw[hb];show uF .eql (eqA 3 false (.eptr (j.cs++R)) (.eptr (a.cs++R')))=_;have u1:Kq (j.cs++R)=true:=by rw[e1];rfl
  have u2:Kq (a.cs++R')=true:=by rw[e2];rfl
  show(if sV (j.cs++R) (a.cs++R')&&(Kq (j.cs++R)&&Kq (a.cs++R'))then some false else none).map AV.bool=_;rw[hd,u1,u2];rfl
def xX(is:List JV)(i:Nat)(h:i<is.length):(aJ is).drop (i*5)=is[i].cs++aJ (is.drop (i+1)):=by
 induction is generalizing i with
 |nil=>simp at h
 |cons j l ih=>
  cases i with
  |zero=>simp[aJ]
  |succ i=>
   rw[aJ,aB4,Nat.one_mul,aD8,<-JV.len j,List.drop_append,aC3 (by omega),au3]
   rw[show j.cs.length+i*j.cs.length-j.cs.length=i*5 from by rw[JV.len];omega]
   have:=ih i (by simpa using h)
   simpa using this
def ak1(is:List JV):NV (.sl is.length (aJ is)):=.sl _ (iq is)
def Qg (is:List JV) (hn:is.length<=8192) (lv:Int) (x:AV) (hx:Abv is x)
  (ih0:∀(is':List JV) (lv':Int) (x':AV) (O:St),(∃j∈is,∀y∈is',SizeOf.sizeOf y.w<SizeOf.sizeOf j.w)->is'.length<=8192->Abv is' x'->ai C lY [.sl is'.length (aJ is'),.int .i64 lv',x',.bool false] O=some (.bool false,O)) (O:St):∀(n i:Nat),i+n=is.length->
  aH C (ai C) 55 [0,1,2,3,13,14] jD [(0,.sl is.length (aJ is)),(1,.int .i64 lv),(2,x),(3,.bool false),(13,.int .i64 is.length),(14,.int .i64 i)] O=some (.exit 0,[],O)
 |0,i,hi=>by
  rw[aG (he:=rfl)];have h:¬((i:Int)<(is.length:Int)):=by omega
  simp only[jD,h,EVX,seval]
 |n+1,i,hi=>by
  have h:((i:Int)<(is.length:Int)):=by omega
  have h2:i<is.length:=by omega
  have w2:=wrS i (by omega)
  have p2:(0:Int)<=(i:Int):=by omega
  have d2:=xX is i h2;have sl:=jK is;have ih:=Qg is hn lv x hx ih0 O n (i+1) (by omega)
  have hj:is[i]∈is:=az1 h2;generalize is[i]=j at*;generalize hR:aJ (is.drop (i+1))=R at*;have hRb:ae 0 R=true:=by rw[<-hR];exact iq _
  have ne:=aoJ C.np hx j hj R;obtain⟨k,m,t,ns,is',e1,l1,l2,hs,_⟩:=j.cs_ex;have ca:=ih0 is' (IntKind.i64.wrap (lv+1)) x O ⟨j,hj,hs⟩ l2 (by
   rcases hx with h|⟨a,R',h,hb,hl⟩
   ·exact .inl h
   ·exact .inr ⟨a,R',h,hb,fun y hy=>Nat.lt_trans (hs y hy) (hl j hj)⟩)
  have cb:=ih0 is' (IntKind.i64.wrap (lv+1)) (.eptr (j.cs++R)) O ⟨j,hj,hs⟩ l2 (.inr ⟨j,R,rfl,hRb,hs⟩);have f4:((j.cs++R).drop 4).head? =some (.sl is'.length (aJ is')):=by rw[e1];rfl
  have f5:4<=(j.cs++R).length:=by rw[a04,JV.len];omega
  rw[aG (he:=rfl)];generalize hk:aH C (ai C) 55 [0,1,2,3,13,14] jD=kk at*;generalize hv:IntKind.i64.wrap (BitVec.ofInt IntKind.i64.bits lv&&&BitVec.ofInt IntKind.i64.bits (IntKind.i64.wrap (lv-1))).toNat=v;cases c:(v==0)
  ·simp only[jD,h,h2,w2,p2,d2,sl,ne,hv,c,ca,f4,f5,ih,a81,EVX,seval]
  ·simp only[jD,h,h2,w2,p2,d2,sl,ne,hv,c,cb,f4,f5,ih,a81,EVX,seval]
def NH(hC:Has C lY sQ):∀(k:Nat) (is:List JV) (lv:Int) (x:AV) (O:St),(∀y∈is,SizeOf.sizeOf y.w<k)->is.length<=8192->Abv is x->ai C lY [.sl is.length (aJ is),.int .i64 lv,x,.bool false] O=some (.bool false,O)
 |k,is,lv,x,O,hk,hn,hx=>by
  have lp:=Qg is hn lv x hx (C:=C) (fun is' lv' x' O' hs hn' hx'=>by
   obtain⟨j,hj,hs⟩:=hs;have h1:=hk j hj;obtain⟨k,rfl⟩:∃k',k=k'+1:=⟨k-1,by omega⟩
   exact NH hC k is' lv' x' O' (fun y hy=>by have:=hs y hy;omega) hn' hx') O is.length 0 (by omega)
  rw[hC.go (NVs.hand (.cons (ak1 is) (.cons (.int _ _) (.cons hx.nv (.cons (.bool _) .nil)))) _)];simp only[at6]at lp;simp only[sQ,lp,EVX,seval]
def acG(hC:Has C lY sQ)(is:List JV)(hn:is.length<=8192)(lv:Int)(O:St):ai C lY [.sl is.length (aJ is),.int .i64 lv,.nilp,.bool false] O=some (.bool false,O):=
 NH hC (SizeOf.sizeOf (is.map (·.w))) is lv .nilp O (fun y hy=>List.sizeOf_lt_of_mem (List.mem_map_of_mem hy)) hn (.inl rfl)
def pG{O S:St}{vs:LA}(hσ:Ok O)(hv:ae 0 vs=true)(h:S.take O.length=O):tidy O.length vs S=O:=by
 have hx:AO.below 0 .dead=true:=rfl;have h':O.set O.length .dead=O:=List.set_eq_of_length_le (a06 _);have:=zX (o:=O.length) (x:=.dead) hσ hx hv (by rw[h',h])
 rw[this,h']
def VM(C:Ctx):Prop:=∀(ns:List LU) (O:St),ns.length<=8192->Ok O->ai C bQ [.sl ns.length (ns.map .str)] O=some (.sl ns.length (ns.map .str),O)
def adK(a b c d:Nat):same (.msl a b c d) (.msl a b c d)=true:=by simp[same]
def aar.same{Y:St}{n0:Nat}{is:List JV}{x:AV}(h:aar Y n0 is x):same x x=true:=by
 rcases h with⟨_,rfl⟩|⟨_,q,rfl,_⟩
 ·rfl
 ·exact adK ..
theorem aar.flat{Y:St}{n0:Nat}{is:List JV}{x:AV}(h:aar Y n0 is x):x.flat=true:=by
 rcases h with⟨_,rfl⟩|⟨_,q,rfl,_⟩<;>rfl
def ZC{Y:St}{n0 m:Nat}{is:List JV}{x:AV}(h:aar Y n0 is x)(k n:Int)(t:LU)(ns:List LU)(hm:m<=n0):∃Y',hand false [.agg [.int .u8 k,.int .i64 n,.str t,.sl ns.length (ns.map .str),x]] Y=some ([.agg [.int .u8 k,.int .i64 n,.str t,.sl ns.length (ns.map .str),.sl is.length (aJ is)]],Y')/\Y'.take m=Y.take m:=by
 rcases h with⟨rfl,rfl⟩|⟨_,q,rfl,hq,hq2⟩
 ·refine⟨Y,?_,rfl⟩;rw[oW,aK,aX,aK,aK,aK,aK,aK,dA,vG];rfl
 ·refine⟨_,?_,dH Y m q (by omega) (.cells (aJ is) ⟨true,none⟩)⟩
  rw[oW,aK,aX,aK,aK,aK,aK,aK,OJ hq (jK is) (H8 is),vG,<-zL hq];rfl
structure ahe(O:St)(b:AO)(hd:LA)(is:List JV)(x:AV)(Y:St):Prop where
 hok:Ok Y
 hb:Y[O.length]?=some b
 hres:Y[O.length+1]?=some o8
 hv:Y[O.length+1+1]?=some (.cells (hd++[x]) FZ)
 his:aar Y (O.length+1) is x
 hpre:Y.take O.length=O
def aha{O S T:St}{n m:Nat}(h:n<=m)(e:S.take m=T.take m):S.take n=T.take n:=by
 have:=congrArg (List.take n) e;rwa[aD1,aD1,az7 h]at this
def acA (is:List JV) (hn:is.length<=8192) (hd:LA) (k n0:Int) (t:LU) (ns:List LU) (hhd:hd=[.int .u8 k,.int .i64 n0,.str t,.sl ns.length (ns.map .str)]) (O:St) (b:AO)
  (hD:∀j∈is,∀Y:St,Ok Y->ai C jH [j.av] Y=some (j.av,Y)):∀(n i:Nat),i+n=is.length->∀(x:AV) (Y:St),ahe O b hd (is.take i) x Y->
  ∃(x':AV) (Y':St),aH C (ai C) 32 [2,3,17,18,19] jL [(2,.ref (O.length+1) 0),(3,.ref (O.length+1+1) 0),(17,.sl is.length (aJ is)),(18,.int .i64 is.length),(19,.int .i64 i)] Y=some (.exit 0,[(2,.ref (O.length+1) 0),(3,.ref (O.length+1+1) 0)],Y')/\ahe O b hd is x' Y'
 |0,i,hi,x,Y,I=>by
  have h:¬((i:Int)<(is.length:Int)):=by omega
  refine⟨x,Y,?_,by rw[a08 (by omega)]at I;exact I⟩
  rw[aG (he:=rfl)];simp only[jL,h,EVX,seval]
 |n+1,i,hi,x,Y,I=>by
  obtain⟨hok,hb,hres,hv,his,hpre⟩:=I;have h:((i:Int)<(is.length:Int)):=by omega
  have h2:i<is.length:=by omega
  have w2:=wrS i (by omega)
  have p2:(0:Int)<=(i:Int):=by omega
  have d2:=xX is i h2;have sl:=jK is;have hj:is[i]∈is:=az1 h2;have ht:is.take (i+1)=is.take i++[is[i]]:=by rw[ay7 h2]
  generalize is[i]=j at*;generalize aJ (is.drop (i+1))=R at*;have jl:=JV.len j;have jf:=JV.flat j;have jt:(j.cs++R).take 5=j.cs:=by rw[<-jl];simp
  have je:5<=(j.cs++R).length:=by simp[jl]
  have jt':j.cs.take 5=j.cs:=a08 (by rw[JV.len];exact a06 _)
  have je':5<=j.cs.length:=by rw[JV.len];exact a06 _
  have sp:∀a b c d e:AV,splice [a,b,c,d,e] 0 j.cs=j.cs:=fun a b c d e=>by simp[splice,jl]
  have ok1:Ok (Y++[.cells j.cs FZ]):=hok.plus (by rw[a88,show AO.below 0 (.cells j.cs FZ)=true from j.bel];rfl)
  have q:=hD j hj _ ok1;have sx:=his.same;obtain⟨S2,a1,a2,a3,a4,a5,a6,a7⟩:=aeo (o:=O.length) j (.cells j.cs FZ) his hok (by simp;omega) (by omega) hb hres hv
  have lt:(is.take i).length=i:=by simp;omega
  rw[lt]at a1;have b1:=fun L=>aA hv L;have b2:=fun L=>aA a5 L;have p3:=fun L y=>dJ a5 L y;have g1:=fun L=>fG (rfl:Y.length=_) L;have s1:=fun L y=>sN (rfl:Y.length=_) L y;subst hhd;dsimp only[List.cons_append,List.nil_append]at*;have ok3:Ok ((S2++[AO.cells j.cs FZ,AO.cells (aJ (is.take i++[j])) FZ]:St).set (O.length+1+1) (.cells [.int .u8 k,.int .i64 n0,.str t,.sl ns.length (ns.map .str),.msl (Y.length+1) 0 (i+1) 5] FZ)):=by
   refine Ok.set2 (a7.plus (by simp only[a88,aw1,AO.below,JV.bel,iq,aw7])) _ ?_
   rw[a04,a2];have:=aO (a98 (Y.length+2)) _ (o9 ns);simp only[AO.below,ae,below,a07,a09,this];simp
  rw[p3]at ok3;have nl:O.length+1+1<Y.length:=(a00.mp hv).1;have I2:ahe O b [.int .u8 k,.int .i64 n0,.str t,.sl ns.length (ns.map .str)] (is.take (i+1)) (.msl (Y.length+1) 0 (i+1) 5) (S2.set (O.length+1+1) (.cells [.int .u8 k,.int .i64 n0,.str t,.sl ns.length (ns.map .str),.msl (Y.length+1) 0 (i+1) 5] FZ)++[.cells j.cs FZ,.cells (aJ (is.take i++[j])) FZ]):=by
   rw[ht];refine⟨ok3,aA (aF a3 (by omega) _) _,aA (aF a4 (by omega) _) _,aA (bg a5 _) _,.inr ⟨by simp,Y.length+1,by simp[lt],?_,by omega⟩,?_⟩
   ·rw[xK (by rw[a95,a2])];rfl
   ·rw[qW _ _ _ (by rw[a95,a2];omega),dH _ _ _ (by omega)]
    exact(aha (O:=O) (by omega) a6).trans hpre
  obtain⟨x',Y',e1,e2⟩:=acA is hn _ k n0 t ns rfl O b hD n (i+1) (by omega) _ _ I2
  refine⟨x',Y',?_,e2⟩;rw[aG (he:=rfl)];generalize hk:aH C (ai C) 32 [2,3,17,18,19] jL=kk at*;unfold JV.av at q;simp only[jL,h,h2,w2,p2,d2,sl,q,sx,a1,b1,b2,p3,g1,s1,e1,jl,jf,jt,je,jt',sp,a81,AV.cells,AV.flat,EVX,seval]
def IP(hCl:VM C)(hC:Has C jH yH):∀(m:Nat) (j:JV) (O:St),SizeOf.sizeOf j.w<m->Ok O->ai C jH [j.av] O=some (j.av,O)
 |0,j,O,hm,_=>absurd hm (by omega)
 |m+1,j,O,hm,hσ=>by
  obtain⟨k,n,t,ns,is,e1,l1,l2,hs,h1,h2,hj⟩:=j.cs_ex;have hD:∀x∈is,∀Y:St,Ok Y->ai C jH [x.av] Y=some (x.av,Y):=fun x hx Y hτ=>IP hCl hC m x Y (by have:=hs x hx;omega) hτ
  have ok1:Ok (O++[.cells j.cs FZ,.cells [.int .u8 0,.int .i64 0,.str [],.nils,.nils] FZ]):=hσ.plus (by rw[a88,show AO.below 0 (.cells j.cs FZ)=true from j.bel];rfl)
  have cl:=hCl ns _ l1 ok1;have ok2:Ok (O++[.cells j.cs FZ,o8,.cells [.int .u8 k,.int .i64 n,.str t,.sl ns.length (ns.map .str),.nils] FZ]):=hσ.plus (by
   rw[a88,show AO.below 0 (.cells j.cs FZ)=true from j.bel];simp[o8,AO.below,ae,below,o9])
  obtain⟨x',Y',q1,q2⟩:=acA is l2 _ k n t ns rfl O (.cells j.cs FZ) hD is.length 0 (by omega) .nils _ ⟨ok2,by rw[aQ];rfl,by rw[dM];rfl,by rw[aB9,dM];rfl,.inl ⟨rfl,rfl⟩,by simp⟩
  obtain⟨hok,hb,hres,hv,his,hpre⟩:=q2;obtain⟨Y2,hh,ht⟩:=ZC (m:=O.length) (is:=is) (n0:=O.length+1) (Y:=Y'.set (O.length+1) (.cells [.int .u8 k,.int .i64 n,.str t,.sl ns.length (ns.map .str),x'] FZ)) (x:=x') (by
   rcases his with h|⟨e1,q,e2,e3,e4⟩
   ·exact .inl h
   ·exact .inr ⟨e1,q,e2,aF e3 (by omega) _,e4⟩) k n t ns (by omega)
  have fx:=his.flat
  rw[dH _ _ _ (by omega),hpre]at ht
  have ty:=pG (vs:=[.agg [.int .u8 k,.int .i64 n,.str t,.sl ns.length (ns.map .str),.sl is.length (aJ is)]]) hσ (by simp[ae,below,o9,iq]) ht
  have g2:=bg hres (.cells [.int .u8 k,.int .i64 n,.str t,.sl ns.length (ns.map .str),x'] FZ);have hn:hand false [j.av] O=some ([j.av],O):=NVs.hand (.cons j.nv .nil) _;unfold JV.av at*;rw[hC.go hn];have b1:∀(E:As),look E 2=.ref (O.length+1) 0->xu O.length [.cell 2 true 5] (some (.ret,E,Y'.set (O.length+1) (.cells [.int .u8 k,.int .i64 n,.str t,.sl ns.length (ns.map .str),x'] FZ)))=some (.agg [.int .u8 k,.int .i64 n,.str t,.sl ns.length (ns.map .str),.sl is.length (aJ is)],O):=fun E h2=>by
   rw[uD];have:aY E (Y'.set (O.length+1) (.cells [.int .u8 k,.int .i64 n,.str t,.sl ns.length (ns.map .str),x'] FZ)) [.cell 2 true 5]=some [.agg [.int .u8 k,.int .i64 n,.str t,.sl ns.length (ns.map .str),x']]:=by
    simp only[aY,h2,g2,pt,au0,a07,a09,List.take];rfl
   rw[this];dsimp only;rw[hh];dsimp only[bD];rw[ty]
  rw[e1]at cl q1 hb;generalize hE:xu=eR at*;dsimp only[List.cons_append,List.nil_append,o8,Int.natCast_zero,Int.cast_ofNat_Int]at*;simp only[yH,e1,cl,q1,hres,hv,fx,AV.cells,aB9,splice,EVX,seval];refine b1 _ ?_;rfl
def Ze (hEn:Has C lY sQ) (is:List JV) (hn:is.length<=8192) (hd:LA) (k n0:Int) (t:LU) (ns:List LU) (hhd:hd=[.int .u8 k,.int .i64 n0,.str t,.sl ns.length (ns.map .str)]) (O:St) (b:AO)
  (hD:∀j∈is,∀Y:St,Ok Y->ai C jH [j.av] Y=some (j.av,Y)):∀(n i:Nat),i+n=is.length->∀(x:AV) (Y:St),ahe O b hd (is.take i) x Y->
  ∃(x':AV) (Y':St),aH C (ai C) 36 [2,3,17,18,19] qF [(2,.ref (O.length+1) 0),(3,.ref (O.length+1+1) 0),(17,.sl is.length (aJ is)),(18,.int .i64 is.length),(19,.int .i64 i)] Y=some (.exit 0,[(2,.ref (O.length+1) 0),(3,.ref (O.length+1+1) 0)],Y')/\ahe O b hd is x' Y'
 |0,i,hi,x,Y,I=>by
  have h:¬((i:Int)<(is.length:Int)):=by omega
  refine⟨x,Y,?_,by rw[a08 (by omega)]at I;exact I⟩
  rw[aG (he:=rfl)];simp only[qF,h,EVX,seval]
 |n+1,i,hi,x,Y,I=>by
  obtain⟨hok,hb,hres,hv,his,hpre⟩:=I;have h:((i:Int)<(is.length:Int)):=by omega
  have h2:i<is.length:=by omega
  have w2:=wrS i (by omega)
  have p2:(0:Int)<=(i:Int):=by omega
  have d2:=xX is i h2;have sl:=jK is;have hj:is[i]∈is:=az1 h2;have ht:is.take (i+1)=is.take i++[is[i]]:=by rw[ay7 h2]
  generalize is[i]=j at*;generalize aJ (is.drop (i+1))=R at*;have jl:=JV.len j;have jf:=JV.flat j;have jt:(j.cs++R).take 5=j.cs:=by rw[<-jl];simp
  have je:5<=(j.cs++R).length:=by simp[jl]
  have jt':j.cs.take 5=j.cs:=a08 (by rw[JV.len];exact a06 _)
  have je':5<=j.cs.length:=by rw[JV.len];exact a06 _
  have sp:∀a b c d e:AV,splice [a,b,c,d,e] 0 j.cs=j.cs:=fun a b c d e=>by simp[splice,jl]
  have ok1:Ok (Y++[.cells j.cs FZ]):=hok.plus (by rw[a88,show AO.below 0 (.cells j.cs FZ)=true from j.bel];rfl)
  have q:=hD j hj _ ok1;obtain⟨k1,n1,t1,ns1,is1,f1,f2,f3,_⟩:=j.cs_ex;have en:=acG hEn is1 f3 1 (Y++[.cells j.cs FZ]);have f4:(j.cs.drop 4).head? =some (.sl is1.length (aJ is1)):=by rw[f1];rfl
  have f5:4<=j.cs.length:=by rw[jl];omega
  have sx:=his.same;obtain⟨S2,a1,a2,a3,a4,a5,a6,a7⟩:=aeo (o:=O.length) j (.cells j.cs FZ) his hok (by simp;omega) (by omega) hb hres hv
  have lt:(is.take i).length=i:=by simp;omega
  rw[lt]at a1;have b1:=fun L=>aA hv L;have b2:=fun L=>aA a5 L;have p3:=fun L y=>dJ a5 L y;have g1:=fun L=>fG (rfl:Y.length=_) L;have s1:=fun L y=>sN (rfl:Y.length=_) L y;subst hhd;dsimp only[List.cons_append,List.nil_append]at*;have ok3:Ok ((S2++[AO.cells j.cs FZ,AO.cells (aJ (is.take i++[j])) FZ]:St).set (O.length+1+1) (.cells [.int .u8 k,.int .i64 n0,.str t,.sl ns.length (ns.map .str),.msl (Y.length+1) 0 (i+1) 5] FZ)):=by
   refine Ok.set2 (a7.plus (by simp only[a88,aw1,AO.below,JV.bel,iq,aw7])) _ ?_
   rw[a04,a2];have:=aO (a98 (Y.length+2)) _ (o9 ns);simp only[AO.below,ae,below,a07,a09,this];simp
  rw[p3]at ok3;have nl:O.length+1+1<Y.length:=(a00.mp hv).1;have I2:ahe O b [.int .u8 k,.int .i64 n0,.str t,.sl ns.length (ns.map .str)] (is.take (i+1)) (.msl (Y.length+1) 0 (i+1) 5) (S2.set (O.length+1+1) (.cells [.int .u8 k,.int .i64 n0,.str t,.sl ns.length (ns.map .str),.msl (Y.length+1) 0 (i+1) 5] FZ)++[.cells j.cs FZ,.cells (aJ (is.take i++[j])) FZ]):=by
   rw[ht];refine⟨ok3,aA (aF a3 (by omega) _) _,aA (aF a4 (by omega) _) _,aA (bg a5 _) _,.inr ⟨by simp,Y.length+1,by simp[lt],?_,by omega⟩,?_⟩
   ·rw[xK (by rw[a95,a2])];rfl
   ·rw[qW _ _ _ (by rw[a95,a2];omega),dH _ _ _ (by omega)]
    exact(aha (O:=O) (by omega) a6).trans hpre
  obtain⟨x',Y',e1,e2⟩:=Ze hEn is hn _ k n0 t ns rfl O b hD n (i+1) (by omega) _ _ I2
  refine⟨x',Y',?_,e2⟩;rw[aG (he:=rfl)];generalize hk:aH C (ai C) 36 [2,3,17,18,19] qF=kk at*;unfold JV.av at q;simp only[qF,h,h2,w2,p2,d2,sl,q,en,f4,sx,a1,b1,b2,p3,g1,s1,e1,jl,jf,jt,je,jt',sp,a81,AV.cells,AV.flat,EVX,seval]
structure CopyHas(C:Ctx):Prop where
 cl:VM C
 dup:Has C jH yH
 endless:Has C lY sQ
 copy:Has C CV Pj
def O7(H:CopyHas C)(j:JV)(O:St)(hσ:Ok O):ai C CV [j.av] O=some (j.av,O):=by
 obtain⟨k,n,t,ns,is,e1,l1,l2,hs,h1,h2,hj⟩:=j.cs_ex;have hD:∀x∈is,∀Y:St,Ok Y->ai C jH [x.av] Y=some (x.av,Y):=fun x hx Y hτ=>IP H.cl H.dup _ x Y (Nat.lt_succ_self _) hτ;have ok1:Ok (O++[.cells j.cs FZ,.cells [.int .u8 0,.int .i64 0,.str [],.nils,.nils] FZ]):=hσ.plus (by rw[a88,show AO.below 0 (.cells j.cs FZ)=true from j.bel];rfl)
 have cl:=H.cl ns _ l1 ok1;have ok2:Ok (O++[.cells j.cs FZ,o8,.cells [.int .u8 k,.int .i64 n,.str t,.sl ns.length (ns.map .str),.nils] FZ]):=hσ.plus (by
  rw[a88,show AO.below 0 (.cells j.cs FZ)=true from j.bel];simp[o8,AO.below,ae,below,o9])
 obtain⟨x',Y',q1,q2⟩:=Ze H.endless is l2 _ k n t ns rfl O (.cells j.cs FZ) hD is.length 0 (by omega) .nils _ ⟨ok2,by rw[aQ];rfl,by rw[dM];rfl,by rw[aB9,dM];rfl,.inl ⟨rfl,rfl⟩,by simp⟩
 obtain⟨hok,hb,hres,hv,his,hpre⟩:=q2;obtain⟨Y2,hh,ht⟩:=ZC (m:=O.length) (is:=is) (n0:=O.length+1) (Y:=Y'.set (O.length+1) (.cells [.int .u8 k,.int .i64 n,.str t,.sl ns.length (ns.map .str),x'] FZ)) (x:=x') (by
  rcases his with h|⟨e1,q,e2,e3,e4⟩
  ·exact .inl h
  ·exact .inr ⟨e1,q,e2,aF e3 (by omega) _,e4⟩) k n t ns (by omega)
 have fx:=his.flat
 rw[dH _ _ _ (by omega),hpre]at ht
 have ty:=pG (vs:=[.agg [.int .u8 k,.int .i64 n,.str t,.sl ns.length (ns.map .str),.sl is.length (aJ is)]]) hσ (by simp[ae,below,o9,iq]) ht
 have g2:=bg hres (.cells [.int .u8 k,.int .i64 n,.str t,.sl ns.length (ns.map .str),x'] FZ);have hn:hand false [j.av] O=some ([j.av],O):=NVs.hand (.cons j.nv .nil) _;unfold JV.av at*;rw[H.copy.go hn];have b1:∀(E:As),look E 2=.ref (O.length+1) 0->xu O.length [.cell 2 true 5] (some (.ret,E,Y'.set (O.length+1) (.cells [.int .u8 k,.int .i64 n,.str t,.sl ns.length (ns.map .str),x'] FZ)))=some (.agg [.int .u8 k,.int .i64 n,.str t,.sl ns.length (ns.map .str),.sl is.length (aJ is)],O):=fun E h2=>by
  rw[uD];have:aY E (Y'.set (O.length+1) (.cells [.int .u8 k,.int .i64 n,.str t,.sl ns.length (ns.map .str),x'] FZ)) [.cell 2 true 5]=some [.agg [.int .u8 k,.int .i64 n,.str t,.sl ns.length (ns.map .str),x']]:=by
   simp only[aY,h2,g2,pt,au0,a07,a09,List.take];rfl
  rw[this];dsimp only;rw[hh];dsimp only[bD];rw[ty]
 rw[e1]at cl q1 hb;generalize hE:xu=eR at*;dsimp only[List.cons_append,List.nil_append,o8,Int.natCast_zero,Int.cast_ofNat_Int]at*;simp only[Pj,e1,cl,q1,hres,hv,fx,AV.cells,aB9,splice,EVX,seval];refine b1 _ ?_;rfl
def aiy(H:CopyHas C)(F:Vl C)(hC:Has C Be xO)(j:JV)(x:LU)(O:St)(hσ:Ok O):∃(j':JV) (b:Bool),ai C Be [j.av,.str x] O=some (.tup [j'.av,.bool b],O):=by
 obtain⟨k,n,t,ns,is,e1,l1,l2,hs,h1,h2,hj⟩:=j.cs_ex;have hn:hand false [j.av,.str x] O=some ([j.av,.str x],O):=NVs.hand (.cons j.nv (.cons (.str _) .nil)) _;have tz:∀(b:Bool) (L:St),tidy O.length [.agg [.int .u8 0,.int .i64 0,.str [],.sl 0 [],.sl 0 []],.bool b] (O++L)=O:=fun b L=>dE hσ rfl L;have ok1:Ok (O++[.cells j.cs FZ,.cells [.int .u8 0,.int .i64 0,.str [],.nils,.nils] FZ]):=hσ.plus (by rw[a88,show AO.below 0 (.cells j.cs FZ)=true from j.bel];rfl)
 obtain⟨a,b,q1,q2,q3⟩:=afB F ns l1 x _ ok1;rw[hC.go hn];unfold JV.av;rw[e1]at q1 ok1;rw[e1];cases hk:(k !=5)
 ·cases b
  ·refine⟨JV.zero,false,?_⟩;rw[JV.zero_cs];simp only[xO,hk,q1,tz,aY,aX,dA,AV.cells,AV.flat,splice,EVX,seval]
  ·have ha:=q2 rfl;obtain⟨a,rfl⟩:=Int.eq_ofNat_of_zero_le ha;by_cases hl:a<is.length
   ·have hl':¬((is.length:Int)<=(a:Int)):=by omega
    have d2:=xX is a hl;have sl:=jK is;generalize is[a]=y at*;generalize aJ (is.drop (a+1))=R at*;have yl:=JV.len y;have yf:=JV.flat y;have yt:(y.cs++R).take 5=y.cs:=by rw[<-yl];simp
    have ye:5<=(y.cs++R).length:=by simp[yl]
    have yt':y.cs.take 5=y.cs:=a08 (by rw[JV.len];exact a06 _)
    have ye':5<=y.cs.length:=by rw[JV.len];exact a06 _
    have sp:∀a b c d e:AV,splice [a,b,c,d,e] 0 y.cs=y.cs:=fun a b c d e=>by simp[splice,yl]
    have cp:=O7 H y _ ok1;have ty:∀(b:Bool) (L:St),tidy O.length [.agg y.cs,.bool b] (O++L)=O:=fun b L=>dE hσ (by rw[ae,below,y.bel];rfl) L
    have nf:=fun Y r=>y.nvs.nf Y r;refine⟨y,true,?_⟩;unfold JV.av at cp;simp only[xO,hk,q1,hl,hl',ha,d2,sl,cp,yl,yf,yt,ye,yt',sp,ty,nf,a81,aY,aX,AV.cells,EVX,seval]
   ·have hl':((is.length:Int)<=(a:Int)):=by omega
    refine⟨JV.zero,false,?_⟩;rw[JV.zero_cs];simp only[xO,hk,q1,hl',tz,aY,aX,dA,AV.cells,AV.flat,splice,EVX,seval]
 ·refine⟨JV.zero,false,?_⟩;rw[JV.zero_cs];simp only[xO,hk,tz,aY,aX,dA,AV.cells,AV.flat,splice,EVX,seval]
def asM:∀is:List JV,aJ is=is.flatMap JV.cs
 |[]=>by rw[aJ];rfl
 |j::l=>by rw[aJ,asM l,ay1]
def asO (k n:Int) (t:LU) (ns:List LU) (I:AV) (hl:ns.length<=1099511627776) (O:St) (X:AO) (hX:X=.cells [.int .u8 k,.int .i64 n,.str t,.sl ns.length (ns.flatMap sC),I] FZ):∀(m i:Nat),i+m=ns.length->
  aH C (ai C) 81 [2,3,5] uw [(2,.ref O.length 0),(3,.ref (O.length+1) 0),(5,.int .i64 i)] (O++[X,X])=some (.exit 0,[(2,.ref O.length 0),(3,.ref (O.length+1) 0)],O++[X,X])
 |0,i,hi=>by
  rw[aG (he:=rfl)];have h:¬((i:Int)<(ns.length:Int)):=by omega
  have fl:=dV alk ns;rw[aw9]at fl;subst hX;simp only[uw,h,bU,aQ,EVX,seval]
 |m+1,i,hi=>by
  rw[aG (he:=rfl)];have h:((i:Int)<(ns.length:Int)):=by omega
  have h2:i<ns.length:=by omega
  have hb:ns[i]?=some ns[i]:=a02 h2;have hw:=wrS i (by omega)
  have h3:(0:Int)<=i:=by omega
  have fl:=dV alk ns;have fd:=lM alk hb;obtain⟨p,hpe⟩:∃p,p=ns[i]:=⟨_,rfl⟩;rw[<-hpe,aw9]at fd;rw[aw9]at fl;have pc:sC p=[.str p]:=rfl;have ih:=asO k n t ns I hl O X hX m (i+1) (by omega)
  subst hX;generalize hk:aH C (ai C) 81 [2,3,5] uw=k at*;simp only[uw,h,h2,h3,hw,fl,fd,pc,bU,ih,aQ,dM,a99,aw9,EVX,seval]
def ath (k n:Int) (t:LU) (N:AV) (is:List JV) (hl:is.length<=8192) (O:St) (X:AO) (hX:X=.cells [.int .u8 k,.int .i64 n,.str t,N,.sl is.length (is.flatMap JV.cs)] FZ) (hO:Ok (O++[X,X])) (IH:∀j∈is,∀Y,Ok Y->ai C Oe [j.av,j.av] Y=some (.bool true,Y)):∀(m i:Nat),i+m=is.length->
  aH C (ai C) 81 [2,3,6] Ar [(2,.ref O.length 0),(3,.ref (O.length+1) 0),(6,.int .i64 i)] (O++[X,X])=some (.exit 2,[],O++[X,X])
 |0,i,hi=>by
  rw[aG (he:=rfl)];have h:¬((i:Int)<(is.length:Int)):=by omega
  subst hX;simp only[Ar,h,bU,aQ,EVX,seval]
 |m+1,i,hi=>by
  rw[aG (he:=rfl)];have h:((i:Int)<(is.length:Int)):=by omega
  have h2:i<is.length:=by omega
  have hb:is[i]?=some is[i]:=a02 h2;have hw:=wrS i (by omega)
  have h3:(0:Int)<=i:=by omega
  have fl:=dV JV.len is;have fd:=lM JV.len hb;have q:=IH is[i] (az1 h2) _ hO;obtain⟨p,hpe⟩:∃p,p=is[i]:=⟨_,rfl⟩;rw[<-hpe]at fd q;unfold JV.av at q;obtain⟨a,b,c,d,e,pc⟩:∃a b c d e,p.cs=[a,b,c,d,e]:=by
   have:=JV.len p
   match h:p.cs,this with
   |[a,b,c,d,e],_=>exact⟨a,b,c,d,e,rfl⟩
  have pf:([a,b,c,d,e]:LA).all AV.flat=true:=by
   rw[<-pc];exact JV.flat p
  rw[pc]at fd q;have ih:=ath k n t N is hl O X hX hO IH m (i+1) (by omega)
  subst hX;generalize hk:aH C (ai C) 81 [2,3,6] Ar=k at*;simp only[Ar,h,h2,h3,hw,fl,fd,q,bU,ih,aQ,dM,a99,aD7,aD9,EVX,seval]
def asF(hC:Has C Oe NK):∀(m:Nat) (j:JV) (O:St),SizeOf.sizeOf j.w<m->Ok O->ai C Oe [j.av,j.av] O=some (.bool true,O)
 |0,j,O,hm,_=>absurd hm (by omega)
 |m+1,j,O,hm,hσ=>by
  obtain⟨k,n,t,ns,is,e1,l1,l2,hs,h1,h2,hj⟩:=j.cs_ex;have IH:∀x∈is,∀Y:St,Ok Y->ai C Oe [x.av,x.av] Y=some (.bool true,Y):=fun x hx Y hτ=>asF hC m x Y (by have:=hs x hx;omega) hτ
  have hn:hand false [j.av,j.av] O=some ([j.av,j.av],O):=NVs.hand (.cons j.nv (.cons j.nv .nil)) _;rw[atM,asM]at e1;have hO:Ok (O++[.cells j.cs FZ,.cells j.cs FZ]):=hσ.plus (by
   have:AO.below 0 (.cells j.cs FZ)=true:=j.bel;rw[a88,this,a88,this];rfl)
  rw[e1]at hO;have lp:=asO (C:=C) k n t ns (.sl is.length (is.flatMap JV.cs)) (by omega) O _ rfl ns.length 0 (by omega)
  have lq:=ath (C:=C) k n t (.sl ns.length (ns.flatMap sC)) is l2 O _ rfl hO IH is.length 0 (by omega)
  simp only[at6]at lp lq;have fl:=dV alk ns;have fl2:=dV JV.len is;rw[aw9]at fl;have ty:=dE hσ (vs:=[.bool true]) rfl;unfold JV.av at hn⊢;rw[hC.go hn,e1];simp only[NK,lp,lq,bU,ty,aQ,dM,AV.cells,a99,EVX,seval]
def atm(hC:Has C Oe NK)(j:JV)(O:St)(hσ:Ok O):ai C Oe [j.av,j.av] O=some (.bool true,O):=asF hC _ j O (Nat.lt_succ_self _) hσ
def rC(n:Int)(hs:List PS)(j:JV):LA:=.int .i64 n::.sl hs.length (hs.flatMap pC)::j.cs
def al1(n:Int)(hs:List PS)(j:JV):ae 0 (rC n hs j)=true:=by
 unfold rC;have h:below 0 (.sl hs.length (hs.flatMap pC))=true:=(yY hs).cl;rw[ae,ae,h,j.bel];rfl
def apQ(n:Int)(hs:List PS)(j:JV):(rC n hs j).length=7:=by simp[rC,JV.len]
def ato(hC:Has C Oh NM)(hH:Has C wC vX)(hV:Has C Oe NK)(n:Int)(hs:List PS)(hl:hs.length<=1099511627776)(j:JV)(O:St)(hσ:Ok O):ai C Oh [.agg (rC n hs j),.agg (rC n hs j)] O=some (.bool true,O):=by
 have nv:NV (.agg (rC n hs j)):=.agg (.cons (.int _ _) (.cons (yY hs) j.nvs));have hO:Ok (O++[.cells (rC n hs j) FZ,.cells (rC n hs j) FZ]):=hσ.plus (by
  have:AO.below 0 (.cells (rC n hs j) FZ)=true:=al1 n hs j;rw[a88,this,a88,this];rfl)
 rw[hC.go (NVs.hand (.cons nv (.cons nv .nil)) _)];have q1:=asw hH hs hl;have q2:=atm hV j _ hO;unfold JV.av at q2;obtain⟨a,b,c,d,e,pc⟩:∃a b c d e,j.cs=[a,b,c,d,e]:=by
  have:=JV.len j
  match h:j.cs,this with
  |[a,b,c,d,e],_=>exact⟨a,b,c,d,e,rfl⟩
 have pf:([a,b,c,d,e]:LA).all AV.flat=true:=by
  rw[<-pc];exact JV.flat j
 have ty:=dE hσ (vs:=[.bool true]) rfl;unfold rC at q2⊢;rw[pc]at q2⊢;simp only[NM,q1,q2,ty,aQ,dM,AV.cells,a99,aD7,EVX,seval]
structure RoV where
 name:LU
 thr:Int
 ids:List LU
 term:Bool
 paths:List LU
 pres:List LU
def tC(ns:List LU):AV:=.sl ns.length (ns.flatMap sC)
def RoV.cs(r:RoV):LA:=[.str r.name,.int .i64 r.thr,tC r.ids,.bool r.term,tC r.paths,tC r.pres]
theorem RoV.len(r:RoV):r.cs.length=6:=rfl
def alM(ns:List LU):below 0 (tC ns)=true:=(JS ns).cl
theorem RoV.bel(r:RoV):ae 0 r.cs=true:=by
 unfold RoV.cs;simp[ae,alM,below]
structure RoV.ok(r:RoV):Prop where
 ids:r.ids.length<=1099511627776
 paths:r.paths.length<=1099511627776
 pres:r.pres.length<=1099511627776
structure DelHas(C:Ctx):Prop where
 texts:Has C MI MB
 auth:Has C DU Dz
 keys:Has C DT Dy
 del:Has C Og NL
def aa8:∀l:LA,(∀v∈l,same v v=true)->vO l l=true
 |[],_=>by simp[vO]
 |v::l,h=>by
  rw[vO,h v (by simp),aa8 l fun x hx=>h x (by simp[hx])];rfl
def anu(n:Nat)(l:LA)(h:∀v∈l,same v v=true):same (.sl n l) (.sl n l)=true:=by
 rw[same,aa8 l h];simp
def atF(l:LA)(h:∀v∈l,same v v=true):same (.agg l) (.agg l)=true:=by
 rw[same,aa8 l h]
def abH(ns:List LU):same (tC ns) (tC ns)=true:=anu _ _ fun v hv=>by
 obtain⟨s,_,hs⟩:=aD3.mp hv;simp only[sC,aA2]at hs;rw[hs];exact JX _
def RoV.same(r:RoV):∀v∈r.cs,Ev.same v v=true:=fun v hv=>by
 simp only[RoV.cs,au9,az4,or_false]at hv;rcases hv with rfl|rfl|rfl|rfl|rfl|rfl
 ·exact JX _
 ·exact JU _ _
 ·exact abH _
 ·exact LP _
 ·exact abH _
 ·exact abH _
def asV (H:DelHas C) (K:AV) (B:LA) (rs:List RoV) (hr:∀r∈rs,r.ok) (hl:rs.length<=1099511627776) (q:Nat) (X:AO) (hX:X=.cells (K::.sl rs.length (rs.flatMap RoV.cs)::B) FZ):∀(m i:Nat) (Y:St),i+m=rs.length->Ok Y->Y[q]?=some X->Y[q+1]?=some X->
  ∃G',aH C (ai C) 104 [2,3,5] Aw [(2,.ref q 0),(3,.ref (q+1) 0),(5,.int .i64 i)] Y=some (.exit 0,[],Y++G')
 |0,i,Y,hi,hτ,f2,f3=>by
  refine⟨[],?_⟩;rw[aG (he:=rfl),au6];have h:¬((i:Int)<(rs.length:Int)):=by omega
  subst hX;simp only[Aw,h,f2,bU,EVX,seval]
 |m+1,i,Y,hi,hτ,f2,f3=>by
  have h2:i<rs.length:=by omega
  have hb:rs[i]?=some rs[i]:=a02 h2;have fl:=dV RoV.len rs;have fd:=lM RoV.len hb;have ok:=hr rs[i] (az1 h2);obtain⟨p,hpe⟩:∃p,p=rs[i]:=⟨_,rfl⟩;rw[<-hpe]at fd ok;have g2:(Y++[.cells p.cs FZ,.cells p.cs FZ])[q]?=some X:=aA f2 _;have g3:(Y++[.cells p.cs FZ,.cells p.cs FZ])[q+1]?=some X:=aA f3 _;have g4:(Y++[.cells p.cs FZ])[q+1]?=some X:=aA f3 _;have sm1:=atF _ p.same;have sm2:same (.sl rs.length (rs.flatMap RoV.cs)) (.sl rs.length (rs.flatMap RoV.cs))=true:=anu _ _ fun v hv=>by
   obtain⟨r,_,hv⟩:=aD3.mp hv;exact r.same v hv
  have hO:Ok (Y++[.cells p.cs FZ,.cells p.cs FZ]):=hτ.plus (by
   have:AO.below 0 (.cells p.cs FZ)=true:=p.bel;rw[a88,this,a88,this];rfl)
  obtain⟨G',ih⟩:=asV H K B rs hr hl q X hX m (i+1) _ (by omega) hO g2 g3
  refine⟨[.cells p.cs FZ,.cells p.cs FZ]++G',?_⟩;rw[<-au2];rw[aG (he:=rfl)];have h:((i:Int)<(rs.length:Int)):=by omega
  have hw:=wrS i (by omega)
  have h3:(0:Int)<=i:=by omega
  have q1:=asv H.auth p.thr p.ids ok.ids _ hO;have q2:=asG H.texts p.paths ok.paths;have q3:=asG H.texts p.pres ok.pres;unfold aC at q1;have pc:p.cs=[.str p.name,.int .i64 p.thr,.sl p.ids.length (p.ids.flatMap sC),.bool p.term,.sl p.paths.length (p.paths.flatMap sC),.sl p.pres.length (p.pres.flatMap sC)]:=rfl;rw[pc]at ih g2 g3 g4 sm1 q1 fd⊢;subst hX;generalize hk:aH C (ai C) 104 [2,3,5] Aw=k at*;simp only[Aw,h,h2,h3,hw,fl,fd,f2,f3,g4,sm1,sm2,q1,q2,q3,bU,ih,aQ,dM,AV.cells,AV.flat,a99,au3,aD7,aD9,EVX,seval]
structure aan where
 keys:List PS
 roles:List RoV
 thr:Int
 ids:List LU
 bits:Int
 pre:LU
def aan.cs(d:aan):LA:=[.sl d.keys.length (d.keys.flatMap pC),.sl d.roles.length (d.roles.flatMap RoV.cs),.int .i64 d.thr,tC d.ids,.int .i64 d.bits,.str d.pre]
structure aan.ok(d:aan):Prop where
 keys:d.keys.length<=1099511627776
 roles:d.roles.length<=1099511627776
 each:∀r∈d.roles,r.ok
 ids:d.ids.length<=1099511627776
def UL(l:List RoV):below 0 (.sl l.length (l.flatMap RoV.cs))=true:=fP (fun r=>r.bel) l
theorem aan.nvs(d:aan):NVs d.cs:=.cons (yY d.keys) (.cons (.sl _ (UL d.roles)) (.cons (.int _ _) (.cons (JS d.ids) (.cons (.int _ _) (.cons (.str _) .nil)))))
theorem aan.bel(d:aan):ae 0 d.cs=true:=d.nvs.cl
def atn(H:DelHas C)(d:aan)(hd:d.ok)(O:St)(hσ:Ok O):ai C Og [.agg d.cs,.agg d.cs] O=some (.bool true,O):=by
 have nv:NV (.agg d.cs):=.agg d.nvs;rw[H.del.go (NVs.hand (.cons nv (.cons nv .nil)) _)];have hO:Ok (O++[.cells d.cs FZ,.cells d.cs FZ]):=hσ.plus (by
  have:AO.below 0 (.cells d.cs FZ)=true:=d.bel;rw[a88,this,a88,this];rfl)
 have dc:d.cs=[.sl d.keys.length (d.keys.flatMap pC),.sl d.roles.length (d.roles.flatMap RoV.cs),.int .i64 d.thr,.sl d.ids.length (d.ids.flatMap sC),.int .i64 d.bits,.str d.pre]:=rfl;obtain⟨G',lp⟩:=asV H (.sl d.keys.length (d.keys.flatMap pC)) [.int .i64 d.thr,tC d.ids,.int .i64 d.bits,.str d.pre] d.roles hd.each hd.roles O.length _ rfl d.roles.length 0 _ (by omega) hO (by rw[aQ];rfl) (by rw[dM];rfl)
 simp only[at6,au2]at lp;have q1:=asP H.keys d.keys hd.keys;have q2:=asv H.auth d.thr d.ids hd.ids _ hO;have fl:=dV RoV.len d.roles;have ty:=dE hσ (vs:=[.bool true]) rfl;unfold aC at q2;rw[dc]at q2 lp⊢;simp only[NL,lp,q1,q2,bU,ty,aQ,dM,AV.cells,a99,au3,aD7,aD9,EVX,seval]
structure TgV where
 path:LU
 n:Int
 hs:List PS
 j:JV
def TgV.cs(t:TgV):LA:=.str t.path::rC t.n t.hs t.j
theorem TgV.len(t:TgV):t.cs.length=8:=by rw[TgV.cs,a07,apQ]
theorem TgV.bel(t:TgV):ae 0 t.cs=true:=by
 rw[TgV.cs,ae,al1];rfl
structure aoF(C:Ctx):Prop extends DelHas C where
 hashes:Has C wC vX
 val:Has C Oe NK
 record:Has C Oh NM
 targets:Has C Ol NR
def asX (H:aoF C) (v e:Int) (D:LA) (l:List TgV) (hh:∀t∈l,t.hs.length<=1099511627776) (hl:l.length<=1099511627776) (q:Nat) (X:AO) (hX:X=.cells (.int .i64 v::.int .i64 e::.sl l.length (l.flatMap TgV.cs)::D) FZ) (Y:St) (hτ:Ok Y) (f2:Y[q]?=some X) (f3:Y[q+1]?=some X):∀(m i:Nat),i+m=l.length->
  aH C (ai C) 71 [2,3,5] AA [(2,.ref q 0),(3,.ref (q+1) 0),(5,.int .i64 i)] Y=some (.exit 0,[],Y)
 |0,i,hi=>by
  rw[aG (he:=rfl)];have h:¬((i:Int)<(l.length:Int)):=by omega
  subst hX;simp only[AA,h,f2,bU,EVX,seval]
 |m+1,i,hi=>by
  have h2:i<l.length:=by omega
  have hb:l[i]?=some l[i]:=a02 h2;have fl:=dV TgV.len l;have fd:=lM TgV.len hb;have q1:=ato H.record H.hashes H.val l[i].n l[i].hs (hh _ (az1 h2)) l[i].j Y hτ;obtain⟨p,hpe⟩:∃p,p=l[i]:=⟨_,rfl⟩;rw[<-hpe]at fd q1;have ih:=asX H v e D l hh hl q X hX Y hτ f2 f3 m (i+1) (by omega)
  rw[aG (he:=rfl)];have h:((i:Int)<(l.length:Int)):=by omega
  have hw:=wrS i (by omega)
  have h3:(0:Int)<=i:=by omega
  obtain⟨a,b,c,d,g,pc⟩:∃a b c d g,p.j.cs=[a,b,c,d,g]:=by
   have:=JV.len p.j
   match h:p.j.cs,this with
   |[a,b,c,d,g],_=>exact⟨a,b,c,d,g,rfl⟩
  have pf:([a,b,c,d,g]:LA).all AV.flat=true:=by
   rw[<-pc];exact JV.flat p.j
  unfold rC at q1;unfold TgV.cs rC at fd;rw[pc]at q1 fd;have fd2:(l.flatMap TgV.cs).drop (i*8)=[.str p.path,.int .i64 p.n,.sl p.hs.length (p.hs.flatMap pC),a,b,c,d,g]++(l.drop (i+1)).flatMap TgV.cs:=fd;subst hX;generalize hk:aH C (ai C) 71 [2,3,5] AA=k at*;simp only[AA,h,h2,h3,hw,fl,fd2,f2,f3,q1,bU,ih,a99,au3,aD7,aD9,EVX,seval]
structure kG where
 ver:Int
 exp:Int
 list:List TgV
 del:aan
def kG.cs(t:kG):LA:=.int .i64 t.ver::.int .i64 t.exp::.sl t.list.length (t.list.flatMap TgV.cs)::t.del.cs
structure kG.ok(t:kG):Prop where
 list:t.list.length<=1099511627776
 each:∀x∈t.list,x.hs.length<=1099511627776
 del:t.del.ok
theorem kG.nvs(t:kG):NVs t.cs:=.cons (.int _ _) (.cons (.int _ _) (.cons (.sl _ (fP (fun r=>r.bel) t.list)) t.del.nvs))
def asA(H:aoF C)(t:kG)(ht:t.ok)(O:St)(hσ:Ok O):ai C Ol [.agg t.cs,.agg t.cs] O=some (.bool true,O):=by
 have nv:NV (.agg t.cs):=.agg t.nvs;rw[H.targets.go (NVs.hand (.cons nv (.cons nv .nil)) _)];have hO:Ok (O++[.cells t.cs FZ,.cells t.cs FZ]):=hσ.plus (by
  have:AO.below 0 (.cells t.cs FZ)=true:=t.nvs.cl;rw[a88,this,a88,this];rfl)
 have lp:=asX H t.ver t.exp t.del.cs t.list ht.each ht.list O.length _ rfl _ hO (by rw[aQ];rfl) (by rw[dM];rfl) t.list.length 0 (by omega)
 simp only[at6]at lp;have q1:=atn H.toDelHas t.del ht.del _ hO;have fl:=dV TgV.len t.list;have ty:=dE hσ (vs:=[.bool true]) rfl;have dc:t.cs=[.int .i64 t.ver,.int .i64 t.exp,.sl t.list.length (t.list.flatMap TgV.cs),.sl t.del.keys.length (t.del.keys.flatMap pC),.sl t.del.roles.length (t.del.roles.flatMap RoV.cs),.int .i64 t.del.thr,.sl t.del.ids.length (t.del.ids.flatMap sC),.int .i64 t.del.bits,.str t.del.pre]:=rfl;have dd:t.del.cs=[.sl t.del.keys.length (t.del.keys.flatMap pC),.sl t.del.roles.length (t.del.roles.flatMap RoV.cs),.int .i64 t.del.thr,.sl t.del.ids.length (t.del.ids.flatMap sC),.int .i64 t.del.bits,.str t.del.pre]:=rfl;rw[dc,dd]at q1;rw[dc]at lp⊢;simp only[NR,lp,q1,bU,ty,aQ,dM,AV.cells,a99,au3,aD7,EVX,seval]
structure eu where
 th:Int
 ids:List LU
def eu.cs(a:eu):LA:=[.int .i64 a.th,.sl a.ids.length (a.ids.flatMap sC)]
theorem eu.len(a:eu):a.cs.length=2:=rfl
def O5(l:List LU):ae 0 (l.flatMap sC)=true:=fP (fun _=>rfl) l
def eu.below(a:eu):ae 0 a.cs=true:=by
 simp only[eu.cs,ae,Ev.below,O5];rfl
def afT(a:eu):NV (.agg a.cs):=.agg (.cons (.int _ _) (.cons (.sl _ (O5 _)) .nil))
def liN:List LU->Nat->Nat
 |[],n=>n
 |s::l,n=>if n<5000 then liN l (n+10+min 5000 s.length)else n
def laN:List eu->Nat->Nat
 |[],n=>n
 |a::l,n=>laN l (liN a.ids n)
def akl:∀(l:List LU) (n:Nat),n<=10010->liN l n<=10010
 |[],n,h=>h
 |s::l,n,h=>by
  unfold liN;split
  ·exact akl l _ (by omega)
  ·exact h
def Nk (azs:List eu) (m:Nat) (a:eu) (hm:azs[m]?=some a) (O:St):∀(n i acc:Nat),i+n=a.ids.length->acc<=10010->(acc<5000->10*i<=acc)->
  aH C (ai C) 41 [0,3,4,5] eP [(0,.sl azs.length (azs.flatMap eu.cs)),(3,.int .i64 acc),(4,.int .i64 m),(5,.int .i64 i)] O=some (.exit 2,[(0,.sl azs.length (azs.flatMap eu.cs)),(3,.int .i64 (liN (a.ids.drop i) acc:Nat)),(4,.int .i64 m)],O)
 |0,i,acc,hi,ha,hb=>by
  rw[aG (he:=rfl)];have hml:m<azs.length:=(a00.mp hm).1;have h:¬((i:Int)<(a.ids.length:Int)):=by omega
  have h':a.ids.drop i=[]:=au1 (by omega)
  have h0:(0:Int)<=m:=by omega
  have fl:=dV eu.len azs;have fd:=lM eu.len hm;have pc:a.cs=[.int .i64 a.th,.sl a.ids.length (a.ids.flatMap sC)]:=rfl;simp only[eP,h,h',h0,hml,fl,fd,pc,liN,bU,EVX,seval]
 |n+1,i,acc,hi,ha,hbb=>by
  rw[aG (he:=rfl)];have hml:m<azs.length:=(a00.mp hm).1;have h:((i:Int)<(a.ids.length:Int)):=by omega
  have h2:i<a.ids.length:=by omega
  have hb:a.ids[i]?=some a.ids[i]:=a02 h2;have h':a.ids.drop i=a.ids[i]::a.ids.drop (i+1):=as9 h2;have h0:(0:Int)<=m:=by omega
  have h3:(0:Int)<=i:=by omega
  have fl:=dV eu.len azs;have fd:=lM eu.len hm;have fi:=dV alk a.ids;have fe:=lM alk hb;rw[aw9]at fe fi;obtain⟨p,hpe⟩:∃p,p=a.ids[i]:=⟨_,rfl⟩;rw[<-hpe]at fe h';have pc:a.cs=[.int .i64 a.th,.sl a.ids.length (a.ids.flatMap sC)]:=rfl;have ps:sC p=[.str p]:=rfl;rw[h',liN];by_cases hc:acc<5000
  ·have hc':((acc:Int)<5000):=by omega
   have hw:=wrS i (by omega)
   have w1:IntKind.i64.wrap ((acc:Int)+10)=((acc+10:Nat):Int):=wrE (by omega)
   have w2:IntKind.i64.wrap (((acc+10:Nat):Int)+((min 5000 p.length:Nat):Int))=((acc+10+min 5000 p.length:Nat):Int):=wrE (by omega)
   have ih:=Nk azs m a hm O n (i+1) (acc+10+min 5000 p.length) (by omega) (by omega) (by omega)
   rw[if_pos hc,<-ih];generalize hk:aH C (ai C) 41 [0,3,4,5] eP=k at*;simp only[eP,h,h2,h3,h0,hml,hc',hw,w1,w2,aky,fl,fd,fi,fe,pc,ps,bU,aw9,EVX,seval]
  ·have hc':¬((acc:Int)<5000):=by omega
   rw[if_neg hc];simp only[eP,h,h0,hml,hc',fl,fd,pc,bU,EVX,seval]
def Jz (azs:List eu) (hl:azs.length<=100) (O:St):∀(n m acc:Nat),m+n=azs.length->acc<=10010->
  aH C (ai C) 41 [0,3,4] ja [(0,.sl azs.length (azs.flatMap eu.cs)),(3,.int .i64 acc),(4,.int .i64 m)] O=some (.exit 0,[(3,.int .i64 (laN (azs.drop m) acc:Nat))],O)
 |0,m,acc,hi,ha=>by
  rw[aG (he:=rfl)];have h:¬((m:Int)<(azs.length:Int)):=by omega
  have h':azs.drop m=[]:=au1 (by omega)
  simp only[ja,h,h',laN,bU,EVX,seval]
 |n+1,m,acc,hi,ha=>by
  rw[aG (he:=rfl)];have h:((m:Int)<(azs.length:Int)):=by omega
  have h2:m<azs.length:=by omega
  have hb:azs[m]?=some azs[m]:=a02 h2;have h':azs.drop m=azs[m]::azs.drop (m+1):=as9 h2;have hw:=wrS m (by omega)
  obtain⟨a,hae⟩:∃a,a=azs[m]:=⟨_,rfl⟩;rw[<-hae]at h' hb;have lp:=Nk (C:=C) azs m a hb O a.ids.length 0 acc (by omega) ha (by omega)
  simp only[at6,au0]at lp;have ih:=Jz azs hl O n (m+1) (liN a.ids acc) (by omega) (akl _ _ ha)
  rw[h',laN,<-ih];generalize hk:aH C (ai C) 41 [0,3,4] ja=k at*;simp only[ja,h,hw,lp,bU,EVX,seval]
def Xp(azs:List eu):Bool:=decide (5000<=laN azs 0)
def aeV(hC:Has C rX xh)(azs:List eu)(hl:azs.length<=100)(O:St):ai C rX [.xsl azs.length (azs.flatMap eu.cs)] O=some (.bool (Xp azs),O):=by
 have hn:hand false [.xsl azs.length (azs.flatMap eu.cs)] O=some ([.sl azs.length (azs.flatMap eu.cs)],O):=by
  have ns:NVs (azs.flatMap eu.cs):=fun v hv=>by
   obtain⟨a,_,ha⟩:=aD3.mp hv;simp only[eu.cs,au9,az4,or_false]at ha;rcases ha with rfl|rfl
   ·exact .int _ _
   ·exact .sl _ (O5 _)
  show(match df O 12 [.xsl azs.length (azs.flatMap eu.cs)]with|some (l,fs)=>some (l,freeze O fs)|none=>none)=_
  have:asb O (df O 11) (.xsl azs.length (azs.flatMap eu.cs))=some (.sl azs.length (azs.flatMap eu.cs),[]):=by
   show(match aT O (df O 11) (azs.flatMap eu.cs)with|some (l,fs)=>some (AV.sl azs.length l,fs)|none=>none)=_
   rw[ns.nf]
  rw[show df O 12 [.xsl azs.length (azs.flatMap eu.cs)]=(match asb O (df O 11) (.xsl azs.length (azs.flatMap eu.cs)),aT O (df O 11) []with|some (v,fs),some (l,gs)=>some (v::l,fs++gs)|_,_=>none)from rfl,this]
  rfl
 rw[hC.go hn];have lp:=Jz (C:=C) azs hl O azs.length 0 0 (by omega) (by omega)
 simp only[at6,au0]at lp;have e:decide ((5000:Int)<=(laN azs 0:Int))=Xp azs:=by unfold Xp;rw[aB7];simp;omega
 simp only[xh,lp,e,EVX,seval]
structure mi where
 name:LU
 version:Int
 length:Int
 hashes:List PS
def mi.cs(p:mi):LA:=[.str p.name,.int .i64 p.version,.int .i64 p.length,.sl p.hashes.length (p.hashes.flatMap pC)]
def amR(l:List PS):NV (.sl l.length (l.flatMap pC)):=yY l
structure fV where
 id:LU
 sig:LU
 dig:LU
def fV.cs(k:fV):LA:=[.str k.id,.str k.sig,.str k.dig]
theorem fV.len(k:fV):k.cs.length=3:=rfl
def ae5(l:List fV):NV (.sl l.length (l.flatMap fV.cs)):=.sl _ (fP (fun _=>rfl) l)
def ad8(k:PS):Bool:=decide (300<k.1.length)||decide (300<k.2.length)
def Tf(l:List PS):Bool:=decide (40<l.length)||l.any ad8
def ad9(k:fV):Bool:=decide (300<k.id.length)||decide (300<k.sig.length)||decide (300<k.dig.length)
def uM(l:List fV):Bool:=decide (60<l.length)||l.any ad9
def Ci (l:List PS) (hl:l.length<=40) (O:St):∀(n i:Nat),i+n=l.length->
  aH C (ai C) 29 [0,3] dC [(0,.sl l.length (l.flatMap pC)),(3,.int .i64 i)] O=if(l.drop i).any ad8 then some (.ret,[(2,.bool true)],O)else some (.exit 0,[],O)
 |0,i,hi=>by
  rw[aG (he:=rfl)];have h:¬((i:Int)<(l.length:Int)):=by omega
  have h':l.drop i=[]:=au1 (by omega)
  simp only[dC,h,h',List.any_nil,bU,EVX,seval]
 |n+1,i,hi=>by
  rw[aG (he:=rfl)];have h:((i:Int)<(l.length:Int)):=by omega
  have h2:i<l.length:=by omega
  have hb:l[i]?=some l[i]:=a02 h2;have h':l.drop i=l[i]::l.drop (i+1):=as9 h2;have h3:(0:Int)<=i:=by omega
  have hw:=wrS i (by omega)
  have fl:=dV FW l;have fd:=lM FW hb;obtain⟨p,hpe⟩:∃p,p=l[i]:=⟨_,rfl⟩;rw[<-hpe]at fd h';have pc:pC p=[.str p.1,.str p.2]:=rfl;have ih:=Ci l hl O n (i+1) (by omega)
  rw[h',List.any_cons,ad8];generalize hk:aH C (ai C) 29 [0,3] dC=k at*;by_cases c1:300<p.1.length
  ·have c1':(300:Int)<(p.1.length:Int):=by omega
   simp only[dC,h,h2,h3,c1,c1',fl,fd,pc,bU,ax9,EVX,seval]
  ·have c1':¬(300:Int)<(p.1.length:Int):=by omega
   by_cases c2:300<p.2.length
   ·have c2':(300:Int)<(p.2.length:Int):=by omega
    simp only[dC,h,h2,h3,c1,c1',c2,c2',fl,fd,pc,bU,ax9,aB1,EVX,seval]
   ·have c2':¬(300:Int)<(p.2.length:Int):=by omega
    simp only[dC,h,h2,h3,hw,c1,c1',c2,c2',ih,fl,fd,pc,bU,EVX,seval]
def Xj(hC:Has C rY mM)(l:List PS)(O:St):ai C rY [.sl l.length (l.flatMap pC)] O=some (.bool (Tf l),O):=by
 rw[hC.go (NVs.hand (.cons (amR l) .nil) _)];have fl:=dV FW l;unfold Tf;by_cases c:40<l.length
 ·have c':(40:Int)<(l.length:Int):=by omega
  simp only[mM,c,c',bU,ax9,EVX,seval]
 ·have c':¬(40:Int)<(l.length:Int):=by omega
  have lp:=Ci (C:=C) l (by omega) O l.length 0 (by omega)
  simp only[at6,au0]at lp;cases ha:l.any ad8<;>rw[ha]at lp<;>simp only[mM,c,c',lp,bU,EVX,seval]
def xY (l:List fV) (hl:l.length<=60) (O:St):∀(n i:Nat),i+n=l.length->
  aH C (ai C) 38 [0,3] bI [(0,.sl l.length (l.flatMap fV.cs)),(3,.int .i64 i)] O=if(l.drop i).any ad9 then some (.ret,[(2,.bool true)],O)else some (.exit 0,[],O)
 |0,i,hi=>by
  rw[aG (he:=rfl)];have h:¬((i:Int)<(l.length:Int)):=by omega
  have h':l.drop i=[]:=au1 (by omega)
  simp only[bI,h,h',List.any_nil,bU,EVX,seval]
 |n+1,i,hi=>by
  rw[aG (he:=rfl)];have h:((i:Int)<(l.length:Int)):=by omega
  have h2:i<l.length:=by omega
  have hb:l[i]?=some l[i]:=a02 h2;have h':l.drop i=l[i]::l.drop (i+1):=as9 h2;have h3:(0:Int)<=i:=by omega
  have hw:=wrS i (by omega)
  have fl:=dV fV.len l;have fd:=lM fV.len hb;obtain⟨p,hpe⟩:∃p,p=l[i]:=⟨_,rfl⟩;rw[<-hpe]at fd h';have pc:p.cs=[.str p.id,.str p.sig,.str p.dig]:=rfl;have ih:=xY l hl O n (i+1) (by omega)
  rw[h',List.any_cons,ad9];generalize hk:aH C (ai C) 38 [0,3] bI=k at*;by_cases c1:300<p.id.length
  ·have c1':(300:Int)<(p.id.length:Int):=by omega
   simp only[bI,h,h2,h3,c1,c1',fl,fd,pc,bU,ax9,EVX,seval]
  ·have c1':¬(300:Int)<(p.id.length:Int):=by omega
   by_cases c2:300<p.sig.length
   ·have c2':(300:Int)<(p.sig.length:Int):=by omega
    simp only[bI,h,h2,h3,c1,c1',c2,c2',fl,fd,pc,bU,ax9,aB1,EVX,seval]
   ·have c2':¬(300:Int)<(p.sig.length:Int):=by omega
    by_cases c3:300<p.dig.length
    ·have c3':(300:Int)<(p.dig.length:Int):=by omega
     simp only[bI,h,h2,h3,c1,c1',c2,c2',c3,c3',fl,fd,pc,bU,ax9,aB1,EVX,seval]
    ·have c3':¬(300:Int)<(p.dig.length:Int):=by omega
     simp only[bI,h,h2,h3,hw,c1,c1',c2,c2',c3,c3',ih,fl,fd,pc,bU,EVX,seval]
def OB(hC:Has C nN jy)(l:List fV)(O:St):ai C nN [.sl l.length (l.flatMap fV.cs)] O=some (.bool (uM l),O):=by
 rw[hC.go (NVs.hand (.cons (ae5 l) .nil) _)];have fl:=dV fV.len l;unfold uM;by_cases c:60<l.length
 ·have c':(60:Int)<(l.length:Int):=by omega
  simp only[jy,c,c',bU,ax9,EVX,seval]
 ·have c':¬(60:Int)<(l.length:Int):=by omega
  have lp:=xY (C:=C) l (by omega) O l.length 0 (by omega)
  simp only[at6,au0]at lp;cases ha:l.any ad9<;>rw[ha]at lp<;>simp only[jy,c,c',lp,bU,EVX,seval]
theorem Ok.more{Y:St}(h:Ok Y){L:St}(hl:L.all (AO.below 0)=true):Ok (Y++L):=h.app (by
 rw[a90]at*;exact fun x hx=>AO.below_mono (a98 _) x (hl x hx))
structure aee(C:Ctx):Prop where
 hmac:Has C Qi Pg
 table:Has C MZ MN
 clone:Sv C gK 3
def O9(l:List fV):AV:=.sl l.length (l.flatMap fV.cs)
def ac7(l:List fV):NV (O9 l):=ae5 l
def Ym(l:List fV):below 0 (O9 l)=true:=(ac7 l).cl
def ajL:AO:=.cells [.iface 199 (.agg [])] FZ
def abZ(l:List fV):AO:=.cells [.iface 206 (.agg [O9 l])] FZ
def amK(H:aee C)(O:St):ai C Qi [] O=some (.ref O.length 0,O++[ajL]):=by
 have hn:hand false [] O=some ([],O):=rfl;have tk:∀Y,tidy O.length [.ref O.length 0] Y=Y:=fun Y=>qX (by simp[ae,below]) Y
 rw[H.hmac.go hn];simp only[Pg,ajL,tk,EVX,seval]
def alO(H:aee C)(l:List fV)(hl:l.length<=60)(O:St):ai C MZ [O9 l] O=some (.ref O.length 0,O++[abZ l]):=by
 have tk:∀Y,tidy O.length [.ref O.length 0] Y=Y:=fun Y=>qX (by simp[ae,below]) Y
 have hs:(l.flatMap fV.cs).all Vb=true:=by
  rw[a90];intro x hx;obtain⟨v,_,hv⟩:=aD3.mp hx;simp only[fV.cs,au9,az4,or_false]at hv;rcases hv with rfl|rfl|rfl<;>rfl
 have hc:=fun Y=>H.clone l.length (l.flatMap fV.cs) Y (by rw[dV fV.len]) (by omega) hs
 rw[H.table.go (NVs.hand (.cons (ac7 l) .nil) _)];simp only[MN,O9,abZ,hc,tk,EVX,seval]
def Ep(h:Bool)(l:List fV):AO:=match h with
 |true=>ajL
 |false=>abZ l
open Go.RowKit Classical
def Gh.one(g:Gh)(o:Nat):Gh:={g with n:=1,ob:=fun _=>g.ob o,bs:=fun _=>g.bs o}
def aaW(g:Gh)(o:Nat):(g.cut 0).le (g.one o):=⟨rfl,a98 _,fun _ h=>(Nat.not_lt_zero _ h).elim,fun _ h=>(Nat.not_lt_zero _ h).elim,fun _ _ _ h=>h⟩
def akP{g g':Gh}{w:World}{o o':Nat}{l:LA}{fz:Fz}(h:OR g w o (.cells l fz))(hb:ae 0 l=true)(hle:(g.cut 0).le g')(h1:g'.ob o'=g.ob o)(h2:g'.bs o'=g.bs o)(h3:∀i v,g'.im (g.ob o) i=some v->g.im (g.ob o) i=some v):OR g' w o' (.cells l fz):=by
 obtain⟨c,e,fr,a1,a2,a3,a4,a5,a6⟩:=h;refine⟨c,e,fr,by rw[h1];exact a1,by rw[h2];exact a2,a3,fun i x hx=>?_,a5,fun i v hv=>a6 i v (h3 i v (by rw[<-h1];exact hv))⟩
 obtain⟨v,b1,b2⟩:=a4 i x hx;exact⟨v,b1,(b2.cut (DL hb hx)).mono hle⟩
def aql{g:Gh}{w:World}{O:St}{o:Nat}{l:LA}{fz:Fz}(hw:WR g w O)(ho:O[o]?=some (.cells l fz))(hb:ae 0 l=true):WR (g.one o) w [.cells l fz]:=
 ⟨rfl,hw.im,hw.uf,fun k x hk=>by
  cases k with
  |zero=>cases hk;exact akP (hw.obj o _ ho) hb (aaW g o) rfl rfl fun _ _ h=>h
  |succ k=>simp at hk,fun k k' x x' hk hk' _ _ _=>by
  cases k with
  |zero=>cases k' with
   |zero=>rfl
   |succ k'=>simp at hk'
  |succ k=>simp at hk⟩
def ahF{g:Gh}{w w':World}{O:St}{o:Nat}{l:LA}{fz:Fz}(hw:WR g w O)(ho:O[o]?=some (.cells l fz))(hb:ae 0 l=true){g':Gh}(hgo:Goes (g.one o) [.cells l fz] w g' [.cells l fz] w'):Goes g O w {g with im:=g'.im} O w'/\(g'.cut 0).le {g with im:=g'.im}:=by
 have hp:g'.pl=g.pl:=hgo.le.pl;have hob:g'.ob 0=g.ob o:=hgo.le.ob 0 (Nat.zero_lt_one);have hbs:g'.bs 0=g.bs o:=hgo.le.bs 0 (Nat.zero_lt_one);have hle:(g'.cut 0).le {g with im:=g'.im}:=⟨hp.symm,a98 _,fun o ho=>(Nat.not_lt_zero _ ho).elim,fun o ho=>(Nat.not_lt_zero _ ho).elim,fun _ _ _ h=>h⟩;have hle':g.le {g with im:=g'.im}:=⟨rfl,a06 _,fun _ _=>rfl,fun _ _=>rfl,fun b i v h=>hgo.le.im b i v h⟩;have hun:∀b,b≠g.ob o->aaC (g.one o) [.cells l fz] b:=fun b hne k x h hl e=>by
  cases k with
  |zero=>exact hne e.symm
  |succ k=>simp at h
 refine⟨⟨hle',⟨hw.n,hgo.wr.im,fun b i v hv=>(hgo.wr.uf b i v hv).imp (fun e=>⟨(congrFun hp b).symm.trans e.1,e.2⟩) id,fun k x hx=>?_,hw.inj⟩,hgo.os,hgo.tape,hgo.output,hgo.size,fun b hlt hu=>?_⟩,hle⟩
 ·by_cases hko:k=o
  ·subst hko;rw[ho]at hx;cases hx;exact akP (g:=g') (o:=0) (hgo.wr.obj 0 _ rfl) hb hle hob.symm hbs.symm fun _ _ h=>h
  have hk:=hw.obj k x hx;cases x with
  |dead=>trivial
  |cells l2 fz2=>
   obtain⟨c,e,fr,h1,h2,h3,h4,h5,h6⟩:=hk;have hlt:g.ob k<w.heap.size:=(ay0.mp h1).1;have hne:g.ob k≠g.ob o:=fun e=>hko (hw.inj k o _ _ hx ho rfl rfl e);obtain⟨_,f2,f3⟩:=hgo.fr (g.ob k) hlt (hun _ hne);refine⟨c,e,fr,f2.trans h1,h2,h3,fun i y hy=>?_,h5,fun i v hv=>h6 i v ((f3 i).symm.trans hv)⟩;obtain⟨v,hv,hr⟩:=h4 i y hy;exact⟨v,hv,hr.mono hle'⟩
  |map es=>
   obtain⟨ents,clock,h1,h2⟩:=hk;have hlt:g.ob k<w.heap.size:=(ay0.mp h1).1;have hne:g.ob k≠g.ob o:=fun e=>hko (hw.inj k o _ _ hx ho rfl rfl e);obtain⟨_,f2,f3⟩:=hgo.fr (g.ob k) hlt (hun _ hne);exact⟨ents,clock,f2.trans h1,h2.size,h2.clk,fun i k v hkv=>by
    obtain⟨e,he,hk,hv,hborn⟩:=h2.at_ i k v hkv;exact⟨e,he,hk.mono hle',hv.mono hle',hborn⟩⟩
 ·obtain⟨_,f2,f3⟩:=hgo.fr b hlt (hun b fun e=>hu o _ ho rfl e.symm);exact⟨hu,f2,f3⟩
structure VX(D C:Ctx):Prop where
 P:D.P=C.P
 gl:D.gl=C.gl
 np:D.np=C.np
 cl:∀n l,C.gl n=some l->ae 0 l=true
def VX.GL{D C:Ctx}(h:VX D C){g:Gh}(hg:GL C g):GL D g:=⟨fun n l hl=>hg.1 n l (by rw[<-h.gl];exact hl),by rw[h.np];exact hg.2⟩
def GL.cut{C:Ctx}{g g':Gh}(hg:GL C g)(hc:∀n l,C.gl n=some l->ae 0 l=true)(hle:(g.cut 0).le g'):GL C g':=⟨fun n l hl=>⟨((hg.1 n l hl).1.cut (hc n l hl)).mono hle,(congrFun hle.pl n).trans (hg.1 n l hl).2⟩,hg.2.imp id fun e b=>(congrFun hle.pl b).trans (e b)⟩
noncomputable def pFn(D:Ctx)(f:FuncId)(args:LA)(O:St):Option (AV×St):=
 match hand false args O with
 |none=>none
 |some (azs,O1)=>if ae 0 azs=true then match ai D f azs []with
  |some (v,[])=>some (v,O1)
  |_=>none else none
def VX.does{D C:Ctx}(h:VX D C){f:FuncId}{args:List Value}{w:World}{R:Value->World->Prop}(hd:Does D.P f args w R):Does C.P f args w R:=by rw[<-h.P];exact hd
def JJ{D C:Ctx}(hs:VX D C)(hc:dW D (ai D))(f:FuncId):POK C f (pFn D f):=by
 intro args O v O' h g w args' ha hw hg;unfold pFn at h;split at h
 ·cases h
 ·rename_i azs O1 hh;split at h
  ·rename_i hb;split at h
   ·rename_i v2 h2;cases h;obtain⟨g1,hgo1,hv1⟩:=pW hw false hh ha;have hw1:=hgo1.wr;have hw0:WR (g1.cut 0) w []:=⟨rfl,hw1.im,hw1.uf,fun o x hx=>by simp at hx,fun o o' x x' hx=>by simp at hx⟩
    have hg1:=GL.cut (hs.GL (hg.mono hgo1.le)) (fun n l hl=>hs.cl n l (by rw[<-hs.gl];exact hl)) (g':=g1.cut 0) ⟨rfl,a06 _,fun _ _=>rfl,fun _ _=>rfl,fun _ _ _ h=>h⟩
    refine hs.does ((hc f azs [] _ [] h2 (g1.cut 0) w args' (hv1.cut hb) hw0 hg1).mono fun v' w' ⟨g',hgo',hr'⟩=>?_);obtain⟨hf,hle⟩:=HY hw1 hgo';exact⟨_,hgo1.trans hf,hr'.mono hle⟩
   ·cases h
  ·cases h
noncomputable def pRo(D:Ctx)(f:FuncId)(args:LA)(O:St):Option (AV×St):=
 match hand false args O with
 |some (.ref o 0::azs,O1)=>match O1[o]? with
  |some (.cells l fz)=>if ae 0 azs=true/\ae 0 l=true then match ai D f (.ref 0 0::azs) [.cells l fz]with
   |some (v,Y)=>if below 0 v=true/\Y=[.cells l fz]then some (v,O1)else none
   |none=>none else none
  |_=>none
 |_=>none
def apL{D C:Ctx}(hs:VX D C)(hc:dW D (ai D))(f:FuncId):POK C f (pRo D f):=by
 intro args O v O' h g w args' ha hw hg;unfold pRo at h;split at h
 ·rename_i o azs O1 hh;split at h
  ·rename_i l fz ho;split at h
   ·rename_i hb;split at h
    ·rename_i v2 Y h2;split at h
     ·rename_i hτ;obtain⟨hv0,rfl⟩:=hτ;cases h;obtain⟨g1,hgo1,hv1⟩:=pW hw false hh ha;have hw1:=hgo1.wr;have hg1:=GL.cut (hs.GL (hg.mono hgo1.le)) (fun n l hl=>hs.cl n l (by rw[<-hs.gl];exact hl)) (aaW g1 o)
      have hargs:VRs (g1.one o) (.ref 0 0::azs) args':=by
       cases hv1 with
       |cons _ v1 _ l1 x y=>
        cases x with
        |ref o off hlt=>exact .cons _ _ _ _ (.ref (g:=g1.one o) 0 0 Nat.zero_lt_one) ((y.cut hb.1).mono (aaW g1 o))
      refine hs.does ((hc f _ _ _ _ h2 (g1.one o) w args' hargs (aql hw1 ho hb.2) hg1).mono fun v' w' ⟨g',hgo',hr'⟩=>?_);obtain⟨hf,hle⟩:=ahF hw1 ho hb.2 hgo';exact⟨_,hgo1.trans hf,(hr'.cut hv0).mono hle⟩
     ·cases h
    ·cases h
   ·cases h
  ·cases h
 ·cases h
variable{D:Ctx}{PK:PkI}
def af9:Ok ([]:St):=rfl
def arE{f:FuncId}{args:List Sh}{res:Sh}(h:gu D PK f (.pure args res))(hc:cls args=true){azs:LA}(hm:Mt V0 args azs):∃v,M V0 res v/\∀O,pFn D f azs O=some (v,O):=by
 have hn:=Mt.nvs hm hc;obtain⟨v,e,hv⟩:=h [] azs azs [] af9 (hn.hand _) af9 hm;refine⟨v,hv,fun O=>?_⟩;unfold pFn;rw[hn.hand];dsimp only;rw[if_pos hn.cl,e]
end Go.Ev
namespace Go.Ev
set_option maxRecDepth 100000
variable{C:Ctx}
structure T3 where
 c:Int
 f:FuncId
 x:LA
 y:LA
def T3.cs(t:T3):LA:=[.int .u8 t.c,.func (.func t.f) t.x t.y]
theorem T3.len(t:T3):t.cs.length=2:=rfl
inductive yx(C:Ctx)(n:Nat):List T3->St->Int->St->Prop
 |nil (S:St):yx C n [] S 0 S
 |yes (t:T3) (l:List T3) (S S':St):ae n t.x=true->ae n t.y=true->S.length=n->S'.length=n->Ok S'->(∀G,Ok (S++G)->ai C t.f (t.x++t.y) (S++G)=some (.bool true,S'++G))->yx C n (t::l) S t.c S'
 |no (t:T3) (l:List T3) (S S' S'':St) (r:Int):ae n t.x=true->ae n t.y=true->S.length=n->S'.length=n->Ok S'->(∀G,Ok (S++G)->ai C t.f (t.x++t.y) (S++G)=some (.bool false,S'++G))->yx C n l S' r S''->yx C n (t::l) S r S''
def T3.ao(t:T3):AO:=.cells [.int .u8 t.c,.func (.func t.f) t.x t.y] FZ
def aaI{n k:Nat}(h:n<=k){x:AO}(hx:x.below n=true):x.below k=true:=by
 cases x with
 |dead=>rfl
 |cells l fz=>exact aO h l hx
 |map es=>
  simp only[AO.below,a01]at hx⊢;exact⟨aO h _ hx.1,aO h _ hx.2⟩
def agI{S:St}{x:AO}(hS:Ok S)(hx:x.below (S.length+1)=true):Ok (S++[x]):=RF hS (by simp[hx])
def WX (n:Nat) (ts:List T3):∀(l:List T3) (i:Nat) (S S':St) (r:Int) (G:St),yx C n l S r S'->ts.drop i=l->i<=ts.length->S.length=n->ts.length<=1000->Ok (S++G)->(∀x∈G,AO.below (n+G.length) x=true)->
  ∃G',aH C (ai C) 17 [5,6,7] fB [(5,.sl ts.length (ts.flatMap T3.cs)),(6,.int .i64 ts.length),(7,.int .i64 i)] (S++G)=some (.ret,[(2,.int .u8 r)],S'++G')\/(r=0/\aH C (ai C) 17 [5,6,7] fB [(5,.sl ts.length (ts.flatMap T3.cs)),(6,.int .i64 ts.length),(7,.int .i64 i)] (S++G)=some (.exit 0,[],S'++G'))
 |[],i,S,S',r,G,R,hd,hi,hS,hn,hok,hG=>by
  cases R;have:i=ts.length:=by
   have:=congrArg List.length hd;simp at this;omega
  subst this;refine⟨G,.inr ⟨rfl,?_⟩⟩;rw[aG (he:=rfl)];have h:¬((ts.length:Int)<(ts.length:Int)):=by omega
  simp only[fB,h,EVX,seval]
 |t::l,i,S,S',r,G,R,hd,hi,hS,hn,hok,hG=>by
  have hlt:i<ts.length:=by
   by_cases h:i<ts.length
   ·exact h
   ·rw[au1 (by omega)]at hd
    cases hd
  have hget:ts[i]?=some t:=by
   rw[as9 hlt]at hd;rw[a02 hlt];exact congrArg some (List.cons.inj hd).1
  have hd2:ts.drop (i+1)=l:=by
   rw[as9 hlt]at hd;exact(List.cons.inj hd).2
  have h:((i:Int)<(ts.length:Int)):=by omega
  have h0:(0:Int)<=(i:Int):=by omega
  have w1:=wrS i (by omega)
  have fl:=dV T3.len ts;have fa:=lM T3.len hget;have tc:t.cs=[.int .u8 t.c,.func (.func t.f) t.x t.y]:=rfl;rw[tc]at fa;simp only[a99,au3]at fa;generalize(ts.drop (i+1)).flatMap T3.cs=R' at fa;generalize hF:ts.flatMap T3.cs=F at fl fa⊢;cases R with
  |yes _ _ _ _ hx hy a b c e=>
   have e':=fun X=>e (G++X);simp only[<-au2]at e';refine⟨G++[t.ao],.inl ?_⟩;have ok2:Ok ((S++G)++[t.ao]):=agI hok (by
    have hl:n<=(S++G).length+1:=by rw[a04];omega
    simp only[T3.ao,AO.below,ae,below,aO hl _ hx,aO hl _ hy,av9])
   have e2:=e' [t.ao] ok2;unfold T3.ao at e2⊢;rw[aG (he:=rfl)];generalize hk:aH C (ai C) 17 [5,6,7] fB=k at*;rw[<-au2];have hT:(S'++G).length=(S++G).length:=by rw[a04,a04,a,b]
   generalize S++G=T at*;generalize S'++G=T' at*;have g2:∀X:AO,(T'++[X])[T.length]?=some X:=fun X=>by rw[<-hT];exact aQ _ _
   simp only[g2,fB,h,h0,hlt,fl,fa,e2,jV,EVX,seval]
  |no _ _ _ S1 _ _ hx hy a b c e R1=>
   have e':=fun X=>e (G++X);simp only[<-au2]at e';have ok2:Ok ((S++G)++[t.ao]):=agI hok (by
    have hl:n<=(S++G).length+1:=by rw[a04];omega
    simp only[T3.ao,AO.below,ae,below,aO hl _ hx,aO hl _ hy,av9])
   have e2:=e' [t.ao] ok2;have hG2:∀z∈G++[t.ao],AO.below (n+(G++[t.ao]).length) z=true:=fun z hz=>by
    rw[a04];rcases az8.mp hz with hz|hz
    ·exact aaI (by simp) (hG z hz)
    ·simp only[aA2]at hz;subst hz;have hl:n<=n+(G.length+1):=by omega
     simp only[T3.ao,AO.below,ae,below,aA0,aO hl _ hx,aO hl _ hy,av9]
   have ok3:Ok (S1++(G++[t.ao])):=RF c (by
    rw[b,a90];exact hG2)
   obtain⟨G',ih⟩:=WX n ts l (i+1) S1 S' r (G++[t.ao]) R1 hd2 (by omega) b hn ok3 hG2
   refine⟨G',?_⟩;have tail:aH C (ai C) 17 [5,6,7] fB [(5,.sl ts.length F),(6,.int .i64 ts.length),(7,.int .i64 i)] (S++G)=aH C (ai C) 17 [5,6,7] fB [(5,.sl ts.length F),(6,.int .i64 ts.length),(7,.int .i64 (i+1:Nat))] (S1++(G++[t.ao])):=by
    rw[aG (he:=rfl)];unfold T3.ao at e2⊢;generalize hk:aH C (ai C) 17 [5,6,7] fB=k at*;rw[<-au2];generalize S++G=T at*;generalize S1++G=T' at*;simp only[fB,h,h0,hlt,fl,fa,e2,w1,jV,EVX,seval]
   rw[tail];rw[hF]at ih;exact ih
def yx.end_{n:Nat}{l:List T3}{S S':St}{r:Int}(R:yx C n l S r S')(h:S.length=n)(hok:Ok S):S'.length=n/\Ok S':=by
 induction R with
 |nil S=>exact⟨h,hok⟩
 |yes t l S S' _ _ _ b c _=>exact⟨b,c⟩
 |no t l S S1 S' r _ _ _ b c _ _ ih=>exact ih b c
def T3.nv(t:T3):Prop:=(∀Y r,aT Y r t.x=some (t.x,[]))/\∀Y r,aT Y r t.y=some (t.y,[])
def ae1:∀(l:List T3),(∀t∈l,t.nv)->∀Y r,aT Y r (l.flatMap T3.cs)=some (l.flatMap T3.cs,[])
 |[],_,Y,r=>rfl
 |t::l,h,Y,r=>by
  have ih:=ae1 l (fun t ht=>h t (by simp[ht])) Y r
  obtain⟨h1,h2⟩:=h t (by simp)
  rw[ay1,show t.cs=[.int .u8 t.c,.func (.func t.f) t.x t.y]from rfl,a99,a99,au3,aK,aK,OH,amZ,h1,h2,ih];rfl
def Jg(hC:Has C FN zY){ts:List T3}{S S':St}{r:Int}(R:yx C S.length ts S r S')(hok:Ok S)(hn:ts.length<=1000)(hnv:∀t∈ts,t.nv):ai C FN [.xsl ts.length (ts.flatMap T3.cs)] S=some (.int .u8 r,S'):=by
 obtain⟨hl,hok'⟩:=R.end_ rfl hok;have hn0:hand false [.xsl ts.length (ts.flatMap T3.cs)] S=some ([.sl ts.length (ts.flatMap T3.cs)],S):=by
  simp only[oW,aK,vG,akI,ae1 ts hnv,freeze,au6]
 rw[hC.go hn0];obtain⟨G',h⟩:=WX S.length ts ts 0 S S' r [] R rfl (a98 _) rfl hn (by rw[au6];exact hok) (fun x hx=>by cases hx)
 rw[au6,show((0:Nat):Int)=0 from rfl]at h;have ty:=fun v=>dE hok' (vs:=[.int .u8 v]) rfl;rw[hl]at ty;rcases h with h|⟨h0,h⟩
 ·simp only[zY,h,ty,EVX,seval]
 ·subst h0;simp only[zY,h,ty,EVX,seval]
structure fK where
 v:AV
 a1:Int
 a2:AV
 ks:AV
 pn:LU
 pv:Int
 pl:Int
 ph:AV
 now:Int
 data:LU
 size:Int
 x0:AV
 x1:AV
 x2:AV
 x3:AV
 x4:AV
 e0:AV
 e1:AV
 e2:AV
 e3:AV
 e4:AV
 e5:AV
 ver:Int
 exp:Int
def fK.cs(F:fK):LA:=[F.v,.int .i64 F.a1,F.a2,F.ks,.str F.pn,.int .i64 F.pv,.int .i64 F.pl,F.ph,.int .i64 F.now,.str F.data,.int .i64 F.size,F.x0,F.x1,F.x2,F.x3,F.x4,F.e0,F.e1,F.e2,F.e3,F.e4,F.e5,.int .i64 F.ver,.int .i64 F.exp]
structure ChkHas(C:Ctx):Prop where
 missing:Has C oN Ap
 big:Has C uZ uS
 small:Has C xx xg
 otherDigest:Has C fJ kM
 noText:Has C ql BO
 noEnvelope:Has C lK xN
 unsigned:Has C nU zq
 otherVersion:Has C nY vN
 expired:Has C oM Am
variable{Y:St}{o:Nat}{F:fK}
def Xw(H:ChkHas C)(hτ:Ok Y)(ho:Y[o]?=some (.cells F.cs FZ)):ai C oN [.ref o 0] Y=some (.bool (F.size== -1),Y):=by
 have hn:=iI o Y;rw[H.missing.go hn];have ty:=fun b=>aS Y [.bool b];unfold fK.cs at ho;simp only[Ap,ho,ty,EVX,seval]
def aiW(H:ChkHas C)(hτ:Ok Y)(ho:Y[o]?=some (.cells F.cs FZ)):ai C uZ [.ref o 0] Y=some (.bool (decide (F.size<0)||(decide (0<=F.pl)&&decide (F.pl<(F.data.length:Int)))),Y):=by
 have hn:=iI o Y;rw[H.big.go hn];have ty:=fun b=>aS Y [.bool b];unfold fK.cs at ho;by_cases c1:F.size<0
 ·simp only[uS,ho,ty,c1,decide_true,ax9,EVX,seval]
 by_cases c2:(0:Int)<=F.pl
 ·simp only[uS,ho,ty,c1,c2,decide_true,decide_false,aC8,aw6,EVX,seval]
 ·simp only[uS,ho,ty,c1,c2,decide_false,ay5,EVX,seval]
def air(H:ChkHas C)(hτ:Ok Y)(ho:Y[o]?=some (.cells F.cs FZ)):ai C xx [.ref o 0] Y=some (.bool (decide (0<=F.pl)&&decide ((F.data.length:Int)<F.pl)),Y):=by
 have hn:=iI o Y;rw[H.small.go hn];have ty:=fun b=>aS Y [.bool b];unfold fK.cs at ho;by_cases c2:(0:Int)<=F.pl
 ·simp only[xg,ho,ty,c2,decide_true,aw6,EVX,seval]
 ·simp only[xg,ho,ty,c2,decide_false,ay5,EVX,seval]
def U7(H:ChkHas C)(hτ:Ok Y)(ho:Y[o]?=some (.cells F.cs FZ)):ai C nY [.ref o 0] Y=some (.bool (F.ver !=F.pv),Y):=by
 have hn:=iI o Y;rw[H.otherVersion.go hn];have ty:=fun b=>aS Y [.bool b];unfold fK.cs at ho;simp only[vN,ho,ty,EVX,seval]
def WM(H:ChkHas C)(hτ:Ok Y)(ho:Y[o]?=some (.cells F.cs FZ)){b:Bool}(hw:ai C mZ [.int .i64 F.exp,.int .i64 F.now] Y=some (.bool b,Y)):ai C oM [.ref o 0] Y=some (.bool b,Y):=by
 have hn:=iI o Y;rw[H.expired.go hn];have ty:=fun b=>aS Y [.bool b];unfold fK.cs at ho;simp only[Am,ho,ty,hw,EVX,seval]
def UW(H:ChkHas C)(hτ:Ok Y)(ho:Y[o]?=some (.cells F.cs FZ)){b:Bool}(hw:ai C iF [F.v,.agg [F.e0,F.e1,F.e2,F.e3,F.e4,F.e5],.agg [.int .i64 F.a1,F.a2],F.ks] Y=some (.bool b,Y)):ai C nU [.ref o 0] Y=some (.bool !b,Y):=by
 have hn:=iI o Y;rw[H.unsigned.go hn];have ty:=fun b=>aS Y [.bool b];unfold fK.cs at ho;simp only[zq,ho,ty,hw,EVX,seval]
def Tm(H:ChkHas C)(hτ:Ok Y)(ho:Y[o]?=some (.cells F.cs FZ))(l:LA)(hp:F.ph=.sl 0 l):ai C fJ [.ref o 0] Y=some (.bool false,Y):=by
 have hn:=iI o Y;rw[H.otherDigest.go hn];have ty:=fun b=>aS Y [.bool b];unfold fK.cs at ho;rw[hp]at ho;simp only[kM,ho,ty,EVX,seval]
def XB(H:ChkHas C)(hτ:Ok Y)(ho:Y[o]?=some (.cells F.cs FZ))(n:Nat)(l:LA)(hp:F.ph=.sl n l)(h0:n≠0){d dg:LU}{b:Bool}(hh:ai C wF [F.ph,.str [115,104,97,50,53,54]] Y=some (.tup [.str d,.bool b],Y))(hd:ai C oU [.str F.data] Y=some (.str dg,Y)):ai C fJ [.ref o 0] Y=some (.bool (!b|| !decide (d=dg)),Y):=by
 have hn:=iI o Y;rw[H.otherDigest.go hn];have ty:=fun b=>aS Y [.bool b];unfold fK.cs at ho;rw[hp]at ho hh;have c:((n:Int)==0)=false:=by
  rw[beq_eq_false_iff_ne];omega
 cases b
 ·simp only[kM,ho,ty,c,hh,av5,ax9,EVX,seval]
 ·simp only[kM,ho,ty,c,hh,hd,kH,aw4,aC8,EVX,seval]
def fK.withX(F:fK)(r0 r1 r2 r3 r4:AV):fK:={F with x0:=r0,x1:=r1,x2:=r2,x3:=r3,x4:=r4}
def fK.withE(F:fK)(r0 r1 r2 r3 r4 r5:AV):fK:={F with e0:=r0,e1:=r1,e2:=r2,e3:=r3,e4:=r4,e5:=r5}
structure One(x:AV):Prop where
 fl:x.flat=true
 cl:x.cells=[x]
 nv:NV x
def Ok.setS{Y:St}(h:Ok Y)(o:Nat){cs:LA}{fz:Fz}(hx:ae Y.length cs=true):Ok (Y.set o (.cells cs fz)):=Ok.set2 h o hx
def ZX (H:ChkHas C) (hτ:Ok Y) (ho:Y[o]?=some (.cells F.cs FZ)) {r0 r1 r2 r3 r4:AV} (k0:One r0) (k1:One r1) (k2:One r2) (k3:One r3) (k4:One r4) (hb:ae Y.length (F.withX r0 r1 r2 r3 r4).cs=true) {n e:Int} (hr:ai C iD [.str F.data] Y=some (.tup [.agg [r0,r1,r2,r3,r4],.int .i64 n,.int .i64 e],Y)):
  ai C ql [.ref o 0] Y=some (.bool (e !=0),Y.set o (.cells (F.withX r0 r1 r2 r3 r4).cs FZ)):=by
 have hn:=iI o Y;rw[H.noText.go hn];have okS:=Ok.setS hτ o (fz:=FZ) hb;have ty:=fun b L=>dE okS (vs:=[.bool b]) rfl L;rw[a95]at ty;have g0:=fun L=>aA ho L;have p0:=fun L y=>dJ ho L y;obtain⟨a0,b0,_⟩:=k0;obtain⟨a1,b1,_⟩:=k1;obtain⟨a2,b2,_⟩:=k2;obtain⟨a3,b3,_⟩:=k3;obtain⟨a4,b4,_⟩:=k4;unfold fK.withX fK.cs at*;simp only[BO,ho,ty,hr,g0,p0,a0,a1,a2,a3,a4,splice,aQ,jm,EVX,seval]
def Nr (H:ChkHas C) (hτ:Ok Y) (ho:Y[o]?=some (.cells F.cs FZ)) {r0 r1 r2 r3 r4 r5:AV} (k0:One r0) (k1:One r1) (k2:One r2) (k3:One r3) (k4:One r4) (k5:One r5) (hb:ae Y.length (F.withE r0 r1 r2 r3 r4 r5).cs=true) {e:Int} (hr:ai C vw [.agg [F.x0,F.x1,F.x2,F.x3,F.x4]] Y=some (.tup [.agg [r0,r1,r2,r3,r4,r5],.int .i64 e],Y)):
  ai C lK [.ref o 0] Y=some (.bool (e !=0),Y.set o (.cells (F.withE r0 r1 r2 r3 r4 r5).cs FZ)):=by
 have hn:=iI o Y;rw[H.noEnvelope.go hn];have okS:=Ok.setS hτ o (fz:=FZ) hb;have ty:=fun b L=>dE okS (vs:=[.bool b]) rfl L;rw[a95]at ty;have g0:=fun L=>aA ho L;have p0:=fun L y=>dJ ho L y;obtain⟨a0,b0,_⟩:=k0;obtain⟨a1,b1,_⟩:=k1;obtain⟨a2,b2,_⟩:=k2;obtain⟨a3,b3,_⟩:=k3;obtain⟨a4,b4,_⟩:=k4;obtain⟨a5,b5,_⟩:=k5;unfold fK.withE fK.cs at*;simp only[xN,ho,ty,hr,g0,p0,a0,a1,a2,a3,a4,a5,splice,aQ,jm,EVX,seval]
def fK.withV(F:fK)(a b:Int):fK:={F with ver:=a,exp:=b}
def alm(a b:Nat):same (.ref a b) (.ref a b)=true:=by simp[same]
def aiH (hC:Has C yP Dw) (hτ:Ok Y) (ho:Y[o]?=some (.cells F.cs FZ)) {a t:Nat} (ha:Y[a]?=some (.cells [.ref o 0] FZ)) {t0 t1 t2 t3 t4 t5 t6 t7 t8:AV} (ht:Y[t]?=some (.cells [t0,t1,t2,t3,t4,t5,t6,t7,t8] FZ)) (hat:a≠t) (hot:o≠t) (hoa:a≠o) {v x e:Int} {r2 r3 r4 r5 r6 r7 r8:AV} (k2:One r2) (k3:One r3) (k4:One r4) (k5:One r5) (k6:One r6) (k7:One r7) (k8:One r8)
  (hb:ae Y.length [r2,r3,r4,r5,r6,r7,r8]=true) (hb2:ae Y.length (F.withV v x).cs=true) (hr:ai C Dl [.agg [F.e0,F.e1,F.e2,F.e3,F.e4]] Y=some (.tup [.agg [.int .i64 v,.int .i64 x,r2,r3,r4,r5,r6,r7,r8],.int .i64 e],Y)):
  ai C yP [.ref a 0,.ref t 0] Y=some (.bool (e !=0),(Y.set t (.cells [.int .i64 v,.int .i64 x,r2,r3,r4,r5,r6,r7,r8] FZ)).set o (.cells (F.withV v x).cs FZ)):=by
 have hn:=Gi a t Y;rw[hC.go hn];have hb1:ae Y.length [.int .i64 v,.int .i64 x,r2,r3,r4,r5,r6,r7,r8]=true:=by
  simp only[ae,below,aw6]at hb⊢;exact hb
 have ok1:=Ok.setS hτ t (fz:=FZ) hb1;have okS:=Ok.setS ok1 o (cs:=(F.withV v x).cs) (fz:=FZ) (by rw[a95];exact hb2)
 have ty:=fun b=>aS ((Y.set t (.cells [.int .i64 v,.int .i64 x,r2,r3,r4,r5,r6,r7,r8] FZ)).set o (.cells (F.withV v x).cs FZ)) [.bool b];rw[a95,a95]at ty;obtain⟨a2,b2,_⟩:=k2;obtain⟨a3,b3,_⟩:=k3;obtain⟨a4,b4,_⟩:=k4;obtain⟨a5,b5,_⟩:=k5;obtain⟨a6,b6,_⟩:=k6;obtain⟨a7,b7,_⟩:=k7;obtain⟨a8,b8,_⟩:=k8;have A1:=aF ha hat (.cells [.int .i64 v,.int .i64 x,r2,r3,r4,r5,r6,r7,r8] FZ);have T1:=bg ht (.cells [.int .i64 v,.int .i64 x,r2,r3,r4,r5,r6,r7,r8] FZ);have Oq1:=aF ho hot (.cells [.int .i64 v,.int .i64 x,r2,r3,r4,r5,r6,r7,r8] FZ);have Oq2:=fun y=>bg Oq1 y;have A2:=fun y=>aF A1 hoa y;have T2:=fun y=>aF T1 (fun e=>hot e.symm) y;unfold fK.withV fK.cs at*;simp only[Dw,ho,ha,ht,hr,ty,A1,T1,Oq1,Oq2,A2,T2,a2,a3,a4,a5,a6,a7,a8,splice,ax4,JU,alm,EVX,seval]
def aiJ (hC:Has C rW wZ) (hτ:Ok Y) (ho:Y[o]?=some (.cells F.cs FZ)) {a t:Nat} (ha:Y[a]?=some (.cells [.ref o 0] FZ)) {t0 t1 t2:AV} (ht:Y[t]?=some (.cells [t0,t1,t2] FZ)) (hat:a≠t) (hot:o≠t) (hoa:a≠o) {v x e:Int} {r2:AV} (k2:One r2)
  (hb:ae Y.length [r2]=true) (hb2:ae Y.length (F.withV F.ver x).cs=true) (hr:ai C vz [.agg [F.e0,F.e1,F.e2,F.e3,F.e4]] Y=some (.tup [.agg [.int .i64 v,.int .i64 x,r2],.int .i64 e],Y)):
  ai C rW [.ref a 0,.ref t 0] Y=some (.bool (e !=0),(Y.set t (.cells [.int .i64 v,.int .i64 x,r2] FZ)).set o (.cells (F.withV F.ver x).cs FZ)):=by
 have hn:=Gi a t Y;rw[hC.go hn];have ty:=fun b=>aS ((Y.set t (.cells [.int .i64 v,.int .i64 x,r2] FZ)).set o (.cells (F.withV F.ver x).cs FZ)) [.bool b];rw[a95,a95]at ty;obtain⟨a2,b2,_⟩:=k2;have A1:=aF ha hat (.cells [.int .i64 v,.int .i64 x,r2] FZ);have T1:=bg ht (.cells [.int .i64 v,.int .i64 x,r2] FZ);have Oq1:=aF ho hot (.cells [.int .i64 v,.int .i64 x,r2] FZ);unfold fK.withV fK.cs at*;simp only[wZ,ho,ha,ht,hr,ty,A1,T1,Oq1,a2,splice,EVX,seval]
end Go.Ev
namespace Go.Ev
set_option maxRecDepth 100000
variable{C:Ctx}
def QS(B:St)(F:fK)(T:LA):St:=B++[.cells F.cs FZ,.cells [.ref B.length 0] FZ,.cells T FZ]
def fC(B F T):(QS B F T).length=B.length+3:=by simp[QS]
def I7(B F T)(G:St):(QS B F T++G)[B.length]?=some (.cells F.cs FZ):=by
 unfold QS;rw[au2,aQ];rfl
def aqt(B F T)(G:St):(QS B F T++G)[B.length+1]?=some (.cells [.ref B.length 0] FZ):=by
 unfold QS;rw[au2,dM];rfl
def aqu(B F T)(G:St):(QS B F T++G)[B.length+2]?=some (.cells T FZ):=by
 unfold QS;rw[au2,dM];rfl
def Ku(B F T)(F':fK)(G:St):(QS B F T++G).set B.length (.cells F'.cs FZ)=QS B F' T++G:=by
 unfold QS;rw[au2];simp
def afI(B F T)(T':LA)(G:St):(QS B F T++G).set (B.length+2) (.cells T' FZ)=QS B F T'++G:=by
 unfold QS;rw[au2,BJ];simp
def aoA(B F T)(G:St){i:Nat}{x:AO}(h:B[i]?=some x):(QS B F T++G)[i]?=some x:=aA (aA h _) G
structure sS(x:AV):Prop extends One x where
 b0:below 0 x=true
def sS.b{x:AV}(h:sS x)(n:Nat):below n x=true:=below_mono (a98 _) _ h.b0
def Ext(O Y:St):Prop:=∀(i:Nat) (x:AO),O[i]?=some x->Y[i]?=some x
def mt(c:Int)(f:FuncId)(o:Nat):T3:=⟨c,f,[.ref o 0],[]⟩
def ajc(c:Int)(f:FuncId)(a t:Nat):T3:=⟨c,f,[],[.ref a 0,.ref t 0]⟩
def aoa(c f o):(mt c f o).nv:=⟨fun _ _=>rfl,fun _ _=>rfl⟩
def ag4(c f a t):(ajc c f a t).nv:=⟨fun _ _=>rfl,fun _ _=>rfl⟩
def yx.step{n:Nat}(t:T3)(l:List T3){S S':St}(b:Bool)(hx:ae n t.x=true)(hy:ae n t.y=true)(hS:S.length=n)(hS':S'.length=n)(hok:Ok S')(h:∀G,Ok (S++G)->ai C t.f (t.x++t.y) (S++G)=some (.bool b,S'++G)){Q:Int->St->Prop}(h1:b=true->Q t.c S')(h0:b=false->∃r S'',yx C n l S' r S''/\Q r S''):∃r S'',yx C n (t::l) S r S''/\Q r S'':=by
 cases b with
 |true=>exact⟨_,_,.yes t l S S' hx hy hS hS' hok h,h1 rfl⟩
 |false=>
  obtain⟨r,S'',R,q⟩:=h0 rfl;exact⟨r,S'',.no t l S S' S'' r hx hy hS hS' hok h R,q⟩
def z5:LA:=[.int .u8 0,.int .i64 0,.str [],.nils,.nils]
def zT:LA:=[.int .i64 0,.int .i64 0,.nils,.nils,.nils,.int .i64 0,.nils,.int .i64 0,.str []]
def zTn:LA:=[.int .i64 0,.int .i64 0,.sl 0 [],.sl 0 [],.sl 0 [],.int .i64 0,.sl 0 [],.int .i64 0,.str []]
def zS:LA:=[.int .i64 0,.int .i64 0,.nils]
def zSn:LA:=[.int .i64 0,.int .i64 0,.sl 0 []]
structure InF where
 v:AV
 a1:Int
 a2:AV
 ks:AV
 pn:LU
 pv:Int
 pl:Int
 ph:AV
 now:Int
 data:LU
 size:Int
def InF.F(I:InF):fK:=⟨I.v,I.a1,I.a2,I.ks,I.pn,I.pv,I.pl,I.ph,I.now,I.data,I.size,.int .u8 0,.int .i64 0,.str [],.nils,.nils,.int .u8 0,.int .i64 0,.str [],.nils,.nils,.nils,0,0⟩
def InF.pin(I:InF):LA:=[.str I.pn,.int .i64 I.pv,.int .i64 I.pl,I.ph]
def InF.auth(I:InF):LA:=[.int .i64 I.a1,I.a2]
structure InF.ok(I:InF)(n:Nat):Prop where
 v:NV I.v\/∃p,I.v=.ref p 0/\p<n
 a2:sS I.a2
 ks:sS I.ks
 ph:below 0 I.ph=true
structure Told(C:Ctx)(O:St)(I:InF)where
 x0:AV
 x1:AV
 x2:AV
 x3:AV
 x4:AV
 n1:Int
 e1:Int
 r0:AV
 r1:AV
 r2:AV
 r3:AV
 r4:AV
 r5:AV
 e2:Int
 en:Bool
 hx0:sS x0
 hx1:sS x1
 hx2:sS x2
 hx3:sS x3
 hx4:sS x4
 hr0:sS r0
 hr1:sS r1
 hr2:sS r2
 hr3:sS r3
 hr4:sS r4
 hr5:sS r5
 rd:∀Y,Ok Y->ai C iD [.str I.data] Y=some (.tup [.agg [x0,x1,x2,x3,x4],.int .i64 n1,.int .i64 e1],Y)
 sg:e1=0->∀Y,Ok Y->ai C vw [.agg [x0,x1,x2,x3,x4]] Y=some (.tup [.agg [r0,r1,r2,r3,r4,r5],.int .i64 e2],Y)
 enough:e1=0->e2=0->∀Y,Ok Y->Ext O Y->ai C iF [I.v,.agg [r0,r1,r2,r3,r4,r5],.agg I.auth,I.ks] Y=some (.bool en,Y)
structure Iq(C:Ctx)(O:St)(I:InF)extends Told C O I where
 tv:Int
 tx:Int
 t2:AV
 t3:AV
 t4:AV
 t5:AV
 t6:AV
 t7:AV
 t8:AV
 e3:Int
 ov:Bool
 od:Bool
 h2:sS t2
 h3:sS t3
 h4:sS t4
 h5:sS t5
 h6:sS t6
 h7:sS t7
 h8:sS t8
 tg:e1=0->e2=0->∀Y,Ok Y->ai C Dl [.agg [r0,r1,r2,r3,r4]] Y=some (.tup [.agg [.int .i64 tv,.int .i64 tx,t2,t3,t4,t5,t6,t7,t8],.int .i64 e3],Y)
 over:∀Y,Ok Y->ai C mZ [.int .i64 tx,.int .i64 I.now] Y=some (.bool ov,Y)
 odig:∀Y o F,Ok Y->Y[o]?=some (.cells (fK.cs F) FZ)->F.ph=I.ph->F.data=I.data->ai C fJ [.ref o 0] Y=some (.bool od,Y)
def Iq.T{C:Ctx}{O:St}{I:InF}(t:Iq C O I):LA:=[.int .i64 t.tv,.int .i64 t.tx,t.t2,t.t3,t.t4,t.t5,t.t6,t.t7,t.t8]
structure Ip(C:Ctx)(O:St)(I:InF)extends Told C O I where
 sv:Int
 sx:Int
 s2:AV
 e3:Int
 ov:Bool
 h2:sS s2
 sn:e1=0->e2=0->∀Y,Ok Y->ai C vz [.agg [r0,r1,r2,r3,r4]] Y=some (.tup [.agg [.int .i64 sv,.int .i64 sx,s2],.int .i64 e3],Y)
 over:∀Y,Ok Y->ai C mZ [.int .i64 sx,.int .i64 I.now] Y=some (.bool ov,Y)
def Ip.S{C:Ctx}{O:St}{I:InF}(t:Ip C O I):LA:=[.int .i64 t.sv,.int .i64 t.sx,t.s2]
def Ry(size:Int)(e1 e2 e3:Int)(en ov:Bool):Int:=
 if size== -1 then 2 else if decide (size<0)then 3 else if e1 !=0 then 6 else if e2 !=0 then 7 else if e3 !=0 then 7 else if !en then 8 else if ov then 10 else 0
def Ip.c{C:Ctx}{O:St}{I:InF}(t:Ip C O I):Int:=Ry I.size t.e1 t.e2 t.e3 t.en t.ov
def X0(o a t:Nat):List T3:=[mt 2 oN o,mt 3 uZ o,mt 6 ql o,mt 7 lK o,ajc 7 rW a t,mt 8 nU o,mt 10 oM o]
def XO(size pl dl:Int)(od:Bool)(e1 e2 e3:Int)(en:Bool)(tv pv:Int)(ov:Bool):Int:=
 if size== -1 then 2 else if decide (size<0)||(decide (0<=pl)&&decide (pl<dl))then 3 else if decide (0<=pl)&&decide (dl<pl)then 4 else if od then 5 else if e1 !=0 then 6 else if e2 !=0 then 7 else if e3 !=0 then 7 else if !en then 8 else if tv !=pv then 9 else if ov then 10 else 0
def Iq.c{C:Ctx}{O:St}{I:InF}(t:Iq C O I):Int:=XO I.size I.pl I.data.length t.od t.e1 t.e2 t.e3 t.en t.tv I.pv t.ov
structure Po(C:Ctx):Prop extends ChkHas C where
 first:Has C FN zY
 role:Has C yO jw
 role1:Has C yP Dw
 snap:Has C nG dY
 snap1:Has C rW wZ
def XT(o a t:Nat):List T3:=[mt 2 oN o,mt 3 uZ o,mt 4 xx o,mt 5 fJ o,mt 6 ql o,mt 7 lK o,ajc 7 yP a t,mt 8 nU o,mt 9 nY o,mt 10 oM o]
def aiG{O:St}(L F T)(G:St):Ext O (QS (O++L) F T++G):=fun i x h=>aoA _ F T G (aA h L)
def MP{B F T}(hB:Ok B)(hF:ae (B.length+3) (fK.cs F)=true)(hT:ae 0 T=true):Ok (QS B F T):=by
 unfold QS;refine RF hB ?_;have h3:decide (B.length<B.length+3)=true:=by simp
 simp only[a88,aw1,AO.below,a07,a09,av2,Nat.reduceAdd,aO (a98 _) _ hT,hF,ae,below,h3,av9]
def Vk{I:InF}{n m:Nat}(h:I.ok n)(hm:n<=m):ae m I.F.cs=true:=by
 have hv:below m I.v=true:=by
  rcases h.v with h|⟨p,e,hp⟩
  ·exact below_mono (a98 _) _ h.cl
  ·rw[e];simp only[below,decide_eq_true_eq];omega
 simp only[fK.cs,InF.F,ae,below,hv,h.a2.b,h.ks.b,below_mono (a98 _) _ h.ph,av9]
def aou{I:InF}{n:Nat}(h:I.ok n)(k:Nat)(hk:n<=k):below k I.v=true:=by
 rcases h.v with h|⟨p,e,hp⟩
 ·exact below_mono (a98 _) _ h.cl
 ·rw[e];simp only[below,decide_eq_true_eq];omega
section
variable{O:St}{I:InF}
def Told.F1(t:Told C O I):fK:=I.F.withX t.x0 t.x1 t.x2 t.x3 t.x4
def Told.F2(t:Told C O I):fK:=t.F1.withE t.r0 t.r1 t.r2 t.r3 t.r4 t.r5
def Told.F1_b(t:Told C O I){n:Nat}(h:I.ok n){k:Nat}(hk:n<=k):ae k t.F1.cs=true:=by
 simp only[Told.F1,fK.withX,fK.cs,InF.F,ae,below,aou h k hk,h.a2.b,h.ks.b,below_mono (a98 _) _ h.ph,t.hx0.b,t.hx1.b,t.hx2.b,t.hx3.b,t.hx4.b,av9]
def Told.F2_b(t:Told C O I){n:Nat}(h:I.ok n){k:Nat}(hk:n<=k):ae k t.F2.cs=true:=by
 simp only[Told.F2,Told.F1,fK.withX,fK.withE,fK.cs,InF.F,ae,below,aou h k hk,h.a2.b,h.ks.b,below_mono (a98 _) _ h.ph,t.hx0.b,t.hx1.b,t.hx2.b,t.hx3.b,t.hx4.b,t.hr0.b,t.hr1.b,t.hr2.b,t.hr3.b,t.hr4.b,t.hr5.b,av9]
def Told.F3_b(t:Told C O I){n:Nat}(h:I.ok n){k:Nat}(hk:n<=k)(a b:Int):ae k (t.F2.withV a b).cs=true:=by
 simp only[Told.F2,Told.F1,fK.withX,fK.withE,fK.withV,fK.cs,InF.F,ae,below,aou h k hk,h.a2.b,h.ks.b,below_mono (a98 _) _ h.ph,t.hx0.b,t.hx1.b,t.hx2.b,t.hx3.b,t.hx4.b,t.hr0.b,t.hr1.b,t.hr2.b,t.hr3.b,t.hr4.b,t.hr5.b,av9]
def Iq.T_b(t:Iq C O I):ae 0 t.T=true:=by
 simp only[Iq.T,ae,below,t.h2.b,t.h3.b,t.h4.b,t.h5.b,t.h6.b,t.h7.b,t.h8.b,av9]
def aos{n:Nat}(h:I.ok n):ae 0 I.pin=true:=by simp only[InF.pin,ae,below,h.ph,av9]
def am7{n:Nat}(h:I.ok n):ae 0 I.auth=true:=by simp only[InF.auth,ae,below,h.a2.b,av9]
def XN(I:InF):St:=[.cells I.pin FZ,.cells I.auth FZ,.cells zT FZ]
def aii(H:Po C){B:St}(okB:Ok B)(hB:O.length<=B.length)(hx:∀F T G,Ext O (QS B F T++G))(hI:I.ok O.length)(t:Iq C O I):∃r S'',yx C (B.length+3) (XT B.length (B.length+1) (B.length+2)) (QS B I.F zT) r S''/\r=t.c/\∃F' T',S''=QS B F' T'/\(r=0->T'=t.T):=by
 have ok0:Ok (QS B I.F zT):=MP okB (Vk hI (by omega)) rfl
 have ok1:Ok (QS B t.F1 zT):=MP okB (t.F1_b hI (by omega)) rfl
 have ok2:Ok (QS B t.F2 zT):=MP okB (t.F2_b hI (by omega)) rfl
 have ok3:Ok (QS B (t.F2.withV t.tv t.tx) t.T):=MP okB (t.F3_b hI (by omega) _ _) t.T_b
 have hf:ae (B.length+3) [.ref B.length 0]=true:=by simp[ae,below]
 have hat:ae (B.length+3) [.ref (B.length+1) 0,.ref (B.length+2) 0]=true:=by simp[ae,below]
 have lenG:∀(F T) (G:St),B.length+3<=(QS B F T++G).length:=fun F T G=>by rw[a04,fC];omega
 unfold Iq.c XO;refine yx.step _ _ (I.size== -1) hf rfl (fC ..) (fC ..) ok0 (fun G hG=>Xw H.toChkHas hG (I7 ..)) (fun h=>⟨by rw[if_pos h];rfl,_,_,rfl,fun h=>by cases h⟩) (fun n1=>?_)
 rw[if_neg (by rw[n1];decide)]
 refine yx.step _ _ (decide (I.size<0)||(decide (0<=I.pl)&&decide (I.pl<(I.data.length:Int)))) hf rfl (fC ..) (fC ..) ok0 (fun G hG=>aiW H.toChkHas hG (I7 ..)) (fun h=>⟨by rw[if_pos h];rfl,_,_,rfl,fun h=>by cases h⟩) (fun n2=>?_)
 rw[if_neg (by rw[n2];decide)]
 refine yx.step _ _ (decide (0<=I.pl)&&decide ((I.data.length:Int)<I.pl)) hf rfl (fC ..) (fC ..) ok0 (fun G hG=>air H.toChkHas hG (I7 ..)) (fun h=>⟨by rw[if_pos h];rfl,_,_,rfl,fun h=>by cases h⟩) (fun n3=>?_)
 rw[if_neg (by rw[n3];decide)]
 refine yx.step _ _ t.od hf rfl (fC ..) (fC ..) ok0 (fun G hG=>t.odig _ _ I.F hG (I7 ..) rfl rfl) (fun h=>⟨by rw[if_pos h];rfl,_,_,rfl,fun h=>by cases h⟩) (fun n4=>?_)
 rw[if_neg (by rw[n4];decide)]
 refine yx.step _ _ (t.e1 !=0) (S':=QS B t.F1 zT) hf rfl (fC ..) (fC ..) ok1 (fun G hG=>?_) (fun h=>⟨by rw[if_pos h];rfl,_,_,rfl,fun h=>by cases h⟩) (fun n5=>?_)
 ·have:=ZX H.toChkHas hG (I7 B I.F zT G) t.hx0.toOne t.hx1.toOne t.hx2.toOne t.hx3.toOne t.hx4.toOne (t.F1_b hI (by have:=lenG I.F zT G;omega)) (t.rd _ hG)
  rw[Ku]at this;exact this
 have e1:t.e1=0:=by simpa using n5
 rw[if_neg (by rw[n5];decide)]
 refine yx.step _ _ (t.e2 !=0) (S':=QS B t.F2 zT) hf rfl (fC ..) (fC ..) ok2 (fun G hG=>?_) (fun h=>⟨by rw[if_pos h];rfl,_,_,rfl,fun h=>by cases h⟩) (fun n6=>?_)
 ·have:=Nr H.toChkHas hG (I7 B t.F1 zT G) t.hr0.toOne t.hr1.toOne t.hr2.toOne t.hr3.toOne t.hr4.toOne t.hr5.toOne (t.F2_b hI (by have:=lenG t.F1 zT G;omega)) (t.sg e1 _ hG)
  rw[Ku]at this;exact this
 have e2:t.e2=0:=by simpa using n6
 rw[if_neg (by rw[n6];decide)]
 refine yx.step _ _ (t.e3 !=0) (S':=QS B (t.F2.withV t.tv t.tx) t.T) rfl hat (fC ..) (fC ..) ok3 (fun G hG=>?_) (fun h=>⟨by rw[if_pos h];rfl,_,_,rfl,fun h=>by cases h⟩) (fun n7=>?_)
 ·have hl:=lenG t.F2 zT G;have:=aiH H.role1 hG (I7 B t.F2 zT G) (aqt B t.F2 zT G) (aqu B t.F2 zT G) (by omega) (by omega) (by omega) t.h2.toOne t.h3.toOne t.h4.toOne t.h5.toOne t.h6.toOne t.h7.toOne t.h8.toOne (by simp only[ae,t.h2.b,t.h3.b,t.h4.b,t.h5.b,t.h6.b,t.h7.b,t.h8.b,av9]) (t.F3_b hI (by omega) _ _) (t.tg e1 e2 _ hG)
  rw[afI,Ku]at this;exact this
 rw[if_neg (by rw[n7];decide)]
 refine yx.step _ _ (!t.en) hf rfl (fC ..) (fC ..) ok3 (fun G hG=>UW H.toChkHas hG (I7 ..) (t.enough e1 e2 _ hG (hx _ _ _))) (fun h=>⟨by rw[if_pos h];rfl,_,_,rfl,fun h=>by cases h⟩) (fun n8=>?_)
 rw[if_neg (by rw[n8];decide)]
 refine yx.step _ _ (t.tv !=I.pv) hf rfl (fC ..) (fC ..) ok3 (fun G hG=>U7 H.toChkHas hG (I7 ..)) (fun h=>⟨by rw[if_pos h];rfl,_,_,rfl,fun h=>by cases h⟩) (fun n9=>?_)
 rw[if_neg (by rw[n9];decide)]
 refine yx.step _ _ t.ov hf rfl (fC ..) (fC ..) ok3 (fun G hG=>WM H.toChkHas hG (I7 ..) (t.over _ hG)) (fun h=>⟨by rw[if_pos h];rfl,_,_,rfl,fun h=>by cases h⟩) (fun n10=>?_)
 rw[if_neg (by rw[n10];decide)]
 exact⟨0,_,.nil _,rfl,_,_,rfl,fun _=>rfl⟩
def Ip.S_b(t:Ip C O I):ae 0 t.S=true:=by simp only[Ip.S,ae,below,t.h2.b,av9]
def ais(H:Po C)(hpl:I.pl= -1){B:St}(okB:Ok B)(hB:O.length<=B.length)(hx:∀F T G,Ext O (QS B F T++G))(hI:I.ok O.length)(t:Ip C O I):∃r S'',yx C (B.length+3) (X0 B.length (B.length+1) (B.length+2)) (QS B I.F zS) r S''/\r=t.c/\∃F' T',S''=QS B F' T'/\(r=0->T'=t.S):=by
 have ok0:Ok (QS B I.F zS):=MP okB (Vk hI (by omega)) rfl
 have ok1:Ok (QS B t.F1 zS):=MP okB (t.F1_b hI (by omega)) rfl
 have ok2:Ok (QS B t.F2 zS):=MP okB (t.F2_b hI (by omega)) rfl
 have ok3:Ok (QS B (t.F2.withV 0 t.sx) t.S):=MP okB (t.F3_b hI (by omega) _ _) t.S_b
 have hf:ae (B.length+3) [.ref B.length 0]=true:=by simp[ae,below]
 have hat:ae (B.length+3) [.ref (B.length+1) 0,.ref (B.length+2) 0]=true:=by simp[ae,below]
 have lenG:∀(F T) (G:St),B.length+3<=(QS B F T++G).length:=fun F T G=>by rw[a04,fC];omega
 unfold Ip.c Ry;refine yx.step _ _ (I.size== -1) hf rfl (fC ..) (fC ..) ok0 (fun G hG=>Xw H.toChkHas hG (I7 ..)) (fun h=>⟨by rw[if_pos h];rfl,_,_,rfl,fun h=>by cases h⟩) (fun n1=>?_)
 rw[if_neg (by rw[n1];decide)]
 refine yx.step _ _ (decide (I.size<0)) hf rfl (fC ..) (fC ..) ok0 (fun G hG=>by
  have:=aiW H.toChkHas hG (I7 B I.F zS G);rw[show I.F.pl= -1 from hpl,show decide ((0:Int)<= -1)=false from rfl,ay5,Bool.or_false]at this;exact this) (fun h=>⟨by rw[if_pos h];rfl,_,_,rfl,fun h=>by cases h⟩) (fun n2=>?_)
 rw[if_neg (by rw[n2];decide)]
 refine yx.step _ _ (t.e1 !=0) (S':=QS B t.F1 zS) hf rfl (fC ..) (fC ..) ok1 (fun G hG=>?_) (fun h=>⟨by rw[if_pos h];rfl,_,_,rfl,fun h=>by cases h⟩) (fun n5=>?_)
 ·have:=ZX H.toChkHas hG (I7 B I.F zS G) t.hx0.toOne t.hx1.toOne t.hx2.toOne t.hx3.toOne t.hx4.toOne (t.F1_b hI (by have:=lenG I.F zS G;omega)) (t.rd _ hG)
  rw[Ku]at this;exact this
 have e1:t.e1=0:=by simpa using n5
 rw[if_neg (by rw[n5];decide)]
 refine yx.step _ _ (t.e2 !=0) (S':=QS B t.F2 zS) hf rfl (fC ..) (fC ..) ok2 (fun G hG=>?_) (fun h=>⟨by rw[if_pos h];rfl,_,_,rfl,fun h=>by cases h⟩) (fun n6=>?_)
 ·have:=Nr H.toChkHas hG (I7 B t.F1 zS G) t.hr0.toOne t.hr1.toOne t.hr2.toOne t.hr3.toOne t.hr4.toOne t.hr5.toOne (t.F2_b hI (by have:=lenG t.F1 zS G;omega)) (t.sg e1 _ hG)
  rw[Ku]at this;exact this
 have e2:t.e2=0:=by simpa using n6
 rw[if_neg (by rw[n6];decide)]
 refine yx.step _ _ (t.e3 !=0) (S':=QS B (t.F2.withV 0 t.sx) t.S) rfl hat (fC ..) (fC ..) ok3 (fun G hG=>?_) (fun h=>⟨by rw[if_pos h];rfl,_,_,rfl,fun h=>by cases h⟩) (fun n7=>?_)
 ·have hl:=lenG t.F2 zS G;have:=aiJ H.snap1 hG (I7 B t.F2 zS G) (aqt B t.F2 zS G) (aqu B t.F2 zS G) (by omega) (by omega) (by omega) t.h2.toOne (by simp only[ae,t.h2.b,av9]) (t.F3_b hI (by omega) _ _) (t.sn e1 e2 _ hG)
  rw[afI,Ku]at this;exact this
 rw[if_neg (by rw[n7];decide)]
 refine yx.step _ _ (!t.en) hf rfl (fC ..) (fC ..) ok3 (fun G hG=>UW H.toChkHas hG (I7 ..) (t.enough e1 e2 _ hG (hx _ _ _))) (fun h=>⟨by rw[if_pos h];rfl,_,_,rfl,fun h=>by cases h⟩) (fun n8=>?_)
 rw[if_neg (by rw[n8];decide)]
 refine yx.step _ _ t.ov hf rfl (fC ..) (fC ..) ok3 (fun G hG=>WM H.toChkHas hG (I7 ..) (t.over _ hG)) (fun h=>⟨by rw[if_pos h];rfl,_,_,rfl,fun h=>by cases h⟩) (fun n10=>?_)
 rw[if_neg (by rw[n10];decide)]
 exact⟨0,_,.nil _,rfl,_,_,rfl,fun _=>rfl⟩
end
def aot{I:InF}(h:NV I.ph):NV (.agg I.pin):=.agg (.cons (.str _) (.cons (.int _ _) (.cons (.int _ _) (.cons h .nil))))
def aor{I:InF}{n:Nat}(h:I.ok n):NV (.agg I.auth):=.agg (.cons (.int _ _) (.cons h.a2.nv .nil))
def anO{I:InF}{n:Nat}(h:I.ok n):(∀O r,asb O r I.v=some (I.v,[])):=by
 rcases h.v with h|⟨p,e,_⟩
 ·exact h.nf
 ·intro O r;rw[e];rfl
def Vu{n:Nat}{rs:List XR}{e:As}{Y:St}{vs:LA}(h:aY e Y rs=some vs)(h2:NVs vs):xu n rs (some (.ret,e,Y))=some (bD vs,tidy n vs Y):=by
 rw[uD,h];dsimp only;rw[h2.hand]
def EO{n:Nat}{rs:List XR}{e:As}{Y O3:St}{vs vs':LA}(h:aY e Y rs=some vs)(h2:hand false vs Y=some (vs',O3)):xu n rs (some (.ret,e,Y))=some (bD vs',tidy n vs' O3):=by
 rw[uD,h];dsimp only;rw[h2]
section
variable{O:St}{I:InF}
def Yy (H:Po C) (hσ:Ok O) (hI:I.ok O.length) (hp:sS I.ph) (hv:I.v.flat=true/\I.v.cells=[I.v]) (t:Iq C O I):
  ai C yO [I.v,.agg I.pin,.agg I.auth,I.ks,.int .i64 I.now,.str I.data,.int .i64 I.size] O=some (.tup [.agg (if t.c=0 then t.T else zTn),.int .u8 t.c],O):=by
 have lB:(O++XN I).length=O.length+3:=by simp[XN]
 have okB:Ok (O++XN I):=hσ.plus (by simp only[XN,a88,aw1,AO.below,aos hI,am7 hI,aw6];rfl)
 obtain⟨r,S'',R,hr,F',T',hS,hT⟩:=aii H okB (by omega) (fun F T G=>aiG _ F T G) hI t
 have hn:hand false [I.v,.agg I.pin,.agg I.auth,I.ks,.int .i64 I.now,.str I.data,.int .i64 I.size] O=some ([I.v,.agg I.pin,.agg I.auth,I.ks,.int .i64 I.now,.str I.data,.int .i64 I.size],O):=by
  have n1:=anO hI;have n2:=(aot hp.nv).nf;have n3:=(aor hI).nf;have n4:=hI.ks.nv.nf;show(match df O 12 [I.v,.agg I.pin,.agg I.auth,I.ks,.int .i64 I.now,.str I.data,.int .i64 I.size]with|some (l,fs)=>some (l,freeze O fs)|none=>none)=_
  rw[show df O 12 [I.v,.agg I.pin,.agg I.auth,I.ks,.int .i64 I.now,.str I.data,.int .i64 I.size]=aT O (df O 11) [I.v,.agg I.pin,.agg I.auth,I.ks,.int .i64 I.now,.str I.data,.int .i64 I.size]from rfl];simp only[aT,n1,n2,n3,n4];rfl
 rw[H.role.go hn];have ok0:Ok (QS (O++XN I) I.F zT):=MP okB (Vk hI (by omega)) rfl
 have R':=R;rw[<-fC (O++XN I) I.F zT]at R';have first:=Jg H.first R' ok0 (by simp[XT]) (by
  intro x hx;simp only[XT,au9,az4,or_false]at hx;rcases hx with rfl|rfl|rfl|rfl|rfl|rfl|rfl|rfl|rfl|rfl<;>first|exact aoa .. |exact ag4 ..)
 rw[hS]at first
 rw[lB]at first
 rw[show(XT (O.length+3) (O.length+3+1) (O.length+3+2)).length=10 from rfl]at first
 have go:∀F T,QS (O++XN I) F T=O++[.cells I.pin FZ,.cells I.auth FZ,.cells zT FZ,.cells F.cs FZ,.cells [.ref (O.length+3) 0] FZ,.cells T FZ]:=fun F T=>by
  unfold QS;rw[lB,au2];rfl
 rw[go,go]at first
 simp only[XT,mt,ajc,T3.cs,ay1,aC2,a99,au3,au6,aB9,Nat.reduceAdd]at first
 have ty:=fun(vs:LA) (h:ae 0 vs=true) L=>dE hσ (vs:=vs) h L;obtain⟨vf,vc⟩:=hv;obtain⟨⟨k1,k2,_⟩,_⟩:=hI.a2;obtain⟨⟨k3,k4,_⟩,_⟩:=hI.ks;obtain⟨⟨k5,k6,_⟩,_⟩:=hp;rw[<-hr];obtain⟨⟨a2,b2,c2⟩,_⟩:=t.h2;obtain⟨⟨a3,b3,c3⟩,_⟩:=t.h3;obtain⟨⟨a4,b4,c4⟩,_⟩:=t.h4;obtain⟨⟨a5,b5,c5⟩,_⟩:=t.h5;obtain⟨⟨a6,b6,c6⟩,_⟩:=t.h6;obtain⟨⟨a7,b7,c7⟩,_⟩:=t.h7;obtain⟨⟨a8,b8,c8⟩,_⟩:=t.h8;have tb:=t.T_b;have tn:NVs t.T:=.cons (.int _ _) (.cons (.int _ _) (.cons c2 (.cons c3 (.cons c4 (.cons c5 (.cons c6 (.cons c7 (.cons c8 .nil))))))));by_cases hc:r=0
 ·rw[if_pos hc];have hT:=hT hc;subst hT;have body:dL C (ai C) jw.ntmps jw.body (jF 0 [I.v,.agg I.pin,.agg I.auth,I.ks,.int .i64 I.now,.str I.data,.int .i64 I.size]) O=some (.ret,[(14,.ref (O.length+2) 0),(15,.int .u8 0)],O++[.cells I.pin FZ,.cells I.auth FZ,.cells t.T FZ,.cells F'.cs FZ,.cells [.ref (O.length+3) 0] FZ,.cells t.T FZ]):=by
   subst hc;unfold InF.F fK.cs InF.pin InF.auth zT Iq.T at*;simp only[jw,first,vc,k4,a2,a3,a4,a5,a6,a7,a8,splice,aQ,EVX,seval]
  have res:aY [(14,.ref (O.length+2) 0),(15,.int .u8 0)] (O++[.cells I.pin FZ,.cells I.auth FZ,.cells t.T FZ,.cells F'.cs FZ,.cells [.ref (O.length+3) 0] FZ,.cells t.T FZ]) jw.results=some [.agg t.T,.int .u8 0]:=by
   unfold Iq.T;simp only[jw,aY,dM,EVX,seval]
  rw[body,Vu res (.cons (.agg tn) (.cons (.int _ _) .nil)),ty _ (by rw[ae,below,tb];rfl),hc]
  rfl
 ·rw[if_neg hc];have hc':(r !=0)=true:=by rw[bne_iff_ne];exact hc
  have body:dL C (ai C) jw.ntmps jw.body (jF 0 [I.v,.agg I.pin,.agg I.auth,I.ks,.int .i64 I.now,.str I.data,.int .i64 I.size]) O=some (.ret,[(14,.ref (O.length+2) 0),(15,.int .u8 r)],O++[.cells I.pin FZ,.cells I.auth FZ,.cells zT FZ,.cells F'.cs FZ,.cells [.ref (O.length+3) 0] FZ,.cells T' FZ]):=by
   unfold InF.F fK.cs InF.pin InF.auth zT at*;simp only[jw,first,hc',vc,k4,splice,aQ,EVX,seval]
  have res:aY [(14,.ref (O.length+2) 0),(15,.int .u8 r)] (O++[.cells I.pin FZ,.cells I.auth FZ,.cells zT FZ,.cells F'.cs FZ,.cells [.ref (O.length+3) 0] FZ,.cells T' FZ]) jw.results=some [.agg zT,.int .u8 r]:=by
   unfold zT;simp only[jw,aY,dM,EVX,seval]
  have hh:hand false [.agg zT,.int .u8 r] (O++[.cells I.pin FZ,.cells I.auth FZ,.cells zT FZ,.cells F'.cs FZ,.cells [.ref (O.length+3) 0] FZ,.cells T' FZ])=some ([.agg zTn,.int .u8 r],O++[.cells I.pin FZ,.cells I.auth FZ,.cells zT FZ,.cells F'.cs FZ,.cells [.ref (O.length+3) 0] FZ,.cells T' FZ]):=rfl;rw[body,EO res hh,ty _ rfl];rfl
def wO(I:InF)(c0 c1 c3 c4 c7 c8:AV):LA:=[c0,c1,I.ks,c3,c4,.int .i64 I.a1,I.a2,c7,c8]
def XZ(I:InF)(c0 c1 c3 c4 c7 c8:AV):St:=[.cells (wO I c0 c1 c3 c4 c7 c8) FZ,.cells zS FZ]
def P8 (H:Po C) (hσ:Ok O) (hI:I.ok O.length) (hv:I.v.flat=true/\I.v.cells=[I.v]) (hp:I.pn=[]/\I.pv=0/\I.pl= -1/\I.ph=.nils) (t:Ip C O I) {c0 c1 c3 c4 c7 c8:AV} (h0:sS c0) (h1:sS c1) (h3:sS c3) (h4:sS c4) (h7:sS c7) (h8:sS c8):
  ai C nG [I.v,.agg (wO I c0 c1 c3 c4 c7 c8),.int .i64 I.now,.str I.data,.int .i64 I.size] O=some (.tup [.agg (if t.c=0 then t.S else zSn),.int .u8 t.c],O):=by
 have rb:ae 0 (wO I c0 c1 c3 c4 c7 c8)=true:=by simp only[wO,ae,below,h0.b,h1.b,h3.b,h4.b,h7.b,h8.b,hI.ks.b,hI.a2.b,av9]
 have rn:NV (.agg (wO I c0 c1 c3 c4 c7 c8)):=.agg (.cons h0.nv (.cons h1.nv (.cons hI.ks.nv (.cons h3.nv (.cons h4.nv (.cons (.int _ _) (.cons hI.a2.nv (.cons h7.nv (.cons h8.nv .nil)))))))));have lB:(O++XZ I c0 c1 c3 c4 c7 c8).length=O.length+2:=by simp[XZ]
 have okB:Ok (O++XZ I c0 c1 c3 c4 c7 c8):=hσ.plus (by simp only[XZ,a88,aw1,AO.below,rb,aw6];rfl)
 obtain⟨r,S'',R,hr,F',T',hS,hT⟩:=ais H hp.2.2.1 okB (by omega) (fun F T G=>aiG _ F T G) hI t
 have hn:hand false [I.v,.agg (wO I c0 c1 c3 c4 c7 c8),.int .i64 I.now,.str I.data,.int .i64 I.size] O=some ([I.v,.agg (wO I c0 c1 c3 c4 c7 c8),.int .i64 I.now,.str I.data,.int .i64 I.size],O):=by
  have n1:=anO hI;have n2:=rn.nf;show(match df O 12 [I.v,.agg (wO I c0 c1 c3 c4 c7 c8),.int .i64 I.now,.str I.data,.int .i64 I.size]with|some (l,fs)=>some (l,freeze O fs)|none=>none)=_
  rw[show df O 12 [I.v,.agg (wO I c0 c1 c3 c4 c7 c8),.int .i64 I.now,.str I.data,.int .i64 I.size]=aT O (df O 11) [I.v,.agg (wO I c0 c1 c3 c4 c7 c8),.int .i64 I.now,.str I.data,.int .i64 I.size]from rfl];simp only[aT,n1,n2];rfl
 rw[H.snap.go hn];have ok0:Ok (QS (O++XZ I c0 c1 c3 c4 c7 c8) I.F zS):=MP okB (Vk hI (by omega)) rfl
 have R':=R;rw[<-fC (O++XZ I c0 c1 c3 c4 c7 c8) I.F zS]at R';have first:=Jg H.first R' ok0 (by simp[X0]) (by
  intro x hx;simp only[X0,au9,az4,or_false]at hx;rcases hx with rfl|rfl|rfl|rfl|rfl|rfl|rfl<;>first|exact aoa .. |exact ag4 ..)
 rw[hS]at first
 rw[lB]at first
 rw[show(X0 (O.length+2) (O.length+2+1) (O.length+2+2)).length=7 from rfl]at first
 have go:∀F T,QS (O++XZ I c0 c1 c3 c4 c7 c8) F T=O++[.cells (wO I c0 c1 c3 c4 c7 c8) FZ,.cells zS FZ,.cells F.cs FZ,.cells [.ref (O.length+2) 0] FZ,.cells T FZ]:=fun F T=>by
  unfold QS;rw[lB,au2];rfl
 rw[go,go]at first
 simp only[X0,mt,ajc,T3.cs,ay1,aC2,a99,au3,au6,aB9,Nat.reduceAdd]at first
 have ty:=fun(vs:LA) (h:ae 0 vs=true) L=>dE hσ (vs:=vs) h L;obtain⟨vf,vc⟩:=hv;obtain⟨p1,p2,p3,p4⟩:=hp;obtain⟨⟨k1,k2,_⟩,_⟩:=hI.a2;obtain⟨⟨k3,k4,_⟩,_⟩:=hI.ks;obtain⟨⟨f0,g0,_⟩,_⟩:=h0;obtain⟨⟨f1,g1,_⟩,_⟩:=h1;obtain⟨⟨f3,g3,_⟩,_⟩:=h3;obtain⟨⟨f4,g4,_⟩,_⟩:=h4;obtain⟨⟨f7,g7,_⟩,_⟩:=h7;obtain⟨⟨f8,g8,_⟩,_⟩:=h8;rw[<-hr];obtain⟨⟨a2,b2,c2⟩,_⟩:=t.h2;have tb:=t.S_b;have tn:NVs t.S:=.cons (.int _ _) (.cons (.int _ _) (.cons c2 .nil));by_cases hc:r=0
 ·rw[if_pos hc];have hT:=hT hc;subst hT;have body:dL C (ai C) dY.ntmps dY.body (jF 0 [I.v,.agg (wO I c0 c1 c3 c4 c7 c8),.int .i64 I.now,.str I.data,.int .i64 I.size]) O=some (.ret,[(10,.ref (O.length+1) 0),(11,.int .u8 0)],O++[.cells (wO I c0 c1 c3 c4 c7 c8) FZ,.cells t.S FZ,.cells F'.cs FZ,.cells [.ref (O.length+2) 0] FZ,.cells t.S FZ]):=by
   subst hc;unfold InF.F fK.cs wO zS Ip.S at*;simp only[dY,p1,p2,p3,p4]at first⊢
   simp only[first,vc,k2,k4,a2,splice,aQ,EVX,seval]
  have res:aY [(10,.ref (O.length+1) 0),(11,.int .u8 0)] (O++[.cells (wO I c0 c1 c3 c4 c7 c8) FZ,.cells t.S FZ,.cells F'.cs FZ,.cells [.ref (O.length+2) 0] FZ,.cells t.S FZ]) dY.results=some [.agg t.S,.int .u8 0]:=by
   unfold Ip.S;simp only[dY,aY,dM,EVX,seval]
  rw[body,Vu res (.cons (.agg tn) (.cons (.int _ _) .nil)),ty _ (by rw[ae,below,tb];rfl),hc]
  rfl
 ·rw[if_neg hc];have hc':(r !=0)=true:=by rw[bne_iff_ne];exact hc
  have body:dL C (ai C) dY.ntmps dY.body (jF 0 [I.v,.agg (wO I c0 c1 c3 c4 c7 c8),.int .i64 I.now,.str I.data,.int .i64 I.size]) O=some (.ret,[(10,.ref (O.length+1) 0),(11,.int .u8 r)],O++[.cells (wO I c0 c1 c3 c4 c7 c8) FZ,.cells zS FZ,.cells F'.cs FZ,.cells [.ref (O.length+2) 0] FZ,.cells T' FZ]):=by
   unfold InF.F fK.cs wO zS at*;simp only[dY,p1,p2,p3,p4]at first⊢
   simp only[first,hc',vc,k2,k4,splice,aQ,EVX,seval]
  have res:aY [(10,.ref (O.length+1) 0),(11,.int .u8 r)] (O++[.cells (wO I c0 c1 c3 c4 c7 c8) FZ,.cells zS FZ,.cells F'.cs FZ,.cells [.ref (O.length+2) 0] FZ,.cells T' FZ]) dY.results=some [.agg zS,.int .u8 r]:=by
   unfold zS;simp only[dY,aY,dM,EVX,seval]
  have hh:hand false [.agg zS,.int .u8 r] (O++[.cells (wO I c0 c1 c3 c4 c7 c8) FZ,.cells zS FZ,.cells F'.cs FZ,.cells [.ref (O.length+2) 0] FZ,.cells T' FZ])=some ([.agg zSn,.int .u8 r],O++[.cells (wO I c0 c1 c3 c4 c7 c8) FZ,.cells zS FZ,.cells F'.cs FZ,.cells [.ref (O.length+2) 0] FZ,.cells T' FZ]):=rfl;rw[body,EO res hh,ty _ rfl];rfl
end
variable{V:Val}
def Ee{r:LA}(h:Ms V [] r):r=[]:=by cases h;rfl
def abq{s:Sh}{t:List Sh}{r:LA}(h:Ms V (s::t) r)(h1:s.one=true):∃v b,r=v::b/\M V s v/\Ms V t b:=by
 cases h with
 |one _ _ v b _ h3 h4=>exact⟨v,b,rfl,h3,h4⟩
 |jv=>cases h1
 |jg=>cases h1
def Aj{t:List Sh}{r:LA}(h:Ms V (.strb::t) r):∃s b,r=.str s::b/\s.length<=LB/\Ms V t b:=by
 obtain⟨v,b,rfl,h3,h4⟩:=abq h rfl;cases h3 with
 |strb s hs=>exact⟨s,b,rfl,hs,h4⟩
def xE{k:IntKind}{t:List Sh}{r:LA}(h:Ms V (.int k::t) r):∃n b,r=.int k n::b/\Ms V t b:=by
 obtain⟨v,b,rfl,h3,h4⟩:=abq h rfl;cases h3 with
 |int k n=>exact⟨n,b,rfl,h4⟩
def amX{t:List Sh}{r:LA}(h:Ms V (.bool::t) r):∃n b,r=.bool n::b/\Ms V t b:=by
 obtain⟨v,b,rfl,h3,h4⟩:=abq h rfl;cases h3 with
 |bool n=>exact⟨n,b,rfl,h4⟩
def ao9{t:List Sh}{r:LA}(h:Ms V (.jv::t) r):∃(j:JV) (b:LA),r=j.cs++b/\Ms V t b:=by
 cases h with
 |one _ _ _ _ h1=>cases h1
 |jv _ j b h=>exact⟨j,b,rfl,h⟩
def agE{α:Type}{e:List Sh}{f:α->LA}{P:α->Prop}(h:∀r,Ms V e r->∃x,r=f x/\P x):∀{rs:List LA},MRs V e rs->∃xs:List α,rs=xs.map f/\∀x∈xs,P x
 |_,.nil _=>⟨[],rfl,fun x hx=>by cases hx⟩
 |_,.cons _ r rs hr hrs=>by
  obtain⟨x,rfl,px⟩:=h r hr;obtain⟨xs,rfl,pxs⟩:=agE h hrs;exact⟨x::xs,rfl,fun y hy=>by
   rcases au9.mp hy with rfl|hy
   ·exact px
   ·exact pxs y hy⟩
def ar4{α:Type}{e:List Sh}{f:α->LA}{P:α->Prop}(h:∀r,Ms V e r->∃x,r=f x/\P x){v:AV}(hm:M V (.slx e) v):∃xs:List α,v=.sl xs.length (xs.flatMap f)/\xs.length<=8192/\∀x∈xs,P x:=by
 cases hm with
 |slx _ rs hl hr=>
  obtain⟨xs,rfl,px⟩:=agE h hr;rw[aw8]at hl⊢;exact⟨xs,by rw[List.flatMap],hl,px⟩
def xG{α:Type}{e:List Sh}{f:α->LA}{P:α->Prop}(h:∀r,Ms V e r->∃x,r=f x/\P x){t:List Sh}{r:LA}(hm:Ms V (.slx e::t) r):∃(xs:List α) (b:LA),r=.sl xs.length (xs.flatMap f)::b/\xs.length<=8192/\(∀x∈xs,P x)/\Ms V t b:=by
 obtain⟨v,b,rfl,h3,h4⟩:=abq hm rfl;obtain⟨xs,rfl,h5,h6⟩:=ar4 h h3;exact⟨xs,b,rfl,h5,h6,h4⟩
def agt(r:LA)(h:Ms V [.strb] r):∃s,r=sC s/\True:=by
 obtain⟨s,b,rfl,_,h1⟩:=Aj h;rw[Ee h1];exact⟨s,rfl,trivial⟩
def ajV(r:LA)(h:Ms V [.strb,.strb] r):∃s,r=pC s/\True:=by
 obtain⟨s,b,rfl,_,h1⟩:=Aj h;obtain⟨u,b,rfl,_,h2⟩:=Aj h1;rw[Ee h2];exact⟨(s,u),rfl,trivial⟩
def aqT(r:LA)(h:Ms V [.strb,.int .i64,.slx [.strb,.strb],.jv] r):∃t,r=TgV.cs t/\t.hs.length<=1099511627776:=by
 obtain⟨s,b,rfl,_,h1⟩:=Aj h;obtain⟨n,b,rfl,h2⟩:=xE h1;obtain⟨hs,b,rfl,hl,_,h3⟩:=xG ajV h2;obtain⟨j,b,rfl,h4⟩:=ao9 h3;rw[Ee h4,au6];exact⟨⟨s,n,hs,j⟩,rfl,show hs.length<=_ by omega⟩
def aqS(r:LA)(h:Ms V [.strb,.int .i64,.slx [.strb],.bool,.slx [.strb],.slx [.strb]] r):∃t,r=RoV.cs t/\t.ok:=by
 obtain⟨s,b,rfl,_,h1⟩:=Aj h;obtain⟨n,b,rfl,h2⟩:=xE h1;obtain⟨a1,b,rfl,l1,_,h3⟩:=xG agt h2;obtain⟨te,b,rfl,h4⟩:=amX h3;obtain⟨a2,b,rfl,l2,_,h5⟩:=xG agt h4;obtain⟨a3,b,rfl,l3,_,h6⟩:=xG agt h5;rw[Ee h6];exact⟨⟨s,n,a1,te,a2,a3⟩,rfl,⟨show a1.length<=_ by omega,show a2.length<=_ by omega,show a3.length<=_ by omega⟩⟩
def aqe:Sh:=.agg [.int .i64,.int .i64,.slx [.strb,.int .i64,.slx [.strb,.strb],.jv],.slx [.strb,.strb],.slx [.strb,.int .i64,.slx [.strb],.bool,.slx [.strb],.slx [.strb]],.int .i64,.slx [.strb],.int .i64,.strb]
def ajZ{v:AV}(h:M V aqe v):∃t:kG,v=.agg t.cs/\t.ok:=by
 cases h with
 |agg _ v h=>
  obtain⟨a,b,rfl,h1⟩:=xE h;obtain⟨e,b,rfl,h2⟩:=xE h1;obtain⟨l,b,rfl,l1,q1,h3⟩:=xG aqT h2;obtain⟨k,b,rfl,l2,_,h4⟩:=xG ajV h3;obtain⟨r,b,rfl,l3,q3,h5⟩:=xG aqS h4;obtain⟨th,b,rfl,h6⟩:=xE h5;obtain⟨i,b,rfl,l4,_,h7⟩:=xG agt h6;obtain⟨n,b,rfl,h8⟩:=xE h7;obtain⟨p,b,rfl,_,h9⟩:=Aj h8;rw[Ee h9];exact⟨⟨a,e,l,⟨k,r,th,i,n,p⟩⟩,rfl,⟨show l.length<=_ by omega,q1,⟨show k.length<=_ by omega,show r.length<=_ by omega,q3,show i.length<=_ by omega⟩⟩⟩
def acH:Sh:=.agg [.jv,.slx [.strb,.strb]]
def abg{v:AV}(h:M V acH v):∃(j:JV) (l:List PS),v=.agg (j.cs++[.sl l.length (l.flatMap pC)])/\l.length<=8192:=by
 cases h with
 |agg _ v h=>
  obtain⟨j,b,rfl,h1⟩:=ao9 h;obtain⟨l,b,rfl,l1,_,h2⟩:=xG ajV h1;rw[Ee h2];exact⟨j,l,rfl,l1⟩
def apg{v:AV}(h:M V .jv v):∃j:JV,v=j.av:=by
 cases h with
 |jv j=>exact⟨j,rfl⟩
def amO{v:AV}(h:M V .strb v):∃s:LU,v=.str s:=by
 cases h with
 |strb s _=>exact⟨s,rfl⟩
def aqR{v:AV}(h:M V .bool v):∃b:Bool,v=.bool b:=by
 cases h with
 |bool b=>exact⟨b,rfl⟩
def acX{s:Sh}{k:IntKind}{v:AV}(h:M V (.tup [s,.int k]) v):∃x n,v=.tup [x,.int k n]/\M V s x:=by
 cases h with
 |tup _ _ h=>
  cases h with
  |cons _ _ x b h1 h2=>
   cases h2 with
   |cons _ _ y b h3 h4=>
    cases h4;cases h3 with
    |int k n=>exact⟨x,n,rfl,h1⟩
def aqQ{s:Sh}{k k':IntKind}{v:AV}(h:M V (.tup [s,.int k,.int k']) v):∃x n m,v=.tup [x,.int k n,.int k' m]/\M V s x:=by
 cases h with
 |tup _ _ h=>
  cases h with
  |cons _ _ x b h1 h2=>
   cases h2 with
   |cons _ _ y b h3 h4=>
    cases h4 with
    |cons _ _ z b h5 h6=>
    cases h6;cases h3 with
    |int k n=>cases h5 with
     |int k' m=>exact⟨x,n,m,rfl,h1⟩
def agD{α:Type}{e:List Sh}{f:α->LA}:∀(l:List α),(∀x∈l,Ms V e (f x))->MRs V e (l.map f)
 |[],_=>.nil _
 |x::l,h=>.cons _ _ _ (h x (by simp)) (agD l fun y hy=>h y (by simp[hy]))
def af5{α:Type}{e:List Sh}{f:α->LA}(l:List α)(h:∀x∈l,Ms V e (f x))(hl:l.length<=8192):M V (.slx e) (.sl l.length (l.flatMap f)):=by
 have:=M.slx e (l.map f) (by rw[aw8];exact hl) (agD l h)
 rwa[aw8,<-List.flatMap]at this
def uN(n:Nat){l:LA}(h:NV (.sl n l)):sS (.sl n l):=⟨⟨rfl,rfl,h⟩,h.cl⟩
def Fa(k:IntKind)(n:Int):sS (.int k n):=⟨⟨rfl,rfl,.int _ _⟩,rfl⟩
def agJ(s:LU):sS (.str s):=⟨⟨rfl,rfl,.str _⟩,rfl⟩
def JV.ones(j:JV):∃a b c d e,j.cs=[a,b,c,d,e]/\sS a/\sS b/\sS c/\sS d/\sS e:=by
 have h1:=j.nvs;have h2:=j.bel;obtain⟨k,n,t,ns,is,a1,a3,a2,a4,rfl⟩:=j.ex;rw[JV.mk_cs]at*;refine⟨_,_,_,_,_,rfl,Fa _ _,Fa _ _,agJ _,uN _ (h1 _ (by simp)),uN _ (h1 _ (by simp))⟩
def xM(l:List LU):Prop:=l.length<=8192/\∀s∈l,s.length<=LB
def zC(hs:List PS):Prop:=hs.length<=8192/\∀x∈hs,x.1.length<=LB/\x.2.length<=LB
end Go.Ev
namespace Go.Ev
set_option maxRecDepth 100000
variable{C:Ctx}
def aba(hC:Has C cZ bK)(a b:LU)(ha:a.length<=LB)(hb:b.length<=LB)(O:St)(hσ:Ok O):∃q:Bool,ai C cZ [.str a,.str b] O=some (.bool q,O)/\(q=true->b.length<=a.length):=by
 simp only[LB]at ha hb;rw[hC.go (NVs.hand (.cons (.str _) (.cons (.str _) .nil)) _)];by_cases h:b.length<=a.length
 ·have h1:((a.length:Int)>=(b.length:Int)):=by omega
  have h2:IntKind.i64.wrap ((a.length:Int)-b.length)=((a.length-b.length:Nat):Int):=wrE (by omega)
  have h3:(0:Int)<=((a.length-b.length:Nat):Int):=by omega
  have h4:a.length-b.length<=a.length/\a.length<=a.length:=by omega
  refine⟨decide (a.drop (a.length-b.length)=b),?_,fun _=>h⟩;simp only[bK,h1,h2,h3,h4,aD6,aaO,au8,Option.map_none,a81,and_self,aS,EVX,seval]
 ·have h1:¬((a.length:Int)>=(b.length:Int)):=by omega
  refine⟨false,?_,fun hf=>by cases hf⟩
  simp only[bK,h1,aS,EVX,seval]
def aaV(hC:Has C bz cu)(hS:Has C cZ bK)(a b:LU)(ha:a.length<=LB)(hb:b.length<=LB)(O:St)(hσ:Ok O):∃(t:LU) (q:Bool),ai C bz [.str a,.str b] O=some (.tup [.str t,.bool q],O)/\t.length<=LB:=by
 obtain⟨q,e,hq⟩:=aba hS a b ha hb O hσ;rw[hC.go (NVs.hand (.cons (.str _) (.cons (.str _) .nil)) _)];cases q with
 |false=>
  refine⟨a,false,?_,ha⟩;simp only[cu,e,aS,EVX,seval]
 |true=>
  have h:=hq rfl;have ha':=ha;simp only[LB]at ha' hb;have h2:IntKind.i64.wrap ((a.length:Int)-b.length)=((a.length-b.length:Nat):Int):=wrE (by omega)
  have h3:(0:Int)<=((a.length-b.length:Nat):Int):=by omega
  have h4:a.length-b.length<=a.length:=by omega
  refine⟨(a.take (a.length-b.length)).drop 0,true,?_,by simp;omega⟩
  simp only[cu,e,h2,h3,h4,a98,au8,Option.map_none,a81,and_self,aS,EVX,seval]
def abO(PK:PkI)(hC:Has C bz cu)(hS:Has C cZ bK):gu C PK bz (.pure [.strb,.strb] (.tup [.strb,.bool])):=
 vI hC rfl fun xs hm=>by
  obtain⟨x,y,rfl,h1,h2⟩:=ahP hm;obtain⟨a,rfl,ha⟩:=xC h1;obtain⟨b,rfl,hb⟩:=xC h2;intro O hσ;obtain⟨t,q,h,ht⟩:=aaV hC hS a b ha hb O hσ;exact⟨_,h,.tup _ _ (.cons _ _ _ _ (.strb t ht) (.cons _ _ _ _ (.bool q) .nil))⟩
end Go.Ev
