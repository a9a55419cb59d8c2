/- Code of functions as the evaluator has it, and what some of them compute. No conditions. -/
import Derived.Test.YtpphohnabmlhpaaGreatDoorCB
import Derived.Test.YtpphohnabmlhpaaGreatDoorEC
set_option linter.unusedVariables false
set_option linter.unusedSimpArgs false
namespace Go.Ev
set_option maxRecDepth 100000
variable{C:Ctx}
def dC(b:UInt8):Bool:=(decide (48<=b.toNat)&&decide (b.toNat<=57))||b.toNat==45||b.toNat==43||b.toNat==46||b.toNat==101||b.toNat==69
theorem GX (s:LU) (hs:s.length<9223372036854775807) (a:Int) (O:St):∀(n i:Nat),i+n=s.length->
  aA C (ai C) 61 [0,1,7] bG [(0,.str s),(1,.int .i64 a),(7,.int .i64 i)] O=some (.exit 0,[(0,.str s),(1,.int .i64 a),(7,.int .i64 (runN dC s i))],O)
 |0,i,hi=>by
  rw[aG (he:=rfl)];have h:¬((i:Int)<(s.length:Int)):=by omega
  have h':=KI dC s i (by omega)
  simp only[bG,h,h',EVX,seval]
 |n+1,i,hi=>by
  rw[aG (he:=rfl)];generalize hk:aA C (ai C) 61 [0,1,7] bG=k;have h:((i:Int)<(s.length:Int)):=by omega
  have h2:i<s.length:=by omega
  have hb:s[i]?=some s[i]:=List.getElem?_eq_getElem h2;have hw:IntKind.i64.wrap ((i:Int)+1)=((i+1:Nat):Int):=by rw[w64]<;>omega
  have h3:(0:Int)<=i:=by omega
  have ih:=GX s hs a O n (i+1) (by omega)
  rw[hk]at ih;cases c0:((s[i].toNat:Int)==48)
  case true=>
   have hx:dC s[i]=true:=by
    simp only[beq_iff_eq]at c0;simp[dC];omega
   simp only[bG,h,h3,hb,hw,c0,fU dC s i h2 hx,ih,EVX,seval]
  cases c1:((s[i].toNat:Int)==49)
  case true=>
   have hx:dC s[i]=true:=by
    simp only[beq_iff_eq]at c1;simp[dC];omega
   simp only[bG,h,h3,hb,hw,c0,c1,fU dC s i h2 hx,ih,EVX,seval]
  cases c2:((s[i].toNat:Int)==50)
  case true=>
   have hx:dC s[i]=true:=by
    simp only[beq_iff_eq]at c2;simp[dC];omega
   simp only[bG,h,h3,hb,hw,c0,c1,c2,fU dC s i h2 hx,ih,EVX,seval]
  cases c3:((s[i].toNat:Int)==51)
  case true=>
   have hx:dC s[i]=true:=by
    simp only[beq_iff_eq]at c3;simp[dC];omega
   simp only[bG,h,h3,hb,hw,c0,c1,c2,c3,fU dC s i h2 hx,ih,EVX,seval]
  cases c4:((s[i].toNat:Int)==52)
  case true=>
   have hx:dC s[i]=true:=by
    simp only[beq_iff_eq]at c4;simp[dC];omega
   simp only[bG,h,h3,hb,hw,c0,c1,c2,c3,c4,fU dC s i h2 hx,ih,EVX,seval]
  cases c5:((s[i].toNat:Int)==53)
  case true=>
   have hx:dC s[i]=true:=by
    simp only[beq_iff_eq]at c5;simp[dC];omega
   simp only[bG,h,h3,hb,hw,c0,c1,c2,c3,c4,c5,fU dC s i h2 hx,ih,EVX,seval]
  cases c6:((s[i].toNat:Int)==54)
  case true=>
   have hx:dC s[i]=true:=by
    simp only[beq_iff_eq]at c6;simp[dC];omega
   simp only[bG,h,h3,hb,hw,c0,c1,c2,c3,c4,c5,c6,fU dC s i h2 hx,ih,EVX,seval]
  cases c7:((s[i].toNat:Int)==55)
  case true=>
   have hx:dC s[i]=true:=by
    simp only[beq_iff_eq]at c7;simp[dC];omega
   simp only[bG,h,h3,hb,hw,c0,c1,c2,c3,c4,c5,c6,c7,fU dC s i h2 hx,ih,EVX,seval]
  cases c8:((s[i].toNat:Int)==56)
  case true=>
   have hx:dC s[i]=true:=by
    simp only[beq_iff_eq]at c8;simp[dC];omega
   simp only[bG,h,h3,hb,hw,c0,c1,c2,c3,c4,c5,c6,c7,c8,fU dC s i h2 hx,ih,EVX,seval]
  cases c9:((s[i].toNat:Int)==57)
  case true=>
   have hx:dC s[i]=true:=by
    simp only[beq_iff_eq]at c9;simp[dC];omega
   simp only[bG,h,h3,hb,hw,c0,c1,c2,c3,c4,c5,c6,c7,c8,c9,fU dC s i h2 hx,ih,EVX,seval]
  cases c10:((s[i].toNat:Int)==45)
  case true=>
   have hx:dC s[i]=true:=by
    simp only[beq_iff_eq]at c10;simp[dC];omega
   simp only[bG,h,h3,hb,hw,c0,c1,c2,c3,c4,c5,c6,c7,c8,c9,c10,fU dC s i h2 hx,ih,EVX,seval]
  cases c11:((s[i].toNat:Int)==43)
  case true=>
   have hx:dC s[i]=true:=by
    simp only[beq_iff_eq]at c11;simp[dC];omega
   simp only[bG,h,h3,hb,hw,c0,c1,c2,c3,c4,c5,c6,c7,c8,c9,c10,c11,fU dC s i h2 hx,ih,EVX,seval]
  cases c12:((s[i].toNat:Int)==46)
  case true=>
   have hx:dC s[i]=true:=by
    simp only[beq_iff_eq]at c12;simp[dC];omega
   simp only[bG,h,h3,hb,hw,c0,c1,c2,c3,c4,c5,c6,c7,c8,c9,c10,c11,c12,fU dC s i h2 hx,ih,EVX,seval]
  cases c13:((s[i].toNat:Int)==101)
  case true=>
   have hx:dC s[i]=true:=by
    simp only[beq_iff_eq]at c13;simp[dC];omega
   simp only[bG,h,h3,hb,hw,c0,c1,c2,c3,c4,c5,c6,c7,c8,c9,c10,c11,c12,c13,fU dC s i h2 hx,ih,EVX,seval]
  cases c14:((s[i].toNat:Int)==69)
  case true=>
   have hx:dC s[i]=true:=by
    simp only[beq_iff_eq]at c14;simp[dC];omega
   simp only[bG,h,h3,hb,hw,c0,c1,c2,c3,c4,c5,c6,c7,c8,c9,c10,c11,c12,c13,c14,fU dC s i h2 hx,ih,EVX,seval]
  have hx:dC s[i]=false:=by
   simp only[beq_eq_false_iff_ne,ne_eq]at c0 c1 c2 c3 c4 c5 c6 c7 c8 c9 c10 c11 c12 c13 c14;simp[dC];omega
  simp only[bG,h,h3,hb,c0,c1,c2,c3,c4,c5,c6,c7,c8,c9,c10,c11,c12,c13,c14,KJ dC s i h2 hx,EVX,seval]
def abH(C:Ctx):Prop:=∀(s:LU) (Y:St),s.length<1099511627777->Ok Y->∃(n:Int) (v:AV),ai C y7 [.str s,.int .i64 10,.int .i64 64] Y=some (.tup [.int .i64 n,v],Y)/\(v=.nilIface\/∃t x,v=.iface t x)
theorem ahx(hC:Has C Ia yK)(hf:Has C BP gp)(hp:abH C)(s:LU)(hs:s.length<1099511627777)(i:Nat)(hi:i<=s.length)(O:St)(hσ:Ok O):∃n z e:Int,ai C Ia [.str s,.int .i64 i] O=some (.tup [.int .i64 n,.int .i64 z,.int .i64 e],O)/\0<=z:=by
 have lp:=GX (C:=C) s (by omega) i O (s.length-i) i (by omega)
 have ty:=fun a b c=>aY O [.int .i64 a,.int .i64 b,.int .i64 c];have he:runN dC s i<=s.length:=W9 dC s i hi;have hg:=adf dC s i;have h0:¬((i:Int)<0):=by omega
 have h':¬((s.length:Int)<(i:Int)):=by omega
 have h1:(0:Int)<=i:=by omega
 have h2:(0:Int)<=(runN dC s i:Nat):=by omega
 rw[hC.go (NVs.hand (.cons (.str _) (.cons (.int _ _) .nil)) _) (by simp[yK])]
 generalize runN dC s i=z at*;have wl:((s.take z).drop i).length<1099511627777:=by simp;omega
 generalize hx:(s.take z).drop i=w at*;obtain⟨b,q1⟩:=aaW hf w (by omega) O
 obtain⟨n,v,q2,hv⟩:=hp w O wl hσ;cases b
 ·exact⟨0,0,3,by simp only[yK,lp,h0,h',h1,h2,he,hg,hx,q1,ty,EVX,seval],by omega⟩
 ·rcases hv with rfl|⟨t,x,rfl⟩
  ·exact⟨n,z,0,by simp only[yK,lp,h0,h',h1,h2,he,hg,hx,q1,q2,ty,EVX,seval],h2⟩
  ·exact⟨0,0,9,by simp only[yK,lp,h0,h',h1,h2,he,hg,hx,q1,q2,ty,EVX,seval],by omega⟩
theorem ab9(hC:Has C BQ o8)(b:UInt8)(O:St):ai C BQ [.int .u8 b.toNat] O=some (.bool (vC b),O):=by
 rw[hC.go (NVs.hand (.cons (.int _ _) .nil) _) (by simp[o8])]
 have hx:vC b=(((b.toNat:Int)==32)||((b.toNat:Int)==9)||((b.toNat:Int)==10)||((b.toNat:Int)==13)):=by
  rw[Bool.eq_iff_iff];simp[vC];omega
 rw[hx];cases c1:((b.toNat:Int)==32)
 ·cases c2:((b.toNat:Int)==9)
  ·cases c3:((b.toNat:Int)==10)
   ·cases c4:((b.toNat:Int)==13)<;>simp only[o8,c1,c2,c3,c4,EVX,seval]
   ·simp only[o8,c1,c2,c3,Bool.or_true,Bool.true_or,EVX,seval]
  ·simp only[o8,c1,c2,Bool.or_true,Bool.true_or,EVX,seval]
 ·simp only[o8,c1,Bool.true_or,EVX,seval]
structure RV where
 place:Int
 k:Int
 a:Int
 z:Int
 n:Int
 t:BS
 after:Int
 count:Int
 depth:Int
def RV.cs(s:LU)(r:RV):LA:=[.str s,.int .i64 r.place,.int .u8 r.k,.int .i64 r.a,.int .i64 r.z,.int .i64 r.n,.str r.t.1,.int .i64 r.after,.int .i64 r.count,.int .i64 r.depth]
def RV.o(s:LU)(r:RV):AO:=.cells (r.cs s) ⟨false,none⟩
theorem RV.below(s:LU)(r:RV):(r.o s).below 0=true:=rfl
theorem Ok.set{O:St}(h:Ok O)(o:Nat){x:AO}(hx:x.below 0=true):Ok (O.set o x):=by
 unfold Ok at*;rw[List.length_set];rw[List.all_eq_true]at*;intro y hy;rcases List.mem_or_eq_of_mem_set hy with hy|rfl
 ·exact h y hy
 ·exact AO.below_mono (Nat.zero_le _) _ hx
theorem RU(O:St)(o:Nat)(x:AO)(L:St)(k:Nat):(O.set o x++L)[O.length+k]?=L[k]?:=by
 rw[List.getElem?_append_right (by simp)]
 simp
theorem jF(O:St)(o:Nat)(x:AO)(L:St):(O.set o x++L)[O.length]?=L[0]?:=RU O o x L 0
theorem RY(O:St)(o:Nat)(x y:AO)(L:St)(k:Nat):(O.set o x++L).set (O.length+k) y=O.set o x++L.set k y:=by
 rw[List.set_append_right _ _ (by simp)]
 simp
theorem sJ(O:St)(o:Nat)(x y:AO)(L:St):(O.set o x++L).set O.length y=O.set o x++L.set 0 y:=RY O o x y L 0
structure NextHas(C:Ctx):Prop where
 lex:O7 C
 space:Has C BQ o8
 next:Has C yY o9
theorem N7 (H:NextHas C) (s:LU) (hs:s.length<1099511627777) (r:RV) (O:St) (o:Nat) (ho:o<O.length):∀(n i:Nat),i+n=s.length->
  aA C (ai C) 65 [0] cO [(0,.ref o 0)] (O.set o ({r with place:=(i:Int)}.o s))=some (.exit 0,[(0,.ref o 0)],O.set o ({r with place:=(runN vC s i:Nat)}.o s))
 |0,i,hi=>by
  rw[aG (he:=rfl)];have h:¬((i:Int)<(s.length:Int)):=by omega
  have h':=KI vC s i (by omega)
  have gs:∀x:AO,(O.set o x)[o]?=some x:=fun x=>by simp[ho]
  unfold RV.o RV.cs;simp only[cO,h,h',gs,EVX,seval]
 |n+1,i,hi=>by
  rw[aG (he:=rfl)];generalize hk:aA C (ai C) 65 [0] cO=k;have h:((i:Int)<(s.length:Int)):=by omega
  have h2:i<s.length:=by omega
  have hb:s[i]?=some s[i]:=List.getElem?_eq_getElem h2;have hw:IntKind.i64.wrap ((i:Int)+1)=((i+1:Nat):Int):=by rw[w64]<;>omega
  have h3:(0:Int)<=i:=by omega
  have gs:∀x:AO,(O.set o x)[o]?=some x:=fun x=>by simp[ho]
  have ih:=N7 H s hs r O o ho n (i+1) (by omega)
  rw[hk]at ih;have q:=fun Y=>ab9 H.space s[i] Y;dsimp only[RV.o,RV.cs]at*;cases hx:vC s[i]
  ·simp only[cO,h,h3,hb,gs,q,hx,KJ vC s i h2 hx,EVX,seval]
  ·simp only[cO,h,h3,hb,hw,gs,q,hx,fU vC s i h2 hx,splice,List.set_set,ih,EVX,seval]
theorem oN (H:NextHas C) (s:LU) (hs:s.length<1099511627777) (r:RV) (hr:0<=r.after) (O:St) (hσ:Ok O) (o:Nat) (ho:O[o]?=some (r.o s)):
  ∃(r':RV) (e:Int),ai C yY [.ref o 0] O=some (.int .i64 e,O.set o (r'.o s))/\0<=r'.after/\r'.count=r.count/\r'.depth=r.depth:=by
 have hl:o<O.length:=(List.getElem?_eq_some_iff.mp ho).1;have hn:hand false [.ref o 0] O=some ([.ref o 0],O):=rfl;have gs:∀(x:AO),(O.set o x)[o]?=some x:=fun x=>by simp[hl]
 have ga:∀(x:AO) (L:St),(O.set o x++L)[o]?=some x:=fun x L=>by rw[List.getElem?_append_left (by simpa using hl)];exact gs x
 have sa:∀(x y:AO) (L:St),(O.set o x++L).set o y=O.set o y++L:=fun x y L=>by rw[List.set_append_left _ _ (by simpa using hl),List.set_set]
 have ty:∀(p' k' a' z' n':Int) (t':LU) (f' c' d' e:Int) (L:St),tidy O.length [.int .i64 e] (O.set o (.cells [.str s,.int .i64 p',.int .u8 k',.int .i64 a',.int .i64 z',.int .i64 n',.str t',.int .i64 f',.int .i64 c',.int .i64 d'] ⟨false,none⟩)++L)=O.set o (.cells [.str s,.int .i64 p',.int .u8 k',.int .i64 a',.int .i64 z',.int .i64 n',.str t',.int .i64 f',.int .i64 c',.int .i64 d'] ⟨false,none⟩):=fun p' k' a' z' n' t' f' c' d' e L=>by
  have:=dX (hσ.set o (x:=.cells [.str s,.int .i64 p',.int .u8 k',.int .i64 a',.int .i64 z',.int .i64 n',.str t',.int .i64 f',.int .i64 c',.int .i64 d'] ⟨false,none⟩) rfl) (vs:=[.int .i64 e]) rfl L;rwa[List.length_set]at this
 rw[H.next.go hn (by simp[o9])]
 obtain⟨pl,k0,a0,z0,n0,t0,af,ct,dp⟩:=r;dsimp only at hr;obtain⟨i,rfl⟩:∃i:Nat,af=i:=⟨af.toNat,by omega⟩
 generalize hR:RV.mk pl k0 a0 z0 n0 t0 i ct dp=r at*;have hi:r.after=i:=by rw[<-hR]
 obtain⟨p,hp,lp⟩:∃p:Nat,0<=p/\aA C (ai C) 65 [0] cO [(0,.ref o 0)] (O.set o ({r with place:=(i:Int)}.o s))=some (.exit 0,[(0,.ref o 0)],O.set o ({r with place:=(p:Int)}.o s)):=by
  by_cases hle:i<=s.length
  ·exact⟨_,Nat.zero_le _,N7 H s hs r O o hl (s.length-i) i (by omega)⟩
  ·refine⟨i,Nat.zero_le _,?_⟩;rw[aG (he:=rfl)];have h:¬((i:Int)<(s.length:Int)):=by omega
   unfold RV.o RV.cs;simp only[cO,h,gs,EVX,seval]
 obtain⟨v,q,k,a,z,m,t,e,rfl,hz,ht⟩:=ah3 H.lex s hs p _ (hσ.set o (RV.below s {r with place:=(p:Int)}));by_cases c:e=0
 ·subst c;subst hR;refine⟨{place:=p,count:=ct,depth:=dp,k:=k,a:=a,z:=z,n:=m,t:=⟨t,ht⟩,after:=z},0,?_,hz,rfl,rfl⟩;unfold kW at*;dsimp only[RV.o,RV.cs]at*;simp only[o9,ho,gs,ga,sa,lp,q,splice,ty,List.length_set,jF,AV.cells,AV.flat,EVX,seval]
 ·have c':(e !=0)=true:=by simpa using c
  subst hR;refine⟨⟨p,k0,a0,z0,n0,t0,i,ct,dp⟩,e,?_,hr,rfl,rfl⟩;unfold kW at*;dsimp only[RV.o,RV.cs]at*;simp only[o9,ho,c',gs,lp,q,splice,ty,List.length_set,AV.cells,AV.flat,EVX,seval]
theorem yF(hC:Has C nC iR)(s:LU)(r:RV)(O:St)(o:Nat)(ho:O[o]?=some (r.o s)):∃e:Int,ai C nC [.ref o 0] O=some (.int .i64 e,O)/\e≠0:=by
 have hn:hand false [.ref o 0] O=some ([.ref o 0],O):=rfl;rw[hC.go hn (by simp[iR])]
 dsimp only[RV.o,RV.cs]at ho;cases c:(r.k==11)
 ·exact⟨3,by simp only[iR,ho,c,EVX,seval],by omega⟩
 ·exact⟨4,by simp only[iR,ho,c,EVX,seval],by omega⟩
structure ReadHas(C:Ctx)extends NextHas C where
 wrong:Has C nC iR
 expect:Has C xk jI
 more:Has C yZ gB
def RV.keeps(r r':RV):Prop:=0<=r'.after/\r'.count=r.count/\r'.depth=r.depth
theorem Tt (H:ReadHas C) (s:LU) (hs:s.length<1099511627777) (kind:Int) (r:RV) (hr:0<=r.after) (O:St) (hσ:Ok O) (o:Nat) (ho:O[o]?=some (r.o s)):
  ∃(r':RV) (e:Int),ai C xk [.ref o 0,.int .u8 kind] O=some (.int .i64 e,O.set o (r'.o s))/\r.keeps r':=by
 have hl:o<O.length:=(List.getElem?_eq_some_iff.mp ho).1;have hn:hand false [.ref o 0,.int .u8 kind] O=some ([.ref o 0,.int .u8 kind],O):=rfl;have ty0:∀(x:AO) (e:Int),tidy O.length [.int .i64 e] (O.set o x)=O.set o x:=fun x e=>by
  have:=aY (O.set o x) [.int .i64 e];rwa[List.length_set]at this
 obtain⟨r',e,q,k1,k2,k3⟩:=oN H.toNextHas s hs r hr O hσ o ho;have g:(O.set o (r'.o s))[o]?=some (r'.o s):=by simp[hl]
 obtain⟨e2,w,we⟩:=yF H.wrong s r' _ o g;rw[H.expect.go hn (by simp[jI])]
 dsimp only[RV.o,RV.cs]at g w q;cases c:(e !=0)
 ·have c0:e=0:=by simpa using c
  subst c0;cases c2:(r'.k !=kind)
  ·exact⟨r',0,by dsimp only[RV.o,RV.cs];simp only[jI,q,g,c2,ty0,EVX,seval],k1,k2,k3⟩
  ·exact⟨r',e2,by dsimp only[RV.o,RV.cs];simp only[jI,q,g,w,c2,ty0,EVX,seval],k1,k2,k3⟩
 ·exact⟨r',e,by dsimp only[RV.o,RV.cs];simp only[jI,q,c,ty0,EVX,seval],k1,k2,k3⟩
theorem N9 (H:ReadHas C) (s:LU) (hs:s.length<1099511627777) (last:Int) (r:RV) (hr:0<=r.after) (O:St) (hσ:Ok O) (o:Nat) (ho:O[o]?=some (r.o s)):
  ∃(r':RV) (b:Bool) (e:Int),ai C yZ [.ref o 0,.int .u8 last] O=some (.tup [.bool b,.int .i64 e],O.set o (r'.o s))/\r.keeps r':=by
 have hl:o<O.length:=(List.getElem?_eq_some_iff.mp ho).1;have hn:hand false [.ref o 0,.int .u8 last] O=some ([.ref o 0,.int .u8 last],O):=rfl;have ty0:∀(x:AO) (b:Bool) (e:Int),tidy O.length [.bool b,.int .i64 e] (O.set o x)=O.set o x:=fun x b e=>by
  have:=aY (O.set o x) [.bool b,.int .i64 e];rwa[List.length_set]at this
 obtain⟨r',e,q,k1,k2,k3⟩:=oN H.toNextHas s hs r hr O hσ o ho;have g:(O.set o (r'.o s))[o]?=some (r'.o s):=by simp[hl]
 obtain⟨e2,w,we⟩:=yF H.wrong s r' _ o g;obtain⟨r2,e3,q2,m1,m2,m3⟩:=oN H.toNextHas s hs r' k1 _ (hσ.set o (RV.below s r')) o g;rw[List.set_set]at q2;rw[H.more.go hn (by simp[gB])]
 dsimp only[RV.o,RV.cs]at g w q q2;cases c:(e !=0)
 ·have c0:e=0:=by simpa using c
  subst c0;cases c2:(r'.k==last)
  ·cases c3:(r'.k==5)
   ·exact⟨r',false,e2,by dsimp only[RV.o,RV.cs];simp only[gB,q,g,w,c2,c3,ty0,EVX,seval],k1,k2,k3⟩
   ·cases c4:(e3 !=0)
    ·have c0:e3=0:=by simpa using c4
     subst c0;exact⟨r2,true,0,by dsimp only[RV.o,RV.cs];simp only[gB,q,q2,g,c2,c3,ty0,EVX,seval],m1,m2.trans k2,m3.trans k3⟩
    ·exact⟨r2,false,e3,by dsimp only[RV.o,RV.cs];simp only[gB,q,q2,g,c2,c3,c4,ty0,EVX,seval],m1,m2.trans k2,m3.trans k3⟩
  ·exact⟨r',false,0,by dsimp only[RV.o,RV.cs];simp only[gB,q,g,c2,ty0,EVX,seval],k1,k2,k3⟩
 ·exact⟨r',false,e,by dsimp only[RV.o,RV.cs];simp only[gB,q,c,ty0,EVX,seval],k1,k2,k3⟩
theorem Cb:∀l:List JV,NVs (aB l)
 |[]=>by rw[aB];exact .nil
 |j::l=>by
  rw[aB];intro v hv;rcases List.mem_append.mp hv with h|h
  ·exact j.nvs v h
  ·exact Cb l v h
theorem aio(l:List LU):NVs (l.map AV.str):=by
 intro v hv;obtain⟨s,_,rfl⟩:=List.mem_map.mp hv;exact .str _
def JV.zero:JV:=JV.leaf 0 0 [] lb0
theorem JV.zero_cs:JV.zero.cs=[.int .u8 0,.int .i64 0,.str [],.sl 0 [],.sl 0 []]:=JV.leaf_cs 0 0 [] lb0
structure Vj(C:Ctx)(f:FuncId)(K:KF):Prop where
 fs:C.fs f=some K.forget
 prim:C.prim f=none
 raw:C.raw f=true
 ok:K.ok=true
def ajj(n:Nat)(rs:List XR)(r:RX):Option (AV×St):=match r with
 |some (.exit _,_,_)=>none
 |none=>none
 |some (_,e,O2)=>match bQ e O2 rs with
  |none=>none
  |some vs=>some (bD vs,tidy n vs O2)
theorem Vj.go{f:FuncId}{K:KF}(h:Vj C f K){args:LA}{O:St}(hl:¬args.length>K.ntmps):ai C f args O=ajj O.length K.results (dI C (ai C) K.ntmps K.body (nS 0 args) O):=by
 rw[aia h.fs h.prim h.raw h.ok];unfold xB ajj;rw[show hand true args O=some (args,O)from rfl];dsimp only;rw[if_neg hl];rfl
theorem Yd(n rs e O):ajj n rs (some (.ret,e,O))=match bQ e O rs with
 |none=>none
 |some vs=>some (bD vs,tidy n vs O):=rfl
theorem MV(n rs e O):ajj n rs (some (.normal,e,O))=match bQ e O rs with
 |none=>none
 |some vs=>some (bD vs,tidy n vs O):=rfl
abbrev EL:Type:=BS×JV
def elC(x:EL):LA:=.str x.1.1::x.2.cs
def jB(xs:List EL):LA:=xs.flatMap elC
theorem kY(x:EL):(elC x).length=6:=by simp[elC,JV.len]
theorem Ya(xs:List EL):(jB xs).length=xs.length*6:=dh kY xs
theorem Oz(x:EL):ae 0 (elC x)=true:=by
 unfold elC;rw[ae,JV.bel];rfl
theorem PX(xs:List EL):ae 0 (jB xs)=true:=qM Oz xs
theorem uK(x:EL):(elC x).all AV.flat=true:=by
 unfold elC;rw[List.all_cons,JV.flat];rfl
theorem DL(x:EL)(R:LA):(elC x++R).take 6=elC x:=by
 rw[<-kY x];simp
theorem alT(x:EL)(R:LA):6<=(elC x++R).length:=by simp[kY]
theorem Fg(xs:List EL)(i:Nat)(h:i<xs.length):(jB xs).drop (i*6)=elC xs[i]++jB (xs.drop (i+1)):=mD kY (List.getElem?_eq_getElem h)
def row(O:St)(o:Nat)(t:Option (TypeId×Bool))(xs:List EL):St:=O.set o (.cells (jB xs) ⟨false,t⟩)
theorem adb{O:St}{o:Nat}(h:o<O.length)(t:Option (TypeId×Bool))(xs:List EL):(row O o t xs)[o]?=some (.cells (jB xs) ⟨false,t⟩):=by simp[row,h]
theorem aki(O:St)(o:Nat)(t:Option (TypeId×Bool))(xs ys:List EL):(row O o t xs).set o (.cells (jB ys) ⟨false,t⟩)=row O o t ys:=by simp[row]
theorem FY(O:St)(o:Nat)(t:Option (TypeId×Bool))(xs:List EL):(row O o t xs).length=O.length:=by simp[row]
structure apw(C:Ctx)(fc:FuncId)(c:EL->EL->Int):Prop where
 is:∀(x y:EL) (Y:St),Ok Y->ai C fc [.agg (elC x),.agg (elC y)] Y=some (.int .i64 (c x y),Y)
def aj8(fc:FuncId):AV:=.func (.func fc) [] []
theorem aji(x:EL):NVs (elC x):=by
 unfold elC;exact .cons (.str _) x.2.nvs
theorem set_self{Y:St}{p:Nat}{x:AO}(h:Y[p]?=some x):Y.set p x=Y:=by
 apply List.ext_getElem?;intro i;rw[List.getElem?_set];split
 ·rename_i hp;subst hp;split
  ·exact h.symm
  ·rw[List.getElem?_eq_none (by omega)]at h;cases h
 ·rfl
theorem tN{S:St}{n:Nat}(h:S.length=n)(L:St)(k:Nat):(S++L)[n+k]?=L[k]?:=by
 subst h;rw[List.getElem?_append_right (by omega)]
 simp
theorem mO{S:St}{n:Nat}(h:S.length=n)(L:St):(S++L)[n]?=L[0]?:=tN h L 0
theorem abt{S:St}{n:Nat}(h:S.length=n)(L:St)(k:Nat)(y:AO):(S++L).set (n+k) y=S++L.set k y:=by
 subst h;rw[List.set_append_right _ _ (by omega)]
 simp
theorem wL{S:St}{n:Nat}(h:S.length=n)(L:St)(y:AO):(S++L).set n y=S++L.set 0 y:=abt h L 0 y
theorem aH{S:St}{q:Nat}{x:AO}(h:S[q]?=some x)(L:St):(S++L)[q]?=some x:=by
 rw[List.getElem?_append_left (List.getElem?_eq_some_iff.mp h).1];exact h
theorem dY{S:St}{q:Nat}{x:AO}(h:S[q]?=some x)(L:St)(y:AO):(S++L).set q y=S.set q y++L:=by
 rw[List.set_append_left _ _ (List.getElem?_eq_some_iff.mp h).1]
theorem bZ{S:St}{q:Nat}{x:AO}(h:S[q]?=some x)(y:AO):(S.set q y)[q]?=some y:=by
 simp[(List.getElem?_eq_some_iff.mp h).1]
theorem aO{S:St}{p q:Nat}{x:AO}(h:S[p]?=some x)(hne:p≠q)(y:AO):(S.set q y)[p]?=some x:=by
 rw[List.getElem?_set_ne (fun e=>hne e.symm)];exact h
theorem dD(S:St)(k q:Nat)(h:k<=q)(y:AO):(S.set q y).take k=S.take k:=by
 apply List.ext_getElem?;intro i;rw[List.getElem?_take,List.getElem?_take];split
 ·rw[List.getElem?_set_ne (by omega)]
 ·rfl
theorem oC(S L:St)(k:Nat)(h:k<=S.length):(S++L).take k=S.take k:=List.take_append_of_le_length h
def kX(xs:List EL):LA:=xs.map fun x=>.str x.1.1
def vz(xs:List EL):LA:=aB (xs.map (·.2))
theorem Io(xs:List EL):(kX xs).length=xs.length:=by simp[kX]
theorem MI(xs:List EL):(vz xs).length=xs.length*5:=by simp[vz,jo]
theorem Nz(xs:List EL)(x:EL):kX (xs++[x])=kX xs++[.str x.1.1]:=by simp[kX]
theorem SA(xs:List EL)(x:EL):vz (xs++[x])=vz xs++x.2.cs:=by simp[vz,Au,aB]
theorem Pn{O:St}{sz bytes n m q:Nat}{l:LA}(cs:LA)(hq:O[q]?=some (.cells l ⟨false,none⟩))(hm:¬m=0)(hl:l.length=n*sz)(h1:(n+m)*bytes<=70368744177664)(h2:n+m<=70368744177664):ry O sz bytes none (.msl q 0 n sz) m cs=some (.msl O.length 0 (n+m) sz,O.set q .dead++[.cells (l++cs) ⟨false,none⟩]):=by
 unfold ry;rw[if_neg hm];simp only[hq];rw[if_pos ⟨trivial,hl,h1,h2⟩];rfl
def amB(q1 q2 n:Nat):AO:=.cells [.int .u8 5,.int .i64 0,.str [],.msl q1 0 n 1,.msl q2 0 n 5] ⟨false,none⟩
structure alB(o n0 N:Nat)(t:Option (TypeId×Bool))(xs:List EL)(i q1 q2:Nat)(Y:St):Prop where
 row:Y[o]?=some (.cells (jB xs) ⟨false,t⟩)
 v:Y[n0+1]?=some (amB q1 q2 i)
 names:Y[q1]?=some (.cells (kX (xs.take i)) ⟨false,none⟩)
 vals:Y[q2]?=some (.cells (vz (xs.take i)) ⟨false,none⟩)
 lo:o<n0
 l1:n0+2<=q1
 l2:n0+2<=q2
 ne:q1≠q2
theorem NW (o n0 N:Nat) (hN:N<274877906944) (t:Option (TypeId×Bool)) (xs:List EL) (hx:xs.length=N):∀(n i q1 q2:Nat) (Y:St),i+n=N->1<=i->alB o n0 N t xs i q1 q2 Y->
  ∃(q1' q2':Nat) (Y':St),aA C (ai C) 31 [2,3,9,10,11] gq [(2,.ref n0 0),(3,.ref (n0+1) 0),(9,.msl o 0 N 6),(10,.int .i64 N),(11,.int .i64 i)] Y=some (.exit 0,[(2,.ref n0 0),(3,.ref (n0+1) 0)],Y')/\alB o n0 N t xs N q1' q2' Y'/\Y'.take (n0+1)=Y.take (n0+1)
 |0,i,q1,q2,Y,hi,h1,I=>by
  refine ⟨q1,q2,Y,?_,(by have:i=N:=by omega
                         subst this;exact I),rfl⟩
  rw[aG (he:=rfl)];have h:¬((i:Int)<(N:Int)):=by omega
  simp only[gq,h,EVX,seval]
 |n+1,i,q1,q2,Y,hi,h1,I=>by
  obtain⟨hrow,hv,hna,hva,hlo,hl1,hl2,hne⟩:=I;have iN:i<N:=by omega
  have li:i<xs.length:=by omega
  have h:((i:Int)<(N:Int)):=by omega
  have pi:(0:Int)<=(i:Int):=by omega
  have hw:IntKind.i64.wrap ((i:Int)+1)=((i+1:Nat):Int):=by rw[w64]<;>omega
  have di:=Fg xs i li;have ht:xs.take (i+1)=xs.take i++[xs[i]]:=by rw[List.take_succ_eq_append_getElem li]
  have lna:=Io (xs.take i);have lva:=MI (xs.take i);have lt:(xs.take i).length=i:=by simp;omega
  rw[lt]at lna lva;have ca:∀l,AV.cells (.agg l)=l:=fun _=>rfl;generalize hm:xs[i]=x at*;have S1:(Y.set q1 .dead).length=Y.length:=by simp
  have v1:=aO hv (show n0+1≠q1 by omega) .dead
  have a1:=aO hva (fun e=>hne e.symm) .dead;unfold amB at*;rw[aG (he:=rfl)];generalize hk:aA C (ai C) 31 [2,3,9,10,11] gq=k at*;have b0:=fun L=>aH hv L;have c0:=fun L=>aH hna L;have p0:=fun L y=>dY hna L y;have g1:=fun L=>mO (show Y.length=Y.length from rfl) L;have s1:=fun L y=>wL (show Y.length=Y.length from rfl) L y;have b1:=fun L=>aH v1 L;have pv:=fun L y=>dY v1 L y;have eh:(elC x).head? =some (.str x.1.1):=rfl;have et:(elC x).drop 1=x.2.cs:=rfl;have ek:x.2.cs.take 5=x.2.cs:=List.take_of_length_le (by rw[JV.len];exact Nat.le_refl _)
  have el:5<=x.2.cs.length:=by rw[JV.len];exact Nat.le_refl _
  have jl:=JV.len x.2;have jf:=JV.flat x.2;have na:=Nz (xs.take i) x;have va:=SA (xs.take i) x;have ap1:=Pn (O:=Y++[.cells (elC x) ⟨false,none⟩]) (sz:=1) (bytes:=16) (n:=i) (m:=1) [.str x.1.1] (c0 _) (by omega) (by rw[lna];omega) (by omega) (by omega)
  rw[p0,List.length_append,List.append_assoc]at ap1;simp only[List.length_cons,List.length_nil,List.cons_append,List.nil_append,Nat.zero_add,<-na]at ap1;have v2:=bZ v1 (.cells [.int .u8 5,.int .i64 0,.str [],.msl (Y.length+1) 0 (i+1) 1,.msl q2 0 i 5] ⟨false,none⟩);have a2:=aO a1 (show q2≠n0+1 by omega) (.cells [.int .u8 5,.int .i64 0,.str [],.msl (Y.length+1) 0 (i+1) 1,.msl q2 0 i 5] ⟨false,none⟩)
  generalize hS2:(Y.set q1 .dead).set (n0+1) (.cells [.int .u8 5,.int .i64 0,.str [],.msl (Y.length+1) 0 (i+1) 1,.msl q2 0 i 5] ⟨false,none⟩)=S2 at*;have S2l:S2.length=Y.length:=by rw[<-hS2];simp
  have b2:=fun L=>aH v2 L;have c2:=fun L=>aH a2 L;have p2:=fun L y=>dY a2 L y;have w1:=fun L=>mO S2l L;have ap2:=Pn (O:=S2++[.cells (elC x) ⟨false,none⟩,.cells (kX (xs.take i++[x])) ⟨false,none⟩]) (sz:=5) (bytes:=80) (n:=i) (m:=1) x.2.cs (c2 _) (by omega) lva (by omega) (by omega)
  rw[p2,List.length_append,List.append_assoc,S2l]at ap2;simp only[List.length_cons,List.length_nil,List.cons_append,List.nil_append,Nat.zero_add,<-va]at ap2;have v3:=aO v2 (show n0+1≠q2 by omega) .dead
  have p3:=fun L y=>dY v3 L y;have b3:=fun L=>aH v3 L;simp only[gq,h,eh,et,ek,jl,jf,ap1,ap2,hS2,b2,w1,p3,b3,iN,pi,hw,di,hrow,b0,g1,s1,b1,pv,ca,DL,alT,kY,uK,splice,EVX,seval];have v4:=bZ v3 (.cells [.int .u8 5,.int .i64 0,.str [],.msl (Y.length+1) 0 (i+1) 1,.msl (Y.length+2) 0 (i+1) 5] ⟨false,none⟩);have o1:=aO hrow (show o≠q1 by omega) .dead
  have o2:=aO o1 (show o≠n0+1 by omega) (.cells [.int .u8 5,.int .i64 0,.str [],.msl (Y.length+1) 0 (i+1) 1,.msl q2 0 i 5] ⟨false,none⟩)
  rw[hS2]at o2;have o3:=aO o2 (show o≠q2 by omega) .dead
  have o4:=aO o3 (show o≠n0+1 by omega) (.cells [.int .u8 5,.int .i64 0,.str [],.msl (Y.length+1) 0 (i+1) 1,.msl (Y.length+2) 0 (i+1) 5] ⟨false,none⟩)
  have nl:n0+1<Y.length:=(List.getElem?_eq_some_iff.mp hv).1;have t4:((S2.set q2 .dead).set (n0+1) (.cells [.int .u8 5,.int .i64 0,.str [],.msl (Y.length+1) 0 (i+1) 1,.msl (Y.length+2) 0 (i+1) 5] ⟨false,none⟩)).take (n0+1)=Y.take (n0+1):=by
   rw[dD _ _ _ (Nat.le_refl _),dD _ _ _ (by omega),<-hS2,dD _ _ _ (Nat.le_refl _),dD _ _ _ (by omega)]
  generalize hS4:(S2.set q2 .dead).set (n0+1) (.cells [.int .u8 5,.int .i64 0,.str [],.msl (Y.length+1) 0 (i+1) 1,.msl (Y.length+2) 0 (i+1) 5] ⟨false,none⟩)=S4 at*;have S4l:S4.length=Y.length:=by rw[<-hS4];simp[S2l]
  obtain⟨q1',q2',Y',e1,e2,e3⟩:=NW o n0 N hN t xs hx n (i+1) (Y.length+1) (Y.length+2) (S4++[.cells (elC x) ⟨false,none⟩,.cells (kX (xs.take i++[x])) ⟨false,none⟩,.cells (vz (xs.take i++[x])) ⟨false,none⟩]) (by omega) (by omega)
   ⟨aH o4 _,aH v4 _,by rw[tN S4l,ht];rfl,by rw[tN S4l,ht];rfl,hlo,by omega,by omega,by omega⟩
  rw[hk]at e1;exact⟨q1',q2',Y',e1,e2,by rw[e3,oC _ _ _ (by rw[S4l];omega),t4]⟩
theorem Xk (o:Nat) (O:St) (ho:o<O.length) (N:Nat) (hN:N<274877906944) (t:Option (TypeId×Bool)) (xs:List EL) (hx:xs.length=N) (h1:1<=N) (res:AO):
  ∃(q1 q2:Nat) (Y':St),aA C (ai C) 31 [2,3,9,10,11] gq [(2,.ref O.length 0),(3,.ref (O.length+1) 0),(9,.msl o 0 N 6),(10,.int .i64 N),(11,.int .i64 0)] (row O o t xs++[res,.cells [.int .u8 5,.int .i64 0,.str [],.nils,.nils] ⟨false,none⟩])=some (.exit 0,[(2,.ref O.length 0),(3,.ref (O.length+1) 0)],Y')/\
   alB o O.length N t xs N q1 q2 Y'/\Y'.take (O.length+1)=row O o t xs++[res]:=by
 have rl:(row O o t xs).length=O.length:=FY O o t xs;have hr:=adb ho t xs;have l0:0<xs.length:=by omega
 have h:((0:Int)<(N:Int)):=by omega
 have n0:0<N:=by omega
 have di:=Fg xs 0 l0;have ht:xs.take 1=[xs[0]]:=by
  cases xs with
  |nil=>simp at l0
  |cons x l=>rfl
 generalize hm:xs[0]=x at*;have ca:∀l,AV.cells (.agg l)=l:=fun _=>rfl;have r0:=fun L=>aH hr L;have g2:=fun L k=>tN rl L k;have s2:=fun L k y=>abt rl L k y;have eh:(elC x).head? =some (.str x.1.1):=rfl;have et:(elC x).drop 1=x.2.cs:=rfl;have ek:x.2.cs.take 5=x.2.cs:=List.take_of_length_le (by rw[JV.len];exact Nat.le_refl _)
 have el:5<=x.2.cs.length:=by rw[JV.len];exact Nat.le_refl _
 have jl:=JV.len x.2;have jf:=JV.flat x.2;have ap1:∀S:St,ry S 1 16 none .nils 1 [.str x.1.1]=some (.msl S.length 0 1 1,S++[.cells [.str x.1.1] ⟨false,none⟩]):=fun S=>EM S none [.str x.1.1] (by omega) (by omega) (by omega)
 have ap2:∀S:St,ry S 5 80 none .nils 1 x.2.cs=some (.msl S.length 0 1 5,S++[.cells x.2.cs ⟨false,none⟩]):=fun S=>EM S none x.2.cs (by omega) (by omega) (by omega)
 rw[aG (he:=rfl)];have rc:=NW (C:=C) o O.length N hN t xs hx (N-1) 1 (O.length+3) (O.length+4) (row O o t xs++[res,.cells [.int .u8 5,.int .i64 0,.str [],.msl (O.length+3) 0 1 1,.msl (O.length+4) 0 1 5] ⟨false,none⟩,.cells (elC x) ⟨false,none⟩,.cells [.str x.1.1] ⟨false,none⟩,.cells x.2.cs ⟨false,none⟩]) (by omega) (Nat.le_refl _)
  ⟨aH hr _,by rw[tN rl];rfl,by rw[tN rl,ht];rfl,by rw[tN rl,ht];simp[vz,aB],by omega,by omega,by omega,by omega⟩
 obtain⟨q1,q2,Y',e1,e2,e3⟩:=rc;generalize hk:aA C (ai C) 31 [2,3,9,10,11] gq=k at*;refine⟨q1,q2,Y',?_,e2,?_⟩
 ·simp only[Int.cast_ofNat_Int]at e1;simp only[Nat.zero_mul]at di;simp only[gq,h,n0,di,r0,g2,s2,rl,ap1,ap2,eh,et,ek,jl,jf,ca,DL,kY,uK,splice,List.length_append,Nat.le_add_right,EVX,seval];exact e1
 ·rw[e3,List.take_append,rl];rw[List.take_of_length_le (by rw[rl];omega)]
  simp
def Oq(C:Ctx)(fs fc:FuncId):Prop:=∀(O:St),Ok O->∀(o:Nat),o<O.length->∀(t:Option (TypeId×Bool)) (N:Nat),N<1099511627776->∀xs:List EL,xs.length=N->∃xs':List EL,xs'.length=N/\ai C fs [.msl o 0 N 6,aj8 fc] (row O o t xs)=some (.tup [],row O o t xs')
theorem Zm (hS:Oq C dR xK) (hC:Vj C wG wB)
  (o:Nat) (O:St) (hσ:Ok O) (ho:o<O.length) (N:Nat) (hN:N<274877906944) (t:Option (TypeId×Bool)) (xs:List EL) (hx:xs.length=N) (hN1:1<=N):
  ∃(xs':List EL) (q1 q2:Nat) (Y':St),xs'.length=N/\ai C wG [.msl o 0 N 6] (row O o t xs)=some (.agg [.int .u8 5,.int .i64 0,.str [],.msl q1 0 N 1,.msl q2 0 N 5],Y')/\Y'.take O.length=row O o t xs'/\
   Y'[q1]?=some (.cells (kX xs') ⟨false,none⟩)/\Y'[q2]?=some (.cells (vz xs') ⟨false,none⟩)/\O.length+2<=q1/\O.length+2<=q2/\q1≠q2:=by
 have rl:=FY O o t xs;have sr:∀ys:List EL,(O++[.cells [.int .u8 0,.int .i64 0,.str [],.nils,.nils] ⟨false,none⟩]:St).set o (.cells (jB ys) ⟨false,t⟩)=row O o t ys++[.cells [.int .u8 0,.int .i64 0,.str [],.nils,.nils] ⟨false,none⟩]:=fun ys=>by
  rw[List.set_append_left _ _ ho];rfl
 obtain⟨x1,k1,k2⟩:=hS (O++[.cells [.int .u8 0,.int .i64 0,.str [],.nils,.nils] ⟨false,none⟩]) (hσ.plus rfl) o (by simp;omega) t N (by omega) xs hx
 unfold row at k2;rw[sr,sr]at k2;obtain⟨q1,q2,Y',e1,I,e3⟩:=Xk (C:=C) o O ho N hN t x1 k1 hN1 (.cells [.int .u8 0,.int .i64 0,.str [],.nils,.nils] ⟨false,none⟩);obtain⟨i1,i2,i3,i4,i5,i6,i7,i8⟩:=I;have tk:x1.take N=x1:=List.take_of_length_le (by omega)
 rw[tk]at i3 i4;unfold amB at i2;have g0:Y'[O.length]?=some (.cells [.int .u8 0,.int .i64 0,.str [],.nils,.nils] ⟨false,none⟩):=by
  have:(Y'.take (O.length+1))[O.length]?=some (.cells [.int .u8 0,.int .i64 0,.str [],.nils,.nils] ⟨false,none⟩):=by
   rw[e3,mO (FY O o t x1)];rfl
  rw[List.getElem?_take]at this;rwa[if_pos (by omega)]at this
 refine⟨x1,q1,q2,Y'.set O.length (.cells [.int .u8 5,.int .i64 0,.str [],.msl q1 0 N 1,.msl q2 0 N 5] ⟨false,none⟩),k1,?_,?_,aO i3 (by omega) _,aO i4 (by omega) _,i6,i7,i8⟩
 ·have rl1:=FY O o t x1;have s2:=fun L k y=>abt rl1 L k y;have g2:=fun L k=>tN rl1 L k;have gs:=bZ g0 (.cells [.int .u8 5,.int .i64 0,.str [],.msl q1 0 N 1,.msl q2 0 N 5] ⟨false,none⟩);have ty:∀S:St,tidy O.length [.agg [.int .u8 5,.int .i64 0,.str [],.msl q1 0 N 1,.msl q2 0 N 5]] S=S:=fun S=>wo (by
   have:¬q1<O.length:=by omega
   simp[ae,below,this]) S
  rw[hC.go (by simp[wB]),rl]
  unfold aj8 at k2;simp only[wB,k2,e1,rl,rl1,s2,g2,g0,gs,i2,ty,bQ,splice,AV.cells,AV.flat,Yd,EVX,seval]
 ·rw[dD _ _ _ (Nat.le_refl _)];have:(Y'.take (O.length+1)).take O.length=row O o t x1:=by
   rw[e3,List.take_append_of_le_length (by rw[FY];exact Nat.le_refl _),List.take_of_length_le (by rw[FY];exact Nat.le_refl _)]
  rw[List.take_take]at this;rwa[Nat.min_eq_left (by omega)]at this
def Z7(C:Ctx)(s:LU)(m:Nat):Prop:=∀(r:RV) (O:St) (o:Nat),Ok O->O[o]?=some (r.o s)->0<=r.after->0<=r.count->8192<=r.count+m->
 ∃(j:JV) (e:Int) (r':RV),ai C rG [.ref o 0] O=some (.tup [j.av,.int .i64 e],O.set o (r'.o s))/\0<=r'.after/\r.count<=r'.count/\(e=0->r.count<r'.count/\r'.count<=8192)
def aiL(C:Ctx)(f:FuncId)(s:LU)(m:Nat):Prop:=∀(r:RV) (O:St) (o:Nat),Ok O->O[o]?=some (r.o s)->0<=r.after->0<=r.count->r.count<=8192->8192<=r.count+m->
 ∃(j:JV) (e:Int) (r':RV),ai C f [.ref o 0] O=some (.tup [j.av,.int .i64 e],O.set o (r'.o s))/\0<=r'.after/\r.count<=r'.count/\(e=0->r'.count<=8192)
theorem EF{O:St}(hσ:Ok O)(o:Nat){x:AO}(hx:x.below 0=true)(vs:LA)(hv:ae 0 vs=true)(L:St):tidy O.length vs (O.set o x++L)=O.set o x:=by
 have:=dX (hσ.set o hx) (vs:=vs) hv L;rwa[List.length_set]at this
def mJ:AO:=.cells [.int .u8 0,.int .i64 0,.str [],.nils,.nils] ⟨false,none⟩
theorem Vb(hC:Has C rG aJ)(hw:Has C nC iR)(s:LU)(m:Nat)(hL:0<m->aiL C pJ s (m-1))(hO:0<m->aiL C mf s (m-1)):Z7 C s m:=by
 intro r O o hσ ho ha hct hm;have hn:hand false [.ref o 0] O=some ([.ref o 0],O):=rfl;have okz:∀(x:AO) (hx:x.below 0=true) (L:St),L.all (AO.below 0)=true->Ok (O.set o x++L):=fun x hx L hL=>(hσ.set o hx).plus hL;obtain⟨e1,w,we⟩:=yF hw s r (O++[mJ]) o (aH ho _);rw[hC.go hn (by simp[aJ])]
 obtain⟨pl,k,a,z,n,t,af,ct,dp⟩:=r;dsimp only[RV.o,RV.cs,mJ]at*;have g0:=fun L=>aH ho L;have p0:=fun L y=>dY ho L y;have g1:=fun x L=>aH (bZ ho x) L;have p1:∀(x y:AO) (L:St),(O.set o x++L).set o y=O.set o y++L:=fun x y L=>by rw[dY (bZ ho x),List.set_set]
 have sself:=set_self ho;have tyL:∀(q m':Int) (w:LU) (e p' k' a' z' n':Int) (t':LU) (f' c' d':Int) (L:St),tidy O.length [.agg [.int .u8 q,.int .i64 m',.str w,.sl 0 [],.sl 0 []],.int .i64 e] (O.set o (.cells [.str s,.int .i64 p',.int .u8 k',.int .i64 a',.int .i64 z',.int .i64 n',.str t',.int .i64 f',.int .i64 c',.int .i64 d'] ⟨false,none⟩)++L)=O.set o (.cells [.str s,.int .i64 p',.int .u8 k',.int .i64 a',.int .i64 z',.int .i64 n',.str t',.int .i64 f',.int .i64 c',.int .i64 d'] ⟨false,none⟩):=fun q m' w e p' k' a' z' n' t' f' c' d' L=>EF hσ o rfl _ rfl L;have tyJ:∀(j:JV) (e p' k' a' z' n':Int) (t':LU) (f' c' d':Int) (L:St),tidy O.length [.agg j.cs,.int .i64 e] (O.set o (.cells [.str s,.int .i64 p',.int .u8 k',.int .i64 a',.int .i64 z',.int .i64 n',.str t',.int .i64 f',.int .i64 c',.int .i64 d'] ⟨false,none⟩)++L)=O.set o (.cells [.str s,.int .i64 p',.int .u8 k',.int .i64 a',.int .i64 z',.int .i64 n',.str t',.int .i64 f',.int .i64 c',.int .i64 d'] ⟨false,none⟩):=fun j e p' k' a' z' n' t' f' c' d' L=>EF hσ o rfl _ (by rw[ae,below,j.bel];rfl) L
 have ty0:∀(e:Int) (L:St),tidy O.length [.agg [.int .u8 0,.int .i64 0,.str [],.sl 0 [],.sl 0 []],.int .i64 e] (O++L)=O:=fun e L=>dX hσ (vs:=[.agg [.int .u8 0,.int .i64 0,.str [],.sl 0 [],.sl 0 []],.int .i64 e]) rfl L;by_cases h7:k=7
 ·subst h7;by_cases hc:8192<=ct
  ·refine⟨JV.zero,5,⟨pl,7,a,z,n,t,af,ct,dp⟩,?_,ha,Int.le_refl _,fun h=>absurd h (by decide)⟩
   dsimp only[RV.o,RV.cs];rw[sself];simp only[aJ,hc,g0,ty0,bQ,bz,dL,AV.cells,AV.flat,JV.av,JV.zero_cs,splice,EVX,seval]
  ·have hw1:IntKind.i64.wrap (ct+1)=ct+1:=by rw[w64]<;>omega
   refine⟨JV.leaf 1 1 [] lb0,0,⟨pl,7,a,z,n,t,af,ct+1,dp⟩,?_,ha,by dsimp only;omega,fun _=>by dsimp only;omega⟩
   simp only[aJ,hc,hw1,g0,p0,g1,jF,sJ,tyL,bQ,bz,dL,AV.cells,AV.flat,JV.av,JV.leaf_cs,splice,EVX,seval]
 by_cases h8:k=8
 ·subst h8;by_cases hc:8192<=ct
  ·refine⟨JV.zero,5,⟨pl,8,a,z,n,t,af,ct,dp⟩,?_,ha,Int.le_refl _,fun h=>absurd h (by decide)⟩
   dsimp only[RV.o,RV.cs];rw[sself];simp only[aJ,hc,g0,ty0,bQ,bz,dL,AV.cells,AV.flat,JV.av,JV.zero_cs,splice,EVX,seval]
  ·have hw1:IntKind.i64.wrap (ct+1)=ct+1:=by rw[w64]<;>omega
   refine⟨JV.leaf 1 0 [] lb0,0,⟨pl,8,a,z,n,t,af,ct+1,dp⟩,?_,ha,by dsimp only;omega,fun _=>by dsimp only;omega⟩
   simp only[aJ,hc,hw1,g0,p0,g1,jF,sJ,tyL,bQ,bz,dL,AV.cells,AV.flat,JV.av,JV.leaf_cs,splice,EVX,seval]
 by_cases h9:k=9
 ·subst h9;by_cases hc:8192<=ct
  ·refine⟨JV.zero,5,⟨pl,9,a,z,n,t,af,ct,dp⟩,?_,ha,Int.le_refl _,fun h=>absurd h (by decide)⟩
   dsimp only[RV.o,RV.cs];rw[sself];simp only[aJ,hc,g0,ty0,bQ,bz,dL,AV.cells,AV.flat,JV.av,JV.zero_cs,splice,EVX,seval]
  ·have hw1:IntKind.i64.wrap (ct+1)=ct+1:=by rw[w64]<;>omega
   refine⟨JV.leaf 2 n [] lb0,0,⟨pl,9,a,z,n,t,af,ct+1,dp⟩,?_,ha,by dsimp only;omega,fun _=>by dsimp only;omega⟩
   simp only[aJ,hc,hw1,g0,p0,g1,jF,sJ,tyL,bQ,bz,dL,AV.cells,AV.flat,JV.av,JV.leaf_cs,splice,EVX,seval]
 by_cases h10:k=10
 ·subst h10;by_cases hc:8192<=ct
  ·refine⟨JV.zero,5,⟨pl,10,a,z,n,t,af,ct,dp⟩,?_,ha,Int.le_refl _,fun h=>absurd h (by decide)⟩
   dsimp only[RV.o,RV.cs];rw[sself];simp only[aJ,hc,g0,ty0,bQ,bz,dL,AV.cells,AV.flat,JV.av,JV.zero_cs,splice,EVX,seval]
  ·have hw1:IntKind.i64.wrap (ct+1)=ct+1:=by rw[w64]<;>omega
   refine⟨JV.leaf 3 0 t.1 t.2,0,⟨pl,10,a,z,n,t,af,ct+1,dp⟩,?_,ha,by dsimp only;omega,fun _=>by dsimp only;omega⟩
   simp only[aJ,hc,hw1,g0,p0,g1,jF,sJ,tyL,bQ,bz,dL,AV.cells,AV.flat,JV.av,JV.leaf_cs,splice,EVX,seval]
 by_cases h1:k=1
 ·subst h1;by_cases hc:8192<=ct
  ·refine⟨JV.zero,5,⟨pl,1,a,z,n,t,af,ct,dp⟩,?_,ha,Int.le_refl _,fun h=>absurd h (by decide)⟩
   dsimp only[RV.o,RV.cs];rw[sself];simp only[aJ,hc,g0,ty0,bQ,bz,dL,AV.cells,AV.flat,JV.av,JV.zero_cs,splice,EVX,seval]
  ·have hw1:IntKind.i64.wrap (ct+1)=ct+1:=by rw[w64]<;>omega
   by_cases hd:12<=dp
   ·refine⟨JV.zero,8,⟨pl,1,a,z,n,t,af,ct+1,dp⟩,?_,ha,by dsimp only;omega,fun h=>absurd h (by decide)⟩
    simp only[aJ,hc,hw1,hd,g0,p0,g1,jF,sJ,tyL,bQ,bz,dL,AV.cells,AV.flat,JV.av,JV.zero_cs,splice,EVX,seval]
   ·obtain⟨j,e,r2,q1,q2,q3,q4⟩:=hO (by omega) ⟨pl,1,a,z,n,t,af,ct+1,IntKind.i64.wrap (dp+1)⟩ (O.set o (RV.o s ⟨pl,1,a,z,n,t,af,ct+1,IntKind.i64.wrap (dp+1)⟩)++[mJ,mJ]) o (okz _ rfl _ rfl) (g1 _ _) ha (by dsimp only;omega) (by dsimp only;omega) (by dsimp only;omega)
    rw[p1]at q1;obtain⟨pl2,k2,a2,z2,n2,t2,af2,ct2,dp2⟩:=r2;dsimp only[RV.o,RV.cs,mJ]at q1 q2 q3 q4;have nf:=fun Y r=>j.nvs.nf Y r;have jl:=JV.len j;have jf:=JV.flat j;have jt:j.cs.take 5=j.cs:=List.take_of_length_le (by rw[JV.len];exact Nat.le_refl _)
    have je:5<=j.cs.length:=by rw[JV.len];exact Nat.le_refl _
    refine⟨j,e,⟨pl2,k2,a2,z2,n2,t2,af2,ct2,IntKind.i64.wrap (dp2-1)⟩,?_,q2,by dsimp only at*;omega,fun h=>⟨by dsimp only at*;omega,q4 h⟩⟩
    simp only[aJ,hc,hw1,hd,q1,nf,jl,jf,jt,tyJ,g0,p0,g1,p1,RU,jF,RY,sJ,bQ,bz,AV.cells,AV.flat,JV.av,List.length_set,splice,EVX,seval]
 by_cases h3:k=3
 ·subst h3;by_cases hc:8192<=ct
  ·refine⟨JV.zero,5,⟨pl,3,a,z,n,t,af,ct,dp⟩,?_,ha,Int.le_refl _,fun h=>absurd h (by decide)⟩
   dsimp only[RV.o,RV.cs];rw[sself];simp only[aJ,hc,g0,ty0,bQ,bz,dL,AV.cells,AV.flat,JV.av,JV.zero_cs,splice,EVX,seval]
  ·have hw1:IntKind.i64.wrap (ct+1)=ct+1:=by rw[w64]<;>omega
   by_cases hd:12<=dp
   ·refine⟨JV.zero,8,⟨pl,3,a,z,n,t,af,ct+1,dp⟩,?_,ha,by dsimp only;omega,fun h=>absurd h (by decide)⟩
    simp only[aJ,hc,hw1,hd,g0,p0,g1,jF,sJ,tyL,bQ,bz,dL,AV.cells,AV.flat,JV.av,JV.zero_cs,splice,EVX,seval]
   ·obtain⟨j,e,r2,q1,q2,q3,q4⟩:=hL (by omega) ⟨pl,3,a,z,n,t,af,ct+1,IntKind.i64.wrap (dp+1)⟩ (O.set o (RV.o s ⟨pl,3,a,z,n,t,af,ct+1,IntKind.i64.wrap (dp+1)⟩)++[mJ,mJ]) o (okz _ rfl _ rfl) (g1 _ _) ha (by dsimp only;omega) (by dsimp only;omega) (by dsimp only;omega)
    rw[p1]at q1;obtain⟨pl2,k2,a2,z2,n2,t2,af2,ct2,dp2⟩:=r2;dsimp only[RV.o,RV.cs,mJ]at q1 q2 q3 q4;have nf:=fun Y r=>j.nvs.nf Y r;have jl:=JV.len j;have jf:=JV.flat j;have jt:j.cs.take 5=j.cs:=List.take_of_length_le (by rw[JV.len];exact Nat.le_refl _)
    have je:5<=j.cs.length:=by rw[JV.len];exact Nat.le_refl _
    refine⟨j,e,⟨pl2,k2,a2,z2,n2,t2,af2,ct2,IntKind.i64.wrap (dp2-1)⟩,?_,q2,by dsimp only at*;omega,fun h=>⟨by dsimp only at*;omega,q4 h⟩⟩
    simp only[aJ,hc,hw1,hd,q1,nf,jl,jf,jt,tyJ,g0,p0,g1,p1,RU,jF,RY,sJ,bQ,bz,AV.cells,AV.flat,JV.av,List.length_set,splice,EVX,seval]
 have n7:(k==7)=false:=by simpa using h7
 have n8:(k==8)=false:=by simpa using h8
 have n9:(k==9)=false:=by simpa using h9
 have n10:(k==10)=false:=by simpa using h10
 have n1:(k==1)=false:=by simpa using h1
 have n3:(k==3)=false:=by simpa using h3
 refine⟨JV.zero,e1,⟨pl,k,a,z,n,t,af,ct,dp⟩,?_,ha,Int.le_refl _,fun h=>absurd h we⟩;dsimp only[RV.o,RV.cs];rw[sself];simp only[aJ,n7,n8,n9,n10,n1,n3,w,g0,ty0,bQ,bz,dL,AV.cells,AV.flat,JV.av,JV.zero_cs,splice,EVX,seval]
theorem QQ{Y:St}{q n sz:Nat}{l:LA}{fz:Fz}(hq:Y[q]?=some (.cells l fz))(hl:l.length=n*sz)(ns:NVs l):aQ Y (bM Y 11) (.msl q 0 n sz)=some (.sl n l,[q]):=by
 have nr:bM Y 11 l=some (l,[]):=by
  show aI Y (bM Y 10) l=_;exact ns.nf _ _
 unfold aQ;rw[hq];show(if 0+n*sz<=l.length then match bM Y 11 ((l.drop 0).take (n*sz))with|some (l,fs)=>some (AV.sl n l,q::fs)|none=>none else none)=_
 rw[if_pos (by omega),List.drop_zero,List.take_of_length_le (by omega),nr]
theorem BZ{Y:St}{q:Nat}{l:LA}(hq:Y[q]?=some (.cells l ⟨false,none⟩)):freeze Y [q]=Y.set q (.cells l ⟨true,none⟩):=by
 unfold freeze;rw[hq];rfl
theorem ww{O S:St}{vs:LA}{x:AO}{o:Nat}(hσ:Ok O)(hx:x.below 0=true)(hv:ae 0 vs=true)(h:S.take O.length=O.set o x):tidy O.length vs S=O.set o x:=by
 unfold tidy;have hl:(S.take O.length).length=O.length:=by rw[h];simp
 have hok:(S.take O.length).all (AO.below O.length)=true:=by
  have:=hσ.set o hx;unfold Ok at this;rw[List.length_set]at this;rw[h];exact this
 by_cases he:S.length=O.length
 ·rw[if_pos he,<-h,List.take_of_length_le (by omega)]
 ·rw[if_neg he,hok,aP (Nat.zero_le _) _ hv];exact h
def Vk(Y:St)(n0:Nat)(is:List JV)(x:AV):Prop:=(is=[]/\x=.nils)\/(is≠[]/\∃q,x=.msl q 0 is.length 5/\Y[q]?=some (.cells (aB is) ⟨false,none⟩)/\n0+2<=q)
structure alu(s:LU)(O:St)(o:Nat)(r:RV)(is:List JV)(x:AV)(Y:St):Prop where
 hok:Ok Y
 hr:Y[o]?=some (r.o s)
 hres:Y[O.length]?=some mJ
 hv:Y[O.length+1]?=some (.cells [.int .u8 4,.int .i64 0,.str [],.nils,x] ⟨false,none⟩)
 his:Vk Y O.length is x
 hpre:Y.take O.length=O.set o (r.o s)
def ap0(s:LU)(O:St)(o:Nat)(ct:Int)(x:RX):Prop:=∃(r':RV) (e:Int) (Y':St) (l:LA),x=some (.ret,[(2,.ref O.length 0),(3,.int .i64 e)],Y')/\0<=r'.after/\ct<=r'.count/\(e=0->r'.count<=8192)/\Y'.take O.length=O.set o (r'.o s)/\
 Y'[O.length]?=some (.cells l ⟨false,none⟩)/\(l=[.int .u8 0,.int .i64 0,.str [],.nils,.nils]\/∃(is:List JV) (q:Nat),is.length<=8192/\l=[.int .u8 4,.int .i64 0,.str [],.nils,.msl q 0 is.length 5]/\Y'[q]?=some (.cells (aB is) ⟨false,none⟩)/\O.length+2<=q)
theorem Ok.set2{O:St}(h:Ok O)(o:Nat){x:AO}(hx:x.below O.length=true):Ok (O.set o x):=by
 unfold Ok at*;rw[List.length_set];rw[List.all_eq_true]at*;intro y hy;rcases List.mem_or_eq_of_mem_set hy with hy|rfl
 ·exact h y hy
 ·exact hx
theorem aa2 {Y:St} {n0 o:Nat} {is:List JV} {x:AV} (j:JV) (c:AO) (h:Vk Y n0 is x) (hok:Ok Y) (hl:is.length<=8192) (ho:o<n0) {y z w:AO} (h1:Y[o]?=some y) (h2:Y[n0]?=some z) (h3:Y[n0+1]?=some w):
  ∃Y2:St,ry (Y++[c]) 5 80 none x 1 j.cs=some (.msl (Y.length+1) 0 (is.length+1) 5,Y2++[c,.cells (aB (is++[j])) ⟨false,none⟩])/\Y2.length=Y.length/\Y2[o]?=some y/\Y2[n0]?=some z/\Y2[n0+1]?=some w/\Y2.take n0=Y.take n0/\Ok Y2:=by
 rcases h with⟨e1,e2⟩|⟨e1,q,e2,e3,e4⟩
 ·subst e1;subst e2;refine⟨Y,?_,rfl,h1,h2,h3,rfl,hok⟩;rw[EM _ none j.cs (by omega) (by omega) (by omega)]
  simp[aB]
 ·subst e2;have hq:(Y++[c])[q]?=some (.cells (aB is) ⟨false,none⟩):=aH e3 _;refine⟨Y.set q .dead,?_,by simp,aO h1 (by omega) _,aO h2 (by omega) _,aO h3 (by omega) _,dD _ _ _ (by omega) _,hok.set2 _ rfl⟩
  rw[Pn j.cs hq (by omega) (jo is) (by omega) (by omega),dY e3,Au]
  simp[aB]
theorem Uy (H:ReadHas C) (s:LU) (hs:s.length<1099511627777) (m:Nat) (hV:Z7 C s m) (O:St) (o:Nat) (hoσ:o<O.length):∀(k:Nat) (r:RV) (is:List JV) (x:AV) (Y:St),alu s O o r is x Y->0<=r.after->(is.length:Int)<=r.count->r.count<=8192->8192<=r.count+k->8192<=r.count+m->
  ap0 s O o r.count (aA C (ai C) 53 [0,2,4] bJ [(0,.ref o 0),(2,.ref O.length 0),(4,.ref (O.length+1) 0)] Y)
 |k,r,is,x,Y,I,ha,hc1,hc2,hk,hm=>by
  obtain⟨hok,hr,hres,hv,his,hpre⟩:=I;obtain⟨j,e,r1,v1,v2,v3,v4⟩:=hV r Y o hok hr ha (by omega) hm
  have T1:(Y.set o (r1.o s)).length=Y.length:=by simp
  have hr1:=bZ hr (r1.o s);have hres1:=aO hres (show O.length≠o by omega) (r1.o s)
  have hv1:=aO hv (show O.length+1≠o by omega) (r1.o s)
  have ok1:=hok.set o (RV.below s r1);have hpre1:(Y.set o (r1.o s)).take O.length=O.set o (r1.o s):=by rw[List.take_set,hpre,List.set_set]
  have his1:Vk (Y.set o (r1.o s)) O.length is x:=by
   rcases his with h|⟨e1,q,e2,e3,e4⟩
   ·exact .inl h
   ·exact .inr ⟨e1,q,e2,aO e3 (by omega) _,e4⟩
  have nl:O.length+1<Y.length:=(List.getElem?_eq_some_iff.mp hv).1;generalize hS1:Y.set o (r1.o s)=S1 at*;have jl:=JV.len j;have jf:=JV.flat j;have jt:j.cs.take 5=j.cs:=List.take_of_length_le (by rw[JV.len];exact Nat.le_refl _)
  have je:5<=j.cs.length:=by rw[JV.len];exact Nat.le_refl _
  have d5:∀l:LA,l.length=5->l.drop 5=[]:=fun l h=>List.drop_eq_nil_of_le (by omega)
  have b1:=fun L=>aH hv1 L;have c1:=fun L=>aH hres1 L;have p1:=fun L y=>dY hres1 L y;dsimp only[mJ]at*;rw[aG (he:=rfl)];cases ce:(e !=0)
  ·have e0:e=0:=by simpa using ce
   subst e0;obtain⟨w1,w2⟩:=v4 rfl;obtain⟨S2,a1,a2,a3,a4,a5,a6,a7⟩:=aa2 j (.cells j.cs ⟨false,none⟩) his1 ok1 (by omega) hoσ hr1 hres1 hv1
   rw[T1]at a1 a2;have b2:=fun L=>aH a5 L;have p2:=fun L y=>dY a5 L y;have ok3:Ok ((S2++[AO.cells j.cs ⟨false,none⟩,AO.cells (aB (is++[j])) ⟨false,none⟩]:St).set (O.length+1) (.cells [.int .u8 4,.int .i64 0,.str [],.nils,.msl (Y.length+1) 0 (is.length+1) 5] ⟨false,none⟩)):=by
    refine Ok.set2 (a7.plus (by simp only[List.all_cons,List.all_nil,AO.below,JV.bel,fE,Bool.and_true])) _ ?_
    rw[List.length_append,a2];simp[AO.below,ae,below]
   rw[p2]at ok3;have hr3:=aO a3 (show o≠O.length+1 by omega) (.cells [.int .u8 4,.int .i64 0,.str [],.nils,.msl (Y.length+1) 0 (is.length+1) 5] ⟨false,none⟩)
   have hres3:=aO a4 (show O.length≠O.length+1 by omega) (.cells [.int .u8 4,.int .i64 0,.str [],.nils,.msl (Y.length+1) 0 (is.length+1) 5] ⟨false,none⟩)
   have hv3:=bZ a5 (.cells [.int .u8 4,.int .i64 0,.str [],.nils,.msl (Y.length+1) 0 (is.length+1) 5] ⟨false,none⟩);have hpre3:(S2.set (O.length+1) (.cells [.int .u8 4,.int .i64 0,.str [],.nils,.msl (Y.length+1) 0 (is.length+1) 5] ⟨false,none⟩)).take O.length=O.set o (r1.o s):=by
    rw[dD _ _ _ (by omega),a6,hpre1]
   have T3:(S2.set (O.length+1) (.cells [.int .u8 4,.int .i64 0,.str [],.nils,.msl (Y.length+1) 0 (is.length+1) 5] ⟨false,none⟩)).length=Y.length:=by simp[a2]
   generalize hS3:S2.set (O.length+1) (.cells [.int .u8 4,.int .i64 0,.str [],.nils,.msl (Y.length+1) 0 (is.length+1) 5] ⟨false,none⟩)=S3 at*;obtain⟨r2,b,e2,m1,m2,m3,m4⟩:=N9 H s hs 4 r1 v2 _ ok3 o (aH hr3 _);rw[dY hr3]at m1;have hr4:=bZ hr3 (r2.o s);have hres4:=aO hres3 (show O.length≠o by omega) (r2.o s)
   have hv4:=aO hv3 (show O.length+1≠o by omega) (r2.o s)
   have T4:(S3.set o (r2.o s)).length=Y.length:=by simp[T3]
   have ok4:=ok3.set o (RV.below s r2);rw[dY hr3]at ok4;have hpre4:(S3.set o (r2.o s)).take O.length=O.set o (r2.o s):=by rw[List.take_set,hpre3,List.set_set]
   generalize hS4:S3.set o (r2.o s)=S4 at*;have c4:=fun L=>aH hres4 L;have p4:=fun L y=>dY hres4 L y;have v5:=fun L=>aH hv4 L;have oq:∀y L,(S4.set O.length y++L)[O.length]?=some y:=fun y L=>aH (bZ hres4 y) L;have pq:∀y L,(S4.set O.length y++L).take O.length=O.set o (r2.o s):=fun y L=>by
    rw[oC _ _ _ (by simp[T4];omega),dD _ _ _ (Nat.le_refl _),hpre4]
   have blk:∀y L,(S4.set O.length y++(AO.cells j.cs ⟨false,none⟩::AO.cells (aB (is++[j])) ⟨false,none⟩::L))[Y.length+1]?=some (.cells (aB (is++[j])) ⟨false,none⟩):=fun y L=>by
    rw[tN (by simp[T4])];rfl
   cases ce2:(e2 !=0)
   ·have e0:e2=0:=by simpa using ce2
    subst e0;cases b
    ·
     refine⟨r2,0,S4.set O.length (.cells [.int .u8 4,.int .i64 0,.str [],.nils,.msl (Y.length+1) 0 (is.length+1) 5] ⟨false,none⟩)++[.cells j.cs ⟨false,none⟩,.cells (aB (is++[j])) ⟨false,none⟩],_,?_,m2,by omega,fun _=>by omega,pq _ _,oq _ _,.inr ⟨is++[j],Y.length+1,by simp;omega,by simp,blk _ _,by omega⟩⟩
     generalize hk:aA C (ai C) 53 [0,2,4] bJ=kk at*;simp only[bJ,v1,b1,a1,b2,p2,hS3,m1,c4,p4,v5,jl,jf,jt,splice,d5,ce,AV.cells,AV.flat,JV.av,EVX,seval]
    ·
     have I2:alu s O o r2 (is++[j]) (.msl (Y.length+1) 0 (is.length+1) 5) (S4++[.cells j.cs ⟨false,none⟩,.cells (aB (is++[j])) ⟨false,none⟩]):=by
      refine⟨ok4,aH hr4 _,aH hres4 _,aH hv4 _,.inr ⟨by simp,Y.length+1,by simp,?_,by omega⟩,?_⟩
      ·rw[tN T4];rfl
      ·rw[oC _ _ _ (by omega),hpre4]
     have hk0:0<k:=by omega
     obtain⟨k,rfl⟩:∃k',k=k'+1:=⟨k-1,by omega⟩
     have ih:=Uy H s hs m hV O o hoσ k r2 (is++[j]) _ _ I2 m2 (by simp;omega) (by omega) (by omega) (by omega)
     obtain⟨r',e',Y',l,i1,i2,i3,i4,i5,i6,i7⟩:=ih;refine⟨r',e',Y',l,?_,i2,by omega,i4,i5,i6,i7⟩
     generalize hk:aA C (ai C) 53 [0,2,4] bJ=kk at*;simp only[bJ,v1,b1,a1,b2,p2,hS3,m1,jl,jf,jt,splice,d5,ce,AV.cells,AV.flat,JV.av,i1,EVX,seval]
   ·refine⟨r2,e2,S4.set O.length (.cells [.int .u8 0,.int .i64 0,.str [],.nils,.nils] ⟨false,none⟩)++[.cells j.cs ⟨false,none⟩,.cells (aB (is++[j])) ⟨false,none⟩],_,?_,m2,by omega,fun h=>absurd h (by simpa using ce2),pq _ _,oq _ _,.inl rfl⟩
    generalize hk:aA C (ai C) 53 [0,2,4] bJ=kk at*;simp only[bJ,v1,b1,a1,b2,p2,hS3,m1,c4,p4,jl,jf,jt,splice,d5,ce,ce2,AV.cells,AV.flat,JV.av,EVX,seval]
  ·refine⟨r1,e,S1.set O.length (.cells [.int .u8 0,.int .i64 0,.str [],.nils,.nils] ⟨false,none⟩)++[.cells j.cs ⟨false,none⟩],_,?_,v2,v3,fun h=>absurd h (by simpa using ce),?_,aH (bZ hres1 _) _,.inl rfl⟩
   ·generalize hk:aA C (ai C) 53 [0,2,4] bJ=kk at*;simp only[bJ,v1,c1,p1,jl,jf,splice,d5,ce,AV.cells,AV.flat,JV.av,EVX,seval]
   ·rw[oC _ _ _ (by simp[T1];omega),dD _ _ _ (Nat.le_refl _),hpre1]
theorem DN {O Y:St} {o:Nat} {x:AO} (hσ:Ok O) (hx:x.below 0=true) (e:Int) (E:As) (h2:look E 2=.ref O.length 0) (h3:look E 3=.int .i64 e) (hτ:Y.take O.length=O.set o x) (hl:Y[O.length]?=some (.cells [.int .u8 0,.int .i64 0,.str [],.nils,.nils] ⟨false,none⟩)):
  AP O.length [.cell 2 true 5,.tmp 3] (some (.ret,E,Y))=some (.tup [JV.zero.av,.int .i64 e],O.set o x):=by
 rw[rP];have:bQ E Y [.cell 2 true 5,.tmp 3]=some [.agg [.int .u8 0,.int .i64 0,.str [],.nils,.nils],.int .i64 e]:=by
  simp only[bQ,h2,h3,hl,pt,List.drop_zero,List.length_cons,List.length_nil,List.take];rfl
 rw[this];have hh:hand false [.agg [.int .u8 0,.int .i64 0,.str [],.nils,.nils],.int .i64 e] Y=some ([JV.zero.av,.int .i64 e],Y):=by
  rw[yx,bg,bz,bg,bg,bg,bg,bg,dL,Ci,JV.av,JV.zero_cs];rfl
 dsimp only;rw[hh];dsimp only[bD];rw[ww hσ hx (by rw[ae,JV.av,below,JV.bel];rfl) hτ]
theorem ag2 {O Y:St} {o:Nat} {x:AO} (hσ:Ok O) (hx:x.below 0=true) (e:Int) (E:As) (h2:look E 2=.ref O.length 0) (h3:look E 3=.int .i64 e) (hτ:Y.take O.length=O.set o x) (is:List JV) (his:is.length<=8192) (q:Nat) (hl:Y[O.length]?=some (.cells [.int .u8 4,.int .i64 0,.str [],.nils,.msl q 0 is.length 5] ⟨false,none⟩)) (hq:Y[q]?=some (.cells (aB is) ⟨false,none⟩)) (hq2:O.length+2<=q):
  AP O.length [.cell 2 true 5,.tmp 3] (some (.ret,E,Y))=some (.tup [(JV.mk 4 0 [] [] is (by simp) (by omega) his (StB.nil lb0)).av,.int .i64 e],O.set o x):=by
 rw[rP];have:bQ E Y [.cell 2 true 5,.tmp 3]=some [.agg [.int .u8 4,.int .i64 0,.str [],.nils,.msl q 0 is.length 5],.int .i64 e]:=by
  simp only[bQ,h2,h3,hl,pt,List.drop_zero,List.length_cons,List.length_nil,List.take];rfl
 rw[this];have hh:hand false [.agg [.int .u8 4,.int .i64 0,.str [],.nils,.msl q 0 is.length 5],.int .i64 e] Y=some ([(JV.mk 4 0 [] [] is (by simp) (by omega) his (StB.nil lb0)).av,.int .i64 e],Y.set q (.cells (aB is) ⟨true,none⟩)):=by
  rw[yx,bg,bz,bg,bg,bg,bg,bg,dL,QQ hq (jo is) (Cb is),Ci,JV.av,JV.mk_cs,<-BZ hq];rfl
 dsimp only;rw[hh];dsimp only[bD];rw[ww hσ hx (by rw[ae,JV.av,below,JV.bel];rfl) (by rw[dD _ _ _ (by omega),hτ])]
theorem ahc(H:ReadHas C)(hC:Has C pJ ji)(s:LU)(hs:s.length<1099511627777)(m:Nat)(hV:Z7 C s m):aiL C pJ s m:=by
 intro r O o hσ ho ha hc0 hc hm;have hl:o<O.length:=(List.getElem?_eq_some_iff.mp ho).1;have hn:hand false [.ref o 0] O=some ([.ref o 0],O):=rfl;have ok1:Ok (O++[.cells [.int .u8 0,.int .i64 0,.str [],.nils,.nils] ⟨false,none⟩,.cells [.int .u8 4,.int .i64 0,.str [],.nils,.nils] ⟨false,none⟩]):=hσ.plus rfl;obtain⟨r1,e,n1,n2,n3,n4⟩:=oN H.toNextHas s hs r ha _ ok1 o (aH ho _);rw[dY ho]at n1;have g0:=fun x L=>aH (bZ ho x) L;rw[hC.go hn (by simp[ji])]
 have L1:(O.set o (r1.o s)).length=O.length:=by simp
 have q0:=fun L=>mO L1 L;have q1:=fun L k=>tN L1 L k;have w0:=fun L y=>wL L1 L y;have e0:∀L:St,(O.set o (r1.o s)++L).take O.length=O.set o (r1.o s):=fun L=>by
  rw[List.take_append_of_le_length (by simp),List.take_of_length_le (by simp)]
 have q2:∀(x:AO) (L:St),(O.set o (r1.o s)++x::L)[O.length]?=some x:=fun x L=>by rw[q0];rfl
 have I:alu s O o r1 [] .nils (O.set o (r1.o s)++[mJ,.cells [.int .u8 4,.int .i64 0,.str [],.nils,.nils] ⟨false,none⟩]):=by
  refine⟨(hσ.set o (RV.below s r1)).plus rfl,g0 _ _,by rw[q0];rfl,by rw[q1];rfl,.inl ⟨rfl,rfl⟩,e0 _⟩
 obtain⟨r2,e2,Y2,l,i1,i2,i3,i4,i5,i6,i7⟩:=Uy H s hs m hV O o hl 8192 r1 [] .nils _ I n2 (by simp;omega) (by omega) (by omega) (by omega)
 cases ce:(e !=0)
 ·have c0:e=0:=by simpa using ce
  subst c0;cases c4:(r1.k==4)
  ·have hi:∃j:JV,AP O.length [.cell 2 true 5,.tmp 3] (some (.ret,[(2,.ref O.length 0),(3,.int .i64 e2)],Y2))=some (.tup [j.av,.int .i64 e2],O.set o (r2.o s)):=by
    rcases i7 with i7|⟨is,q,i7,i8,i9,i10⟩
    ·subst i7;exact⟨_,DN hσ (RV.below s r2) e2 _ rfl rfl i5 i6⟩
    ·subst i8;exact⟨_,ag2 hσ (RV.below s r2) e2 _ rfl rfl i5 is i7 q i6 i9 i10⟩
   obtain⟨j,hj⟩:=hi;refine⟨j,e2,r2,?_,i2,by omega,i4⟩
   rw[<-hj];dsimp only[RV.o,RV.cs,mJ]at*
   congr 1
   simp only[ji,n1,g0,c4,i1,splice,EVX,seval]
  ·refine⟨JV.leaf 4 0 [] lb0,0,r1,?_,n2,by omega,fun _=>by omega⟩
   have tk:=ww (S:=O.set o (r1.o s)++[AO.cells [.int .u8 4,.int .i64 0,.str [],.nils,.nils] ⟨false,none⟩,AO.cells [.int .u8 4,.int .i64 0,.str [],.nils,.nils] ⟨false,none⟩]) hσ (RV.below s r1) (vs:=[.agg [.int .u8 4,.int .i64 0,.str [],.sl 0 [],.sl 0 []],.int .i64 0]) rfl (e0 _);dsimp only[RV.o,RV.cs,mJ]at*;simp only[ji,n1,g0,q0,q1,w0,c4,splice,tk,bQ,bz,dL,AV.cells,AV.flat,JV.av,JV.leaf_cs,EVX,seval]
 ·refine⟨JV.zero,e,r1,?_,n2,by omega,fun h=>absurd h (by simpa using ce)⟩
  have hj:=DN hσ (RV.below s r1) e [(2,.ref O.length 0),(3,.int .i64 e)] rfl rfl (e0 _) (q2 (.cells [.int .u8 0,.int .i64 0,.str [],.nils,.nils] ⟨false,none⟩) [.cells [.int .u8 4,.int .i64 0,.str [],.nils,.nils] ⟨false,none⟩]);rw[<-hj];dsimp only[RV.o,RV.cs,mJ]at*
  congr 1
  simp only[ji,n1,q0,w0,ce,splice,EVX,seval]
def vX(l:List (LU×Int)):List (AV×AV):=l.map fun p=>(.str p.1,.int .i64 p.2)
theorem ahf(l:List (LU×Int))(i:Nat)(s:LU)(n:Int):(vX l).set i (.str s,.int .i64 n)=vX (l.set i (s,n)):=by simp[vX,List.map_set]
theorem aet(l:List (LU×Int))(s:LU)(n:Int):vX l++[(.str s,.int .i64 n)]=vX (l++[(s,n)]):=by simp[vX]
theorem Qg(s:LU):∀(l:List (LU×Int)) (k:Nat),mi (.str s) (vX l) k=some none\/∃(i:Nat) (n:Int),mi (.str s) (vX l) k=some (some (i,.int .i64 n))/\k<=i/\i<k+l.length
 |[],k=>.inl rfl
 |p::l,k=>by
  have hm:vX (p::l)=(.str p.1,.int .i64 p.2)::vX l:=rfl;rw[hm];simp only[mi,YI];cases iD s p.1
  ·rcases Qg s l (k+1)with h|⟨i,n,h,h1,h2⟩
   ·left;exact h
   ·right;refine⟨i,n,h,by omega,?_⟩
    rw[List.length_cons];omega
  ·right;refine⟨k,p.2,rfl,Nat.le_refl _,?_⟩;rw[List.length_cons];omega
def lookA(O:St)(z m k:AV):Option AV:=match mapOf O m with
 |some es=>match mi k es 0 with
  |some (some (_,v))=>some v
  |some none=>some z
  |none=>none
 |none=>none
def aoV(O:St):Option AV->Option Out
 |some v=>some (.val v O)
 |none=>none
theorem uw(O:St)(v:AV):aoV O (some v)=some (.val v O):=rfl
theorem Nq(a:XA->AV)(n0:Nat)(O:St)(z:AV)(m k:XA):aj C a n0 O (.lookup z m k false)=aoV O (lookA O z (a m) (a k)):=by
 rw[aj.eq_32];unfold lookA;cases mapOf O (a m)with
 |none=>rfl
 |some es=>
  dsimp only;cases mi (a k) es 0 with
  |none=>rfl
  |some x=>
   cases x with
   |none=>rfl
   |some q=>rfl
def aiy(O:St)(m k v:AV):Option St:=match m with
 |.map r=>match O[r]? with
  |some (.map es)=>match k with
   |.str s=>match mi (.str s) es 0 with
    |some (some (i,_))=>some (O.set r (.map (es.set i (.str s,v))))
    |some none=>some (O.set r (.map (es++[(.str s,v)])))
    |none=>none
   |_=>none
  |_=>none
 |_=>none
def aor:Option St->Option Out
 |some O=>some (.val .undef O)
 |none=>none
theorem L8(O:St):aor (some O)=some (.val .undef O):=rfl
theorem agQ(a:XA->AV)(n0:Nat)(O:St)(m k v:XA):aj C a n0 O (.mapUpd m k v)=aor (aiy O (a m) (a k) (a v)):=by
 rw[aj.eq_33];unfold aiy;cases a m<;>try rfl
 dsimp only;rename_i r;cases O[r]? with
 |none=>rfl
 |some x=>
  cases x<;>try rfl
  dsimp only;cases a k<;>try rfl
  dsimp only;rename_i es s;cases mi (.str s) es 0 with
  |none=>rfl
  |some x=>
   cases x with
   |none=>rfl
   |some q=>rfl
theorem YQ{O:St}{p:Nat}{l:List (LU×Int)}(h:O[p]?=some (.map (vX l)))(s:LU):∃n:Int,∀L:St,lookA (O++L) (.int .i64 0) (.map p) (.str s)=some (.int .i64 n):=by
 rcases Qg s l 0 with f|⟨i,n,f,_,_⟩
 ·exact⟨0,fun L=>by simp only[lookA,mapOf,aH h,f]⟩
 ·exact⟨n,fun L=>by simp only[lookA,mapOf,aH h,f]⟩
theorem akA{O:St}{p:Nat}{l:List (LU×Int)}(h:O[p]?=some (.map (vX l)))(s:LU)(n:Int):∃l':List (LU×Int),∀L:St,aiy (O++L) (.map p) (.str s) (.int .i64 n)=some (O.set p (.map (vX l'))++L):=by
 rcases Qg s l 0 with f|⟨i,n',f,_,_⟩
 ·exact⟨l++[(s,n)],fun L=>by simp only[aiy,aH h,f,dY h,aet]⟩
 ·exact⟨l.set i (s,n),fun L=>by simp only[aiy,aH h,f,dY h,ahf]⟩
theorem aaP(k:Nat)(l:List (LU×Int)):(AO.map (vX l)).below k=true:=by
 show(ae k ((vX l).map (·.1))&&ae k ((vX l).map (·.2)))=true
 induction l with
 |nil=>rfl
 |cons p l ih=>
  rw[Bool.and_eq_true]at ih;show(ae k (.str p.1::(vX l).map (·.1))&&ae k (.int .i64 p.2::(vX l).map (·.2)))=true;rw[ae,ae,ih.1,ih.2];rfl
def Zq:AO:=.cells [.str [],.int .u8 0,.int .i64 0,.str [],.nils,.nils] ⟨false,none⟩
def zEL:EL:=(⟨[],lb0⟩,JV.zero)
theorem SI:elC zEL=[.str [],.int .u8 0,.int .i64 0,.str [],.sl 0 [],.sl 0 []]:=by simp[elC,zEL,JV.zero_cs]
theorem aaQ (H:ReadHas C) (hC:Has C jP bI) (s:LU) (hs:s.length<1099511627777) (m:Nat) (hV:Z7 C s m) (r:RV) (O:St) (o p:Nat) (l:List (LU×Int)) (hσ:Ok O) (ho:O[o]?=some (r.o s)) (hp:O[p]?=some (.map (vX l))) (ha:0<=r.after) (hc0:0<=r.count) (hm:8192<=r.count+m):
  ∃(x:EL) (e:Int) (r':RV),ai C jP [.ref o 0,.map p] O=some (.tup [.agg (elC x),.int .i64 e],O.set o (r'.o s))/\0<=r'.after/\r.count<=r'.count/\(e=0->r.count<r'.count/\r'.count<=8192):=by
 have hn:hand false [.ref o 0,.map p] O=some ([.ref o 0,.map p],O):=rfl;have ok1:Ok (O++[Zq]):=hσ.plus rfl;obtain⟨e0,w,we⟩:=yF H.wrong s r (O++[Zq]) o (aH ho _);obtain⟨r1,e1,x1,x2,x3,x4⟩:=Tt H s hs 6 r ha _ ok1 o (aH ho _);rw[dY ho]at x1;have ho1:=bZ ho (r1.o s);have ok2:Ok (O.set o (r1.o s)++[Zq]):=(hσ.set o (RV.below s r1)).plus rfl;obtain⟨r2,e2,y1,y2,y3,y4⟩:=oN H.toNextHas s hs r1 x2 _ ok2 o (aH ho1 _);rw[dY ho1,List.set_set]at y1;have ho2:=bZ ho (r2.o s);have ok3:Ok (O.set o (r2.o s)++[Zq]):=(hσ.set o (RV.below s r2)).plus rfl;obtain⟨j,e3,r3,z1,z2,z3,z4⟩:=hV r2 _ o ok3 (aH ho2 _) y2 (by omega) (by omega)
 rw[dY ho2,List.set_set]at z1;have g0:=fun L=>aH ho L;have tyZ:∀(x:AO) (hx:x.below 0=true) (e:Int) (L:St),tidy O.length [.agg [.str [],.int .u8 0,.int .i64 0,.str [],.sl 0 [],.sl 0 []],.int .i64 e] (O.set o x++L)=O.set o x:=fun x hx e L=>EF hσ o hx _ rfl L;have tyx:∀(x:AO) (hx:x.below 0=true) (y:LA) (hy:ae 0 y=true) (e:Int) (L:St),tidy O.length [.agg y,.int .i64 e] (O.set o x++L)=O.set o x:=fun x hx y hy e L=>EF hσ o hx _ (by rw[ae,below,hy];rfl) L
 have ty0:∀(e:Int) (L:St),tidy O.length [.agg [.str [],.int .u8 0,.int .i64 0,.str [],.sl 0 [],.sl 0 []],.int .i64 e] (O++L)=O:=fun e L=>dX hσ rfl L;have t1:=fun e L=>tyZ (r1.o s) (RV.below s r1) e L;have t2:=fun e L=>tyZ (r2.o s) (RV.below s r2) e L;have t3:=fun e L=>tyZ (r3.o s) (RV.below s r3) e L;have t4:=fun e L=>tyx (r3.o s) (RV.below s r3) (elC (r.t,j)) (Oz _) e L;have nf:=fun Y r'=>(aji (r.t,j)).nf Y r';have sself:=set_self ho;have jl:=JV.len j;have jf:=JV.flat j;have jt:j.cs.take 5=j.cs:=List.take_of_length_le (by rw[JV.len];exact Nat.le_refl _)
 have je:5<=j.cs.length:=by rw[JV.len];exact Nat.le_refl _
 have el:=kY (r.t,j);have ef:=uK (r.t,j);have et:(elC (r.t,j)).take 6=elC (r.t,j):=List.take_of_length_le (by rw[kY];exact Nat.le_refl _)
 have d5:∀l:LA,l.length=5->l.drop 5=[]:=fun l h=>List.drop_eq_nil_of_le (by omega)
 have eb:AV.str r.t.1::j.cs=elC (r.t,j):=rfl;rw[hC.go hn (by simp[bI])]
 dsimp only[RV.o,RV.cs,Zq]at*;cases ck:(r.k !=10)
 ·
  obtain⟨n,go⟩:=YQ hp r.t;cases cn:decide (n>0)
  ·cases c1:(e1 !=0)
   ·cases c2:(e2 !=0)
    ·cases c3:(e3 !=0)
     ·have c0:e3=0:=by simpa using c3
      subst c0;refine⟨(r.t,j),0,r3,?_,z2,by omega,fun _=>by have:=z4 rfl;omega⟩
      simp only[bI,ck,cn,go,↓Nq,uw,c1,c2,c3,x1,y1,z1,g0,t4,nf,jl,jf,jt,el,ef,et,eb,d5,RU,jF,RY,sJ,bQ,bz,AV.cells,JV.av,List.length_set,splice,EVX,seval]
     ·refine⟨zEL,e3,r3,?_,z2,by omega,fun h=>absurd h (by simpa using c3)⟩
      simp only[bI,ck,cn,go,↓Nq,uw,c1,c2,c3,x1,y1,z1,g0,t3,jl,jf,d5,SI,RU,jF,RY,sJ,bQ,bz,dL,AV.cells,AV.flat,JV.av,List.length_set,splice,EVX,seval]
    ·refine⟨zEL,e2,r2,?_,y2,by omega,fun h=>absurd h (by simpa using c2)⟩
     simp only[bI,ck,cn,go,↓Nq,uw,c1,c2,x1,y1,g0,t2,d5,SI,jF,sJ,bQ,bz,dL,AV.cells,AV.flat,splice,EVX,seval]
   ·refine⟨zEL,e1,r1,?_,x2,by omega,fun h=>absurd h (by simpa using c1)⟩
    simp only[bI,ck,cn,go,↓Nq,uw,c1,x1,g0,t1,d5,SI,jF,sJ,bQ,bz,dL,AV.cells,AV.flat,splice,EVX,seval]
  ·refine⟨zEL,7,r,?_,ha,by omega,fun h=>absurd h (by omega)⟩
   rw[sself];simp only[bI,ck,cn,go,↓Nq,uw,g0,ty0,d5,SI,bQ,bz,dL,AV.cells,AV.flat,splice,EVX,seval]
 ·refine⟨zEL,e0,r,?_,ha,by omega,fun h=>absurd h we⟩
  rw[sself];simp only[bI,ck,w,g0,ty0,d5,SI,bQ,bz,dL,AV.cells,AV.flat,splice,EVX,seval]
structure SortHas(C:Ctx):Prop where
 srt:Oq C dR xK
 sorted:Vj C wG wB
def alC(Y:St)(n0:Nat)(xs:List EL)(x:AV):Prop:=(xs=[]/\x=.nils)\/(xs≠[]/\∃q,x=.msl q 0 xs.length 6/\Y[q]?=some (.cells (jB xs) ⟨false,none⟩)/\n0+2<=q)
theorem adS(xs:List EL)(x:EL):jB (xs++[x])=jB xs++elC x:=by simp[jB]
theorem alI {Y:St} {n0:Nat} {xs:List EL} {x:AV} (y:EL) (c:AO) (h:alC Y n0 xs x) (hok:Ok Y) (hl:xs.length<=8192):
  ∃Y2:St,ry (Y++[c]) 6 96 none x 1 (elC y)=some (.msl (Y.length+1) 0 (xs.length+1) 6,Y2++[c,.cells (jB (xs++[y])) ⟨false,none⟩])/\Y2.length=Y.length/\(∀(i:Nat) (w:AO),i<n0+2->Y[i]?=some w->Y2[i]?=some w)/\Y2.take n0=Y.take n0/\Ok Y2:=by
 rcases h with⟨e1,e2⟩|⟨e1,q,e2,e3,e4⟩
 ·subst e1;subst e2;refine⟨Y,?_,rfl,fun _ _ _ h=>h,rfl,hok⟩;rw[EM _ none (elC y) (by omega) (by omega) (by omega)]
  simp[jB]
 ·subst e2;have hq:(Y++[c])[q]?=some (.cells (jB xs) ⟨false,none⟩):=aH e3 _;refine⟨Y.set q .dead,?_,by simp,fun i w hi h=>aO h (by omega) _,dD _ _ _ (by omega) _,hok.set2 _ rfl⟩
  rw[Pn (elC y) hq (by omega) (Ya xs) (by omega) (by omega),dY e3,adS]
  simp
structure aly(s:LU)(O:St)(o:Nat)(r:RV)(xs:List EL)(x:AV)(Y:St):Prop where
 hok:Ok Y
 hr:Y[o]?=some (r.o s)
 hres:Y[O.length]?=some mJ
 hmap:∃l,Y[O.length+1]?=some (.map (vX l))
 hxs:alC Y O.length xs x
 hpre:Y.take O.length=O.set o (r.o s)
def ap4(s:LU)(O:St)(o:Nat)(ct:Int)(x:RX):Prop:=∃(r':RV) (e:Int) (Y':St) (l:LA),x=some (.ret,[(2,.ref O.length 0),(3,.int .i64 e)],Y')/\0<=r'.after/\ct<=r'.count/\(e=0->r'.count<=8192)/\Y'.take O.length=O.set o (r'.o s)/\
 Y'[O.length]?=some (.cells l ⟨false,none⟩)/\(l=[.int .u8 0,.int .i64 0,.str [],.nils,.nils]\/∃(xs:List EL) (q1 q2:Nat),xs.length<=8192/\l=[.int .u8 5,.int .i64 0,.str [],.msl q1 0 xs.length 1,.msl q2 0 xs.length 5]/\Y'[q1]?=some (.cells (kX xs) ⟨false,none⟩)/\Y'[q2]?=some (.cells (vz xs) ⟨false,none⟩)/\O.length+2<=q1/\O.length+2<=q2/\q1≠q2)
theorem ND (H:ReadHas C) (HS:SortHas C) (hM:Has C jP bI) (s:LU) (hs:s.length<1099511627777) (m:Nat) (hV:Z7 C s m) (O:St) (o:Nat) (hoσ:o<O.length):∀(k:Nat) (r:RV) (xs:List EL) (x:AV) (Y:St),aly s O o r xs x Y->0<=r.after->(xs.length:Int)<=r.count->r.count<=8192->8192<=r.count+k->8192<=r.count+m->
  ap4 s O o r.count (aA C (ai C) 59 [0,2,5,6] bn [(0,.ref o 0),(2,.ref O.length 0),(5,x),(6,.map (O.length+1))] Y)
 |k,r,xs,x,Y,I,ha,hc1,hc2,hk,hm=>by
  obtain⟨hok,hr,hres,⟨ml,hmap⟩,hxs,hpre⟩:=I;obtain⟨j,e,r1,v1,v2,v3,v4⟩:=aaQ H hM s hs m hV r Y o (O.length+1) ml hok hr hmap ha (by omega) hm
  have T1:(Y.set o (r1.o s)).length=Y.length:=by simp
  have hr1:=bZ hr (r1.o s);have hres1:=aO hres (show O.length≠o by omega) (r1.o s)
  have hmap1:=aO hmap (show O.length+1≠o by omega) (r1.o s)
  have ok1:=hok.set o (RV.below s r1);have hpre1:(Y.set o (r1.o s)).take O.length=O.set o (r1.o s):=by rw[List.take_set,hpre,List.set_set]
  have hxs1:alC (Y.set o (r1.o s)) O.length xs x:=by
   rcases hxs with h|⟨e1,q,e2,e3,e4⟩
   ·exact .inl h
   ·exact .inr ⟨e1,q,e2,aO e3 (by omega) _,e4⟩
  have nl:O.length+1<Y.length:=(List.getElem?_eq_some_iff.mp hmap).1;generalize hS1:Y.set o (r1.o s)=S1 at*;have jl:=kY j;have jf:=uK j;have jt:(elC j).take 6=elC j:=List.take_of_length_le (by rw[kY];exact Nat.le_refl _)
  have je:6<=(elC j).length:=by rw[kY];exact Nat.le_refl _
  have eh:(elC j).head? =some (.str j.1.1):=rfl;have d6:∀l:LA,l.length=6->l.drop 6=[]:=fun l h=>List.drop_eq_nil_of_le (by omega)
  have c1:=fun L=>aH hres1 L;have p1:=fun L y=>dY hres1 L y;dsimp only[mJ]at*;rw[aG (he:=rfl)];cases ce:(e !=0)
  ·have e0:e=0:=by simpa using ce
   subst e0;obtain⟨w1,w2⟩:=v4 rfl;obtain⟨S2,a1,a2,a3,a6,a7⟩:=alI j (.cells (elC j) ⟨false,none⟩) hxs1 ok1 (by omega)
   rw[T1]at a1 a2;have hr2:=a3 o _ (by omega) hr1
   have hres2:=a3 O.length _ (by omega) hres1
   have hmap2:=a3 (O.length+1) _ (by omega) hmap1
   have g2:=fun L=>mO (a2.trans T1.symm) L;obtain⟨n,lk⟩:=YQ hmap2 j.1.1;obtain⟨ml2,up⟩:=akA hmap2 j.1.1 (IntKind.i64.wrap (n+1));have ok3:Ok ((S2++[AO.cells (elC j) ⟨false,none⟩,AO.cells (jB (xs++[j])) ⟨false,none⟩]:St).set (O.length+1) (.map (vX ml2))):=by
    exact Ok.set2 (a7.plus (by simp only[List.all_cons,List.all_nil,AO.below,Oz,PX,Bool.and_true])) _ (aaP _ _)
   rw[dY hmap2]at ok3;have hr3:=aO hr2 (show o≠O.length+1 by omega) (.map (vX ml2))
   have hres3:=aO hres2 (show O.length≠O.length+1 by omega) (.map (vX ml2))
   have hmap3:=bZ hmap2 (.map (vX ml2));have hpre3:(S2.set (O.length+1) (.map (vX ml2))).take O.length=O.set o (r1.o s):=by
    rw[dD _ _ _ (by omega),a6,hpre1]
   have T3:(S2.set (O.length+1) (.map (vX ml2))).length=Y.length:=by simp[a2]
   generalize hS3:S2.set (O.length+1) (.map (vX ml2))=S3 at*;obtain⟨r2,b,e2,m1,m2,m3,m4⟩:=N9 H s hs 2 r1 v2 _ ok3 o (aH hr3 _);rw[dY hr3]at m1;have hr4:=bZ hr3 (r2.o s);have hres4:=aO hres3 (show O.length≠o by omega) (r2.o s)
   have hmap4:=aO hmap3 (show O.length+1≠o by omega) (r2.o s)
   have T4:(S3.set o (r2.o s)).length=Y.length:=by simp[T3]
   have ok4:=ok3.set o (RV.below s r2);rw[dY hr3]at ok4;have hpre4:(S3.set o (r2.o s)).take O.length=O.set o (r2.o s):=by rw[List.take_set,hpre3,List.set_set]
   generalize hS4:S3.set o (r2.o s)=S4 at*;have c4:=fun L=>aH hres4 L;have p4:=fun L y=>dY hres4 L y;have blk:(S4++[AO.cells (elC j) ⟨false,none⟩,AO.cells (jB (xs++[j])) ⟨false,none⟩]:St)[Y.length+1]?=some (.cells (jB (xs++[j])) ⟨false,none⟩):=by
    rw[tN T4];rfl
   cases ce2:(e2 !=0)
   ·have e0:e2=0:=by simpa using ce2
    subst e0;cases b
    ·
     have bl:Y.length+1<(S4++[AO.cells (elC j) ⟨false,none⟩,AO.cells (jB (xs++[j])) ⟨false,none⟩]:St).length:=(List.getElem?_eq_some_iff.mp blk).1;obtain⟨xs',q1,q2,Y',k1,k2,k3,k4,k5,k6,k7,k8⟩:=Zm HS.srt HS.sorted (Y.length+1) _ ok4 bl (xs.length+1) (by omega) none (xs++[j]) (by simp) (by omega)
     unfold row at k2 k3;rw[set_self blk]at k2;have tl:∀y:AO,(Y'.take (S4++[AO.cells (elC j) ⟨false,none⟩,AO.cells (jB (xs++[j])) ⟨false,none⟩]:St).length).take O.length=O.set o (r2.o s):=fun _=>by
      rw[k3,dD _ _ _ (by omega),oC _ _ _ (by omega),hpre4]
     have tk:Y'.take O.length=O.set o (r2.o s):=by
      have:=tl .dead;rw[List.take_take,Nat.min_eq_left (by simp[T4];omega)]at this
      exact this
     have rz:Y'[O.length]?=some (.cells [.int .u8 0,.int .i64 0,.str [],.nils,.nils] ⟨false,none⟩):=by
      have h1:(Y'.take (S4++[AO.cells (elC j) ⟨false,none⟩,AO.cells (jB (xs++[j])) ⟨false,none⟩]:St).length)[O.length]?=some (.cells [.int .u8 0,.int .i64 0,.str [],.nils,.nils] ⟨false,none⟩):=by
       rw[k3];exact aO (aH hres4 _) (by omega) _
      rw[List.getElem?_take]at h1;rwa[if_pos (by simp[T4];omega)]at h1
     have ll:O.length<(S4++[AO.cells (elC j) ⟨false,none⟩,AO.cells (jB (xs++[j])) ⟨false,none⟩]:St).length:=by simp[T4];omega
     refine⟨r2,0,Y'.set O.length (.cells [.int .u8 5,.int .i64 0,.str [],.msl q1 0 (xs.length+1) 1,.msl q2 0 (xs.length+1) 5] ⟨false,none⟩),_,?_,m2,by omega,fun _=>by omega,by rw[dD _ _ _ (Nat.le_refl _),tk],bZ rz _,.inr ⟨xs',q1,q2,by rw[k1];omega,by rw[k1],aO k4 (by omega) _,aO k5 (by omega) _,by omega,by omega,k8⟩⟩
     generalize hk:aA C (ai C) 59 [0,2,5,6] bn=kk at*;simp only[bn,v1,a1,g2,lk,up,m1,k2,rz,jl,jf,jt,eh,splice,d6,ce,AV.cells,AV.flat,↓Nq,↓agQ,uw,L8,EVX,seval]
    ·
     have I2:aly s O o r2 (xs++[j]) (.msl (Y.length+1) 0 (xs.length+1) 6) (S4++[.cells (elC j) ⟨false,none⟩,.cells (jB (xs++[j])) ⟨false,none⟩]):=by
      refine⟨ok4,aH hr4 _,aH hres4 _,⟨ml2,aH hmap4 _⟩,.inr ⟨by simp,Y.length+1,by simp,blk,by omega⟩,?_⟩
      rw[oC _ _ _ (by omega),hpre4]
     have hk0:0<k:=by omega
     obtain⟨k,rfl⟩:∃k',k=k'+1:=⟨k-1,by omega⟩
     have ih:=ND H HS hM s hs m hV O o hoσ k r2 (xs++[j]) _ _ I2 m2 (by simp;omega) (by omega) (by omega) (by omega)
     obtain⟨r',e',Y',l,i1,i2,i3,i4,i5,i6,i7⟩:=ih;refine⟨r',e',Y',l,?_,i2,by omega,i4,i5,i6,i7⟩
     generalize hk:aA C (ai C) 59 [0,2,5,6] bn=kk at*;simp only[bn,v1,a1,g2,lk,up,m1,i1,jl,jf,jt,eh,splice,d6,ce,AV.cells,↓Nq,↓agQ,uw,L8,EVX,seval]
   ·refine⟨r2,e2,S4.set O.length (.cells [.int .u8 0,.int .i64 0,.str [],.nils,.nils] ⟨false,none⟩)++[.cells (elC j) ⟨false,none⟩,.cells (jB (xs++[j])) ⟨false,none⟩],_,?_,m2,by omega,fun h=>absurd h (by simpa using ce2),?_,aH (bZ hres4 _) _,.inl rfl⟩
    ·generalize hk:aA C (ai C) 59 [0,2,5,6] bn=kk at*;simp only[bn,v1,a1,g2,lk,up,m1,c4,p4,jl,jf,jt,eh,splice,d6,ce,ce2,AV.cells,AV.flat,↓Nq,↓agQ,uw,L8,EVX,seval]
    ·rw[oC _ _ _ (by simp[T4];omega),dD _ _ _ (Nat.le_refl _),hpre4]
  ·refine⟨r1,e,S1.set O.length (.cells [.int .u8 0,.int .i64 0,.str [],.nils,.nils] ⟨false,none⟩)++[.cells (elC j) ⟨false,none⟩],_,?_,v2,v3,fun h=>absurd h (by simpa using ce),?_,aH (bZ hres1 _) _,.inl rfl⟩
   ·generalize hk:aA C (ai C) 59 [0,2,5,6] bn=kk at*;simp only[bn,v1,c1,p1,jl,jf,splice,d6,ce,AV.cells,AV.flat,EVX,seval]
   ·rw[oC _ _ _ (by simp[T1];omega),dD _ _ _ (Nat.le_refl _),hpre1]
theorem aay{Y:St}{q1 q2:Nat}{l1 l2:LA}(h1:Y[q1]?=some (.cells l1 ⟨false,none⟩))(h2:Y[q2]?=some (.cells l2 ⟨false,none⟩))(hne:q1≠q2):freeze Y [q1,q2]=(Y.set q1 (.cells l1 ⟨true,none⟩)).set q2 (.cells l2 ⟨true,none⟩):=by
 unfold freeze;rw[h1];exact BZ (aO h2 (fun e=>hne e.symm) _)
def ajY(xs:List EL)(h:xs.length<=8192):JV:=.mk 5 0 [] (xs.map (·.1.1)) (xs.map (·.2)) (by simp) (by simp) (by simpa using h) ⟨lb0,fun x hx=>by
 obtain⟨y,_,rfl⟩:=List.mem_map.mp hx;exact y.1.2⟩
theorem acg {O Y:St} {o:Nat} {x:AO} (hσ:Ok O) (hx:x.below 0=true) (e:Int) (E:As) (h2:look E 2=.ref O.length 0) (h3:look E 3=.int .i64 e) (hτ:Y.take O.length=O.set o x) (xs:List EL) (hxs:xs.length<=8192) (q1 q2:Nat) (hl:Y[O.length]?=some (.cells [.int .u8 5,.int .i64 0,.str [],.msl q1 0 xs.length 1,.msl q2 0 xs.length 5] ⟨false,none⟩)) (hq1:Y[q1]?=some (.cells (kX xs) ⟨false,none⟩)) (hq2:Y[q2]?=some (.cells (vz xs) ⟨false,none⟩)) (n1:O.length+2<=q1) (n2:O.length+2<=q2) (ne:q1≠q2):
  AP O.length [.cell 2 true 5,.tmp 3] (some (.ret,E,Y))=some (.tup [(ajY xs hxs).av,.int .i64 e],O.set o x):=by
 rw[rP];have:bQ E Y [.cell 2 true 5,.tmp 3]=some [.agg [.int .u8 5,.int .i64 0,.str [],.msl q1 0 xs.length 1,.msl q2 0 xs.length 5],.int .i64 e]:=by
  simp only[bQ,h2,h3,hl,pt,List.drop_zero,List.length_cons,List.length_nil,List.take];rfl
 rw[this];have nn:NVs (kX xs):=by
  have:=aio (xs.map (·.1.1));rw[List.map_map]at this;exact this
 have hh:hand false [.agg [.int .u8 5,.int .i64 0,.str [],.msl q1 0 xs.length 1,.msl q2 0 xs.length 5],.int .i64 e] Y=some ([(ajY xs hxs).av,.int .i64 e],(Y.set q1 (.cells (kX xs) ⟨true,none⟩)).set q2 (.cells (vz xs) ⟨true,none⟩)):=by
  rw[yx,bg,bz,bg,bg,bg,bg,bg,QQ hq1 (by rw[Io,Nat.mul_one]) nn,QQ hq2 (MI xs) (Cb _),Ci,<-aay hq1 hq2 ne]
  unfold ajY JV.av;rw[JV.mk_cs,List.length_map,List.length_map,List.map_map];rfl
 dsimp only;rw[hh];dsimp only[bD];rw[ww hσ hx (by rw[ae,JV.av,below,JV.bel];rfl) (by rw[dD _ _ _ (by omega),dD _ _ _ (by omega),hτ])]
theorem aaY(H:ReadHas C)(HS:SortHas C)(hM:Has C jP bI)(hC:Has C mf gU)(s:LU)(hs:s.length<1099511627777)(m:Nat)(hV:Z7 C s m):aiL C mf s m:=by
 intro r O o hσ ho ha hc0 hc hm;have hl:o<O.length:=(List.getElem?_eq_some_iff.mp ho).1;have hn:hand false [.ref o 0] O=some ([.ref o 0],O):=rfl;have ok1:Ok (O++[.cells [.int .u8 0,.int .i64 0,.str [],.nils,.nils] ⟨false,none⟩]):=hσ.plus rfl;obtain⟨r1,e,n1,n2,n3,n4⟩:=oN H.toNextHas s hs r ha _ ok1 o (aH ho _);rw[dY ho]at n1;have g0:=fun x L=>aH (bZ ho x) L;rw[hC.go hn (by simp[gU])]
 have L1:(O.set o (r1.o s)).length=O.length:=by simp
 have q0:=fun L=>mO L1 L;have q1:=fun L k=>tN L1 L k;have w0:=fun L y=>wL L1 L y;have e0:∀L:St,(O.set o (r1.o s)++L).take O.length=O.set o (r1.o s):=fun L=>by
  rw[List.take_append_of_le_length (by simp),List.take_of_length_le (by simp)]
 have q2:∀(x:AO) (L:St),(O.set o (r1.o s)++x::L)[O.length]?=some x:=fun x L=>by rw[q0];rfl
 have I:aly s O o r1 [] .nils (O.set o (r1.o s)++[mJ,.map []]):=by
  refine⟨(hσ.set o (RV.below s r1)).plus rfl,g0 _ _,by rw[q0];rfl,⟨[],by rw[q1];rfl⟩,.inl ⟨rfl,rfl⟩,e0 _⟩
 obtain⟨r2,e2,Y2,l,i1,i2,i3,i4,i5,i6,i7⟩:=ND H HS hM s hs m hV O o hl 8192 r1 [] .nils _ I n2 (by simp;omega) (by omega) (by omega) (by omega)
 cases ce:(e !=0)
 ·have c0:e=0:=by simpa using ce
  subst c0;cases c4:(r1.k==2)
  ·have hi:∃j:JV,AP O.length [.cell 2 true 5,.tmp 3] (some (.ret,[(2,.ref O.length 0),(3,.int .i64 e2)],Y2))=some (.tup [j.av,.int .i64 e2],O.set o (r2.o s)):=by
    rcases i7 with i7|⟨xs,q1,q2,hxs,i7,i8,i9,i10,i11,i12⟩
    ·subst i7;exact⟨_,DN hσ (RV.below s r2) e2 _ rfl rfl i5 i6⟩
    ·subst i7;exact⟨_,acg hσ (RV.below s r2) e2 _ rfl rfl i5 xs hxs q1 q2 i6 i8 i9 i10 i11 i12⟩
   obtain⟨j,hj⟩:=hi;refine⟨j,e2,r2,?_,i2,by omega,i4⟩
   rw[<-hj];dsimp only[RV.o,RV.cs,mJ]at*
   congr 1
   simp only[gU,n1,g0,L1,c4,i1,EVX,seval]
  ·refine⟨JV.leaf 5 0 [] lb0,0,r1,?_,n2,by omega,fun _=>by omega⟩
   have tk:=ww (S:=O.set o (r1.o s)++[AO.cells [.int .u8 5,.int .i64 0,.str [],.nils,.nils] ⟨false,none⟩]) hσ (RV.below s r1) (vs:=[.agg [.int .u8 5,.int .i64 0,.str [],.sl 0 [],.sl 0 []],.int .i64 0]) rfl (e0 _);dsimp only[RV.o,RV.cs,mJ]at*;simp only[gU,n1,g0,q0,w0,c4,splice,tk,bQ,bz,dL,AV.cells,AV.flat,JV.av,JV.leaf_cs,EVX,seval]
 ·refine⟨JV.zero,e,r1,?_,n2,by omega,fun h=>absurd h (by simpa using ce)⟩
  have hj:=DN hσ (RV.below s r1) e [(2,.ref O.length 0),(3,.int .i64 e)] rfl rfl (e0 _) (q2 (.cells [.int .u8 0,.int .i64 0,.str [],.nils,.nils] ⟨false,none⟩) []);rw[<-hj];dsimp only[RV.o,RV.cs,mJ]at*
  congr 1
  simp only[gU,n1,q0,w0,ce,splice,EVX,seval]
structure EJ(C:Ctx):Prop extends ReadHas C,SortHas C where
 member:Has C jP bI
 object:Has C mf gU
 list:Has C pJ ji
 value:Has C rG aJ
theorem IP(H:EJ C)(s:LU)(hs:s.length<1099511627777):∀m:Nat,Z7 C s m
 |0=>Vb H.value H.wrong s 0 (fun h=>absurd h (by omega)) (fun h=>absurd h (by omega))
 |m+1=>Vb H.value H.wrong s (m+1) (fun _=>ahc H.toReadHas H.list s hs m (IP H s hs m)) (fun _=>aaY H.toReadHas H.toSortHas H.member H.object s hs m (IP H s hs m))
theorem aeK (H:EJ C) (hC:Has C fH lN) (s:LU) (O:St) (hσ:Ok O):
  ∃(j:JV) (p e:Int),ai C fH [.str s] O=some (.tup [j.av,.int .i64 p,.int .i64 e],O):=by
 have ty:∀(j:LA) (hj:ae 0 j=true) (p e:Int) (L:St),tidy O.length [.agg j,.int .i64 p,.int .i64 e] (O++L)=O:=fun j hj p e L=>dX hσ (by rw[ae,below,hj];rfl) L
 have tz:=fun p e L=>ty [.int .u8 0,.int .i64 0,.str [],.sl 0 [],.sl 0 []] rfl p e L;rw[hC.go (NVs.hand (.cons (.str _) .nil) _) (by simp[lN])]
 by_cases h:(65536:Int)<(s.length:Int)
 ·refine⟨JV.zero,0,5,?_⟩;simp only[lN,h,tz,bQ,bz,dL,AV.cells,AV.flat,JV.av,JV.zero_cs,splice,EVX,seval]
 have hs:s.length<1099511627777:=by omega
 have ok0:∀r:RV,Ok (O++[mJ,r.o s]):=fun r=>hσ.plus rfl;have o0:∀r:RV,(O++[mJ,r.o s]:St)[O.length+1]?=some (r.o s):=fun r=>by rw[fF];rfl
 have s0:∀r r':RV,(O++[mJ,r.o s]:St).set (O.length+1) (r'.o s)=O++[mJ,r'.o s]:=fun r r'=>by rw[EE];rfl
 obtain⟨r1,e1,n1,n2,n3,n4⟩:=oN H.toNextHas s hs ⟨0,0,0,0,0,⟨[],lb0⟩,0,0,0⟩ (Int.le_refl _) _ (ok0 _) (O.length+1) (o0 _);rw[s0]at n1;obtain⟨j,e2,r2,v1,v2,v3,v4⟩:=IP H s hs 8192 r1 _ (O.length+1) (ok0 r1) (o0 _) n2 (by rw[n3];exact Int.le_refl _) (by rw[n3];decide)
 rw[s0]at v1;have ok1:∀r:RV,Ok (O++[.cells j.cs ⟨false,none⟩,r.o s]):=fun r=>hσ.plus (by rw[List.all_cons,List.all_cons,RV.below,show AO.below 0 (.cells j.cs ⟨false,none⟩)=true from j.bel];rfl)
 have o1:∀r:RV,(O++[AO.cells j.cs ⟨false,none⟩,r.o s]:St)[O.length+1]?=some (r.o s):=fun r=>by rw[fF];rfl
 have s1:∀r r':RV,(O++[AO.cells j.cs ⟨false,none⟩,r.o s]:St).set (O.length+1) (r'.o s)=O++[AO.cells j.cs ⟨false,none⟩,r'.o s]:=fun r r'=>by rw[EE];rfl
 obtain⟨r3,e3,w1,w2,w3,w4⟩:=oN H.toNextHas s hs r2 v2 _ (ok1 _) (O.length+1) (o1 _);rw[s1]at w1;have tj:=fun p e L=>ty j.cs j.bel p e L;have nf:=fun Y r'=>j.nvs.nf Y r';have jl:=JV.len j;have jf:=JV.flat j;have jt:j.cs.take 5=j.cs:=List.take_of_length_le (by rw[JV.len];exact Nat.le_refl _)
 have je:5<=j.cs.length:=by rw[JV.len];exact Nat.le_refl _
 have jd:j.cs.drop 5=[]:=List.drop_eq_nil_of_le (by omega)
 have sj:∀a b c d e:AV,splice j.cs 0 [a,b,c,d,e]=[a,b,c,d,e]:=fun a b c d e=>by simp[splice,jd]
 have sk:∀a b c d e:AV,splice [a,b,c,d,e] 0 j.cs=j.cs:=fun a b c d e=>by simp[splice,jl]
 have ss:splice j.cs 0 j.cs=j.cs:=by simp[splice]
 dsimp only[RV.o,RV.cs,mJ]at*;cases c1:(e1 !=0)
 ·cases c2:(e2 !=0)
  ·cases c3:(e3 !=0)
   ·cases c4:(r3.k !=11)
    ·refine⟨j,0,0,?_⟩;simp only[lN,h,n1,v1,w1,c1,c2,c3,c4,tj,nf,jl,jf,jt,ss,sk,bQ,bz,AV.cells,AV.flat,JV.av,EVX,seval]
    ·refine⟨JV.zero,r3.place,11,?_⟩;simp only[lN,h,n1,v1,w1,c1,c2,c3,c4,tz,jl,jf,sj,sk,bQ,bz,dL,AV.cells,AV.flat,JV.av,JV.zero_cs,EVX,seval]
   ·refine⟨JV.zero,r3.place,e3,?_⟩;simp only[lN,h,n1,v1,w1,c1,c2,c3,tz,jl,jf,sj,sk,bQ,bz,dL,AV.cells,AV.flat,JV.av,JV.zero_cs,EVX,seval]
  ·refine⟨JV.zero,r2.place,e2,?_⟩;simp only[lN,h,n1,v1,c1,c2,tz,jl,jf,sj,sk,bQ,bz,dL,AV.cells,AV.flat,JV.av,JV.zero_cs,EVX,seval]
 ·refine⟨JV.zero,r1.place,e1,?_⟩;simp only[lN,h,n1,c1,tz,bQ,bz,dL,AV.cells,AV.flat,JV.av,JV.zero_cs,splice,EVX,seval]
theorem KP(ns:List LU)(i:Nat)(h:i<ns.length):(ns.map AV.str).drop i=.str ns[i]::(ns.map AV.str).drop (i+1):=by
 rw[List.drop_eq_getElem_cons (by simpa using h)]
 simp
theorem KQ(ns:List LU):(ns.map AV.str).length=ns.length:=by simp
theorem Dy (ns:List LU) (hn:ns.length<=8192) (O:St):∀(n i:Nat),i+n=ns.length->1<=i->
  aA C (ai C) 20 [0,3] bP [(0,.sl ns.length (ns.map .str)),(3,.int .i64 i)] O=some (.exit 0,[],O)\/aA C (ai C) 20 [0,3] bP [(0,.sl ns.length (ns.map .str)),(3,.int .i64 i)] O=some (.ret,[(2,.bool false)],O)
 |0,i,hi,h1=>by
  rw[aG (he:=rfl)];have h:¬((i:Int)<(ns.length:Int)):=by omega
  left;simp only[bP,h,EVX,seval]
 |n+1,i,hi,h1=>by
  have h:((i:Int)<(ns.length:Int)):=by omega
  have h2:i<ns.length:=by omega
  have h3:i-1<ns.length:=by omega
  have w1:IntKind.i64.wrap ((i:Int)-1)=((i-1:Nat):Int):=by rw[w64]<;>omega
  have w2:IntKind.i64.wrap ((i:Int)+1)=((i+1:Nat):Int):=by rw[w64]<;>omega
  have p1:(0:Int)<=((i-1:Nat):Int):=by omega
  have p2:(0:Int)<=(i:Int):=by omega
  have d1:=KP ns (i-1) h3;have d2:=KP ns i h2;have sl:=KQ ns;have ih:=Dy ns hn O n (i+1) (by omega) (by omega)
  rw[aG (he:=rfl)];generalize hk:aA C (ai C) 20 [0,3] bP=k at*;cases hb:Op.bytesLess ns[i-1] ns[i]
  ·right;simp only[bP,h,h2,h3,w1,p1,p2,d1,d2,sl,hb,Int.toNat_natCast,List.head?_cons,EVX,seval]
  ·rcases ih with ih|ih
   ·left;simp only[bP,h,h2,h3,w1,w2,p1,p2,d1,d2,sl,hb,ih,Int.toNat_natCast,List.head?_cons,EVX,seval]
   ·right;simp only[bP,h,h2,h3,w1,w2,p1,p2,d1,d2,sl,hb,ih,Int.toNat_natCast,List.head?_cons,EVX,seval]
theorem Xm(ns:List LU):NV (.sl ns.length (ns.map .str)):=.sl _ (mM ns)
theorem Oj(hC:Has C mg jR)(ns:List LU)(hn:ns.length<=8192)(O:St):∃b:Bool,ai C mg [.sl ns.length (ns.map .str)] O=some (.bool b,O):=by
 rw[hC.go (NVs.hand (.cons (Xm ns) .nil) _) (by simp[jR])]
 by_cases h0:ns=[]
 ·subst h0;refine⟨true,?_⟩;have h:¬((1:Int)<0):=by omega
  have lp:aA C (ai C) 20 [0,3] bP [(0,.sl 0 []),(3,.int .i64 1)] O=some (.exit 0,[],O):=by
   rw[aG (he:=rfl)];simp only[bP,h,Int.cast_ofNat_Int,EVX,seval]
  simp only[jR,List.length_nil,List.map_nil,lp,EVX,seval]
 ·have h1:1<=ns.length:=by
   cases ns with
   |nil=>exact absurd rfl h0
   |cons=>simp
  rcases Dy (C:=C) ns hn O (ns.length-1) 1 (by omega) (Nat.le_refl _)with h|h
  ·refine⟨true,?_⟩;simp only[Int.cast_ofNat_Int]at h;simp only[jR,h,EVX,seval]
  ·refine⟨false,?_⟩;simp only[Int.cast_ofNat_Int]at h;simp only[jR,h,EVX,seval]
theorem Qz (ns:List LU) (x:LU) (hn:ns.length<=8192) (O:St):∀(n i:Nat),i+n=ns.length->
  aA C (ai C) 19 [0,1,7,8] aT [(0,.sl ns.length (ns.map .str)),(1,.str x),(7,.int .i64 ns.length),(8,.int .i64 i)] O=some (.exit 0,[],O)\/∃k:Nat,k<ns.length/\aA C (ai C) 19 [0,1,7,8] aT [(0,.sl ns.length (ns.map .str)),(1,.str x),(7,.int .i64 ns.length),(8,.int .i64 i)] O=some (.ret,[(4,.int .i64 k)],O)
 |0,i,hi=>by
  rw[aG (he:=rfl)];have h:¬((i:Int)<(ns.length:Int)):=by omega
  left;simp only[aT,h,EVX,seval]
 |n+1,i,hi=>by
  have h:((i:Int)<(ns.length:Int)):=by omega
  have h2:i<ns.length:=by omega
  have w2:IntKind.i64.wrap ((i:Int)+1)=((i+1:Nat):Int):=by rw[w64]<;>omega
  have p2:(0:Int)<=(i:Int):=by omega
  have d2:=KP ns i h2;have sl:=KQ ns;have ih:=Qz ns x hn O n (i+1) (by omega)
  rw[aG (he:=rfl)];generalize hk:aA C (ai C) 19 [0,1,7,8] aT=k at*;by_cases hb:x=ns[i]
  ·right;refine⟨i,h2,?_⟩;simp only[aT,h,h2,p2,d2,sl,<-hb,Int.toNat_natCast,List.head?_cons,decide_true,EVX,seval]
  ·rcases ih with ih|⟨k',k1,ih⟩
   ·left;simp only[aT,h,h2,w2,p2,d2,sl,hb,ih,Int.toNat_natCast,List.head?_cons,decide_false,EVX,seval]
   ·right;refine⟨k',k1,?_⟩;simp only[aT,h,h2,w2,p2,d2,sl,hb,ih,Int.toNat_natCast,List.head?_cons,decide_false,EVX,seval]
theorem slices_Index(hC:Has C jZ dN)(ns:List LU)(x:LU)(hn:ns.length<=8192)(O:St):∃k:Int,ai C jZ [.sl ns.length (ns.map .str),.str x] O=some (.int .i64 k,O)/\k<ns.length:=by
 rw[hC.go (NVs.hand (.cons (Xm ns) (.cons (.str _) .nil)) _) (by simp[dN])]
 rcases Qz (C:=C) ns x hn O ns.length 0 (by omega)with h|⟨k,k1,h⟩
 ·refine⟨-1,?_,by omega⟩
  simp only[Int.cast_ofNat_Int]at h;simp only[dN,h,EVX,seval]
 ·refine⟨k,?_,by omega⟩
  simp only[Int.cast_ofNat_Int]at h;simp only[dN,h,EVX,seval]
theorem alZ (hC:Has C iQ nN) (ns:List LU) (x:LU) (O:St) (a b:Nat) (ha:O[a]?=some (.cells [.sl ns.length (ns.map .str)] ⟨false,none⟩)) (hb:O[b]?=some (.cells [.str x] ⟨false,none⟩)) (i:Nat) (hi:i<ns.length):
  ∃r:Bool,ai C iQ [.int .i64 i,.ref a 0,.ref b 0] O=some (.bool r,O):=by
 have hn:hand false [.int .i64 i,.ref a 0,.ref b 0] O=some ([.int .i64 i,.ref a 0,.ref b 0],O):=rfl;have p2:(0:Int)<=(i:Int):=by omega
 have d2:=KP ns i hi;have sl:=KQ ns;rw[hC.go hn (by simp[nN])]
 refine⟨!(Op.bytesLess ns[i] x),?_⟩;simp only[nN,ha,hb,hi,p2,d2,sl,Int.toNat_natCast,List.head?_cons,EVX,seval]
theorem EC (h1:Has C iQ nN) (ns:List LU) (hn:ns.length<=8192) (x:LU) (O:St) (a b:Nat) (ha:O[a]?=some (.cells [.sl ns.length (ns.map .str)] ⟨false,none⟩)) (hb:O[b]?=some (.cells [.str x] ⟨false,none⟩)):∀(n i j:Nat),i<=j->j<=ns.length->j-i<=n->
  ∃r:Nat,r<=ns.length/\aA C (ai C) 26 [1,5,6] jV [(1,.func (.func iQ) [] [.ref a 0,.ref b 0]),(5,.int .i64 i),(6,.int .i64 j)] O=some (.exit 0,[(5,.int .i64 r)],O)
 |n,i,j,hij,hj,hd=>by
  rw[aG (he:=rfl)];by_cases h:i<j
  ·have h':((i:Int)<(j:Int)):=by omega
   obtain⟨n,rfl⟩:∃m,n=m+1:=⟨n-1,by omega⟩
   obtain⟨r,q⟩:=alZ h1 ns x O a b ha hb ((i+j)/2) (by omega)
   have ih1:=EC h1 ns hn x O a b ha hb n ((i+j)/2+1) j (by omega) hj (by omega)
   have ih2:=EC h1 ns hn x O a b ha hb n i ((i+j)/2) (by omega) (by omega) (by omega)
   have w1:IntKind.i64.wrap ((i:Int)+(j:Int))=((i+j:Nat):Int):=by rw[w64]<;>omega
   have w2:IntKind.u64.wrap ((i+j:Nat):Int)=((i+j:Nat):Int):=wu64 (by omega) (by omega)
   have w3:((i+j:Nat):Int).fdiv (2^min 1 IntKind.u64.bits)=(((i+j)/2:Nat):Int):=by
    show((i+j:Nat):Int).fdiv 2=_;rw[Int.fdiv_eq_ediv_of_nonneg _ (by omega)]
    omega
   have w4:IntKind.i64.wrap ((((i+j)/2:Nat)):Int)=(((i+j)/2:Nat):Int):=by rw[w64]<;>omega
   have w5:IntKind.i64.wrap ((((i+j)/2:Nat))+1:Int)=(((i+j)/2+1:Nat):Int):=by rw[w64]<;>omega
   have n1:¬((1:Int)<0):=by omega
   generalize hk:aA C (ai C) 26 [1,5,6] jV=k at*;generalize hm:(i+j)/2=m at*;cases r
   ·obtain⟨r',r1,ih⟩:=ih1;refine⟨r',r1,?_⟩;simp only[jV,h',w1,w2,w3,w4,w5,n1,q,uJ,ih,List.nil_append,List.cons_append,EVX,seval]
   ·obtain⟨r',r1,ih⟩:=ih2;refine⟨r',r1,?_⟩;simp only[jV,h',w1,w2,w3,w4,n1,q,uJ,ih,List.nil_append,List.cons_append,EVX,seval]
  ·have h':¬((i:Int)<(j:Int)):=by omega
   refine⟨i,by omega,?_⟩
   simp only[jV,h',EVX,seval]
theorem sort_Search (hC:Has C Ap wC) (h1:Has C iQ nN) (ns:List LU) (hn:ns.length<=8192) (x:LU) (O:St) (a b:Nat) (ha:O[a]?=some (.cells [.sl ns.length (ns.map .str)] ⟨false,none⟩)) (hb:O[b]?=some (.cells [.str x] ⟨false,none⟩)):
  ∃r:Nat,r<=ns.length/\ai C Ap [.int .i64 ns.length,.func (.func iQ) [] [.ref a 0,.ref b 0]] O=some (.int .i64 r,O):=by
 have hn':hand false [.int .i64 ns.length,.func (.func iQ) [] [.ref a 0,.ref b 0]] O=some ([.int .i64 ns.length,.func (.func iQ) [] [.ref a 0,.ref b 0]],O):=rfl;obtain⟨r,r1,q⟩:=EC h1 ns hn x O a b ha hb ns.length 0 ns.length (by omega) (by omega) (by omega)
 refine⟨r,r1,?_⟩;rw[hC.go hn' (by simp[wC])]
 simp only[Int.cast_ofNat_Int]at q;simp only[wC,q,EVX,seval]
structure Oo(C:Ctx):Prop where
 asc:Has C mg jR
 idx:Has C jZ dN
 srch:Has C Ap wC
 f1:Has C iQ nN
 find:Has C JA uB
theorem abv (H:Oo C) (ns:List LU) (hn:ns.length<=8192) (x:LU) (O:St) (hσ:Ok O):
  ∃(k:Int) (b:Bool),ai C JA [.sl ns.length (ns.map .str),.str x] O=some (.tup [.int .i64 k,.bool b],O)/\(b=true->0<=k)/\k<=ns.length:=by
 have ty:∀(k:Int) (b:Bool) (L:St),tidy O.length [.int .i64 k,.bool b] (O++L)=O:=fun k b L=>dX hσ rfl L;rw[H.find.go (NVs.hand (.cons (Xm ns) (.cons (.str _) .nil)) _) (by simp[uB])]
 obtain⟨b,hb⟩:=Oj H.asc ns hn (O++[.cells [.sl ns.length (ns.map .str)] ⟨false,none⟩,.cells [.str x] ⟨false,none⟩]);obtain⟨k,hk,k1⟩:=slices_Index H.idx ns x hn (O++[.cells [.sl ns.length (ns.map .str)] ⟨false,none⟩,.cells [.str x] ⟨false,none⟩]);obtain⟨r,r1,hr⟩:=sort_Search H.srch H.f1 ns hn x (O++[.cells [.sl ns.length (ns.map .str)] ⟨false,none⟩,.cells [.str x] ⟨false,none⟩]) O.length (O.length+1) (by rw[dU];rfl) (by rw[fF];rfl)
 cases b
 ·refine⟨k,decide (k>=0),?_,by simp,by omega⟩
  simp only[uB,hb,hk,ty,EVX,seval]
 ·by_cases h:r<ns.length
  ·have h':((r:Int)<(ns.length:Int)):=by omega
   have p2:(0:Int)<=(r:Int):=by omega
   have d2:=KP ns r h;have sl:=KQ ns;refine⟨r,decide (ns[r]=x),?_,fun _=>by omega,by omega⟩
   simp only[uB,hb,hr,ty,h,h',p2,d2,sl,Int.toNat_natCast,List.head?_cons,EVX,seval]
  ·have h':¬((r:Int)<(ns.length:Int)):=by omega
   refine⟨r,false,?_,fun h=>absurd h (by decide),by omega⟩
   simp only[uB,hb,hr,ty,h',EVX,seval]
theorem PU(a b:AV)(l m:LA):pX (a::l) (b::m)=(diff a b||pX l m):=by rw[pX]
theorem U4:∀(l m:List LU),l.length=m.length->pX (l.map .str) (m.map .str)=false->l=m
 |[],[],_,_=>rfl
 |[],_::_,h,_=>by simp at h
 |_::_,[],h,_=>by simp at h
 |a::l,b::m,h,hd=>by
  rw[List.map_cons,List.map_cons,PU,Bool.or_eq_false_iff]at hd;have h1:a=b:=by
   have:=hd.1;unfold diff at this;rw[kT]at this;simpa using this
  rw[h1,U4 l m (by simpa using h) hd.2]
mutual
theorem JW.same:∀(x y:JW) (R R':LA),pX (x.cs++R) (y.cs++R')=false->x=y/\pX R R'=false
 |.mk k n t ns is,.mk k' n' t' ns' is',R,R',h=>by
  rw[JW.cs,JW.cs]at h;simp only[List.cons_append,List.nil_append,PU,Bool.or_eq_false_iff]at h;obtain⟨h1,h2,h3,h4,h5,h6⟩:=h;unfold diff at h1 h2 h3 h4 h5;have e1:k=k':=by simpa using h1
  have e2:n=n':=by simpa using h2
  have e3:t=t':=by
   rw[kT]at h3;simpa using h3
  rw[Bool.or_eq_false_iff]at h4 h5;have e4:ns=ns':=U4 _ _ (by simpa using h4.1) h4.2
  have e5:is=is':=uQ.same is is' (by simpa using h5.1) h5.2
  exact⟨by rw[e1,e2,e3,e4,e5],h6⟩
theorem uQ.same:∀(l m:List JW),l.length=m.length->pX (uQ l) (uQ m)=false->l=m
 |[],[],_,_=>rfl
 |[],_::_,h,_=>by simp at h
 |_::_,[],h,_=>by simp at h
 |a::l,b::m,h,hd=>by
  rw[uQ,uQ]at hd;obtain⟨h1,h2⟩:=JW.same a b _ _ hd;rw[h1,uQ.same l m (by simpa using h) h2]
end
theorem JV.differ{x y:JV}(h:x.w≠y.w)(R R':LA):pX (x.cs++R) (y.cs++R')=true:=by
 cases hd:pX (x.cs++R) (y.cs++R')
 ·exact absurd (JW.same x.w y.w R R' hd).1 h
 ·rfl
theorem JV.cs_ex(j:JV):∃(k n:Int) (t:LU) (ns:List LU) (is:List JV),j.cs=[.int .u8 k,.int .i64 n,.str t,.sl ns.length (ns.map .str),.sl is.length (aB is)]/\ns.length<=8192/\is.length<=8192/\(∀x∈is,SizeOf.sizeOf x.w<SizeOf.sizeOf j.w)/\∃h1 h3 h2 h4,j=JV.mk k n t ns is h1 h3 h2 h4:=by
 obtain⟨k,n,t,ns,is,h1,h3,h2,h4,rfl⟩:=j.ex;refine⟨k,n,t,ns,is,JV.mk_cs ..,by omega,h2,?_,h1,h3,h2,h4,rfl⟩
 intro x hx;show SizeOf.sizeOf x.w<SizeOf.sizeOf (JW.mk k n t ns (is.map (·.w)));have:SizeOf.sizeOf x.w<SizeOf.sizeOf (is.map (·.w)):=List.sizeOf_lt_of_mem (List.mem_map_of_mem hx);simp;omega
def Abv(is:List JV)(x:AV):Prop:=x=.nilp\/∃(a:JV) (R:LA),x=.eptr (a.cs++R)/\ae 0 R=true/\∀j∈is,SizeOf.sizeOf j.w<SizeOf.sizeOf a.w
theorem Abv.nv{is:List JV}{x:AV}(h:Abv is x):NV x:=by
 rcases h with rfl|⟨a,R,rfl,hR,_⟩
 ·exact⟨fun _ _=>rfl,rfl⟩
 ·exact⟨fun _ _=>rfl,by rw[below];exact vO _ _ a.bel hR⟩
theorem alF(np:Bool){is:List JV}{x:AV}(h:Abv is x)(j:JV)(hj:j∈is)(R:LA):sS np .eql 3 false (.eptr (j.cs++R)) x=some (.bool false):=by
 rcases h with rfl|⟨a,R',rfl,_,hs⟩
 ·cases np<;>rfl
 ·have hd:=JV.differ (x:=j) (y:=a) (by
   intro e;have:=hs j hj;rw[e]at this;omega) R R'
  obtain⟨k,n,t,ns,is1,e1,_⟩:=j.cs_ex;obtain⟨k',n',t',ns',is2,e2,_⟩:=a.cs_ex;have hb:sS np .eql 3 false (.eptr (j.cs++R)) (.eptr (a.cs++R'))=binOp .eql 3 false (.eptr (j.cs++R)) (.eptr (a.cs++R')):=by
   cases np
   ·rfl
   ·unfold sS;rw[show Ri (.eptr (j.cs++R)) (.eptr (a.cs++R'))=false from by rw[e1,e2];rfl]
  rw[hb];show qJ .eql (eqA 3 false (.eptr (j.cs++R)) (.eptr (a.cs++R')))=_;have u1:EH (j.cs++R)=true:=by rw[e1];rfl
  have u2:EH (a.cs++R')=true:=by rw[e2];rfl
  show(if pX (j.cs++R) (a.cs++R')&&(EH (j.cs++R)&&EH (a.cs++R'))then some false else none).map AV.bool=_;rw[hd,u1,u2];rfl
theorem vW(is:List JV)(i:Nat)(h:i<is.length):(aB is).drop (i*5)=is[i].cs++aB (is.drop (i+1)):=by
 induction is generalizing i with
 |nil=>simp at h
 |cons j l ih=>
  cases i with
  |zero=>simp[aB]
  |succ i=>
   rw[aB,Nat.add_mul,Nat.one_mul,Nat.add_comm,<-JV.len j,List.drop_append,List.drop_of_length_le (by omega),List.nil_append]
   rw[show j.cs.length+i*j.cs.length-j.cs.length=i*5 from by rw[JV.len];omega]
   have:=ih i (by simpa using h)
   simpa using this
theorem agM(is:List JV):NV (.sl is.length (aB is)):=.sl _ (fE is)
theorem Ju (is:List JV) (hn:is.length<=8192) (lv:Int) (x:AV) (hx:Abv is x)
  (ih0:∀(is':List JV) (lv':Int) (x':AV) (O:St),(∃j∈is,∀y∈is',SizeOf.sizeOf y.w<SizeOf.sizeOf j.w)->is'.length<=8192->Abv is' x'->ai C ku [.sl is'.length (aB is'),.int .i64 lv',x',.bool false] O=some (.bool false,O)) (O:St):∀(n i:Nat),i+n=is.length->
  aA C (ai C) 55 [0,1,2,3,13,14] iK [(0,.sl is.length (aB is)),(1,.int .i64 lv),(2,x),(3,.bool false),(13,.int .i64 is.length),(14,.int .i64 i)] O=some (.exit 0,[],O)
 |0,i,hi=>by
  rw[aG (he:=rfl)];have h:¬((i:Int)<(is.length:Int)):=by omega
  simp only[iK,h,EVX,seval]
 |n+1,i,hi=>by
  have h:((i:Int)<(is.length:Int)):=by omega
  have h2:i<is.length:=by omega
  have w2:IntKind.i64.wrap ((i:Int)+1)=((i+1:Nat):Int):=by rw[w64]<;>omega
  have p2:(0:Int)<=(i:Int):=by omega
  have d2:=vW is i h2;have sl:=jo is;have ih:=Ju is hn lv x hx ih0 O n (i+1) (by omega)
  have hj:is[i]∈is:=List.getElem_mem h2;generalize is[i]=j at*;generalize hR:aB (is.drop (i+1))=R at*;have hRb:ae 0 R=true:=by rw[<-hR];exact fE _
  have ne:=alF C.np hx j hj R;obtain⟨k,m,t,ns,is',e1,l1,l2,hs,_⟩:=j.cs_ex;have ca:=ih0 is' (IntKind.i64.wrap (lv+1)) x O ⟨j,hj,hs⟩ l2 (by
   rcases hx with h|⟨a,R',h,hb,hl⟩
   ·exact .inl h
   ·exact .inr ⟨a,R',h,hb,fun y hy=>Nat.lt_trans (hs y hy) (hl j hj)⟩)
  have cb:=ih0 is' (IntKind.i64.wrap (lv+1)) (.eptr (j.cs++R)) O ⟨j,hj,hs⟩ l2 (.inr ⟨j,R,rfl,hRb,hs⟩);have f4:((j.cs++R).drop 4).head? =some (.sl is'.length (aB is')):=by rw[e1];rfl
  have f5:4<=(j.cs++R).length:=by rw[List.length_append,JV.len];omega
  rw[aG (he:=rfl)];generalize hk:aA C (ai C) 55 [0,1,2,3,13,14] iK=kk at*;generalize hv:IntKind.i64.wrap (BitVec.ofInt IntKind.i64.bits lv&&&BitVec.ofInt IntKind.i64.bits (IntKind.i64.wrap (lv-1))).toNat=v;cases c:(v==0)
  ·simp only[iK,h,h2,w2,p2,d2,sl,ne,hv,c,ca,f4,f5,ih,Int.toNat_natCast,EVX,seval]
  ·simp only[iK,h,h2,w2,p2,d2,sl,ne,hv,c,cb,f4,f5,ih,Int.toNat_natCast,EVX,seval]
theorem G8(hC:Has C ku lH):∀(k:Nat) (is:List JV) (lv:Int) (x:AV) (O:St),(∀y∈is,SizeOf.sizeOf y.w<k)->is.length<=8192->Abv is x->ai C ku [.sl is.length (aB is),.int .i64 lv,x,.bool false] O=some (.bool false,O)
 |k,is,lv,x,O,hk,hn,hx=>by
  have lp:=Ju is hn lv x hx (C:=C) (fun is' lv' x' O' hs hn' hx'=>by
   obtain⟨j,hj,hs⟩:=hs;have h1:=hk j hj;obtain⟨k,rfl⟩:∃k',k=k'+1:=⟨k-1,by omega⟩
   exact G8 hC k is' lv' x' O' (fun y hy=>by have:=hs y hy;omega) hn' hx') O is.length 0 (by omega)
  rw[hC.go (NVs.hand (.cons (agM is) (.cons (.int _ _) (.cons hx.nv (.cons (.bool _) .nil)))) _) (by simp[lH])]
  simp only[Int.cast_ofNat_Int]at lp;simp only[lH,lp,EVX,seval]
theorem Ye(hC:Has C ku lH)(is:List JV)(hn:is.length<=8192)(lv:Int)(O:St):ai C ku [.sl is.length (aB is),.int .i64 lv,.nilp,.bool false] O=some (.bool false,O):=
 G8 hC (SizeOf.sizeOf (is.map (·.w))) is lv .nilp O (fun y hy=>List.sizeOf_lt_of_mem (List.mem_map_of_mem hy)) hn (.inl rfl)
theorem Sl{O S:St}{vs:LA}(hσ:Ok O)(hv:ae 0 vs=true)(h:S.take O.length=O):tidy O.length vs S=O:=by
 have hx:AO.below 0 .dead=true:=rfl;have h':O.set O.length .dead=O:=List.set_eq_of_length_le (Nat.le_refl _);have:=ww (o:=O.length) (x:=.dead) hσ hx hv (by rw[h',h])
 rw[this,h']
def OY(C:Ctx):Prop:=∀(ns:List LU) (O:St),ns.length<=8192->Ok O->ai C dQ [.sl ns.length (ns.map .str)] O=some (.sl ns.length (ns.map .str),O)
theorem Zx(a b c d:Nat):same (.msl a b c d) (.msl a b c d)=true:=by simp[same]
theorem Vk.same{Y:St}{n0:Nat}{is:List JV}{x:AV}(h:Vk Y n0 is x):same x x=true:=by
 rcases h with⟨_,rfl⟩|⟨_,q,rfl,_⟩
 ·rfl
 ·exact Zx ..
theorem Vk.flat{Y:St}{n0:Nat}{is:List JV}{x:AV}(h:Vk Y n0 is x):x.flat=true:=by
 rcases h with⟨_,rfl⟩|⟨_,q,rfl,_⟩<;>rfl
theorem Uo{Y:St}{n0 m:Nat}{is:List JV}{x:AV}(h:Vk Y n0 is x)(k n:Int)(t:LU)(ns:List LU)(hm:m<=n0):∃Y',hand false [.agg [.int .u8 k,.int .i64 n,.str t,.sl ns.length (ns.map .str),x]] Y=some ([.agg [.int .u8 k,.int .i64 n,.str t,.sl ns.length (ns.map .str),.sl is.length (aB is)]],Y')/\Y'.take m=Y.take m:=by
 rcases h with⟨rfl,rfl⟩|⟨_,q,rfl,hq,hq2⟩
 ·refine⟨Y,?_,rfl⟩;rw[yx,bg,bz,bg,bg,bg,bg,bg,dL,Ci];rfl
 ·refine⟨_,?_,dD Y m q (by omega) (.cells (aB is) ⟨true,none⟩)⟩
  rw[yx,bg,bz,bg,bg,bg,bg,bg,QQ hq (jo is) (Cb is),Ci,<-BZ hq];rfl
structure adA(O:St)(b:AO)(hd:LA)(is:List JV)(x:AV)(Y:St):Prop where
 hok:Ok Y
 hb:Y[O.length]?=some b
 hres:Y[O.length+1]?=some mJ
 hv:Y[O.length+1+1]?=some (.cells (hd++[x]) ⟨false,none⟩)
 his:Vk Y (O.length+1) is x
 hpre:Y.take O.length=O
theorem adq{O S T:St}{n m:Nat}(h:n<=m)(e:S.take m=T.take m):S.take n=T.take n:=by
 have:=congrArg (List.take n) e;rwa[List.take_take,List.take_take,Nat.min_eq_left h]at this
theorem X9 (is:List JV) (hn:is.length<=8192) (hd:LA) (k n0:Int) (t:LU) (ns:List LU) (hhd:hd=[.int .u8 k,.int .i64 n0,.str t,.sl ns.length (ns.map .str)]) (O:St) (b:AO)
  (hD:∀j∈is,∀Y:St,Ok Y->ai C iP [j.av] Y=some (j.av,Y)):∀(n i:Nat),i+n=is.length->∀(x:AV) (Y:St),adA O b hd (is.take i) x Y->
  ∃(x':AV) (Y':St),aA C (ai C) 32 [2,3,17,18,19] iT [(2,.ref (O.length+1) 0),(3,.ref (O.length+1+1) 0),(17,.sl is.length (aB is)),(18,.int .i64 is.length),(19,.int .i64 i)] Y=some (.exit 0,[(2,.ref (O.length+1) 0),(3,.ref (O.length+1+1) 0)],Y')/\adA O b hd is x' Y'
 |0,i,hi,x,Y,I=>by
  have h:¬((i:Int)<(is.length:Int)):=by omega
  refine⟨x,Y,?_,by rw[List.take_of_length_le (by omega)]at I;exact I⟩
  rw[aG (he:=rfl)];simp only[iT,h,EVX,seval]
 |n+1,i,hi,x,Y,I=>by
  obtain⟨hok,hb,hres,hv,his,hpre⟩:=I;have h:((i:Int)<(is.length:Int)):=by omega
  have h2:i<is.length:=by omega
  have w2:IntKind.i64.wrap ((i:Int)+1)=((i+1:Nat):Int):=by rw[w64]<;>omega
  have p2:(0:Int)<=(i:Int):=by omega
  have d2:=vW is i h2;have sl:=jo is;have hj:is[i]∈is:=List.getElem_mem h2;have ht:is.take (i+1)=is.take i++[is[i]]:=by rw[List.take_succ_eq_append_getElem h2]
  generalize is[i]=j at*;generalize aB (is.drop (i+1))=R at*;have jl:=JV.len j;have jf:=JV.flat j;have jt:(j.cs++R).take 5=j.cs:=by rw[<-jl];simp
  have je:5<=(j.cs++R).length:=by simp[jl]
  have jt':j.cs.take 5=j.cs:=List.take_of_length_le (by rw[JV.len];exact Nat.le_refl _)
  have je':5<=j.cs.length:=by rw[JV.len];exact Nat.le_refl _
  have sp:∀a b c d e:AV,splice [a,b,c,d,e] 0 j.cs=j.cs:=fun a b c d e=>by simp[splice,jl]
  have ok1:Ok (Y++[.cells j.cs ⟨false,none⟩]):=hok.plus (by rw[List.all_cons,show AO.below 0 (.cells j.cs ⟨false,none⟩)=true from j.bel];rfl)
  have q:=hD j hj _ ok1;have sx:=his.same;obtain⟨S2,a1,a2,a3,a4,a5,a6,a7⟩:=aa2 (o:=O.length) j (.cells j.cs ⟨false,none⟩) his hok (by simp;omega) (by omega) hb hres hv
  have lt:(is.take i).length=i:=by simp;omega
  rw[lt]at a1;have b1:=fun L=>aH hv L;have b2:=fun L=>aH a5 L;have p3:=fun L y=>dY a5 L y;have g1:=fun L=>mO (show Y.length=Y.length from rfl) L;have s1:=fun L y=>wL (show Y.length=Y.length from rfl) L y;subst hhd;dsimp only[List.cons_append,List.nil_append]at*;have ok3:Ok ((S2++[AO.cells j.cs ⟨false,none⟩,AO.cells (aB (is.take i++[j])) ⟨false,none⟩]:St).set (O.length+1+1) (.cells [.int .u8 k,.int .i64 n0,.str t,.sl ns.length (ns.map .str),.msl (Y.length+1) 0 (i+1) 5] ⟨false,none⟩)):=by
   refine Ok.set2 (a7.plus (by simp only[List.all_cons,List.all_nil,AO.below,JV.bel,fE,Bool.and_true])) _ ?_
   rw[List.length_append,a2];have:=aP (Nat.zero_le (Y.length+2)) _ (mM ns);simp only[AO.below,ae,below,List.length_cons,List.length_nil,this];simp
  rw[p3]at ok3;have nl:O.length+1+1<Y.length:=(List.getElem?_eq_some_iff.mp hv).1;have I2:adA O b [.int .u8 k,.int .i64 n0,.str t,.sl ns.length (ns.map .str)] (is.take (i+1)) (.msl (Y.length+1) 0 (i+1) 5) (S2.set (O.length+1+1) (.cells [.int .u8 k,.int .i64 n0,.str t,.sl ns.length (ns.map .str),.msl (Y.length+1) 0 (i+1) 5] ⟨false,none⟩)++[.cells j.cs ⟨false,none⟩,.cells (aB (is.take i++[j])) ⟨false,none⟩]):=by
   rw[ht];refine⟨ok3,aH (aO a3 (by omega) _) _,aH (aO a4 (by omega) _) _,aH (bZ a5 _) _,.inr ⟨by simp,Y.length+1,by simp[lt],?_,by omega⟩,?_⟩
   ·rw[tN (by rw[List.length_set,a2])];rfl
   ·rw[oC _ _ _ (by rw[List.length_set,a2];omega),dD _ _ _ (by omega)]
    exact(adq (O:=O) (by omega) a6).trans hpre
  obtain⟨x',Y',e1,e2⟩:=X9 is hn _ k n0 t ns rfl O b hD n (i+1) (by omega) _ _ I2
  refine⟨x',Y',?_,e2⟩;rw[aG (he:=rfl)];generalize hk:aA C (ai C) 32 [2,3,17,18,19] iT=kk at*;unfold JV.av at q;simp only[iT,h,h2,w2,p2,d2,sl,q,sx,a1,b1,b2,p3,g1,s1,e1,jl,jf,jt,je,jt',sp,Int.toNat_natCast,AV.cells,AV.flat,EVX,seval]
theorem Dj(hCl:OY C)(hC:Has C iP qm):∀(m:Nat) (j:JV) (O:St),SizeOf.sizeOf j.w<m->Ok O->ai C iP [j.av] O=some (j.av,O)
 |0,j,O,hm,_=>absurd hm (by omega)
 |m+1,j,O,hm,hσ=>by
  obtain⟨k,n,t,ns,is,e1,l1,l2,hs,h1,h2,hj⟩:=j.cs_ex;have hD:∀x∈is,∀Y:St,Ok Y->ai C iP [x.av] Y=some (x.av,Y):=fun x hx Y hτ=>Dj hCl hC m x Y (by have:=hs x hx;omega) hτ
  have ok1:Ok (O++[.cells j.cs ⟨false,none⟩,.cells [.int .u8 0,.int .i64 0,.str [],.nils,.nils] ⟨false,none⟩]):=hσ.plus (by rw[List.all_cons,show AO.below 0 (.cells j.cs ⟨false,none⟩)=true from j.bel];rfl)
  have cl:=hCl ns _ l1 ok1;have ok2:Ok (O++[.cells j.cs ⟨false,none⟩,mJ,.cells [.int .u8 k,.int .i64 n,.str t,.sl ns.length (ns.map .str),.nils] ⟨false,none⟩]):=hσ.plus (by
   rw[List.all_cons,show AO.below 0 (.cells j.cs ⟨false,none⟩)=true from j.bel];simp[mJ,AO.below,ae,below,mM])
  obtain⟨x',Y',q1,q2⟩:=X9 is l2 _ k n t ns rfl O (.cells j.cs ⟨false,none⟩) hD is.length 0 (by omega) .nils _ ⟨ok2,by rw[dU];rfl,by rw[fF];rfl,by rw[Nat.add_assoc,fF];rfl,.inl ⟨rfl,rfl⟩,by simp⟩
  obtain⟨hok,hb,hres,hv,his,hpre⟩:=q2;obtain⟨Y2,hh,ht⟩:=Uo (m:=O.length) (is:=is) (n0:=O.length+1) (Y:=Y'.set (O.length+1) (.cells [.int .u8 k,.int .i64 n,.str t,.sl ns.length (ns.map .str),x'] ⟨false,none⟩)) (x:=x') (by
   rcases his with h|⟨e1,q,e2,e3,e4⟩
   ·exact .inl h
   ·exact .inr ⟨e1,q,e2,aO e3 (by omega) _,e4⟩) k n t ns (by omega)
  have fx:=his.flat
  rw[dD _ _ _ (by omega),hpre]at ht
  have ty:=Sl (vs:=[.agg [.int .u8 k,.int .i64 n,.str t,.sl ns.length (ns.map .str),.sl is.length (aB is)]]) hσ (by simp[ae,below,mM,fE]) ht
  have g2:=bZ hres (.cells [.int .u8 k,.int .i64 n,.str t,.sl ns.length (ns.map .str),x'] ⟨false,none⟩);have hn:hand false [j.av] O=some ([j.av],O):=NVs.hand (.cons j.nv .nil) _;unfold JV.av at*;rw[hC.go hn (by simp[qm])]
  have b1:∀(E:As),look E 2=.ref (O.length+1) 0->AP O.length [.cell 2 true 5] (some (.ret,E,Y'.set (O.length+1) (.cells [.int .u8 k,.int .i64 n,.str t,.sl ns.length (ns.map .str),x'] ⟨false,none⟩)))=some (.agg [.int .u8 k,.int .i64 n,.str t,.sl ns.length (ns.map .str),.sl is.length (aB is)],O):=fun E h2=>by
   rw[rP];have:bQ E (Y'.set (O.length+1) (.cells [.int .u8 k,.int .i64 n,.str t,.sl ns.length (ns.map .str),x'] ⟨false,none⟩)) [.cell 2 true 5]=some [.agg [.int .u8 k,.int .i64 n,.str t,.sl ns.length (ns.map .str),x']]:=by
    simp only[bQ,h2,g2,pt,List.drop_zero,List.length_cons,List.length_nil,List.take];rfl
   rw[this];dsimp only;rw[hh];dsimp only[bD];rw[ty]
  rw[e1]at cl q1 hb;generalize hE:AP=eR at*;dsimp only[List.cons_append,List.nil_append,mJ,Int.natCast_zero,Int.cast_ofNat_Int]at*;simp only[qm,e1,cl,q1,hres,hv,fx,AV.cells,Nat.add_assoc,splice,EVX,seval];refine b1 _ ?_;rfl
theorem TV (hEn:Has C ku lH) (is:List JV) (hn:is.length<=8192) (hd:LA) (k n0:Int) (t:LU) (ns:List LU) (hhd:hd=[.int .u8 k,.int .i64 n0,.str t,.sl ns.length (ns.map .str)]) (O:St) (b:AO)
  (hD:∀j∈is,∀Y:St,Ok Y->ai C iP [j.av] Y=some (j.av,Y)):∀(n i:Nat),i+n=is.length->∀(x:AV) (Y:St),adA O b hd (is.take i) x Y->
  ∃(x':AV) (Y':St),aA C (ai C) 36 [2,3,17,18,19] nR [(2,.ref (O.length+1) 0),(3,.ref (O.length+1+1) 0),(17,.sl is.length (aB is)),(18,.int .i64 is.length),(19,.int .i64 i)] Y=some (.exit 0,[(2,.ref (O.length+1) 0),(3,.ref (O.length+1+1) 0)],Y')/\adA O b hd is x' Y'
 |0,i,hi,x,Y,I=>by
  have h:¬((i:Int)<(is.length:Int)):=by omega
  refine⟨x,Y,?_,by rw[List.take_of_length_le (by omega)]at I;exact I⟩
  rw[aG (he:=rfl)];simp only[nR,h,EVX,seval]
 |n+1,i,hi,x,Y,I=>by
  obtain⟨hok,hb,hres,hv,his,hpre⟩:=I;have h:((i:Int)<(is.length:Int)):=by omega
  have h2:i<is.length:=by omega
  have w2:IntKind.i64.wrap ((i:Int)+1)=((i+1:Nat):Int):=by rw[w64]<;>omega
  have p2:(0:Int)<=(i:Int):=by omega
  have d2:=vW is i h2;have sl:=jo is;have hj:is[i]∈is:=List.getElem_mem h2;have ht:is.take (i+1)=is.take i++[is[i]]:=by rw[List.take_succ_eq_append_getElem h2]
  generalize is[i]=j at*;generalize aB (is.drop (i+1))=R at*;have jl:=JV.len j;have jf:=JV.flat j;have jt:(j.cs++R).take 5=j.cs:=by rw[<-jl];simp
  have je:5<=(j.cs++R).length:=by simp[jl]
  have jt':j.cs.take 5=j.cs:=List.take_of_length_le (by rw[JV.len];exact Nat.le_refl _)
  have je':5<=j.cs.length:=by rw[JV.len];exact Nat.le_refl _
  have sp:∀a b c d e:AV,splice [a,b,c,d,e] 0 j.cs=j.cs:=fun a b c d e=>by simp[splice,jl]
  have ok1:Ok (Y++[.cells j.cs ⟨false,none⟩]):=hok.plus (by rw[List.all_cons,show AO.below 0 (.cells j.cs ⟨false,none⟩)=true from j.bel];rfl)
  have q:=hD j hj _ ok1;obtain⟨k1,n1,t1,ns1,is1,f1,f2,f3,_⟩:=j.cs_ex;have en:=Ye hEn is1 f3 1 (Y++[.cells j.cs ⟨false,none⟩]);have f4:(j.cs.drop 4).head? =some (.sl is1.length (aB is1)):=by rw[f1];rfl
  have f5:4<=j.cs.length:=by rw[jl];omega
  have sx:=his.same;obtain⟨S2,a1,a2,a3,a4,a5,a6,a7⟩:=aa2 (o:=O.length) j (.cells j.cs ⟨false,none⟩) his hok (by simp;omega) (by omega) hb hres hv
  have lt:(is.take i).length=i:=by simp;omega
  rw[lt]at a1;have b1:=fun L=>aH hv L;have b2:=fun L=>aH a5 L;have p3:=fun L y=>dY a5 L y;have g1:=fun L=>mO (show Y.length=Y.length from rfl) L;have s1:=fun L y=>wL (show Y.length=Y.length from rfl) L y;subst hhd;dsimp only[List.cons_append,List.nil_append]at*;have ok3:Ok ((S2++[AO.cells j.cs ⟨false,none⟩,AO.cells (aB (is.take i++[j])) ⟨false,none⟩]:St).set (O.length+1+1) (.cells [.int .u8 k,.int .i64 n0,.str t,.sl ns.length (ns.map .str),.msl (Y.length+1) 0 (i+1) 5] ⟨false,none⟩)):=by
   refine Ok.set2 (a7.plus (by simp only[List.all_cons,List.all_nil,AO.below,JV.bel,fE,Bool.and_true])) _ ?_
   rw[List.length_append,a2];have:=aP (Nat.zero_le (Y.length+2)) _ (mM ns);simp only[AO.below,ae,below,List.length_cons,List.length_nil,this];simp
  rw[p3]at ok3;have nl:O.length+1+1<Y.length:=(List.getElem?_eq_some_iff.mp hv).1;have I2:adA O b [.int .u8 k,.int .i64 n0,.str t,.sl ns.length (ns.map .str)] (is.take (i+1)) (.msl (Y.length+1) 0 (i+1) 5) (S2.set (O.length+1+1) (.cells [.int .u8 k,.int .i64 n0,.str t,.sl ns.length (ns.map .str),.msl (Y.length+1) 0 (i+1) 5] ⟨false,none⟩)++[.cells j.cs ⟨false,none⟩,.cells (aB (is.take i++[j])) ⟨false,none⟩]):=by
   rw[ht];refine⟨ok3,aH (aO a3 (by omega) _) _,aH (aO a4 (by omega) _) _,aH (bZ a5 _) _,.inr ⟨by simp,Y.length+1,by simp[lt],?_,by omega⟩,?_⟩
   ·rw[tN (by rw[List.length_set,a2])];rfl
   ·rw[oC _ _ _ (by rw[List.length_set,a2];omega),dD _ _ _ (by omega)]
    exact(adq (O:=O) (by omega) a6).trans hpre
  obtain⟨x',Y',e1,e2⟩:=TV hEn is hn _ k n0 t ns rfl O b hD n (i+1) (by omega) _ _ I2
  refine⟨x',Y',?_,e2⟩;rw[aG (he:=rfl)];generalize hk:aA C (ai C) 36 [2,3,17,18,19] nR=kk at*;unfold JV.av at q;simp only[nR,h,h2,w2,p2,d2,sl,q,en,f4,sx,a1,b1,b2,p3,g1,s1,e1,jl,jf,jt,je,jt',sp,Int.toNat_natCast,AV.cells,AV.flat,EVX,seval]
structure CopyHas(C:Ctx):Prop where
 cl:OY C
 dup:Has C iP qm
 endless:Has C ku lH
 copy:Has C pK Bq
theorem IM(H:CopyHas C)(j:JV)(O:St)(hσ:Ok O):ai C pK [j.av] O=some (j.av,O):=by
 obtain⟨k,n,t,ns,is,e1,l1,l2,hs,h1,h2,hj⟩:=j.cs_ex;have hD:∀x∈is,∀Y:St,Ok Y->ai C iP [x.av] Y=some (x.av,Y):=fun x hx Y hτ=>Dj H.cl H.dup _ x Y (Nat.lt_succ_self _) hτ;have ok1:Ok (O++[.cells j.cs ⟨false,none⟩,.cells [.int .u8 0,.int .i64 0,.str [],.nils,.nils] ⟨false,none⟩]):=hσ.plus (by rw[List.all_cons,show AO.below 0 (.cells j.cs ⟨false,none⟩)=true from j.bel];rfl)
 have cl:=H.cl ns _ l1 ok1;have ok2:Ok (O++[.cells j.cs ⟨false,none⟩,mJ,.cells [.int .u8 k,.int .i64 n,.str t,.sl ns.length (ns.map .str),.nils] ⟨false,none⟩]):=hσ.plus (by
  rw[List.all_cons,show AO.below 0 (.cells j.cs ⟨false,none⟩)=true from j.bel];simp[mJ,AO.below,ae,below,mM])
 obtain⟨x',Y',q1,q2⟩:=TV H.endless is l2 _ k n t ns rfl O (.cells j.cs ⟨false,none⟩) hD is.length 0 (by omega) .nils _ ⟨ok2,by rw[dU];rfl,by rw[fF];rfl,by rw[Nat.add_assoc,fF];rfl,.inl ⟨rfl,rfl⟩,by simp⟩
 obtain⟨hok,hb,hres,hv,his,hpre⟩:=q2;obtain⟨Y2,hh,ht⟩:=Uo (m:=O.length) (is:=is) (n0:=O.length+1) (Y:=Y'.set (O.length+1) (.cells [.int .u8 k,.int .i64 n,.str t,.sl ns.length (ns.map .str),x'] ⟨false,none⟩)) (x:=x') (by
  rcases his with h|⟨e1,q,e2,e3,e4⟩
  ·exact .inl h
  ·exact .inr ⟨e1,q,e2,aO e3 (by omega) _,e4⟩) k n t ns (by omega)
 have fx:=his.flat
 rw[dD _ _ _ (by omega),hpre]at ht
 have ty:=Sl (vs:=[.agg [.int .u8 k,.int .i64 n,.str t,.sl ns.length (ns.map .str),.sl is.length (aB is)]]) hσ (by simp[ae,below,mM,fE]) ht
 have g2:=bZ hres (.cells [.int .u8 k,.int .i64 n,.str t,.sl ns.length (ns.map .str),x'] ⟨false,none⟩);have hn:hand false [j.av] O=some ([j.av],O):=NVs.hand (.cons j.nv .nil) _;unfold JV.av at*;rw[H.copy.go hn (by simp[Bq])]
 have b1:∀(E:As),look E 2=.ref (O.length+1) 0->AP O.length [.cell 2 true 5] (some (.ret,E,Y'.set (O.length+1) (.cells [.int .u8 k,.int .i64 n,.str t,.sl ns.length (ns.map .str),x'] ⟨false,none⟩)))=some (.agg [.int .u8 k,.int .i64 n,.str t,.sl ns.length (ns.map .str),.sl is.length (aB is)],O):=fun E h2=>by
  rw[rP];have:bQ E (Y'.set (O.length+1) (.cells [.int .u8 k,.int .i64 n,.str t,.sl ns.length (ns.map .str),x'] ⟨false,none⟩)) [.cell 2 true 5]=some [.agg [.int .u8 k,.int .i64 n,.str t,.sl ns.length (ns.map .str),x']]:=by
   simp only[bQ,h2,g2,pt,List.drop_zero,List.length_cons,List.length_nil,List.take];rfl
  rw[this];dsimp only;rw[hh];dsimp only[bD];rw[ty]
 rw[e1]at cl q1 hb;generalize hE:AP=eR at*;dsimp only[List.cons_append,List.nil_append,mJ,Int.natCast_zero,Int.cast_ofNat_Int]at*;simp only[Bq,e1,cl,q1,hres,hv,fx,AV.cells,Nat.add_assoc,splice,EVX,seval];refine b1 _ ?_;rfl
theorem af4(H:CopyHas C)(F:Oo C)(hC:Has C xm qE)(j:JV)(x:LU)(O:St)(hσ:Ok O):∃(j':JV) (b:Bool),ai C xm [j.av,.str x] O=some (.tup [j'.av,.bool b],O):=by
 obtain⟨k,n,t,ns,is,e1,l1,l2,hs,h1,h2,hj⟩:=j.cs_ex;have hn:hand false [j.av,.str x] O=some ([j.av,.str x],O):=NVs.hand (.cons j.nv (.cons (.str _) .nil)) _;have tz:∀(b:Bool) (L:St),tidy O.length [.agg [.int .u8 0,.int .i64 0,.str [],.sl 0 [],.sl 0 []],.bool b] (O++L)=O:=fun b L=>dX hσ rfl L;have ok1:Ok (O++[.cells j.cs ⟨false,none⟩,.cells [.int .u8 0,.int .i64 0,.str [],.nils,.nils] ⟨false,none⟩]):=hσ.plus (by rw[List.all_cons,show AO.below 0 (.cells j.cs ⟨false,none⟩)=true from j.bel];rfl)
 obtain⟨a,b,q1,q2,q3⟩:=abv F ns l1 x _ ok1;rw[hC.go hn (by simp[qE])]
 unfold JV.av;rw[e1]at q1 ok1;rw[e1];cases hk:(k !=5)
 ·cases b
  ·refine⟨JV.zero,false,?_⟩;rw[JV.zero_cs];simp only[qE,hk,q1,tz,bQ,bz,dL,AV.cells,AV.flat,splice,EVX,seval]
  ·have ha:=q2 rfl;obtain⟨a,rfl⟩:=Int.eq_ofNat_of_zero_le ha;by_cases hl:a<is.length
   ·have hl':¬((is.length:Int)<=(a:Int)):=by omega
    have d2:=vW is a hl;have sl:=jo is;generalize is[a]=y at*;generalize aB (is.drop (a+1))=R at*;have yl:=JV.len y;have yf:=JV.flat y;have yt:(y.cs++R).take 5=y.cs:=by rw[<-yl];simp
    have ye:5<=(y.cs++R).length:=by simp[yl]
    have yt':y.cs.take 5=y.cs:=List.take_of_length_le (by rw[JV.len];exact Nat.le_refl _)
    have ye':5<=y.cs.length:=by rw[JV.len];exact Nat.le_refl _
    have sp:∀a b c d e:AV,splice [a,b,c,d,e] 0 y.cs=y.cs:=fun a b c d e=>by simp[splice,yl]
    have cp:=IM H y _ ok1;have ty:∀(b:Bool) (L:St),tidy O.length [.agg y.cs,.bool b] (O++L)=O:=fun b L=>dX hσ (by rw[ae,below,y.bel];rfl) L
    have nf:=fun Y r=>y.nvs.nf Y r;refine⟨y,true,?_⟩;unfold JV.av at cp;simp only[qE,hk,q1,hl,hl',ha,d2,sl,cp,yl,yf,yt,ye,yt',sp,ty,nf,Int.toNat_natCast,bQ,bz,AV.cells,EVX,seval]
   ·have hl':((is.length:Int)<=(a:Int)):=by omega
    refine⟨JV.zero,false,?_⟩;rw[JV.zero_cs];simp only[qE,hk,q1,hl',tz,bQ,bz,dL,AV.cells,AV.flat,splice,EVX,seval]
 ·refine⟨JV.zero,false,?_⟩;rw[JV.zero_cs];simp only[qE,hk,tz,bQ,bz,dL,AV.cells,AV.flat,splice,EVX,seval]
theorem QD:∀is:List JV,aB is=is.flatMap JV.cs
 |[]=>by rw[aB];rfl
 |j::l=>by rw[aB,QD l,List.flatMap_cons]
theorem QO (k n:Int) (t:LU) (ns:List LU) (I:AV) (hl:ns.length<=1099511627776) (O:St) (X:AO) (hX:X=.cells [.int .u8 k,.int .i64 n,.str t,.sl ns.length (ns.flatMap sC),I] ⟨false,none⟩):∀(m i:Nat),i+m=ns.length->
  aA C (ai C) 81 [2,3,5] eQ [(2,.ref O.length 0),(3,.ref (O.length+1) 0),(5,.int .i64 i)] (O++[X,X])=some (.exit 0,[(2,.ref O.length 0),(3,.ref (O.length+1) 0)],O++[X,X])
 |0,i,hi=>by
  rw[aG (he:=rfl)];have h:¬((i:Int)<(ns.length:Int)):=by omega
  have fl:=dh xO ns;rw[Nat.mul_one]at fl;subst hX;simp only[eQ,h,bH,dU,EVX,seval]
 |m+1,i,hi=>by
  rw[aG (he:=rfl)];have h:((i:Int)<(ns.length:Int)):=by omega
  have h2:i<ns.length:=by omega
  have hb:ns[i]?=some ns[i]:=List.getElem?_eq_getElem h2;have hw:IntKind.i64.wrap ((i:Int)+1)=((i+1:Nat):Int):=by rw[w64]<;>omega
  have h3:(0:Int)<=i:=by omega
  have fl:=dh xO ns;have fd:=mD xO hb;obtain⟨p,hpe⟩:∃p,p=ns[i]:=⟨_,rfl⟩;rw[<-hpe,Nat.mul_one]at fd;rw[Nat.mul_one]at fl;have pc:sC p=[.str p]:=rfl;have ih:=QO k n t ns I hl O X hX m (i+1) (by omega)
  subst hX;generalize hk:aA C (ai C) 81 [2,3,5] eQ=k at*;simp only[eQ,h,h2,h3,hw,fl,fd,pc,bH,ih,dU,fF,List.cons_append,Nat.mul_one,EVX,seval]
theorem Va (k n:Int) (t:LU) (N:AV) (is:List JV) (hl:is.length<=8192) (O:St) (X:AO) (hX:X=.cells [.int .u8 k,.int .i64 n,.str t,N,.sl is.length (is.flatMap JV.cs)] ⟨false,none⟩) (hO:Ok (O++[X,X])) (IH:∀j∈is,∀Y,Ok Y->ai C eU [j.av,j.av] Y=some (.bool true,Y)):∀(m i:Nat),i+m=is.length->
  aA C (ai C) 81 [2,3,6] gX [(2,.ref O.length 0),(3,.ref (O.length+1) 0),(6,.int .i64 i)] (O++[X,X])=some (.exit 2,[],O++[X,X])
 |0,i,hi=>by
  rw[aG (he:=rfl)];have h:¬((i:Int)<(is.length:Int)):=by omega
  subst hX;simp only[gX,h,bH,dU,EVX,seval]
 |m+1,i,hi=>by
  rw[aG (he:=rfl)];have h:((i:Int)<(is.length:Int)):=by omega
  have h2:i<is.length:=by omega
  have hb:is[i]?=some is[i]:=List.getElem?_eq_getElem h2;have hw:IntKind.i64.wrap ((i:Int)+1)=((i+1:Nat):Int):=by rw[w64]<;>omega
  have h3:(0:Int)<=i:=by omega
  have fl:=dh JV.len is;have fd:=mD JV.len hb;have q:=IH is[i] (List.getElem_mem h2) _ hO;obtain⟨p,hpe⟩:∃p,p=is[i]:=⟨_,rfl⟩;rw[<-hpe]at fd q;unfold JV.av at q;obtain⟨a,b,c,d,e,pc⟩:∃a b c d e,p.cs=[a,b,c,d,e]:=by
   have:=JV.len p
   match h:p.cs,this with
   |[a,b,c,d,e],_=>exact⟨a,b,c,d,e,rfl⟩
  have pf:([a,b,c,d,e]:LA).all AV.flat=true:=by
   rw[<-pc];exact JV.flat p
  rw[pc]at fd q;have ih:=Va k n t N is hl O X hX hO IH m (i+1) (by omega)
  subst hX;generalize hk:aA C (ai C) 81 [2,3,6] gX=k at*;simp only[gX,h,h2,h3,hw,fl,fd,q,bH,ih,dU,fF,List.cons_append,List.take_succ_cons,List.take_zero,EVX,seval]
theorem NM(hC:Has C eU jh):∀(m:Nat) (j:JV) (O:St),SizeOf.sizeOf j.w<m->Ok O->ai C eU [j.av,j.av] O=some (.bool true,O)
 |0,j,O,hm,_=>absurd hm (by omega)
 |m+1,j,O,hm,hσ=>by
  obtain⟨k,n,t,ns,is,e1,l1,l2,hs,h1,h2,hj⟩:=j.cs_ex;have IH:∀x∈is,∀Y:St,Ok Y->ai C eU [x.av,x.av] Y=some (.bool true,Y):=fun x hx Y hτ=>NM hC m x Y (by have:=hs x hx;omega) hτ
  have hn:hand false [j.av,j.av] O=some ([j.av,j.av],O):=NVs.hand (.cons j.nv (.cons j.nv .nil)) _;rw[amW,QD]at e1;have hO:Ok (O++[.cells j.cs ⟨false,none⟩,.cells j.cs ⟨false,none⟩]):=hσ.plus (by
   have:AO.below 0 (.cells j.cs ⟨false,none⟩)=true:=j.bel;rw[List.all_cons,this,List.all_cons,this];rfl)
  rw[e1]at hO;have lp:=QO (C:=C) k n t ns (.sl is.length (is.flatMap JV.cs)) (by omega) O _ rfl ns.length 0 (by omega)
  have lq:=Va (C:=C) k n t (.sl ns.length (ns.flatMap sC)) is l2 O _ rfl hO IH is.length 0 (by omega)
  simp only[Int.cast_ofNat_Int]at lp lq;have fl:=dh xO ns;have fl2:=dh JV.len is;rw[Nat.mul_one]at fl;have ty:=dX hσ (vs:=[.bool true]) rfl;unfold JV.av at hn⊢;rw[hC.go hn (by simp[jh]),e1]
  simp only[jh,lp,lq,bH,ty,dU,fF,AV.cells,List.cons_append,EVX,seval]
theorem aba(hC:Has C eU jh)(j:JV)(O:St)(hσ:Ok O):ai C eU [j.av,j.av] O=some (.bool true,O):=NM hC _ j O (Nat.lt_succ_self _) hσ
def rC(n:Int)(hs:List PS)(j:JV):LA:=.int .i64 n::.sl hs.length (hs.flatMap pC)::j.cs
theorem Zj(n:Int)(hs:List PS)(j:JV):ae 0 (rC n hs j)=true:=by
 unfold rC;have h:below 0 (.sl hs.length (hs.flatMap pC))=true:=(xx hs).cl;rw[ae,ae,h,j.bel];rfl
theorem amQ(n:Int)(hs:List PS)(j:JV):(rC n hs j).length=7:=by simp[rC,JV.len]
theorem abe(hC:Has C sZ o7)(hH:Has C jC fM)(hV:Has C eU jh)(n:Int)(hs:List PS)(hl:hs.length<=1099511627776)(j:JV)(O:St)(hσ:Ok O):ai C sZ [.agg (rC n hs j),.agg (rC n hs j)] O=some (.bool true,O):=by
 have nv:NV (.agg (rC n hs j)):=.agg (.cons (.int _ _) (.cons (xx hs) j.nvs));have hO:Ok (O++[.cells (rC n hs j) ⟨false,none⟩,.cells (rC n hs j) ⟨false,none⟩]):=hσ.plus (by
  have:AO.below 0 (.cells (rC n hs j) ⟨false,none⟩)=true:=Zj n hs j;rw[List.all_cons,this,List.all_cons,this];rfl)
 rw[hC.go (NVs.hand (.cons nv (.cons nv .nil)) _) (by simp[o7])]
 have q1:=L9 hH hs hl;have q2:=aba hV j _ hO;unfold JV.av at q2;obtain⟨a,b,c,d,e,pc⟩:∃a b c d e,j.cs=[a,b,c,d,e]:=by
  have:=JV.len j
  match h:j.cs,this with
  |[a,b,c,d,e],_=>exact⟨a,b,c,d,e,rfl⟩
 have pf:([a,b,c,d,e]:LA).all AV.flat=true:=by
  rw[<-pc];exact JV.flat j
 have ty:=dX hσ (vs:=[.bool true]) rfl;unfold rC at q2⊢;rw[pc]at q2⊢;simp only[o7,q1,q2,ty,dU,fF,AV.cells,List.cons_append,List.take_succ_cons,EVX,seval]
structure RoV where
 name:LU
 thr:Int
 ids:List LU
 term:Bool
 paths:List LU
 pres:List LU
def tC(ns:List LU):AV:=.sl ns.length (ns.flatMap sC)
def RoV.cs(r:RoV):LA:=[.str r.name,.int .i64 r.thr,tC r.ids,.bool r.term,tC r.paths,tC r.pres]
theorem RoV.len(r:RoV):r.cs.length=6:=rfl
theorem air(ns:List LU):below 0 (tC ns)=true:=(NT ns).cl
theorem RoV.bel(r:RoV):ae 0 r.cs=true:=by
 unfold RoV.cs;simp[ae,air,below]
structure RoV.ok(r:RoV):Prop where
 ids:r.ids.length<=1099511627776
 paths:r.paths.length<=1099511627776
 pres:r.pres.length<=1099511627776
structure DelHas(C:Ctx):Prop where
 texts:Has C rF ny
 auth:Has C sW oZ
 keys:Has C sV oW
 del:Has C yS sK
theorem Me:∀l:LA,(∀v∈l,same v v=true)->uq l l=true
 |[],_=>by simp[uq]
 |v::l,h=>by
  rw[uq,h v (by simp),Me l fun x hx=>h x (by simp[hx])];rfl
theorem Xa(n:Nat)(l:LA)(h:∀v∈l,same v v=true):same (.sl n l) (.sl n l)=true:=by
 rw[same,Me l h];simp
theorem ai8(l:LA)(h:∀v∈l,same v v=true):same (.agg l) (.agg l)=true:=by
 rw[same,Me l h]
theorem Xb(ns:List LU):same (tC ns) (tC ns)=true:=Xa _ _ fun v hv=>by
 obtain⟨s,_,hs⟩:=List.mem_flatMap.mp hv;simp only[sC,List.mem_singleton]at hs;rw[hs];exact zn _
theorem RoV.same(r:RoV):∀v∈r.cs,Ev.same v v=true:=fun v hv=>by
 simp only[RoV.cs,List.mem_cons,List.not_mem_nil,or_false]at hv;rcases hv with rfl|rfl|rfl|rfl|rfl|rfl
 ·exact zn _
 ·exact Ez _ _
 ·exact Xb _
 ·exact FZ _
 ·exact Xb _
 ·exact Xb _
theorem Rt (H:DelHas C) (K:AV) (B:LA) (rs:List RoV) (hr:∀r∈rs,r.ok) (hl:rs.length<=1099511627776) (q:Nat) (X:AO) (hX:X=.cells (K::.sl rs.length (rs.flatMap RoV.cs)::B) ⟨false,none⟩):∀(m i:Nat) (Y:St),i+m=rs.length->Ok Y->Y[q]?=some X->Y[q+1]?=some X->
  ∃G',aA C (ai C) 104 [2,3,5] gZ [(2,.ref q 0),(3,.ref (q+1) 0),(5,.int .i64 i)] Y=some (.exit 0,[],Y++G')
 |0,i,Y,hi,hτ,f2,f3=>by
  refine⟨[],?_⟩;rw[aG (he:=rfl),List.append_nil];have h:¬((i:Int)<(rs.length:Int)):=by omega
  subst hX;simp only[gZ,h,f2,bH,EVX,seval]
 |m+1,i,Y,hi,hτ,f2,f3=>by
  have h2:i<rs.length:=by omega
  have hb:rs[i]?=some rs[i]:=List.getElem?_eq_getElem h2;have fl:=dh RoV.len rs;have fd:=mD RoV.len hb;have ok:=hr rs[i] (List.getElem_mem h2);obtain⟨p,hpe⟩:∃p,p=rs[i]:=⟨_,rfl⟩;rw[<-hpe]at fd ok;have g2:(Y++[.cells p.cs ⟨false,none⟩,.cells p.cs ⟨false,none⟩])[q]?=some X:=aH f2 _;have g3:(Y++[.cells p.cs ⟨false,none⟩,.cells p.cs ⟨false,none⟩])[q+1]?=some X:=aH f3 _;have g4:(Y++[.cells p.cs ⟨false,none⟩])[q+1]?=some X:=aH f3 _;have sm1:=ai8 _ p.same;have sm2:same (.sl rs.length (rs.flatMap RoV.cs)) (.sl rs.length (rs.flatMap RoV.cs))=true:=Xa _ _ fun v hv=>by
   obtain⟨r,_,hv⟩:=List.mem_flatMap.mp hv;exact r.same v hv
  have hO:Ok (Y++[.cells p.cs ⟨false,none⟩,.cells p.cs ⟨false,none⟩]):=hτ.plus (by
   have:AO.below 0 (.cells p.cs ⟨false,none⟩)=true:=p.bel;rw[List.all_cons,this,List.all_cons,this];rfl)
  obtain⟨G',ih⟩:=Rt H K B rs hr hl q X hX m (i+1) _ (by omega) hO g2 g3
  refine⟨[.cells p.cs ⟨false,none⟩,.cells p.cs ⟨false,none⟩]++G',?_⟩;rw[<-List.append_assoc];rw[aG (he:=rfl)];have h:((i:Int)<(rs.length:Int)):=by omega
  have hw:IntKind.i64.wrap ((i:Int)+1)=((i+1:Nat):Int):=by rw[w64]<;>omega
  have h3:(0:Int)<=i:=by omega
  have q1:=Rn H.auth p.thr p.ids ok.ids _ hO;have q2:=NP H.texts p.paths ok.paths;have q3:=NP H.texts p.pres ok.pres;unfold aC at q1;have pc:p.cs=[.str p.name,.int .i64 p.thr,.sl p.ids.length (p.ids.flatMap sC),.bool p.term,.sl p.paths.length (p.paths.flatMap sC),.sl p.pres.length (p.pres.flatMap sC)]:=rfl;rw[pc]at ih g2 g3 g4 sm1 q1 fd⊢;subst hX;generalize hk:aA C (ai C) 104 [2,3,5] gZ=k at*;simp only[gZ,h,h2,h3,hw,fl,fd,f2,f3,g4,sm1,sm2,q1,q2,q3,bH,ih,dU,fF,AV.cells,AV.flat,List.cons_append,List.nil_append,List.take_succ_cons,List.take_zero,EVX,seval]
structure SL where
 keys:List PS
 roles:List RoV
 thr:Int
 ids:List LU
 bits:Int
 pre:LU
def SL.cs(d:SL):LA:=[.sl d.keys.length (d.keys.flatMap pC),.sl d.roles.length (d.roles.flatMap RoV.cs),.int .i64 d.thr,tC d.ids,.int .i64 d.bits,.str d.pre]
structure SL.ok(d:SL):Prop where
 keys:d.keys.length<=1099511627776
 roles:d.roles.length<=1099511627776
 each:∀r∈d.roles,r.ok
 ids:d.ids.length<=1099511627776
theorem NR(l:List RoV):below 0 (.sl l.length (l.flatMap RoV.cs))=true:=qM (fun r=>r.bel) l
theorem SL.nvs(d:SL):NVs d.cs:=.cons (xx d.keys) (.cons (.sl _ (NR d.roles)) (.cons (.int _ _) (.cons (NT d.ids) (.cons (.int _ _) (.cons (.str _) .nil)))))
theorem SL.bel(d:SL):ae 0 d.cs=true:=d.nvs.cl
theorem abd(H:DelHas C)(d:SL)(hd:d.ok)(O:St)(hσ:Ok O):ai C yS [.agg d.cs,.agg d.cs] O=some (.bool true,O):=by
 have nv:NV (.agg d.cs):=.agg d.nvs;rw[H.del.go (NVs.hand (.cons nv (.cons nv .nil)) _) (by simp[sK])]
 have hO:Ok (O++[.cells d.cs ⟨false,none⟩,.cells d.cs ⟨false,none⟩]):=hσ.plus (by
  have:AO.below 0 (.cells d.cs ⟨false,none⟩)=true:=d.bel;rw[List.all_cons,this,List.all_cons,this];rfl)
 have dc:d.cs=[.sl d.keys.length (d.keys.flatMap pC),.sl d.roles.length (d.roles.flatMap RoV.cs),.int .i64 d.thr,.sl d.ids.length (d.ids.flatMap sC),.int .i64 d.bits,.str d.pre]:=rfl;obtain⟨G',lp⟩:=Rt H (.sl d.keys.length (d.keys.flatMap pC)) [.int .i64 d.thr,tC d.ids,.int .i64 d.bits,.str d.pre] d.roles hd.each hd.roles O.length _ rfl d.roles.length 0 _ (by omega) hO (by rw[dU];rfl) (by rw[fF];rfl)
 simp only[Int.cast_ofNat_Int,List.append_assoc]at lp;have q1:=abb H.keys d.keys hd.keys;have q2:=Rn H.auth d.thr d.ids hd.ids _ hO;have fl:=dh RoV.len d.roles;have ty:=dX hσ (vs:=[.bool true]) rfl;unfold aC at q2;rw[dc]at q2 lp⊢;simp only[sK,lp,q1,q2,bH,ty,dU,fF,AV.cells,List.cons_append,List.nil_append,List.take_succ_cons,List.take_zero,EVX,seval]
structure TgV where
 path:LU
 n:Int
 hs:List PS
 j:JV
def TgV.cs(t:TgV):LA:=.str t.path::rC t.n t.hs t.j
theorem TgV.len(t:TgV):t.cs.length=8:=by rw[TgV.cs,List.length_cons,amQ]
theorem TgV.bel(t:TgV):ae 0 t.cs=true:=by
 rw[TgV.cs,ae,Zj];rfl
structure Z5(C:Ctx):Prop extends DelHas C where
 hashes:Has C jC fM
 val:Has C eU jh
 record:Has C sZ o7
 targets:Has C yT sN
theorem Su (H:Z5 C) (v e:Int) (D:LA) (l:List TgV) (hh:∀t∈l,t.hs.length<=1099511627776) (hl:l.length<=1099511627776) (q:Nat) (X:AO) (hX:X=.cells (.int .i64 v::.int .i64 e::.sl l.length (l.flatMap TgV.cs)::D) ⟨false,none⟩) (Y:St) (hτ:Ok Y) (f2:Y[q]?=some X) (f3:Y[q+1]?=some X):∀(m i:Nat),i+m=l.length->
  aA C (ai C) 71 [2,3,5] ig [(2,.ref q 0),(3,.ref (q+1) 0),(5,.int .i64 i)] Y=some (.exit 0,[],Y)
 |0,i,hi=>by
  rw[aG (he:=rfl)];have h:¬((i:Int)<(l.length:Int)):=by omega
  subst hX;simp only[ig,h,f2,bH,EVX,seval]
 |m+1,i,hi=>by
  have h2:i<l.length:=by omega
  have hb:l[i]?=some l[i]:=List.getElem?_eq_getElem h2;have fl:=dh TgV.len l;have fd:=mD TgV.len hb;have q1:=abe H.record H.hashes H.val l[i].n l[i].hs (hh _ (List.getElem_mem h2)) l[i].j Y hτ;obtain⟨p,hpe⟩:∃p,p=l[i]:=⟨_,rfl⟩;rw[<-hpe]at fd q1;have ih:=Su H v e D l hh hl q X hX Y hτ f2 f3 m (i+1) (by omega)
  rw[aG (he:=rfl)];have h:((i:Int)<(l.length:Int)):=by omega
  have hw:IntKind.i64.wrap ((i:Int)+1)=((i+1:Nat):Int):=by rw[w64]<;>omega
  have h3:(0:Int)<=i:=by omega
  obtain⟨a,b,c,d,g,pc⟩:∃a b c d g,p.j.cs=[a,b,c,d,g]:=by
   have:=JV.len p.j
   match h:p.j.cs,this with
   |[a,b,c,d,g],_=>exact⟨a,b,c,d,g,rfl⟩
  have pf:([a,b,c,d,g]:LA).all AV.flat=true:=by
   rw[<-pc];exact JV.flat p.j
  unfold rC at q1;unfold TgV.cs rC at fd;rw[pc]at q1 fd;have fd2:(l.flatMap TgV.cs).drop (i*8)=[.str p.path,.int .i64 p.n,.sl p.hs.length (p.hs.flatMap pC),a,b,c,d,g]++(l.drop (i+1)).flatMap TgV.cs:=fd;subst hX;generalize hk:aA C (ai C) 71 [2,3,5] ig=k at*;simp only[ig,h,h2,h3,hw,fl,fd2,f2,f3,q1,bH,ih,List.cons_append,List.nil_append,List.take_succ_cons,List.take_zero,EVX,seval]
structure wP where
 ver:Int
 exp:Int
 list:List TgV
 del:SL
def wP.cs(t:wP):LA:=.int .i64 t.ver::.int .i64 t.exp::.sl t.list.length (t.list.flatMap TgV.cs)::t.del.cs
structure wP.ok(t:wP):Prop where
 list:t.list.length<=1099511627776
 each:∀x∈t.list,x.hs.length<=1099511627776
 del:t.del.ok
theorem wP.nvs(t:wP):NVs t.cs:=.cons (.int _ _) (.cons (.int _ _) (.cons (.sl _ (qM (fun r=>r.bel) t.list)) t.del.nvs))
theorem abf(H:Z5 C)(t:wP)(ht:t.ok)(O:St)(hσ:Ok O):ai C yT [.agg t.cs,.agg t.cs] O=some (.bool true,O):=by
 have nv:NV (.agg t.cs):=.agg t.nvs;rw[H.targets.go (NVs.hand (.cons nv (.cons nv .nil)) _) (by simp[sN])]
 have hO:Ok (O++[.cells t.cs ⟨false,none⟩,.cells t.cs ⟨false,none⟩]):=hσ.plus (by
  have:AO.below 0 (.cells t.cs ⟨false,none⟩)=true:=t.nvs.cl;rw[List.all_cons,this,List.all_cons,this];rfl)
 have lp:=Su H t.ver t.exp t.del.cs t.list ht.each ht.list O.length _ rfl _ hO (by rw[dU];rfl) (by rw[fF];rfl) t.list.length 0 (by omega)
 simp only[Int.cast_ofNat_Int]at lp;have q1:=abd H.toDelHas t.del ht.del _ hO;have fl:=dh TgV.len t.list;have ty:=dX hσ (vs:=[.bool true]) rfl;have dc:t.cs=[.int .i64 t.ver,.int .i64 t.exp,.sl t.list.length (t.list.flatMap TgV.cs),.sl t.del.keys.length (t.del.keys.flatMap pC),.sl t.del.roles.length (t.del.roles.flatMap RoV.cs),.int .i64 t.del.thr,.sl t.del.ids.length (t.del.ids.flatMap sC),.int .i64 t.del.bits,.str t.del.pre]:=rfl;have dd:t.del.cs=[.sl t.del.keys.length (t.del.keys.flatMap pC),.sl t.del.roles.length (t.del.roles.flatMap RoV.cs),.int .i64 t.del.thr,.sl t.del.ids.length (t.del.ids.flatMap sC),.int .i64 t.del.bits,.str t.del.pre]:=rfl;rw[dc,dd]at q1;rw[dc]at lp⊢;simp only[sN,lp,q1,bH,ty,dU,fF,AV.cells,List.cons_append,List.nil_append,List.take_succ_cons,EVX,seval]
structure iZ where
 th:Int
 ids:List LU
def iZ.cs(a:iZ):LA:=[.int .i64 a.th,.sl a.ids.length (a.ids.flatMap sC)]
theorem iZ.len(a:iZ):a.cs.length=2:=rfl
theorem IJ(l:List LU):ae 0 (l.flatMap sC)=true:=qM (fun _=>rfl) l
theorem iZ.below(a:iZ):ae 0 a.cs=true:=by
 simp only[iZ.cs,ae,Ev.below,IJ];rfl
theorem aiR(a:iZ):NV (.agg a.cs):=.agg (.cons (.int _ _) (.cons (.sl _ (IJ _)) .nil))
def liN:List LU->Nat->Nat
 |[],n=>n
 |s::l,n=>if n<5000 then liN l (n+10+min 5000 s.length)else n
def laN:List iZ->Nat->Nat
 |[],n=>n
 |a::l,n=>laN l (liN a.ids n)
theorem ahb:∀(l:List LU) (n:Nat),n<=10010->liN l n<=10010
 |[],n,h=>h
 |s::l,n,h=>by
  unfold liN;split
  ·exact ahb l _ (by omega)
  ·exact h
theorem GN (azs:List iZ) (m:Nat) (a:iZ) (hm:azs[m]?=some a) (O:St):∀(n i acc:Nat),i+n=a.ids.length->acc<=10010->(acc<5000->10*i<=acc)->
  aA C (ai C) 41 [0,3,4,5] dG [(0,.sl azs.length (azs.flatMap iZ.cs)),(3,.int .i64 acc),(4,.int .i64 m),(5,.int .i64 i)] O=some (.exit 2,[(0,.sl azs.length (azs.flatMap iZ.cs)),(3,.int .i64 (liN (a.ids.drop i) acc:Nat)),(4,.int .i64 m)],O)
 |0,i,acc,hi,ha,hb=>by
  rw[aG (he:=rfl)];have hml:m<azs.length:=(List.getElem?_eq_some_iff.mp hm).1;have h:¬((i:Int)<(a.ids.length:Int)):=by omega
  have h':a.ids.drop i=[]:=List.drop_eq_nil_of_le (by omega)
  have h0:(0:Int)<=m:=by omega
  have fl:=dh iZ.len azs;have fd:=mD iZ.len hm;have pc:a.cs=[.int .i64 a.th,.sl a.ids.length (a.ids.flatMap sC)]:=rfl;simp only[dG,h,h',h0,hml,fl,fd,pc,liN,bH,EVX,seval]
 |n+1,i,acc,hi,ha,hbb=>by
  rw[aG (he:=rfl)];have hml:m<azs.length:=(List.getElem?_eq_some_iff.mp hm).1;have h:((i:Int)<(a.ids.length:Int)):=by omega
  have h2:i<a.ids.length:=by omega
  have hb:a.ids[i]?=some a.ids[i]:=List.getElem?_eq_getElem h2;have h':a.ids.drop i=a.ids[i]::a.ids.drop (i+1):=List.drop_eq_getElem_cons h2;have h0:(0:Int)<=m:=by omega
  have h3:(0:Int)<=i:=by omega
  have fl:=dh iZ.len azs;have fd:=mD iZ.len hm;have fi:=dh xO a.ids;have fe:=mD xO hb;rw[Nat.mul_one]at fe fi;obtain⟨p,hpe⟩:∃p,p=a.ids[i]:=⟨_,rfl⟩;rw[<-hpe]at fe h';have pc:a.cs=[.int .i64 a.th,.sl a.ids.length (a.ids.flatMap sC)]:=rfl;have ps:sC p=[.str p]:=rfl;rw[h',liN];by_cases hc:acc<5000
  ·have hc':((acc:Int)<5000):=by omega
   have hw:IntKind.i64.wrap ((i:Int)+1)=((i+1:Nat):Int):=by rw[w64]<;>omega
   have w1:IntKind.i64.wrap ((acc:Int)+10)=((acc+10:Nat):Int):=by rw[w64]<;>omega
   have w2:IntKind.i64.wrap (((acc+10:Nat):Int)+((min 5000 p.length:Nat):Int))=((acc+10+min 5000 p.length:Nat):Int):=by rw[w64]<;>omega
   have ih:=GN azs m a hm O n (i+1) (acc+10+min 5000 p.length) (by omega) (by omega) (by omega)
   rw[if_pos hc,<-ih];generalize hk:aA C (ai C) 41 [0,3,4,5] dG=k at*;simp only[dG,h,h2,h3,h0,hml,hc',hw,w1,w2,YW,fl,fd,fi,fe,pc,ps,bH,Nat.mul_one,EVX,seval]
  ·have hc':¬((acc:Int)<5000):=by omega
   rw[if_neg hc];simp only[dG,h,h0,hml,hc',fl,fd,pc,bH,EVX,seval]
theorem Ea (azs:List iZ) (hl:azs.length<=100) (O:St):∀(n m acc:Nat),m+n=azs.length->acc<=10010->
  aA C (ai C) 41 [0,3,4] gV [(0,.sl azs.length (azs.flatMap iZ.cs)),(3,.int .i64 acc),(4,.int .i64 m)] O=some (.exit 0,[(3,.int .i64 (laN (azs.drop m) acc:Nat))],O)
 |0,m,acc,hi,ha=>by
  rw[aG (he:=rfl)];have h:¬((m:Int)<(azs.length:Int)):=by omega
  have h':azs.drop m=[]:=List.drop_eq_nil_of_le (by omega)
  simp only[gV,h,h',laN,bH,EVX,seval]
 |n+1,m,acc,hi,ha=>by
  rw[aG (he:=rfl)];have h:((m:Int)<(azs.length:Int)):=by omega
  have h2:m<azs.length:=by omega
  have hb:azs[m]?=some azs[m]:=List.getElem?_eq_getElem h2;have h':azs.drop m=azs[m]::azs.drop (m+1):=List.drop_eq_getElem_cons h2;have hw:IntKind.i64.wrap ((m:Int)+1)=((m+1:Nat):Int):=by rw[w64]<;>omega
  obtain⟨a,hae⟩:∃a,a=azs[m]:=⟨_,rfl⟩;rw[<-hae]at h' hb;have lp:=GN (C:=C) azs m a hb O a.ids.length 0 acc (by omega) ha (by omega)
  simp only[Int.cast_ofNat_Int,List.drop_zero]at lp;have ih:=Ea azs hl O n (m+1) (liN a.ids acc) (by omega) (ahb _ _ ha)
  rw[h',laN,<-ih];generalize hk:aA C (ai C) 41 [0,3,4] gV=k at*;simp only[gV,h,hw,lp,bH,EVX,seval]
def Ed(azs:List iZ):Bool:=decide (5000<=laN azs 0)
theorem aaL(hC:Has C pG oP)(azs:List iZ)(hl:azs.length<=100)(O:St):ai C pG [.xsl azs.length (azs.flatMap iZ.cs)] O=some (.bool (Ed azs),O):=by
 have hn:hand false [.xsl azs.length (azs.flatMap iZ.cs)] O=some ([.sl azs.length (azs.flatMap iZ.cs)],O):=by
  have ns:NVs (azs.flatMap iZ.cs):=fun v hv=>by
   obtain⟨a,_,ha⟩:=List.mem_flatMap.mp hv;simp only[iZ.cs,List.mem_cons,List.not_mem_nil,or_false]at ha;rcases ha with rfl|rfl
   ·exact .int _ _
   ·exact .sl _ (IJ _)
  show(match bM O 12 [.xsl azs.length (azs.flatMap iZ.cs)]with|some (l,fs)=>some (l,freeze O fs)|none=>none)=_
  have:aQ O (bM O 11) (.xsl azs.length (azs.flatMap iZ.cs))=some (.sl azs.length (azs.flatMap iZ.cs),[]):=by
   show(match aI O (bM O 11) (azs.flatMap iZ.cs)with|some (l,fs)=>some (AV.sl azs.length l,fs)|none=>none)=_
   rw[ns.nf]
  rw[show bM O 12 [.xsl azs.length (azs.flatMap iZ.cs)]=(match aQ O (bM O 11) (.xsl azs.length (azs.flatMap iZ.cs)),aI O (bM O 11) []with|some (v,fs),some (l,gs)=>some (v::l,fs++gs)|_,_=>none)from rfl,this]
  rfl
 rw[hC.go hn (by simp[oP])]
 have lp:=Ea (C:=C) azs hl O azs.length 0 0 (by omega) (by omega)
 simp only[Int.cast_ofNat_Int,List.drop_zero]at lp;have e:decide ((5000:Int)<=(laN azs 0:Int))=Ed azs:=by unfold Ed;rw[Bool.eq_iff_iff];simp;omega
 simp only[oP,lp,e,EVX,seval]
structure afc where
 name:LU
 version:Int
 length:Int
 hashes:List PS
def afc.cs(p:afc):LA:=[.str p.name,.int .i64 p.version,.int .i64 p.length,.sl p.hashes.length (p.hashes.flatMap pC)]
theorem ahL(p:afc):NV (.agg p.cs):=.agg (.cons (.str _) (.cons (.int _ _) (.cons (.int _ _) (.cons (xx _) .nil))))
theorem acH(l:List PS):NV (.sl l.length (l.flatMap pC)):=xx l
structure eF where
 id:LU
 sig:LU
 dig:LU
def eF.cs(k:eF):LA:=[.str k.id,.str k.sig,.str k.dig]
theorem eF.len(k:eF):k.cs.length=3:=rfl
theorem SB(l:List eF):NV (.sl l.length (l.flatMap eF.cs)):=.sl _ (qM (fun _=>rfl) l)
def YO(k:PS):Bool:=decide (300<k.1.length)||decide (300<k.2.length)
def Cc(l:List PS):Bool:=decide (40<l.length)||l.any YO
def YP(k:eF):Bool:=decide (300<k.id.length)||decide (300<k.sig.length)||decide (300<k.dig.length)
def xN(l:List eF):Bool:=decide (60<l.length)||l.any YP
theorem xR (l:List PS) (hl:l.length<=40) (O:St):∀(n i:Nat),i+n=l.length->
  aA C (ai C) 29 [0,3] bV [(0,.sl l.length (l.flatMap pC)),(3,.int .i64 i)] O=if(l.drop i).any YO then some (.ret,[(2,.bool true)],O)else some (.exit 0,[],O)
 |0,i,hi=>by
  rw[aG (he:=rfl)];have h:¬((i:Int)<(l.length:Int)):=by omega
  have h':l.drop i=[]:=List.drop_eq_nil_of_le (by omega)
  simp only[bV,h,h',List.any_nil,bH,EVX,seval]
 |n+1,i,hi=>by
  rw[aG (he:=rfl)];have h:((i:Int)<(l.length:Int)):=by omega
  have h2:i<l.length:=by omega
  have hb:l[i]?=some l[i]:=List.getElem?_eq_getElem h2;have h':l.drop i=l[i]::l.drop (i+1):=List.drop_eq_getElem_cons h2;have h3:(0:Int)<=i:=by omega
  have hw:IntKind.i64.wrap ((i:Int)+1)=((i+1:Nat):Int):=by rw[w64]<;>omega
  have fl:=dh Cm l;have fd:=mD Cm hb;obtain⟨p,hpe⟩:∃p,p=l[i]:=⟨_,rfl⟩;rw[<-hpe]at fd h';have pc:pC p=[.str p.1,.str p.2]:=rfl;have ih:=xR l hl O n (i+1) (by omega)
  rw[h',List.any_cons,YO];generalize hk:aA C (ai C) 29 [0,3] bV=k at*;by_cases c1:300<p.1.length
  ·have c1':(300:Int)<(p.1.length:Int):=by omega
   simp only[bV,h,h2,h3,c1,c1',fl,fd,pc,bH,Bool.true_or,EVX,seval]
  ·have c1':¬(300:Int)<(p.1.length:Int):=by omega
   by_cases c2:300<p.2.length
   ·have c2':(300:Int)<(p.2.length:Int):=by omega
    simp only[bV,h,h2,h3,c1,c1',c2,c2',fl,fd,pc,bH,Bool.true_or,Bool.or_true,EVX,seval]
   ·have c2':¬(300:Int)<(p.2.length:Int):=by omega
    simp only[bV,h,h2,h3,hw,c1,c1',c2,c2',ih,fl,fd,pc,bH,EVX,seval]
theorem QG(hC:Has C pI iI)(l:List PS)(O:St):ai C pI [.sl l.length (l.flatMap pC)] O=some (.bool (Cc l),O):=by
 rw[hC.go (NVs.hand (.cons (acH l) .nil) _) (by simp[iI])]
 have fl:=dh Cm l;unfold Cc;by_cases c:40<l.length
 ·have c':(40:Int)<(l.length:Int):=by omega
  simp only[iI,c,c',bH,Bool.true_or,EVX,seval]
 ·have c':¬(40:Int)<(l.length:Int):=by omega
  have lp:=xR (C:=C) l (by omega) O l.length 0 (by omega)
  simp only[Int.cast_ofNat_Int,List.drop_zero]at lp;cases ha:l.any YO<;>rw[ha]at lp<;>simp only[iI,c,c',lp,bH,EVX,seval]
theorem ul (l:List eF) (hl:l.length<=60) (O:St):∀(n i:Nat),i+n=l.length->
  aA C (ai C) 38 [0,3] aX [(0,.sl l.length (l.flatMap eF.cs)),(3,.int .i64 i)] O=if(l.drop i).any YP then some (.ret,[(2,.bool true)],O)else some (.exit 0,[],O)
 |0,i,hi=>by
  rw[aG (he:=rfl)];have h:¬((i:Int)<(l.length:Int)):=by omega
  have h':l.drop i=[]:=List.drop_eq_nil_of_le (by omega)
  simp only[aX,h,h',List.any_nil,bH,EVX,seval]
 |n+1,i,hi=>by
  rw[aG (he:=rfl)];have h:((i:Int)<(l.length:Int)):=by omega
  have h2:i<l.length:=by omega
  have hb:l[i]?=some l[i]:=List.getElem?_eq_getElem h2;have h':l.drop i=l[i]::l.drop (i+1):=List.drop_eq_getElem_cons h2;have h3:(0:Int)<=i:=by omega
  have hw:IntKind.i64.wrap ((i:Int)+1)=((i+1:Nat):Int):=by rw[w64]<;>omega
  have fl:=dh eF.len l;have fd:=mD eF.len hb;obtain⟨p,hpe⟩:∃p,p=l[i]:=⟨_,rfl⟩;rw[<-hpe]at fd h';have pc:p.cs=[.str p.id,.str p.sig,.str p.dig]:=rfl;have ih:=ul l hl O n (i+1) (by omega)
  rw[h',List.any_cons,YP];generalize hk:aA C (ai C) 38 [0,3] aX=k at*;by_cases c1:300<p.id.length
  ·have c1':(300:Int)<(p.id.length:Int):=by omega
   simp only[aX,h,h2,h3,c1,c1',fl,fd,pc,bH,Bool.true_or,EVX,seval]
  ·have c1':¬(300:Int)<(p.id.length:Int):=by omega
   by_cases c2:300<p.sig.length
   ·have c2':(300:Int)<(p.sig.length:Int):=by omega
    simp only[aX,h,h2,h3,c1,c1',c2,c2',fl,fd,pc,bH,Bool.true_or,Bool.or_true,EVX,seval]
   ·have c2':¬(300:Int)<(p.sig.length:Int):=by omega
    by_cases c3:300<p.dig.length
    ·have c3':(300:Int)<(p.dig.length:Int):=by omega
     simp only[aX,h,h2,h3,c1,c1',c2,c2',c3,c3',fl,fd,pc,bH,Bool.true_or,Bool.or_true,EVX,seval]
    ·have c3':¬(300:Int)<(p.dig.length:Int):=by omega
     simp only[aX,h,h2,h3,hw,c1,c1',c2,c2',c3,c3',ih,fl,fd,pc,bH,EVX,seval]
theorem Ij(hC:Has C iO dw)(l:List eF)(O:St):ai C iO [.sl l.length (l.flatMap eF.cs)] O=some (.bool (xN l),O):=by
 rw[hC.go (NVs.hand (.cons (SB l) .nil) _) (by simp[dw])]
 have fl:=dh eF.len l;unfold xN;by_cases c:60<l.length
 ·have c':(60:Int)<(l.length:Int):=by omega
  simp only[dw,c,c',bH,Bool.true_or,EVX,seval]
 ·have c':¬(60:Int)<(l.length:Int):=by omega
  have lp:=ul (C:=C) l (by omega) O l.length 0 (by omega)
  simp only[Int.cast_ofNat_Int,List.drop_zero]at lp;cases ha:l.any YP<;>rw[ha]at lp<;>simp only[dw,c,c',lp,bH,EVX,seval]
def byA(h:Bool)(l:List eF):LA:=[.bool h,.sl l.length (l.flatMap eF.cs)]
theorem PI(h:Bool)(l:List eF):NV (.agg (byA h l)):=.agg (.cons (.bool _) (.cons (SB l) .nil))
theorem aaM (hC:Has C sU oU) (hv:Has C iO dw) (h:Bool) (l:List eF) (data:LU) (O:St) (hσ:Ok O):
  ai C sU [.agg (byA h l),.str data] O=some (.bool (xN l||decide (12000<data.length)),O):=by
 rw[hC.go (NVs.hand (.cons (PI h l) (.cons (.str _) .nil)) _) (by simp[oU])]
 have ty:=fun b=>dX hσ (vs:=[.bool b]) rfl;have e:decide ((12000:Int)<(data.length:Int))=decide (12000<data.length):=by rw[Bool.eq_iff_iff];simp;omega
 unfold byA;cases hl:xN l<;>simp only[oU,Bool.true_or,Ij hv,hl,e,ty,AV.cells,EVX,seval]
def lhN:List PS->Nat->Nat
 |[],n=>n
 |h::l,n=>if n<5000 then lhN l (n+10+min 5000 h.1.length+min 5000 h.2.length)else n
theorem vH (l:List PS) (O:St):∀(n i acc:Nat),i+n=l.length->acc<=15010->(acc<5000->10*i<=acc)->
  aA C (ai C) 35 [0,3,4] bW [(0,.sl l.length (l.flatMap pC)),(3,.int .i64 acc),(4,.int .i64 i)] O=some (.exit 0,[(3,.int .i64 (lhN (l.drop i) acc:Nat))],O)
 |0,i,acc,hi,ha,hb=>by
  rw[aG (he:=rfl)];have h:¬((i:Int)<(l.length:Int)):=by omega
  have h':l.drop i=[]:=List.drop_eq_nil_of_le (by omega)
  simp only[bW,h,h',lhN,bH,EVX,seval]
 |n+1,i,acc,hi,ha,hbb=>by
  rw[aG (he:=rfl)];have h:((i:Int)<(l.length:Int)):=by omega
  have h2:i<l.length:=by omega
  have hb:l[i]?=some l[i]:=List.getElem?_eq_getElem h2;have h':l.drop i=l[i]::l.drop (i+1):=List.drop_eq_getElem_cons h2;have h3:(0:Int)<=i:=by omega
  have fl:=dh Cm l;have fd:=mD Cm hb;obtain⟨p,hpe⟩:∃p,p=l[i]:=⟨_,rfl⟩;rw[<-hpe]at fd h';have pc:pC p=[.str p.1,.str p.2]:=rfl;rw[h',lhN];by_cases hc:acc<5000
  ·have hc':((acc:Int)<5000):=by omega
   have hw:IntKind.i64.wrap ((i:Int)+1)=((i+1:Nat):Int):=by rw[w64]<;>omega
   have w1:IntKind.i64.wrap ((acc:Int)+10)=((acc+10:Nat):Int):=by rw[w64]<;>omega
   have w2:IntKind.i64.wrap (((acc+10:Nat):Int)+((min 5000 p.1.length:Nat):Int))=((acc+10+min 5000 p.1.length:Nat):Int):=by rw[w64]<;>omega
   have w3:IntKind.i64.wrap (((acc+10+min 5000 p.1.length:Nat):Int)+((min 5000 p.2.length:Nat):Int))=((acc+10+min 5000 p.1.length+min 5000 p.2.length:Nat):Int):=by rw[w64]<;>omega
   have ih:=vH l O n (i+1) (acc+10+min 5000 p.1.length+min 5000 p.2.length) (by omega) (by omega) (by omega)
   rw[if_pos hc,<-ih];generalize hk:aA C (ai C) 35 [0,3,4] bW=k at*;simp only[bW,h,h2,h3,hc',hw,w1,w2,w3,YW,fl,fd,pc,bH,List.cons_append,EVX,seval]
  ·have hc':¬((acc:Int)<5000):=by omega
   rw[if_neg hc];simp only[bW,h,hc',bH,EVX,seval]
def YN(l:List PS):Bool:=decide (5000<=lhN l 0)
theorem LP(hC:Has C mW jy)(l:List PS)(O:St):ai C mW [.sl l.length (l.flatMap pC)] O=some (.bool (YN l),O):=by
 rw[hC.go (NVs.hand (.cons (xx l) .nil) _) (by simp[jy])]
 have lp:=vH (C:=C) l O l.length 0 0 (by omega) (by omega) (by omega)
 simp only[Int.cast_ofNat_Int,List.drop_zero]at lp;have e:decide ((5000:Int)<=(lhN l 0:Int))=YN l:=by unfold YN;rw[Bool.eq_iff_iff];simp;omega
 simp only[jy,lp,e,EVX,seval]
structure Tz(C:Ctx):Prop where
 hashes:Has C mW jy
 auth:Has C pG oP
 keys:Has C pI iI
 by_:Has C qL lM
def Ws(p:afc)(a:iZ)(ks:List PS):Bool:=decide (1000<p.name.length)||(YN p.hashes||(Ed [a]||Cc ks))
theorem Wi (h:Tz C) (p:afc) (a:iZ) (ks:List PS) (O:St) (hσ:Ok O):
  ai C qL [.agg p.cs,.agg a.cs,.sl ks.length (ks.flatMap pC)] O=some (.bool (Ws p a ks),O):=by
 rw[h.by_.go (NVs.hand (.cons (ahL p) (.cons (aiR a) (.cons (acH ks) .nil))) _) (by simp[lM])]
 have ty:=fun b=>dX hσ (vs:=[.bool b]) rfl;have pc:p.cs=[.str p.name,.int .i64 p.version,.int .i64 p.length,.sl p.hashes.length (p.hashes.flatMap pC)]:=rfl;have ac:a.cs=[.int .i64 a.th,.sl a.ids.length (a.ids.flatMap sC)]:=rfl;have q1:=fun Y=>LP h.hashes p.hashes Y;have q2:∀Y,ai C pG [.xsl 1 a.cs] Y=some (.bool (Ed [a]),Y):=fun Y=>by
  have:=aaL h.auth [a] (by simp) Y
  simpa using this
 have q3:=fun Y=>QG h.keys ks Y;rw[ac]at q2;unfold Ws;by_cases c:1000<p.name.length
 ·have c':(1000:Int)<(p.name.length:Int):=by omega
  simp only[lM,pc,ac,c,c',ty,Bool.true_or,AV.cells,EVX,seval]
 ·have c':¬(1000:Int)<(p.name.length:Int):=by omega
  cases c1:YN p.hashes<;>cases c2:Ed [a]<;>simp only[lM,pc,ac,c,c',c1,c2,q1,q2,q3,ty,Bool.true_or,Bool.false_or,AV.cells,EVX,seval]
theorem Ok.more{Y:St}(h:Ok Y){L:St}(hl:L.all (AO.below 0)=true):Ok (Y++L):=h.app (by
 rw[List.all_eq_true]at*;exact fun x hx=>AO.below_mono (Nat.zero_le _) x (hl x hx))
structure Pe(C:Ctx):Prop where
 hmac:Has C Jy Bi
 table:Has C Gz Af
 clone:aff C aZ 3
 both:Has C yQ oQ
 ver:Has C uN oV
def KZ(l:List eF):AV:=.sl l.length (l.flatMap eF.cs)
theorem adu(l:List eF):NV (KZ l):=SB l
theorem IQ(l:List eF):below 0 (KZ l)=true:=(adu l).cl
def ags:AO:=.cells [.iface 117 (.agg [])] ⟨false,none⟩
def Xn(l:List eF):AO:=.cells [.iface 221 (.agg [KZ l])] ⟨false,none⟩
theorem ajC(H:Pe C)(O:St):ai C Jy [] O=some (.ref O.length 0,O++[ags]):=by
 have hn:hand false [] O=some ([],O):=rfl;have tk:∀Y,tidy O.length [.ref O.length 0] Y=Y:=fun Y=>wo (by simp[ae,below]) Y
 rw[H.hmac.go hn (by simp[Bi])]
 simp only[Bi,ags,tk,EVX,seval]
theorem ait(H:Pe C)(l:List eF)(hl:l.length<=60)(O:St):ai C Gz [KZ l] O=some (.ref O.length 0,O++[Xn l]):=by
 have tk:∀Y,tidy O.length [.ref O.length 0] Y=Y:=fun Y=>wo (by simp[ae,below]) Y
 have hs:(l.flatMap eF.cs).all Ti=true:=by
  rw[List.all_eq_true];intro x hx;obtain⟨v,_,hv⟩:=List.mem_flatMap.mp hx;simp only[eF.cs,List.mem_cons,List.not_mem_nil,or_false]at hv;rcases hv with rfl|rfl|rfl<;>rfl
 have hc:=fun Y=>H.clone l.length (l.flatMap eF.cs) Y (by rw[dh eF.len]) (by omega) hs
 rw[H.table.go (NVs.hand (.cons (adu l) .nil) _) (by simp[Af])]
 simp only[Af,KZ,Xn,hc,tk,EVX,seval]
def Ol(h:Bool)(l:List eF):AO:=match h with
 |true=>ags
 |false=>Xn l
def Zn(h:Bool)(l:List eF):AO:=.cells [.bool h,match h with
 |true=>.nils
 |false=>KZ l] ⟨false,none⟩
theorem aj1 (H:Pe C) (h:Bool) (l:List eF) (hl:l.length<=60) (O:St) (hσ:Ok O):
  ai C yQ [.agg (byA h l)] O=some (.tup [.ref (O.length+1) 0,.ref (O.length+2) 0],O++[.cells (byA h l) ⟨false,none⟩,Ol h l,Zn h l]):=by
 have tk:∀Y,tidy O.length [.ref (O.length+1) 0,.ref (O.length+2) 0] Y=Y:=fun Y=>wo (by simp[ae,below]) Y
 have b2:(byA h l).length=2:=rfl;have bl:byA h l=[.bool h,KZ l]:=rfl;have q1:=ajC H (O++[.cells (byA h l) ⟨false,none⟩]);have q2:=ait H l hl (O++[.cells (byA h l) ⟨false,none⟩]);have sl:same (KZ l) (KZ l)=true:=by
  refine Xa _ _ fun v hv=>?_;obtain⟨x,_,hx⟩:=List.mem_flatMap.mp hv;simp only[eF.cs,List.mem_cons,List.not_mem_nil,or_false]at hx;rcases hx with rfl|rfl|rfl<;>exact zn _
 have fl:AV.flat (KZ l)=true:=rfl;have cl:AV.cells (KZ l)=[KZ l]:=rfl;have ca:∀l,AV.cells (.agg l)=l:=fun _=>rfl;have cs:∀x:AV,splice [.bool false,.nils] 1 [x]=[.bool false,x]:=fun _=>rfl;rw[H.both.go (NVs.hand (.cons (PI h l) .nil) _) (by simp[oQ])]
 cases h
 ·simp only[oQ,bl,AV.cells,EVX,seval];simp only[bl]at q2;simp only[q2,Ol,Zn,sl,fl,cl,cs,ca,tk,EVX,seval]
 ·simp only[oQ,bl,AV.cells,EVX,seval];simp only[bl]at q1;simp only[q1,Ol,Zn,tk,AV.cells,EVX,seval]
theorem ani (H:Pe C) (h:Bool) (l:List eF) (hl:l.length<=60) (O:St) (hσ:Ok O):
  ai C uN [.agg (byA h l)] O=some (.ref (O.length+2) 0,O++[.cells (byA h l) ⟨false,none⟩,.cells (byA h l) ⟨false,none⟩,Ol h l,Zn h l]):=by
 have tk:∀Y,tidy O.length [.ref (O.length+2) 0] Y=Y:=fun Y=>wo (by simp[ae,below]) Y
 have b2:(byA h l).length=2:=rfl;have bt:(byA h l).take 2=byA h l:=rfl;have ca:∀l,AV.cells (.agg l)=l:=fun _=>rfl;have nb:(AO.cells (byA h l) ⟨false,none⟩).below 0=true:=by
  have:=(PI h l).cl;rw[below]at this;exact this
 have q1:=aj1 H h l hl (O++[.cells (byA h l) ⟨false,none⟩]) (hσ.more (by simp only[List.all_cons,List.all_nil,nb,Bool.and_true]))
 rw[H.ver.go (NVs.hand (.cons (PI h l) .nil) _) (by simp[oV])]
 simp only[oV,ca,b2,bt,q1,tk,EVX,seval]
open Go.RowKit Classical
def Gh.one(g:Gh)(o:Nat):Gh:={g with n:=1,ob:=fun _=>g.ob o,bs:=fun _=>g.bs o}
theorem VN(g:Gh)(o:Nat):(g.cut 0).le (g.one o):=⟨rfl,Nat.zero_le _,fun _ h=>(Nat.not_lt_zero _ h).elim,fun _ h=>(Nat.not_lt_zero _ h).elim,fun _ _ _ h=>h⟩
theorem ahH{g g':Gh}{w:World}{o o':Nat}{l:LA}{fz:Fz}(h:OR g w o (.cells l fz))(hb:ae 0 l=true)(hle:(g.cut 0).le g')(h1:g'.ob o'=g.ob o)(h2:g'.bs o'=g.bs o)(h3:∀i v,g'.im (g.ob o) i=some v->g.im (g.ob o) i=some v):OR g' w o' (.cells l fz):=by
 obtain⟨c,e,fr,a1,a2,a3,a4,a5,a6⟩:=h;refine⟨c,e,fr,by rw[h1];exact a1,by rw[h2];exact a2,a3,fun i x hx=>?_,a5,fun i v hv=>a6 i v (h3 i v (by rw[<-h1];exact hv))⟩
 obtain⟨v,b1,b2⟩:=a4 i x hx;exact⟨v,b1,(b2.cut (yM hb hx)).mono hle⟩
theorem ank{g:Gh}{w:World}{O:St}{o:Nat}{l:LA}{fz:Fz}(hw:WR g w O)(ho:O[o]?=some (.cells l fz))(hb:ae 0 l=true):WR (g.one o) w [.cells l fz]:=
 ⟨rfl,hw.im,hw.uf,fun k x hk=>by
  cases k with
  |zero=>cases hk;exact ahH (hw.obj o _ ho) hb (VN g o) rfl rfl fun _ _ h=>h
  |succ k=>simp at hk,fun k k' x x' hk hk' _ _ _=>by
  cases k with
  |zero=>cases k' with
   |zero=>rfl
   |succ k'=>simp at hk'
  |succ k=>simp at hk⟩
theorem ae3{g:Gh}{w w':World}{O:St}{o:Nat}{l:LA}{fz:Fz}(hw:WR g w O)(ho:O[o]?=some (.cells l fz))(hb:ae 0 l=true){g':Gh}(hgo:Goes (g.one o) [.cells l fz] w g' [.cells l fz] w'):Goes g O w {g with im:=g'.im} O w'/\(g'.cut 0).le {g with im:=g'.im}:=by
 have hp:g'.pl=g.pl:=hgo.le.pl;have hob:g'.ob 0=g.ob o:=hgo.le.ob 0 (Nat.zero_lt_one);have hbs:g'.bs 0=g.bs o:=hgo.le.bs 0 (Nat.zero_lt_one);have hle:(g'.cut 0).le {g with im:=g'.im}:=⟨hp.symm,Nat.zero_le _,fun o ho=>(Nat.not_lt_zero _ ho).elim,fun o ho=>(Nat.not_lt_zero _ ho).elim,fun _ _ _ h=>h⟩;have hle':g.le {g with im:=g'.im}:=⟨rfl,Nat.le_refl _,fun _ _=>rfl,fun _ _=>rfl,fun b i v h=>hgo.le.im b i v h⟩;have hun:∀b,b≠g.ob o->SQ (g.one o) [.cells l fz] b:=fun b hne k x h hl e=>by
  cases k with
  |zero=>exact hne e.symm
  |succ k=>simp at h
 refine⟨⟨hle',⟨hw.n,hgo.wr.im,fun b i v hv=>(hgo.wr.uf b i v hv).imp (fun e=>⟨(congrFun hp b).symm.trans e.1,e.2⟩) id,fun k x hx=>?_,hw.inj⟩,hgo.os,hgo.tape,hgo.output,hgo.size,fun b hlt hu=>?_⟩,hle⟩
 ·by_cases hko:k=o
  ·subst hko;rw[ho]at hx;cases hx;exact ahH (g:=g') (o:=0) (hgo.wr.obj 0 _ rfl) hb hle hob.symm hbs.symm fun _ _ h=>h
  have hk:=hw.obj k x hx;cases x with
  |dead=>trivial
  |cells l2 fz2=>
   obtain⟨c,e,fr,h1,h2,h3,h4,h5,h6⟩:=hk;have hlt:g.ob k<w.heap.size:=(Array.getElem?_eq_some_iff.mp h1).1;have hne:g.ob k≠g.ob o:=fun e=>hko (hw.inj k o _ _ hx ho rfl rfl e);obtain⟨_,f2,f3⟩:=hgo.fr (g.ob k) hlt (hun _ hne);refine⟨c,e,fr,f2.trans h1,h2,h3,fun i y hy=>?_,h5,fun i v hv=>h6 i v ((f3 i).symm.trans hv)⟩;obtain⟨v,hv,hr⟩:=h4 i y hy;exact⟨v,hv,hr.mono hle'⟩
  |map es=>
   obtain⟨ents,clock,h1,h2⟩:=hk;have hlt:g.ob k<w.heap.size:=(Array.getElem?_eq_some_iff.mp h1).1;have hne:g.ob k≠g.ob o:=fun e=>hko (hw.inj k o _ _ hx ho rfl rfl e);obtain⟨_,f2,f3⟩:=hgo.fr (g.ob k) hlt (hun _ hne);exact⟨ents,clock,f2.trans h1,h2.size,h2.clk,fun i k v hkv=>by
    obtain⟨e,he,hk,hv,hborn⟩:=h2.at_ i k v hkv;exact⟨e,he,hk.mono hle',hv.mono hle',hborn⟩⟩
 ·obtain⟨_,f2,f3⟩:=hgo.fr b hlt (hun b fun e=>hu o _ ho rfl e.symm);exact⟨hu,f2,f3⟩
structure O9(D C:Ctx):Prop where
 P:D.P=C.P
 gl:D.gl=C.gl
 np:D.np=C.np
 cl:∀n l,C.gl n=some l->ae 0 l=true
theorem O9.GL{D C:Ctx}(h:O9 D C){g:Gh}(hg:GL C g):GL D g:=⟨fun n l hl=>hg.1 n l (by rw[<-h.gl];exact hl),by rw[h.np];exact hg.2⟩
theorem GL.cut{C:Ctx}{g g':Gh}(hg:GL C g)(hc:∀n l,C.gl n=some l->ae 0 l=true)(hle:(g.cut 0).le g'):GL C g':=⟨fun n l hl=>⟨((hg.1 n l hl).1.cut (hc n l hl)).mono hle,(congrFun hle.pl n).trans (hg.1 n l hl).2⟩,hg.2.imp id fun e b=>(congrFun hle.pl b).trans (e b)⟩
noncomputable def pFn(D:Ctx)(f:FuncId)(args:LA)(O:St):Option (AV×St):=
 match hand false args O with
 |none=>none
 |some (azs,O1)=>if ae 0 azs=true then match ai D f azs []with
  |some (v,[])=>some (v,O1)
  |_=>none else none
theorem O9.does{D C:Ctx}(h:O9 D C){f:FuncId}{args:List Value}{w:World}{R:Value->World->Prop}(hd:Does D.P f args w R):Does C.P f args w R:=by rw[<-h.P];exact hd
theorem QZ{D C:Ctx}(hs:O9 D C)(hc:fK D (ai D))(f:FuncId):POK C f (pFn D f):=by
 intro args O v O' h g w args' ha hw hg;unfold pFn at h;split at h
 ·cases h
 ·rename_i azs O1 hh;split at h
  ·rename_i hb;split at h
   ·rename_i v2 h2;cases h;obtain⟨g1,hgo1,hv1⟩:=tH hw false hh ha;have hw1:=hgo1.wr;have hw0:WR (g1.cut 0) w []:=⟨rfl,hw1.im,hw1.uf,fun o x hx=>by simp at hx,fun o o' x x' hx=>by simp at hx⟩
    have hg1:=GL.cut (hs.GL (hg.mono hgo1.le)) (fun n l hl=>hs.cl n l (by rw[<-hs.gl];exact hl)) (g':=g1.cut 0) ⟨rfl,Nat.le_refl _,fun _ _=>rfl,fun _ _=>rfl,fun _ _ _ h=>h⟩
    refine hs.does ((hc f azs [] _ [] h2 (g1.cut 0) w args' (hv1.cut hb) hw0 hg1).mono fun v' w' ⟨g',hgo',hr'⟩=>?_);obtain⟨hf,hle⟩:=BX hw1 hgo';exact⟨_,hgo1.trans hf,hr'.mono hle⟩
   ·cases h
  ·cases h
noncomputable def pRo(D:Ctx)(f:FuncId)(args:LA)(O:St):Option (AV×St):=
 match hand false args O with
 |some (.ref o 0::azs,O1)=>match O1[o]? with
  |some (.cells l fz)=>if ae 0 azs=true/\ae 0 l=true then match ai D f (.ref 0 0::azs) [.cells l fz]with
   |some (v,Y)=>if below 0 v=true/\Y=[.cells l fz]then some (v,O1)else none
   |none=>none else none
  |_=>none
 |_=>none
theorem amN{D C:Ctx}(hs:O9 D C)(hc:fK D (ai D))(f:FuncId):POK C f (pRo D f):=by
 intro args O v O' h g w args' ha hw hg;unfold pRo at h;split at h
 ·rename_i o azs O1 hh;split at h
  ·rename_i l fz ho;split at h
   ·rename_i hb;split at h
    ·rename_i v2 Y h2;split at h
     ·rename_i hτ;obtain⟨hv0,rfl⟩:=hτ;cases h;obtain⟨g1,hgo1,hv1⟩:=tH hw false hh ha;have hw1:=hgo1.wr;have hg1:=GL.cut (hs.GL (hg.mono hgo1.le)) (fun n l hl=>hs.cl n l (by rw[<-hs.gl];exact hl)) (VN g1 o)
      have hargs:VRs (g1.one o) (.ref 0 0::azs) args':=by
       cases hv1 with
       |cons _ v1 _ l1 x y=>
        cases x with
        |ref o off hlt=>exact .cons _ _ _ _ (.ref (g:=g1.one o) 0 0 Nat.zero_lt_one) ((y.cut hb.1).mono (VN g1 o))
      refine hs.does ((hc f _ _ _ _ h2 (g1.one o) w args' hargs (ank hw1 ho hb.2) hg1).mono fun v' w' ⟨g',hgo',hr'⟩=>?_);obtain⟨hf,hle⟩:=ae3 hw1 ho hb.2 hgo';exact⟨_,hgo1.trans hf,(hr'.cut hv0).mono hle⟩
     ·cases h
    ·cases h
   ·cases h
  ·cases h
 ·cases h
variable{D:Ctx}{PK:PkI}
theorem aaZ:Ok ([]:St):=rfl
theorem aoP{f:FuncId}{args:List Sh}{res:Sh}(h:fC D PK f (.pure args res))(hc:cls args=true){azs:LA}(hm:Mt V0 args azs):∃v,M V0 res v/\∀O,pFn D f azs O=some (v,O):=by
 have hn:=Mt.nvs hm hc;obtain⟨v,e,hv⟩:=h [] azs azs [] aaZ (hn.hand _) aaZ hm;refine⟨v,hv,fun O=>?_⟩;unfold pFn;rw[hn.hand];dsimp only;rw[if_pos hn.cl,e]
end Go.Ev
namespace Go.Ev
set_option maxRecDepth 100000
variable{C:Ctx}
structure T3 where
 c:Int
 f:FuncId
 x:LA
 y:LA
def T3.cs(t:T3):LA:=[.int .u8 t.c,.func (.func t.f) t.x t.y]
theorem T3.len(t:T3):t.cs.length=2:=rfl
inductive zt(C:Ctx)(n:Nat):List T3->St->Int->St->Prop
 |nil (S:St):zt C n [] S 0 S
 |yes (t:T3) (l:List T3) (S S':St):ae n t.x=true->ae n t.y=true->S.length=n->S'.length=n->Ok S'->(∀G,Ok (S++G)->ai C t.f (t.x++t.y) (S++G)=some (.bool true,S'++G))->zt C n (t::l) S t.c S'
 |no (t:T3) (l:List T3) (S S' S'':St) (r:Int):ae n t.x=true->ae n t.y=true->S.length=n->S'.length=n->Ok S'->(∀G,Ok (S++G)->ai C t.f (t.x++t.y) (S++G)=some (.bool false,S'++G))->zt C n l S' r S''->zt C n (t::l) S r S''
def T3.ao(t:T3):AO:=.cells [.int .u8 t.c,.func (.func t.f) t.x t.y] ⟨false,none⟩
theorem Vz{n k:Nat}(h:n<=k){x:AO}(hx:x.below n=true):x.below k=true:=by
 cases x with
 |dead=>rfl
 |cells l fz=>exact aP h l hx
 |map es=>
  simp only[AO.below,Bool.and_eq_true]at hx⊢;exact⟨aP h _ hx.1,aP h _ hx.2⟩
theorem acU{S:St}{x:AO}(hS:Ok S)(hx:x.below (S.length+1)=true):Ok (S++[x]):=ado hS (by simp[hx])
theorem Qh (n:Nat) (ts:List T3):∀(l:List T3) (i:Nat) (S S':St) (r:Int) (G:St),zt C n l S r S'->ts.drop i=l->i<=ts.length->S.length=n->ts.length<=1000->Ok (S++G)->(∀x∈G,AO.below (n+G.length) x=true)->
  ∃G',aA C (ai C) 17 [5,6,7] dO [(5,.sl ts.length (ts.flatMap T3.cs)),(6,.int .i64 ts.length),(7,.int .i64 i)] (S++G)=some (.ret,[(2,.int .u8 r)],S'++G')\/(r=0/\aA C (ai C) 17 [5,6,7] dO [(5,.sl ts.length (ts.flatMap T3.cs)),(6,.int .i64 ts.length),(7,.int .i64 i)] (S++G)=some (.exit 0,[],S'++G'))
 |[],i,S,S',r,G,R,hd,hi,hS,hn,hok,hG=>by
  cases R;have:i=ts.length:=by
   have:=congrArg List.length hd;simp at this;omega
  subst this;refine⟨G,.inr ⟨rfl,?_⟩⟩;rw[aG (he:=rfl)];have h:¬((ts.length:Int)<(ts.length:Int)):=by omega
  simp only[dO,h,EVX,seval]
 |t::l,i,S,S',r,G,R,hd,hi,hS,hn,hok,hG=>by
  have hlt:i<ts.length:=by
   by_cases h:i<ts.length
   ·exact h
   ·rw[List.drop_eq_nil_of_le (by omega)]at hd
    cases hd
  have hget:ts[i]?=some t:=by
   rw[List.drop_eq_getElem_cons hlt]at hd;rw[List.getElem?_eq_getElem hlt];exact congrArg some (List.cons.inj hd).1
  have hd2:ts.drop (i+1)=l:=by
   rw[List.drop_eq_getElem_cons hlt]at hd;exact(List.cons.inj hd).2
  have h:((i:Int)<(ts.length:Int)):=by omega
  have h0:(0:Int)<=(i:Int):=by omega
  have w1:IntKind.i64.wrap ((i:Int)+1)=((i+1:Nat):Int):=by rw[w64]<;>omega
  have fl:=dh T3.len ts;have fa:=mD T3.len hget;have tc:t.cs=[.int .u8 t.c,.func (.func t.f) t.x t.y]:=rfl;rw[tc]at fa;simp only[List.cons_append,List.nil_append]at fa;generalize(ts.drop (i+1)).flatMap T3.cs=R' at fa;generalize hF:ts.flatMap T3.cs=F at fl fa⊢;cases R with
  |yes _ _ _ _ hx hy a b c e=>
   have e':=fun X=>e (G++X);simp only[<-List.append_assoc]at e';refine⟨G++[t.ao],.inl ?_⟩;have ok2:Ok ((S++G)++[t.ao]):=acU hok (by
    have hl:n<=(S++G).length+1:=by rw[List.length_append];omega
    simp only[T3.ao,AO.below,ae,below,aP hl _ hx,aP hl _ hy,Bool.and_self])
   have e2:=e' [t.ao] ok2;unfold T3.ao at e2⊢;rw[aG (he:=rfl)];generalize hk:aA C (ai C) 17 [5,6,7] dO=k at*;rw[<-List.append_assoc];have hT:(S'++G).length=(S++G).length:=by rw[List.length_append,List.length_append,a,b]
   generalize S++G=T at*;generalize S'++G=T' at*;have g2:∀X:AO,(T'++[X])[T.length]?=some X:=fun X=>by rw[<-hT];exact dU _ _
   simp only[g2,dO,h,h0,hlt,fl,fa,e2,uJ,EVX,seval]
  |no _ _ _ S1 _ _ hx hy a b c e R1=>
   have e':=fun X=>e (G++X);simp only[<-List.append_assoc]at e';have ok2:Ok ((S++G)++[t.ao]):=acU hok (by
    have hl:n<=(S++G).length+1:=by rw[List.length_append];omega
    simp only[T3.ao,AO.below,ae,below,aP hl _ hx,aP hl _ hy,Bool.and_self])
   have e2:=e' [t.ao] ok2;have hG2:∀z∈G++[t.ao],AO.below (n+(G++[t.ao]).length) z=true:=fun z hz=>by
    rw[List.length_append];rcases List.mem_append.mp hz with hz|hz
    ·exact Vz (by simp) (hG z hz)
    ·simp only[List.mem_singleton]at hz;subst hz;have hl:n<=n+(G.length+1):=by omega
     simp only[T3.ao,AO.below,ae,below,List.length_singleton,aP hl _ hx,aP hl _ hy,Bool.and_self]
   have ok3:Ok (S1++(G++[t.ao])):=ado c (by
    rw[b,List.all_eq_true];exact hG2)
   obtain⟨G',ih⟩:=Qh n ts l (i+1) S1 S' r (G++[t.ao]) R1 hd2 (by omega) b hn ok3 hG2
   refine⟨G',?_⟩;have tail:aA C (ai C) 17 [5,6,7] dO [(5,.sl ts.length F),(6,.int .i64 ts.length),(7,.int .i64 i)] (S++G)=aA C (ai C) 17 [5,6,7] dO [(5,.sl ts.length F),(6,.int .i64 ts.length),(7,.int .i64 (i+1:Nat))] (S1++(G++[t.ao])):=by
    rw[aG (he:=rfl)];unfold T3.ao at e2⊢;generalize hk:aA C (ai C) 17 [5,6,7] dO=k at*;rw[<-List.append_assoc];generalize S++G=T at*;generalize S1++G=T' at*;simp only[dO,h,h0,hlt,fl,fa,e2,w1,uJ,EVX,seval]
   rw[tail];rw[hF]at ih;exact ih
theorem zt.end_{n:Nat}{l:List T3}{S S':St}{r:Int}(R:zt C n l S r S')(h:S.length=n)(hok:Ok S):S'.length=n/\Ok S':=by
 induction R with
 |nil S=>exact⟨h,hok⟩
 |yes t l S S' _ _ _ b c _=>exact⟨b,c⟩
 |no t l S S1 S' r _ _ _ b c _ _ ih=>exact ih b c
def T3.nv(t:T3):Prop:=(∀Y r,aI Y r t.x=some (t.x,[]))/\∀Y r,aI Y r t.y=some (t.y,[])
theorem ZL:∀(l:List T3),(∀t∈l,t.nv)->∀Y r,aI Y r (l.flatMap T3.cs)=some (l.flatMap T3.cs,[])
 |[],_,Y,r=>rfl
 |t::l,h,Y,r=>by
  have ih:=ZL l (fun t ht=>h t (by simp[ht])) Y r
  obtain⟨h1,h2⟩:=h t (by simp)
  rw[List.flatMap_cons,show t.cs=[.int .u8 t.c,.func (.func t.f) t.x t.y]from rfl,List.cons_append,List.cons_append,List.nil_append,bg,bg,aaX,ajW,h1,h2,ih];rfl
theorem PQ(hC:Has C Ak rM){ts:List T3}{S S':St}{r:Int}(R:zt C S.length ts S r S')(hok:Ok S)(hn:ts.length<=1000)(hnv:∀t∈ts,t.nv):ai C Ak [.xsl ts.length (ts.flatMap T3.cs)] S=some (.int .u8 r,S'):=by
 obtain⟨hl,hok'⟩:=R.end_ rfl hok;have hn0:hand false [.xsl ts.length (ts.flatMap T3.cs)] S=some ([.sl ts.length (ts.flatMap T3.cs)],S):=by
  simp only[yx,bg,Ci,amz,ZL ts hnv,freeze,List.append_nil]
 rw[hC.go hn0 (by simp[rM])]
 obtain⟨G',h⟩:=Qh S.length ts ts 0 S S' r [] R rfl (Nat.zero_le _) rfl hn (by rw[List.append_nil];exact hok) (fun x hx=>by cases hx)
 rw[List.append_nil,show((0:Nat):Int)=0 from rfl]at h;have ty:=fun v=>dX hok' (vs:=[.int .u8 v]) rfl;rw[hl]at ty;rcases h with h|⟨h0,h⟩
 ·simp only[rM,h,ty,EVX,seval]
 ·subst h0;simp only[rM,h,ty,EVX,seval]
end Go.Ev
