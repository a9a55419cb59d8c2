/- Code. No conditions. -/
import Derived.Test.YtpikfmmkcckclaaGreatDoorCE
import Derived.Test.YtpikfmmkcckclaaGreatDoorCB
import Derived.Test.YtpikfmmkcckclaaGreatDoorCD
import Derived.Lib.Bytealg
import Derived.Test.YtpikfmmkcckclaaGreatDoorEC
import Derived.Shelf.SlSortCmp.WholeK
set_option linter.unusedVariables false
set_option linter.unusedSimpArgs false
set_option linter.defProp false
namespace Go.Ev
set_option maxRecDepth 100000
variable{C:Ctx}
structure Si(C:Ctx):Prop extends NdHas C where
 fb:Pe C dm dU
 small:Has C wB pI
 int:Has C iQ dN
 fmt:Has C Ce BX
 show_:Has C Ot VU
def alD(H:Si C)(y:Nat)(hy:y<100)(O:St):∃s:LU,s.length<=64/\ai C wB [.int .i64 y] O=some (.str s,O):=by
 have h0:(0:Int)<=(y:Int):=by omega
 have w1:=wrS y (by omega)
 have w2:IntKind.i64.wrap ((y:Int)*2)=((y*2:Nat):Int):=wrE (by omega)
 have w3:IntKind.i64.wrap (((y*2:Nat):Int)+2)=((y*2+2:Nat):Int):=wrE (by omega)
 have ng:∀k:Nat,(0:Int)<=(k:Int):=Int.natCast_nonneg;have l2:y<=y+1:=by omega
 have l3:y*2<=y*2+2:=by omega
 have l4:y*2+2<=200:=by omega
 have ll:eX.length=200:=rfl;have go:=H.small.go (O:=O) (NVs.hand (.cons (.int .i64 (y:Int)) .nil) _);by_cases c:(y:Int)<10
 ·have l5:y+1<=36:=by omega
  refine⟨?_,?_,?_⟩
  rotate_left 2
  ·rw[go];simp only[pI,c,h0,w1,ng,l2,l5,a81,EVX,seval];rfl
  ·simp;omega
 ·refine⟨?_,?_,?_⟩
  rotate_left 2
  ·rw[go];simp only[pI,c,w2,w3,ng,l3,l4,ll,a81,EVX,seval];rfl
  ·simp only[aD5,a07,ay6];omega
def agG(l:LU)(k:Nat):(ofBytes l).take k=ofBytes (l.take k):=by simp[ofBytes,List.map_take]
def an0(l:LU)(k:Nat):(ofBytes l).drop k=ofBytes (l.drop k):=by simp[ofBytes,List.map_drop]
def z24:LU:=List.replicate 24 0
set_option maxHeartbeats 2000000 in
def amF (H:Si C) (n:Int) (u:Nat) (c:¬(0<=n/\n<100)) (hu1:u<18446744073709551616) (b1:n<0->IntKind.u64.wrap (0-IntKind.u64.wrap n)=(u:Int)) (b2:¬n<0->IntKind.u64.wrap n=(u:Int)) (d:Nat) (d0:d≠0) (d1:u<10^d) (d2:d<=20) (q1:∀O,ai C iR [.int .u64 u] O=some (.int .i64 d,O)) (O:St) (hσ:Ok O):
  ∃s:LU,ai C iQ [.int .i64 n,.int .i64 10] O=some (.str s,O)/\s.length<=64:=by
 have go:=H.int.go (O:=O) (NVs.hand (.cons (.int .i64 n) (.cons (.int .i64 10) .nil)) _);obtain⟨l,hl,q2⟩:=arS H.fb d u z24 rfl d1 d2 hu1 (O++[.cells (ofBytes z24) FZ]) O.length (by rw[aQ];rfl)
 rw[jm]at q2;have zz:ofBytes z24=[.int .u8 0,.int .u8 0,.int .u8 0,.int .u8 0,.int .u8 0,.int .u8 0,.int .u8 0,.int .u8 0,.int .u8 0,.int .u8 0,.int .u8 0,.int .u8 0,.int .u8 0,.int .u8 0,.int .u8 0,.int .u8 0,.int .u8 0,.int .u8 0,.int .u8 0,.int .u8 0,.int .u8 0,.int .u8 0,.int .u8 0,.int .u8 0]:=rfl;rw[zz]at q2;have hw:IntKind.i64.wrap (1+(d:Int))=((1+d:Nat):Int):=wrE (by omega)
 have l1:(0:Int)<=((1+d:Nat):Int):=by omega
 have l2:1<=1+d:=by omega
 have l3:1+d<=24:=by omega
 have l4:1+d-1=d:=by omega
 have l5:¬1=1+d:=by omega
 have l6:¬0=1+d:=by omega
 have l7:1+d-0=1+d:=by omega
 have ty:=fun(s:LU) L=>dE hσ (vs:=[.str s]) rfl L;have sp:splice (ofBytes l) 0 [.int .u8 45]=ofBytes (l.set 0 45):=aq9 l 0 45 (by omega)
 by_cases s:n<0
 ·have c1:¬(0:Int)<=n:=by omega
  have hb:=b1 s;refine⟨?_,?_,?_⟩
  rotate_left 1
  ·rw[go];simp only[dN,c1,s,hb,q1,q2,hw,l1,l2,l3,l4,l5,l6,l7,hl,sp,agG,uC,aI,a95,au8,aw9,ty,a81,a98,EVX,seval];rfl
  ·rw[ay6];omega
 ·have hb:=b2 s;have c2:(0:Int)<=n:=by omega
  have c3:¬n<100:=by omega
  refine⟨?_,?_,?_⟩
  rotate_left 1
  ·rw[go];simp only[dN,c2,c3,s,hb,q1,q2,hw,l1,l2,l3,l4,l5,hl,agG,an0,uC,aI,au8,aw9,ty,a81,EVX,seval];rfl
  ·rw[ay6];omega
def ajt (hC:Pe C dm dU) (O:St):
  ai C dm [.emp,.int .u64 0] O=some (.tup [],O):=by
 rw[hC.go];have ty:=aS O [];have lp:aH C (ai C) 167 [0,1,4] aU [(0,.emp),(1,.int .u64 0),(4,.int .i64 0)] O=some (.exit 0,[(0,.emp),(1,.int .u64 0),(4,.int .i64 0)],O):=by
  rw[aG (he:=rfl)];simp only[aU,EVX,seval]
 simp only[dU,lp,ty,Uf,aY,bD,EVX,seval]
set_option maxHeartbeats 2000000 in
def amG(H:Si C)(n:Int)(c:¬(0<=n/\n<100))(b1:n<0->IntKind.u64.wrap (0-IntKind.u64.wrap n)=0)(b2:¬n<0->IntKind.u64.wrap n=0)(q1:∀O,ai C iR [.int .u64 0] O=some (.int .i64 0,O))(O:St)(hσ:Ok O):∃s:LU,ai C iQ [.int .i64 n,.int .i64 10] O=some (.str s,O)/\s.length<=64:=by
 rw[H.int.go (NVs.hand (.cons (.int _ _) (.cons (.int _ _) .nil)) _)];have q2:=ajt H.fb;have ty:=fun(s:LU) L=>dE hσ (vs:=[.str s]) rfl L;have hw:IntKind.i64.wrap 1=1:=rfl;have l1:bytesOf [.int .u8 45]=some [45]:=rfl;have l2:bytesOf []=some []:=rfl;have o1:(0:Int)<=1:=by decide
 have o2:(1:Int).toNat=1:=rfl;by_cases s:n<0
 ·have c1:¬(0:Int)<=n:=by omega
  have hb:=b1 s;refine⟨[45],?_,by simp⟩
  simp only[dN,c1,s,hb,q1,q2,hw,o1,o2,l1,au8,aw9,ty,splice,EVX,seval]
 ·have hb:=b2 s;have c2:(0:Int)<=n:=by omega
  have c3:¬n<100:=by omega
  refine⟨[],?_,by simp⟩
  simp only[dN,c2,c3,s,hb,q1,q2,hw,o1,o2,l2,au8,aw9,ty,EVX,seval]
def ahE(H:Si C)(n:Int)(O:St)(hσ:Ok O):∃s:LU,ai C iQ [.int .i64 n,.int .i64 10] O=some (.str s,O)/\s.length<=64:=by
 by_cases c:0<=n/\n<100
 ·obtain⟨y,rfl⟩:∃y:Nat,n=y:=⟨n.toNat,by omega⟩
  have c1:(0:Int)<=(y:Int):=by omega
  have c2:(y:Int)<100:=c.2;obtain⟨s,hs,q⟩:=alD H y (by omega) O
  refine⟨s,?_,hs⟩;rw[H.int.go (NVs.hand (.cons (.int _ _) (.cons (.int _ _) .nil)) _)];simp only[dN,c1,c2,q,EVX,seval]
 ·have rg:∀m:Int,∃u:Nat,u<18446744073709551616/\IntKind.u64.wrap m=(u:Int):=fun m=>by
   refine⟨(m%18446744073709551616).toNat,by omega,?_⟩
   simp[IntKind.wrap,IntKind.bits,IntKind.signed];omega
  obtain⟨u,hu1,b1,b2⟩:∃u:Nat,u<18446744073709551616/\(n<0->IntKind.u64.wrap (0-IntKind.u64.wrap n)=(u:Int))/\(¬n<0->IntKind.u64.wrap n=(u:Int)):=by
   by_cases s:n<0
   ·obtain⟨u,h1,h2⟩:=rg (0-IntKind.u64.wrap n);exact⟨u,h1,fun _=>h2,fun h=>absurd s h⟩
   ·obtain⟨u,h1,h2⟩:=rg n;exact⟨u,h1,fun h=>absurd h s,fun _=>h2⟩
  obtain⟨d,d1,d2,q1⟩:=numDigits H.toNdHas u hu1;by_cases h0:d=0
  ·subst h0;obtain rfl:u=0:=by simpa using d1
   exact amG H n c b1 b2 q1 O hσ
  ·exact amF H n u c hu1 b1 b2 d h0 d1 d2 q1 O hσ
def adm(H:Si C)(n:Int)(O:St)(hσ:Ok O):∃s:LU,ai C Ot [.int .i64 n] O=some (.str s,O)/\s.length<=64:=by
 obtain⟨s,q,hl⟩:=ahE H n O hσ;have q:ai C Ce [.int .i64 n,.int .i64 10] O=some (.str s,O):=by
  rw[H.fmt.go (NVs.hand (.cons (.int _ _) (.cons (.int _ _) .nil)) _)];simp only[BX,q,EVX,seval]
 refine⟨s,?_,hl⟩;rw[H.show_.go (NVs.hand (.cons (.int _ _) .nil) _)];simp only[VU,q,EVX,seval]
set_option maxRecDepth 1000000
noncomputable section
def kD:KF:=(.mk ?k:KsA 374 []).1
def mO:KC:=(.mk ?k:LsA 364 [] 0).1
attribute [local irreducible] mO
def GR:KF:=(.mk ?k:KsA 364 [mO]).1
def zH:KF:=(.mk ?k:KsA 353 []).1
def TU:KF:=(.mk ?k:KsA 195 []).1
def jO:KC:=(.mk ?k:LsA 138 [] 0).1
attribute [local irreducible] jO
def zZ:KF:=(.mk ?k:KsA 138 [jO]).1
def gI:KC:=(.mk ?k:LsA 348 [] 0).1
attribute [local irreducible] gI
def yE:KF:=(.mk ?k:KsA 348 [gI]).1
def oz:KF:=(.mk ?k:KsA 352 []).1
def fA:KF:=(.mk ?k:KsA 365 []).1
def ED:KF:=(.mk ?k:KsA 375 []).1
def BP:KF:=(.mk ?k:KsA 376 []).1
def jP:KC:=(.mk ?k:LsA 377 [] 0).1
attribute [local irreducible] jP
def jq:KF:=(.mk ?k:KsA 377 [jP]).1
def lh:KC:=(.mk ?k:LsA 383 [] 0).1
attribute [local irreducible] lh
def CG:KF:=(.mk ?k:KsA 383 [lh]).1
def pJ:KF:=(.mk ?k:KsA 384 []).1
def ny:KC:=(.mk ?k:LsA 385 [] 0).1
attribute [local irreducible] ny
def yF:KF:=(.mk ?k:KsA 385 [ny]).1
def uh:KF:=(.mk ?k:KsA 230 []).1
end
set_option maxRecDepth 100000
def bq(a b:Int):(a==b)=true\/(a==b)=false:=by cases a==b<;>simp
def ae4(h:Has C Hu kD)(c:Int)(O:St):∃z l u:Int,0<=z/\z<=4/\ai C Hu [.int .u8 c] O=some (.tup [.int .i64 z,.int .u8 l,.int .u8 u],O):=by
 rw[h.go (NVs.hand (.cons (.int _ _) .nil) _)];by_cases c1:c<128
 ·exact⟨1,0,0,by omega,by omega,by simp only[kD,c1,EVX,seval]⟩
 by_cases c2:c<194
 ·exact⟨0,0,0,by omega,by omega,by simp only[kD,c1,c2,EVX,seval]⟩
 by_cases c3:c<224
 ·exact⟨2,128,191,by omega,by omega,by simp only[kD,c1,c2,c3,EVX,seval]⟩
 rcases bq c 224 with c4|c4
 ·exact⟨3,160,191,by omega,by omega,by simp only[kD,c1,c2,c3,c4,EVX,seval]⟩
 rcases bq c 237 with c5|c5
 ·exact⟨3,128,159,by omega,by omega,by simp only[kD,c1,c2,c3,c4,c5,EVX,seval]⟩
 by_cases c6:c<240
 ·exact⟨3,128,191,by omega,by omega,by simp only[kD,c1,c2,c3,c4,c5,c6,EVX,seval]⟩
 rcases bq c 240 with c7|c7
 ·exact⟨4,144,191,by omega,by omega,by simp only[kD,c1,c2,c3,c4,c5,c6,c7,EVX,seval]⟩
 by_cases c8:c<244
 ·exact⟨4,128,191,by omega,by omega,by simp only[kD,c1,c2,c3,c4,c5,c6,c7,c8,EVX,seval]⟩
 rcases bq c 244 with c9|c9
 ·exact⟨4,128,143,by omega,by omega,by simp only[kD,c1,c2,c3,c4,c5,c6,c7,c8,c9,EVX,seval]⟩
 exact⟨0,0,0,by omega,by omega,by simp only[kD,c1,c2,c3,c4,c5,c6,c7,c8,c9,EVX,seval]⟩
def NG(s:LU)(hs:s.length<1099511627777)(i:Nat)(z:Int)(hz:z<=4)(hi:i<s.length)(O:St):∀(n k:Nat),(k:Int)+n=i+z->k<=s.length->∀r l u:Int,∃o,aH C (ai C) 78 [0,1,4,5,7,8,9] mO [(0,.str s),(1,.int .i64 i),(4,.int .i64 r),(5,.int .i64 z),(7,.int .u8 l),(8,.int .u8 u),(9,.int .i64 k)] O=some o/\((∃r',o=(.exit 0,[(4,.int .i64 r'),(5,.int .i64 z)],O))\/∃e:Int,e≠0/\o=(.ret,[(4,.int .i64 0),(5,.int .i64 0),(6,.int .i64 e)],O))
 |0,k,hk,hl,r,l,u=>by
  rw[aG (he:=rfl)];have w:IntKind.i64.wrap ((i:Int)+z)=k:=wrE (by omega)
  have h:¬((k:Int)<k):=by omega
  exact⟨_,by simp only[mO,w,h,EVX,seval],.inl ⟨r,rfl⟩⟩
 |n+1,k,hk,hl,r,l,u=>by
  rw[aG (he:=rfl)];have ih:=NG s hs i z hz hi O n (k+1) (by omega)
  generalize hK:aH C (ai C) 78 [0,1,4,5,7,8,9] mO=K at*;have w:IntKind.i64.wrap ((i:Int)+z)=i+z:=wrE (by omega)
  have w1:=wrS k (by omega)
  have h:(k:Int)<i+z:=by omega
  have h3:(0:Int)<=k:=by omega
  by_cases c:k=s.length
  ·have c':((k:Int)==(s.length:Int))=true:=by simp[c]
   exact⟨_,by simp only[mO,w,h,c',EVX,seval],.inr ⟨4,by decide,rfl⟩⟩
  have c':((k:Int)==(s.length:Int))=false:=by simp;omega
  have hb:s[k]?=some s[k]:=a02 (by omega)
  by_cases c1:(s[k].toNat:Int)<l
  ·exact⟨_,by simp only[mO,w,h,c',h3,hb,c1,EVX,seval],.inr ⟨12,by decide,rfl⟩⟩
  by_cases c2:u<(s[k].toNat:Int)
  ·exact⟨_,by simp only[mO,w,h,c',h3,hb,c1,c2,EVX,seval],.inr ⟨12,by decide,rfl⟩⟩
  simp only[mO,w,w1,h,c',h3,hb,c1,c2,EVX,seval];exact ih (by omega) _ _ _
def ae3(h:Has C Ou GR)(hl:Has C Hu kD)(s:LU)(hs:s.length<1099511627777)(i:Nat)(hi:i<s.length)(O:St):∃r z e:Int,ai C Ou [.str s,.int .i64 i] O=some (.tup [.int .i64 r,.int .i64 z,.int .i64 e],O)/\0<=z/\z<=4/\(e=0->1<=z):=by
 rw[h.go (NVs.hand (.cons (.str _) (.cons (.int _ _) .nil)) _)];have h1:¬((i:Int)<0):=by omega
 have h2:¬((s.length:Int)<i):=by omega
 have h4:((i:Int)==(s.length:Int))=false:=by simp;omega
 have h3:(0:Int)<=i:=by omega
 have hb:s[i]?=some s[i]:=a02 hi;obtain⟨z,l,u,z0,z4,hq⟩:=ae4 hl (s[i].toNat:Int) O;have w1:=wrS i (by omega)
 rcases bq z 0 with c|c
 ·have:z=0:=by simpa using c
  subst this;exact⟨0,0,12,by simp only[GR,h1,h2,h3,h4,hb,hq,EVX,seval],by omega,by omega,fun e=>by cases e⟩
 have c':z≠0:=by simpa using c
 by_cases c1:1<z;all_goals
  have lp:=fun r=>NG (C:=C) s hs i z z4 hi O (z-1).toNat (i+1) (by omega) (by omega) r l u
  have sh:¬(IntKind.i64.wrap (z+1)<0):=by rw[w64]<;>omega
  obtain⟨o,e⟩:=Classical.axiomOfChoice lp;have e1:=fun x=>(e x).1;have e2:=fun x=>(e x).2;simp only[GR,h1,h2,h3,h4,hb,hq,c,c1,w1,sh,e1,EVX,seval];apply Or.elim (e2 _)
  ·rintro⟨r',h⟩;rw[h];exact⟨r',z,0,by simp only[EVX,seval],z0,z4,fun _=>by omega⟩
  ·rintro⟨e,e0,h⟩;rw[h];exact⟨0,0,e,by simp only[EVX,seval],by omega,by omega,fun h=>absurd h e0⟩
def ajq(r:Int):(Utf8.encode r).data.toList.length<=4:=by
 unfold Utf8.encode;simp only;repeat' split
 all_goals simp
def afA(h:Has C SV zH)(r:Int)(O:St):∃(t:LU) (e:Int),ai C SV [.int .i64 r] O=some (.tup [.str t,.int .i64 e],O)/\t.length<=4:=by
 rw[h.go (NVs.hand (.cons (.int _ _) .nil) _)];by_cases c1:r<0
 ·exact⟨[],1,by simp only[zH,c1,EVX,seval],by simp⟩
 by_cases c2:1114111<r
 ·exact⟨[],1,by simp only[zH,c1,c2,EVX,seval],by simp⟩
 by_cases c3:55296<=r
 ·by_cases c4:r<=57343
  ·exact⟨[],1,by simp only[zH,c1,c2,c3,c4,EVX,seval],by simp⟩
  ·exact⟨_,0,by simp only[zH,c1,c2,c3,c4,EVX,seval],ajq (IntKind.i32.wrap r)⟩
 ·exact⟨_,0,by simp only[zH,c1,c2,c3,EVX,seval],ajq (IntKind.i32.wrap r)⟩
def aao(C:Ctx):Prop:=∀(s:LU) (i:Int) (O:St),∃(n:Int) (b:Bool),ai C ash [.str s,.int .i64 i] O=some (.tup [.int .i64 n,.bool b],O)
def XM(h:Has C wE pJ)(hd:aao C)(s:LU)(i:Nat)(hi:i<s.length)(O:St):∃(n:Int) (b:Bool),ai C wE [.str s,.int .i64 i] O=some (.tup [.int .i64 n,.bool b],O):=by
 rw[h.go (NVs.hand (.cons (.str _) (.cons (.int _ _) .nil)) _)];have h3:(0:Int)<=i:=by omega
 have hb:s[i]?=some s[i]:=a02 hi;obtain⟨n,b,q⟩:=hd s i O;by_cases c1:(65:Int)<=(s[i].toNat:Int)
 ·by_cases c2:(s[i].toNat:Int)<=70
  ·exact⟨_,_,by simp only[pJ,h3,hb,c1,c2,EVX,seval];rfl⟩
  ·exact⟨n,b,by simp only[pJ,h3,hb,c1,c2,q,EVX,seval]⟩
 ·exact⟨n,b,by simp only[pJ,h3,hb,c1,q,EVX,seval]⟩
def Fe(a b c d:Int)(O:St):∀(k i:Nat),i+k=4->∀n:Int,∃n':Int,aH C (ai C) 18 [3,6,7,8] ny [(3,.int .i64 n),(6,.sl 4 [.int .i64 a,.int .i64 b,.int .i64 c,.int .i64 d]),(7,.int .i64 4),(8,.int .i64 i)] O=some (.exit 0,[(3,.int .i64 n')],O)
 |0,i,hi,n=>by
  have:i=4:=by omega
  subst this;rw[aG (he:=rfl)];exact⟨n,by simp only[ny,EVX,seval]⟩
 |k+1,i,hi,n=>by
  have ih:=Fe a b c d O k (i+1) (by omega)
  rw[aG (he:=rfl)];generalize hK:aH C (ai C) 18 [3,6,7,8] ny=K at*;have:i=0\/i=1\/i=2\/i=3:=by omega
  rcases this with rfl|rfl|rfl|rfl<;>simp only[ny,AV.cells,EVX,seval]<;>exact ih _
def U9(h:Has C yR yF)(a b c d:Int)(O:St):∃n:Int,ai C yR [.xsl 4 [.int .i64 a,.int .i64 b,.int .i64 c,.int .i64 d]] O=some (.int .i64 n,O):=by
 have hn:hand false [.xsl 4 [.int .i64 a,.int .i64 b,.int .i64 c,.int .i64 d]] O=some ([.sl 4 [.int .i64 a,.int .i64 b,.int .i64 c,.int .i64 d]],O):=rfl;rw[h.go hn];obtain⟨n,q⟩:=Fe (C:=C) a b c d O 4 0 rfl 0;rw[show((0:Nat):Int)=0 from rfl]at q;exact⟨n,by simp only[yF,q,EVX,seval]⟩
def nc:((0:Nat):Int)=0/\((1:Nat):Int)=1/\((2:Nat):Int)=2/\((3:Nat):Int)=3/\((4:Nat):Int)=4:=⟨rfl,rfl,rfl,rfl,rfl⟩
def IJ(h:Has C wE pJ)(hd:aao C)(s:LU)(hs:s.length<1099511627777)(at_:Nat)(hat:at_<=s.length)(O:St)(hσ:Ok O):∀(k i:Nat),i+k=4->(i=0\/at_+i<=s.length)->∀a b c d:Int,∃x,aH C (ai C) 43 [0,1,6,10] lh [(0,.str s),(1,.int .i64 at_),(6,.ref O.length 0),(10,.int .i64 i)] (O++[.cells [.int .i64 a,.int .i64 b,.int .i64 c,.int .i64 d] FZ])=some x/\((∃a b c d:Int,at_+4<=s.length/\x=(.exit 0,[(6,.ref O.length 0)],O++[.cells [.int .i64 a,.int .i64 b,.int .i64 c,.int .i64 d] FZ]))\/∃(e:Int) (L:St),e≠0/\x=(.ret,[(4,.int .i64 0),(5,.int .i64 e)],O++L))
 |0,i,hi,hl,a,b,c,d=>by
  have:i=4:=by omega
  subst this;rw[aG (he:=rfl)];exact⟨_,by simp only[lh,EVX,seval],.inl ⟨a,b,c,d,by omega,rfl⟩⟩
 |k+1,i,hi,hl,a,b,c,d=>by
  have ih:=IJ h hd s hs at_ hat O hσ k (i+1) (by omega)
  rw[aG (he:=rfl)];generalize hK:aH C (ai C) 43 [0,1,6,10] lh=K at*;have w:IntKind.i64.wrap ((at_:Int)+i)=((at_+i:Nat):Int):=wrE (by omega)
  have w1:=wrS i (by omega)
  have c0:(i:Int)<4:=by omega
  have i0:(0:Int)<=i:=by omega
  by_cases c1:s.length<=at_+i
  ·have c1:(s.length:Int)<=((at_+i:Nat):Int):=by omega
   exact⟨_,by simp only[lh,c0,w,c1,EVX,seval];rfl,.inr ⟨4,_,by decide,rfl⟩⟩
  have c1':¬(s.length:Int)<=((at_+i:Nat):Int):=by omega
  obtain⟨n,b',q⟩:=XM h hd s (at_+i) (by omega) (O++[.cells [.int .i64 a,.int .i64 b,.int .i64 c,.int .i64 d] FZ])
  cases b' with
  |false=>exact⟨_,by simp only[lh,c0,w,c1',q,EVX,seval];rfl,.inr ⟨3,_,by decide,rfl⟩⟩
  |true=>
   have ih:=ih (.inr (by omega))
   have:i=0\/i=1\/i=2\/i=3:=by omega
   rcases this with rfl|rfl|rfl|rfl<;>simp only[Nat.reduceAdd,aD4,nc]at w w1 ih c1' q<;>simp only[lh,c0,i0,w,w1,c1',q,AV.cells,AV.flat,splice,EVX,seval]<;>exact ih _ _ _ _
def Nw(h:Has C wE pJ)(hn:Has C yR yF)(hf:Has C Hq CG)(hd:aao C)(s:LU)(hs:s.length<1099511627777)(i:Nat)(hi:i<=s.length)(O:St)(hσ:Ok O):∃n e:Int,ai C Hq [.str s,.int .i64 i] O=some (.tup [.int .i64 n,.int .i64 e],O)/\(e=0->i+4<=s.length):=by
 rw[hf.go (NVs.hand (.cons (.str _) (.cons (.int _ _) .nil)) _)];have ty:=fun n e:Int=>dE hσ (vs:=[.int .i64 n,.int .i64 e]) rfl;obtain⟨x,q,hx⟩:=IJ h hd s hs i hi O hσ 4 0 rfl (.inl rfl) 0 0 0 0;rw[show((0:Nat):Int)=0 from rfl]at q;rcases hx with⟨a,b,c,d,h4,rfl⟩|⟨e,L,e0,rfl⟩
 ·obtain⟨n,qn⟩:=U9 hn a b c d (O++[.cells [.int .i64 a,.int .i64 b,.int .i64 c,.int .i64 d] FZ]);exact⟨n,0,by simp only[CG,q,qn,ty,AV.cells,AV.flat,splice,EVX,seval],fun _=>h4⟩
 ·exact⟨0,e,by simp only[CG,q,ty,EVX,seval],fun h=>absurd h e0⟩
structure BC(C:Ctx):Prop extends BldHas C where
 lead:Has C Hu kD
 next:Has C Ou GR
 put:Has C SV zH
 digit:Has C wE pJ
 number:Has C yR yF
 four:Has C Hq CG
 coded:Has C Af jq
 dec:Has C Iy fA
 dec1:Has C ET ED
 dec11:Has C mF BP
 item:Has C Qj oz
 blen:Has C zy uh
 read:Has C iT yE
 quote:Has C FP zZ
 valid:Has C Bd TU
 dig:aao C
 len:∀(s:LU) (O:St),s.length<=1099511627776->∃(n:Int) (b:Bool),ai C Zp [.str s] O=some (.tup [.int .i64 n,.bool b],O)
def bn(a b:Int):(a !=b)=false\/(a !=b)=true:=by cases a !=b<;>simp
def ww:IntKind.i64.wrap 1=1/\IntKind.i64.wrap 2=2:=⟨rfl,rfl⟩
def Gv(s:LU)(hs:s.length<1099511627777)(f:Int)(O:St):∀(k i:Nat),i+k=2->∀p:Nat,p<=s.length->∃x,aH C (ai C) 75 [0,1,7,33,34,35] jP [(0,.str s),(1,.int .i64 p),(7,.int .i64 f),(33,.xsl 2 [.int .u8 92,.int .u8 117]),(34,.int .i64 2),(35,.int .i64 i)] O=some x/\((∃p':Nat,p<=p'/\p'<=p+k/\p'<=s.length/\x=(.exit 0,[(0,.str s),(1,.int .i64 p'),(7,.int .i64 f)],O))\/∃e:Int,e≠0/\x=(.ret,[(4,.int .i64 0),(5,.int .i64 0),(6,.int .i64 e)],O))
 |0,i,hi,p,hp=>by
  have:i=2:=by omega
  subst this;rw[aG (he:=rfl)];exact⟨_,by simp only[jP,EVX,seval],.inl ⟨p,by omega,by omega,hp,rfl⟩⟩
 |k+1,i,hi,p,hp=>by
  have ih:=Gv s hs f O k (i+1) (by omega) (p+1)
  rw[aG (he:=rfl)];generalize hK:aH C (ai C) 75 [0,1,7,33,34,35] jP=K at*;have w1:=wrS p (by omega)
  have p0:(0:Int)<=p:=by omega
  have i2:i=0\/i=1:=by omega
  rcases bq p s.length with c|c
  ·exact⟨_,by rcases i2 with rfl|rfl<;>simp only[jP,c,AV.cells,EVX,seval]<;>rfl,.inr ⟨4,by decide,rfl⟩⟩
  have c':(p:Int)≠s.length:=by simpa using c
  have hb:s[p]?=some s[p]:=a02 (by omega)
  rcases bn s[p].toNat (if i=0 then 92 else 117)with d|d
  case inr=>exact⟨_,by rcases i2 with rfl|rfl<;>simp only[if_true,Nat.succ_ne_zero,Nat.one_ne_zero,if_false]at d<;>simp only[jP,c,d,hb,p0,AV.cells,EVX,seval]<;>rfl,.inr ⟨12,by decide,rfl⟩⟩
  ·obtain⟨x,h1,h2⟩:=ih (by omega)
   refine⟨x,?_,?_⟩
   ·rcases i2 with rfl|rfl<;>simp only[Nat.reduceAdd,nc]at h1<;>simp only[if_true,Nat.succ_ne_zero,Nat.one_ne_zero,if_false]at d<;>simp only[jP,c,d,hb,p0,w1,h1,ww,AV.cells,EVX,seval]
   ·rcases h2 with⟨p',a,b,e,r⟩|h2
    ·exact .inl ⟨p',by omega,by omega,e,r⟩
    ·exact .inr h2
def XK(H:BC C)(s:LU)(hs:s.length<1099511627777)(i:Nat)(hi:i<=s.length)(O:St)(hσ:Ok O):∃n z e:Int,ai C Af [.str s,.int .i64 i] O=some (.tup [.int .i64 n,.int .i64 z,.int .i64 e],O)/\(e=0->i<=z/\z<=i+10):=by
 rw[H.coded.go (NVs.hand (.cons (.str _) (.cons (.int _ _) .nil)) _)];obtain⟨n,e,q1,b1⟩:=Nw H.digit H.number H.four H.dig s hs i hi O hσ;rcases bn e 0 with c|c
 case inr=>exact⟨0,0,e,by simp only[jq,q1,c,EVX,seval],fun h=>by subst h;simp at c⟩
 have e0:e=0:=by simpa using c
 subst e0;have b1:=b1 rfl;have w4:IntKind.i64.wrap ((i:Int)+4)=((i+4:Nat):Int):=wrE (by omega)
 by_cases c1:n<55296
 ·exact⟨n,_,0,by simp only[jq,q1,c1,w4,EVX,seval];rfl,fun _=>by omega⟩
 by_cases c2:57343<n
 ·exact⟨n,_,0,by simp only[jq,q1,c1,c2,w4,EVX,seval];rfl,fun _=>by omega⟩
 by_cases c3:56320<=n
 ·exact⟨0,0,12,by simp only[jq,q1,c1,c2,c3,w4,EVX,seval],fun h=>by cases h⟩
 obtain⟨x,l1,l2⟩:=Gv (C:=C) s hs n O 2 0 rfl (i+4) b1;rw[nc.1]at l1;rcases l2 with⟨p,p1,p2,p3,rfl⟩|⟨e,e0,rfl⟩
 case inr=>exact⟨0,0,e,by simp only[jq,q1,c1,c2,c3,w4,l1,EVX,seval],fun h=>absurd h e0⟩
 obtain⟨n2,e,q2,b2⟩:=Nw H.digit H.number H.four H.dig s hs p p3 O hσ;rcases bn e 0 with c|c
 case inr=>exact⟨0,0,e,by simp only[jq,q1,c1,c2,c3,w4,l1,q2,c,EVX,seval],fun h=>by subst h;simp at c⟩
 have e0:e=0:=by simpa using c
 subst e0;have w5:IntKind.i64.wrap ((p:Int)+4)=((p+4:Nat):Int):=wrE (by omega)
 by_cases c4:n2<56320
 ·exact⟨0,0,12,by simp only[jq,q1,c1,c2,c3,c4,w4,l1,q2,EVX,seval],fun h=>by cases h⟩
 by_cases c5:57343<n2
 ·exact⟨0,0,12,by simp only[jq,q1,c1,c2,c3,c4,c5,w4,l1,q2,EVX,seval],fun h=>by cases h⟩
 exact⟨_,_,0,by simp only[jq,q1,c1,c2,c3,c4,c5,w4,w5,l1,q2,EVX,seval];rfl,fun _=>by omega⟩
def aqp(Y:St)(v:AV):Prop:=v=.nilFunc\/v=.func (.func Af) [] []\/∃(r:Int) (o:Nat),v=.func (.func mF) [] [.ref o 0]/\Y[o]?=some (.cells [.int .i64 r] FZ)
def vJ(O L:St)(f:Fn):tidy O.length [.func f [] [.ref O.length 0]] (O++L)=O++L:=by
 unfold tidy;split
 ·rfl
 ·simp[ae,below]
def OQ(H:BC C)(r:Int)(O:St):ai C ET [.int .i64 r] O=some (.func (.func mF) [] [.ref O.length 0],O++[.cells [.int .i64 r] FZ]):=by
 rw[H.dec1.go (NVs.hand (.cons (.int _ _) .nil) _)];simp only[ED,vJ,EVX,seval]
def Tt(H:BC C)(c:Int)(O:St)(hσ:Ok O):∃v L,ai C Iy [.int .u8 c] O=some (v,O++L)/\Ok (O++L)/\aqp (O++L) v:=by
 rw[H.dec.go (NVs.hand (.cons (.int _ _) .nil) _)];have q:=fun r=>OQ H r O;have fin:∀r,Ok (O++[.cells [.int .i64 r] FZ])/\aqp (O++[.cells [.int .i64 r] FZ]) (.func (.func mF) [] [.ref O.length 0]):=fun r=>⟨hσ.plus rfl,.inr (.inr ⟨r,_,rfl,by rw[fG rfl];rfl⟩)⟩
 rcases bq c 34 with c1|c1
 ·exact⟨_,_,by simp only[fA,c1,q,jV,vJ,EVX,seval];rfl,fin _⟩
 rcases bq c 92 with c2|c2
 ·exact⟨_,_,by simp only[fA,c1,c2,q,jV,vJ,EVX,seval];rfl,fin _⟩
 rcases bq c 47 with c3|c3
 ·exact⟨_,_,by simp only[fA,c1,c2,c3,q,jV,vJ,EVX,seval];rfl,fin _⟩
 rcases bq c 98 with c4|c4
 ·exact⟨_,_,by simp only[fA,c1,c2,c3,c4,q,jV,vJ,EVX,seval];rfl,fin _⟩
 rcases bq c 102 with c5|c5
 ·exact⟨_,_,by simp only[fA,c1,c2,c3,c4,c5,q,jV,vJ,EVX,seval];rfl,fin _⟩
 rcases bq c 110 with c6|c6
 ·exact⟨_,_,by simp only[fA,c1,c2,c3,c4,c5,c6,q,jV,vJ,EVX,seval];rfl,fin _⟩
 rcases bq c 114 with c7|c7
 ·exact⟨_,_,by simp only[fA,c1,c2,c3,c4,c5,c6,c7,q,jV,vJ,EVX,seval];rfl,fin _⟩
 rcases bq c 116 with c8|c8
 ·exact⟨_,_,by simp only[fA,c1,c2,c3,c4,c5,c6,c7,c8,q,jV,vJ,EVX,seval];rfl,fin _⟩
 rcases bq c 117 with c9|c9
 ·exact⟨.func (.func Af) [] [],[],by simp only[fA,c1,c2,c3,c4,c5,c6,c7,c8,c9,au6,EVX,seval],by rwa[au6],.inr (.inl rfl)⟩
 exact⟨.nilFunc,[],by simp only[fA,c1,c2,c3,c4,c5,c6,c7,c8,c9,au6,EVX,seval],by rwa[au6],.inl rfl⟩
def XL(H:BC C)(s:LU)(z:Int)(o:Nat)(r:Int)(Y:St)(ho:Y[o]?=some (.cells [.int .i64 r] FZ)):ai C mF [.str s,.int .i64 z,.ref o 0] Y=some (.tup [.int .i64 r,.int .i64 z,.int .i64 0],Y):=by
 have hn:hand false [.str s,.int .i64 z,.ref o 0] Y=some ([.str s,.int .i64 z,.ref o 0],Y):=rfl;rw[H.dec11.go hn];simp only[BP,ho,EVX,seval]
def YE(H:BC C)(s:LU)(hs:s.length<1099511627777)(i:Nat)(hi:i<s.length)(O:St)(hσ:Ok O):∃n z e:Int,ai C Qj [.str s,.int .i64 i] O=some (.tup [.int .i64 n,.int .i64 z,.int .i64 e],O)/\(e=0->i<z/\z<=i+12):=by
 rw[H.item.go (NVs.hand (.cons (.str _) (.cons (.int _ _) .nil)) _)];have ty:=fun a b c:Int=>dE hσ (vs:=[.int .i64 a,.int .i64 b,.int .i64 c]) rfl;have h3:(0:Int)<=i:=by omega
 have hb:s[i]?=some s[i]:=a02 hi;by_cases c1:(s[i].toNat:Int)<32
 ·exact⟨0,0,3,by simp only[oz,h3,hb,c1,EVX,seval],fun h=>by cases h⟩
 rcases bn s[i].toNat 92 with c2|c2
 case inr=>
  obtain⟨r,z,e,q,z0,z4,z1⟩:=ae3 H.next H.lead s hs i hi O;rcases bn e 0 with c3|c3
  case inr=>exact⟨0,0,e,by simp only[oz,h3,hb,c1,c2,q,c3,EVX,seval],fun h=>by subst h;simp at c3⟩
  have e0:e=0:=by simpa using c3
  have z1:=z1 e0;obtain⟨m,rfl⟩:=Int.eq_ofNat_of_zero_le z0;have w:IntKind.i64.wrap ((i:Int)+(m:Int))=((i+m:Nat):Int):=wrE (by omega)
  exact⟨r,((i+m:Nat):Int),0,by simp only[oz,h3,hb,c1,c2,q,c3,w,EVX,seval],fun _=>by omega⟩
 have w1:=wrS i (by omega)
 have w2:IntKind.i64.wrap ((i:Int)+2)=((i+2:Nat):Int):=wrE (by omega)
 rcases bq ((i+1:Nat):Int) s.length with c3|c3
 ·exact⟨0,0,4,by simp only[oz,h3,hb,c1,c2,w1,c3,EVX,seval],fun h=>by cases h⟩
 have c3':((i+1:Nat):Int)≠s.length:=by simpa using c3
 have hb1:s[i+1]?=some s[i+1]:=a02 (by omega)
 have h4:(0:Int)<=((i+1:Nat):Int):=by omega
 obtain⟨v,L,q,okL,hv⟩:=Tt H s[i+1].toNat O hσ;rcases hv with rfl|rfl|⟨r,o,rfl,ho⟩
 ·exact⟨0,0,3,by simp only[oz,h3,h4,hb,hb1,c1,c2,w1,c3,q,ty,EVX,seval],fun h=>by cases h⟩
 ·obtain⟨n,z,e,q2,b2⟩:=XK H s hs (i+2) (by omega) (O++L) okL
  refine⟨n,z,e,by simp only[oz,h3,h4,hb,hb1,c1,c2,w1,w2,c3,q,q2,jV,ty,au3,au6,EVX,seval],fun h=>?_⟩
  have:=b2 h;omega
 ·have q2:=XL H s ((i+2:Nat):Int) o r (O++L) ho;exact⟨r,((i+2:Nat):Int),0,by simp only[oz,h3,h4,hb,hb1,c1,c2,w1,w2,c3,q,q2,jV,ty,au3,a99,EVX,seval],fun _=>by omega⟩
def afZ(H:BldHas C){o n:Nat}{O Y S:St}{w:LU}{q':Option Nat}(b:Bk S o w q')(t:TrB o Y none S q')(hn:n=O.length)(ht:Y.take n=O)(ho:n<=o)(hl:n<=Y.length)(hw:w.length<=1099511627776):∃S',ai C iG [.ref o 0] S=some (.str w,S')/\S'.take n=O:=by
 have tk:S.take n=O:=t.take hn ht ho;obtain⟨p,c,x1,x2,x3⟩:=b;rcases x3 with⟨_,rfl,rfl⟩|⟨q,x3,x4,x5,rfl,x6⟩
 ·exact⟨S,H.str0 _ _ _ x1,tk⟩
 ·refine⟨_,H.str1 _ _ _ _ _ x1 x6 x5 hw,?_⟩;rcases t.q q x3 with h|h
  ·cases h
  ·rw[dH _ _ _ (by omega),tk]
def aoS(H:BC C){o:Nat}{Y:St}{w:LU}{qo:Option Nat}(b:Bk Y o w qo):ai C zy [.ref o 0] Y=some (.int .i64 w.length,Y):=by
 have hn:=iI o Y;rw[H.blen.go hn];obtain⟨p,c,x1,x2,x3⟩:=b;dsimp only[bT]at x1;rcases x3 with⟨_,rfl,rfl⟩|⟨q,x3,x4,x5,rfl,x6⟩
 ·simp only[uh,x1,AV.cells,EVX,seval]
 ·simp only[uh,x1,AV.cells,EVX,seval]
def U8 (H:BC C) (s:LU) (hs:s.length<1099511627777) (O:St) (o:Nat) (ho:O.length<=o) (Y0:St) (h0:Y0.take O.length=O) (h1:O.length<=Y0.length):∀(k p:Nat),s.length<=p+k->p<=s.length+12->∀(Y:St) (w:LU) (qo:Option Nat),Ok Y->Bk Y o w qo->TrB o Y0 none Y qo->w.length<=4096->
  ∃x,aH C (ai C) 67 [0,1,7] gI [(0,.str s),(1,.int .i64 p),(7,.ref o 0)] Y=some x/\((∃Y',x=(.exit 0,[],Y')/\Y'.take O.length=O)\/∃(t:LU) (z e:Int) (Y':St),x=(.ret,[(4,.str t),(5,.int .i64 z),(6,.int .i64 e)],Y')/\Y'.take O.length=O/\0<=z/\t.length<=4096):=by
 intro k
 induction k with
 |zero=>
  intro p hp hp2 Y w qo hτ hb ht hw;rw[aG (he:=rfl)];have c0:¬((p:Int)<s.length):=by omega
  exact⟨_,by simp only[gI,c0,EVX,seval],.inl ⟨_,rfl,ht.take rfl h0 ho⟩⟩
 |succ k ih=>
  intro p hp hp2 Y w qo hτ hb ht hw;rw[aG (he:=rfl)];generalize hK:aH C (ai C) 67 [0,1,7] gI=K at*;have tk:Y.take O.length=O:=ht.take rfl h0 ho;by_cases c0:(p:Int)<s.length
  case neg=>exact⟨_,by simp only[gI,c0,EVX,seval],.inl ⟨_,rfl,tk⟩⟩
  have hb1:s[p]?=some s[p]:=a02 (by omega)
  have p0:(0:Int)<=p:=by omega
  rcases bq s[p].toNat 34 with c1|c1
  ·obtain⟨S',s1,s2⟩:=afZ H.toBldHas hb ht rfl h0 ho h1 (by omega)
   have w1:IntKind.i64.wrap ((p:Int)+1)=p+1:=wrE (by omega)
   exact⟨_,by simp only[gI,c0,c1,hb1,p0,s1,w1,EVX,seval],.inr ⟨w,p+1,0,S',rfl,s2,by omega,hw⟩⟩
  obtain⟨n,z,e,q,b⟩:=YE H s hs p (by omega) Y hτ
  rcases bn e 0 with c2|c2
  case inr=>exact⟨_,by simp only[gI,c0,c1,c2,hb1,p0,q,EVX,seval],.inr ⟨[],0,e,Y,rfl,tk,by omega,by simp⟩⟩
  have e0:e=0:=by simpa using c2
  have b:=b e0;obtain⟨t,e',q2,tl⟩:=afA H.put n Y;rcases bn e' 0 with c3|c3
  case inr=>exact⟨_,by simp only[gI,c0,c1,c2,c3,hb1,p0,q,q2,EVX,seval],.inr ⟨[],0,e',Y,rfl,tk,by omega,by simp⟩⟩
  have q3:=aoS H hb;have w2:IntKind.i64.wrap ((w.length:Int)+(t.length:Int))=w.length+t.length:=wrE (by omega)
  by_cases c4:(4096:Int)<(w.length:Int)+(t.length:Int)
  ·exact⟨_,by simp only[gI,c0,c1,c2,c3,c4,hb1,p0,q,q2,q3,w2,EVX,seval],.inr ⟨[],0,5,Y,rfl,tk,by omega,by simp⟩⟩
  obtain⟨Y',qo',q4,b4,t4⟩:=Gy H.toBldHas t hτ hb (by omega)
  obtain⟨m,rfl⟩:=Int.eq_ofNat_of_zero_le (show 0<=z by omega)
  obtain⟨x,x1,x2⟩:=ih m (by omega) (by omega) Y' (w++t) qo' t4.ok b4 (ht.trans t4) (by rw[a04];omega)
  exact⟨x,by simp only[gI,c0,c1,c2,c3,c4,hb1,p0,q,q2,q3,q4,w2,x1,EVX,seval],x2⟩
def ang(H:BC C):aaw C:=fun s i O hs hi hσ=>by
 rw[H.read.go (NVs.hand (.cons (.str _) (.cons (.int _ _) .nil)) _)];have h1:¬((i:Int)<0):=by omega
 have h2:¬((s.length:Int)<i):=by omega
 have h3:(0:Int)<=i:=by omega
 have ty:=fun(t:LU) (z e:Int)=>dE hσ (vs:=[.str t,.int .i64 z,.int .i64 e]) rfl;rcases bq i s.length with c|c
 ·exact⟨[],0,4,by simp only[yE,h1,h2,c,EVX,seval],by omega,lb0⟩
 have c':(i:Int)≠s.length:=by simpa using c
 have hb:s[i]?=some s[i]:=a02 (by omega)
 rcases bn s[i].toNat 34 with c1|c1
 case inr=>exact⟨[],0,3,by simp only[yE,h1,h2,h3,hb,c,c1,EVX,seval],by omega,lb0⟩
 have w1:=wrS i (by omega)
 have okB:Ok (O++[.cells [.nilp,.nils] bT]):=hσ.plus rfl;obtain⟨x,x1,x2⟩:=U8 H s hs O O.length (a06 _) (O++[.cells [.nilp,.nils] bT]) (by simp) (by simp) s.length (i+1) (by omega) (by omega) _ [] none okB ⟨.nilp,.nils,by rw[fG rfl];rfl,.inl rfl,.inl ⟨rfl,rfl,rfl⟩⟩ (.refl okB) (by simp)
 dsimp only[bT]at x1;rcases x2 with⟨Y',rfl,tk⟩|⟨t,z,e,Y',rfl,tk,z0,tl⟩
 ·have tq:=fun(t:LU) (z e:Int)=>pG (vs:=[.str t,.int .i64 z,.int .i64 e]) hσ rfl tk;exact⟨[],0,4,by simp only[yE,h1,h2,h3,hb,c,c1,w1,x1,tq,EVX,seval],by omega,lb0⟩
 ·have tq:=fun(t:LU) (z e:Int)=>pG (vs:=[.str t,.int .i64 z,.int .i64 e]) hσ rfl tk;exact⟨t,z,e,by simp only[yE,h1,h2,h3,hb,c,c1,w1,x1,tq,EVX,seval],z0,by simp only[LB];omega⟩
def RQ(H:BC C)(s:LU)(hs:s.length<=1099511627776)(O:St):∃b:Bool,ai C Bd [.str s] O=some (.bool b,O):=by
 rw[H.valid.go (NVs.hand (.cons (.str _) .nil) _)];obtain⟨n,b,q⟩:=H.len s O hs;exact⟨b,by simp only[TU,q,EVX,seval]⟩
def Tq (H:BC C) (s:LU) (hs:s.length<=4096) (O:St) (o:Nat) (Y0:St):∀(k p:Nat),p+k=s.length->∀(Y:St) (w:LU) (qo:Option Nat),Ok Y->Bk Y o w qo->TrB o Y0 none Y qo->w.length<=1+2*p->
  ∃(Y':St) (w':LU) (q':Option Nat),aH C (ai C) 36 [0,4,14,15] jO [(0,.str s),(4,.ref o 0),(14,.int .i64 s.length),(15,.int .i64 p)] Y=some (.exit 0,[(4,.ref o 0)],Y')/\Ok Y'/\Bk Y' o w' q'/\TrB o Y0 none Y' q'/\w'.length<=1+2*s.length:=by
 intro k
 induction k with
 |zero=>
  intro p hp Y w qo hτ hb ht hw;rw[aG (he:=rfl)];have c0:¬((p:Int)<s.length):=by omega
  exact⟨Y,w,qo,by simp only[jO,c0,EVX,seval],hτ,hb,ht,by omega⟩
 |succ k ih=>
  intro p hp Y w qo hτ hb ht hw;rw[aG (he:=rfl)];generalize hK:aH C (ai C) 36 [0,4,14,15] jO=K at*;have c0:(p:Int)<s.length:=by omega
  have hb1:s[p]?=some s[p]:=a02 (by omega)
  have p0:(0:Int)<=p:=by omega
  have w1:=wrS p (by omega)
  have bsl:((92:UInt8).toNat:Int)=92:=rfl;have esc:((s[p].toNat:Int)==34)=true\/((s[p].toNat:Int)==34)=false/\((s[p].toNat:Int)==92)=true->∃(Y':St) (w':LU) (q':Option Nat),ai C gq [.ref o 0,.int .u8 92] Y=some (.nilIface,Y')/\Ok Y'/\Bk Y' o w' q'/\TrB o Y0 none Y' q'/\w'.length<=2+2*p:=fun _=>by
   obtain⟨Y1,q1,e1,b1,t1⟩:=vM H.toBldHas 92 hτ hb (by omega)
   rw[bsl]at e1;exact⟨Y1,_,q1,e1,t1.ok,b1,ht.trans t1,by rw[a04,aA0];omega⟩
  rcases bq s[p].toNat 34 with c1|c1
  ·obtain⟨Y1,w1',q1,e1,ok1,b1,t1,l1⟩:=esc (.inl c1);obtain⟨Y2,q2,e2,b2,t2⟩:=vM H.toBldHas s[p] ok1 b1 (by omega)
   obtain⟨Y',w',q',x,h⟩:=ih (p+1) (by omega) Y2 _ q2 t2.ok b2 (t1.trans t2) (by rw[a04,aA0];omega)
   exact⟨Y',w',q',by simp only[jO,c0,c1,hb1,p0,e1,e2,w1,x,EVX,seval],h⟩
  ·rcases bq s[p].toNat 92 with c2|c2
   ·obtain⟨Y1,w1',q1,e1,ok1,b1,t1,l1⟩:=esc (.inr ⟨c1,c2⟩);obtain⟨Y2,q2,e2,b2,t2⟩:=vM H.toBldHas s[p] ok1 b1 (by omega)
    obtain⟨Y',w',q',x,h⟩:=ih (p+1) (by omega) Y2 _ q2 t2.ok b2 (t1.trans t2) (by rw[a04,aA0];omega)
    exact⟨Y',w',q',by simp only[jO,c0,c1,c2,hb1,p0,e1,e2,w1,x,EVX,seval],h⟩
   ·obtain⟨Y2,q2,e2,b2,t2⟩:=vM H.toBldHas s[p] hτ hb (by omega)
    obtain⟨Y',w',q',x,h⟩:=ih (p+1) (by omega) Y2 _ q2 t2.ok b2 (ht.trans t2) (by rw[a04,aA0];omega)
    exact⟨Y',w',q',by simp only[jO,c0,c1,c2,hb1,p0,e2,w1,x,EVX,seval],h⟩
def XJ(H:BC C)(s:LU)(O:St)(hσ:Ok O):∃(q:LU) (e:Int),ai C FP [.str s] O=some (.tup [.str q,.int .i64 e],O)/\q.length<=8194:=by
 rw[H.quote.go (NVs.hand (.cons (.str _) .nil) _)];by_cases c0:(4096:Int)<(s.length:Int)
 ·exact⟨[],5,by simp only[zZ,c0,EVX,seval],by simp⟩
 obtain⟨b,hv⟩:=RQ H s (by omega) O
 cases b with
 |false=>exact⟨[],12,by simp only[zZ,c0,hv,EVX,seval],by simp⟩
 |true=>
  have okB:Ok (O++[.cells [.nilp,.nils] bT]):=hσ.plus rfl;have bk:Bk (O++[.cells [.nilp,.nils] bT]) O.length [] none:=⟨.nilp,.nils,by rw[fG rfl];rfl,.inl rfl,.inl ⟨rfl,rfl,rfl⟩⟩
  obtain⟨Y1,q1,e1,b1,t1⟩:=vM H.toBldHas 34 okB bk (by simp)
  obtain⟨Y2,w2,q2,e2,ok2,b2,t2,l2⟩:=Tq H s (by omega) O O.length _ s.length 0 (by omega) Y1 _ q1 t1.ok b1 t1 (by simp)
  obtain⟨Y3,q3,e3,b3,t3⟩:=vM H.toBldHas 34 ok2 b2 (by omega)
  obtain⟨S',s1,s2⟩:=afZ H.toBldHas b3 (t2.trans t3) (n:=O.length) rfl (by simp) (a06 _) (by simp) (by rw[a04,aA0];omega)
  have tq:=fun t:LU=>pG (vs:=[.str t,.int .i64 0]) hσ rfl s2;have bsl:((34:UInt8).toNat:Int)=34:=rfl;rw[bsl]at e1 e3;rw[nc.1]at e2;dsimp only[bT]at e1;exact⟨w2++[34],0,by simp only[zZ,c0,hv,e1,e2,e3,s1,tq,EVX,seval],by rw[a04,aA0];omega⟩
open Go.Lib
def aaQ(x y:UInt8)(a b:LU):compareBytes (x::a) (y::b)=if x.toNat<y.toNat then-1 else if y.toNat<x.toNat then 1 else compareBytes a b:=by
 rw[compareBytes];simp only[UInt8.lt_iff_toNat_lt]
def ag1:∀a:LU,compareBytes a a=0
 |[]=>rfl
 |x::a=>by rw[aaQ,if_neg (by omega),if_neg (by omega),ag1 a]
def ack:∀a b c:LU,compareBytes a b<0->compareBytes b c<0->compareBytes a c<0
 |[],[],c,h,_=>absurd h (by decide)
 |[],_::_,[],_,h=>absurd h (by simp[compareBytes])
 |[],_::_,_::_,_,_=>by simp[compareBytes]
 |_::_,[],c,h,_=>absurd h (by simp[compareBytes])
 |_::_,_::_,[],_,h=>absurd h (by simp[compareBytes])
 |x::a,y::b,z::c,h,k=>by
  rw[aaQ]at h k⊢;have ih:=ack a b c;generalize compareBytes a b=p at*;generalize compareBytes b c=q at*;generalize compareBytes a c=r at*;split at h
  ·split at k
   ·rw[if_pos (by omega)];decide
   ·split at k
    ·exact absurd k (by decide)
    ·rw[if_pos (by omega)];decide
  ·split at h
   ·exact absurd h (by decide)
   ·split at k
    ·rw[if_pos (by omega)];decide
    ·split at k
     ·exact absurd k (by decide)
     ·rw[if_neg (by omega),if_neg (by omega)];exact ih h k
def Zb:∀a b c:LU,¬compareBytes a b<0->¬compareBytes b c<0->¬compareBytes a c<0
 |a,[],[],h,_=>h
 |[],_::_,c,h,_=>absurd (by simp[compareBytes]) h
 |_,[],_::_,_,h=>absurd (by simp[compareBytes]) h
 |_::_,_::_,[],_,_=>by simp[compareBytes]
 |x::a,y::b,z::c,h,k=>by
  rw[aaQ]at h k⊢;have ih:=Zb a b c;generalize compareBytes a b=p at*;generalize compareBytes b c=q at*;generalize compareBytes a c=r at*;split at h
  ·exact absurd (by decide) h
  ·split at h
   ·split at k
    ·exact absurd (by decide) k
    ·split at k
     ·rw[if_neg (by omega),if_pos (by omega)];decide
     ·rw[if_neg (by omega),if_pos (by omega)];decide
   ·split at k
    ·exact absurd (by decide) k
    ·split at k
     ·rw[if_neg (by omega),if_pos (by omega)];decide
     ·rw[if_neg (by omega),if_neg (by omega)];exact ih h k
open Go.RowKit Go.Shelf Go.Lib Go.Sort Go.Proofs
set_option maxRecDepth 10000
def abr(xs:List EL)(i:Nat):LU:=match xs[i]? with|some x=>x.1.1|none=>[]
def aer(xs:List EL)(i j:Nat):Int:=compareBytes (abr xs i) (abr xs j)
def aja(xs:List EL):SWO (ltOf (aer xs))where
 irrefl x:=by simp[ltOf,aer,ag1]
 trans x y z h1 h2:=decide_eq_true (ack _ _ _ (of_decide_eq_true h1) (of_decide_eq_true h2))
 ntrans x y z h1 h2:=decide_eq_false (Zb _ _ _ (of_decide_eq_false h1) (of_decide_eq_false h2))
def Eh(xs:List EL):Array Nat:=pdq (ltOf (aer xs)) (Array.range xs.length) 0 (Array.range xs.length).size (Lib.bitLen (Array.range xs.length).size) true true
def apB(xs:List EL):(Eh xs).size=xs.length/\∀i,i<xs.length->(Eh xs)[i]! <xs.length:=by
 have h:=(pdq_sorts (ltOf (aer xs)) (aja xs) (Array.range xs.length) 0 (Array.range xs.length).size (Lib.bitLen (Array.range xs.length).size) true true (a98 _) (a06 _) (Or.inl rfl)).1;refine⟨by have:=h.1;unfold Eh;rw[this];simp,fun i hi=>?_⟩
 exact permIn_all (Array.range xs.length) (Eh xs) 0 (Array.range xs.length).size (fun j=>j<xs.length) (a06 _) h (fun j _ hj=>by
  have hj':j<xs.length:=by simpa using hj
  rw[getElem!_pos _ j hj];simpa using hj') i (a98 _) (by simpa using hi)
def ar9:EL:=(⟨[],by decide⟩,JV.zero)
instance:Inhabited EL:=⟨ar9⟩
def X6(xs:List EL):List EL:=(List.range xs.length).map fun t=>xs.getD ((Eh xs)[t]!) ar9
def L6(xs:List EL):(X6 xs).length=xs.length:=by simp[X6]
open Classical in
noncomputable def UG(fc:FuncId)(args:LA)(O:St):Option (AV×St):=
 match args with
 |[.msl o 0 n 6,.func (.func g) [] []]=>match O[o]? with
  |some (.cells l ⟨false,t⟩)=>if h:g=fc/\n<4611686018427387904/\∃xs:List EL,l=kQ xs/\xs.length=n then some (.tup [],O.set o (.cells (kQ (X6 h.2.2.choose)) ⟨false,t⟩))else none
  |_=>none
 |_=>none
def Qd(xs:List EL):(kQ xs).length=xs.length*6:=dV nT xs
def ajo(xs:List EL)(i r:Nat)(hi:i<xs.length)(hr:r<6):(kQ xs)[i*6+r]?=(elC xs[i])[r]?:=by
 have h:=lM nT (a02 hi);have e:(kQ xs)[i*6+r]?=((kQ xs).drop (i*6))[r]?:=by rw[List.getElem?_drop]
 rw[e];unfold kQ;rw[h,av1 (by rw[nT];exact hr)]
def xQ(c:Array Value)(n i:Nat):List Value:=if i<n then(List.range 6).map fun r=>c[i*6+r]! else[.string ⟨⟨[]⟩⟩,.int .i64 0,.int .i64 0,.int .i64 0,.int .i64 0,.int .i64 0]
def agc(c:Array Value)(n i:Nat):(xQ c n i).length=6:=by
 unfold xQ;split<;>simp
def aew(c:Array Value)(n i r:Nat)(hi:i<n)(hr:r<6):(xQ c n i)[r]! =c[i*6+r]!:=by
 unfold xQ;rw[if_pos hi,getElem!_pos _ r (by simpa using hr)]
 simp
section
variable{ρ:Ren}{fs fc:FuncId}
def agR (L:SlLaysF0.n6 C.P ρ) (hfs:ρ.f 6=fs) (hfn:IV C.P fs) (aE:∀w,(isAgg (ρ.t 24)).run C.P w=.ok true w) (zE:∀w,(Go.sizeOf (ρ.t 24)).run C.P w=.ok 6 w)
  (eg:∀args w,(callFunc fc args).run C.P w=.ok (.enter fc args) w)
  (ajf:∀(x y:LU) (u v:List Value) (W:World),u.length=5->v.length=5->Calls C.P fc #[.agg (.string ⟨⟨x⟩⟩::u).toArray,.agg (.string ⟨⟨y⟩⟩::v).toArray] W fun e w'=>e=.returned (.int .i64 (compareBytes x y))/\∃q os',w'=grow (W.drewN q) os'):
  POK C fs (UG fc):=by
 intro args O v O' h g w args' ha hw hg;unfold UG at h;split at h
 ·rename_i o n gf;split at h
  ·rename_i l t ho;split at h
   ·rename_i hx;simp only[a05,av6]at h;obtain⟨rfl,rfl⟩:=h;have hxs:=hx.2.2.choose_spec;generalize hx.2.2.choose=xs at hxs;obtain⟨rfl,hn,_⟩:=hx;obtain⟨rfl,hlen⟩:=hxs;have hlen6:=Qd xs;obtain⟨c,e,fr,h1,h2',h3,h4,h5,h6⟩:=hw.obj o _ ho;have hfr:fr=(0,0):=h5.1;subst hfr;cases ha with
    |cons _ v1 _ l1 x1 y1=>
    cases y1 with
    |cons _ v2 _ l2 x2 y2=>
    cases y2;cases x1 with
    |msl _ _ _ _ cap hog hncap hcap=>
    cases x2 with
    |func _ _ _ x' y' k1 k2=>
    cases k1;cases k2;have cell:∀i,i<n->∀r,r<6->∃x,(elC xs[i]!)[r]?=some x/\VR g x c[i*6+r]!:=fun i hi r hr=>by
     have hi':i<xs.length:=by omega
     have e1:=ajo xs i r hi' hr;have hl6:=nT xs[i];have e2:(elC xs[i])[r]?=some (elC xs[i])[r]:=a02 (by omega)
     rw[e2]at e1;obtain⟨u,hu,hv⟩:=h4 _ _ e1;have e3:xs[i]! =xs[i]:=getElem!_pos xs i hi';refine⟨_,by rw[e3];exact e2,?_⟩
     obtain⟨hb,hu2⟩:=ay0.mp hu;rw[getElem!_pos c _ hb,hu2];exact hv
    have fst:∀i,∃u,xQ c n i=.string ⟨⟨abr xs i⟩⟩::u/\u.length=5:=fun i=>by
     have hl:=agc c n i;by_cases hi:i<n
     ·obtain⟨x,hx1,hx2⟩:=cell i hi 0 (by decide)
      have hi':i<xs.length:=by omega
      have e3:xs[i]! =xs[i]:=getElem!_pos xs i hi';have hx3:x=.str (abr xs i):=by
       have:abr xs i=(xs[i]).1.1:=by unfold abr;rw[a02 hi']
       rw[this];rw[e3]at hx1;exact(aA9 hx1).symm
      rw[hx3]at hx2;have e0:=aew c n i 0 hi (by decide)
      cases hE:xQ c n i with
      |nil=>rw[hE]at hl;cases hl
      |cons a u=>
       rw[hE]at e0 hl;refine⟨u,?_,by simpa using hl⟩
       have:a=c[i*6+0]!:=e0;rw[this];generalize c[i*6+0]! =q at hx2;cases hx2;rfl
     ·refine⟨[.int .i64 0,.int .i64 0,.int .i64 0,.int .i64 0,.int .i64 0],?_,rfl⟩;unfold xQ abr;rw[if_neg hi,aw2 (by omega)]
    have oneC:∀i,∀v∈xQ c n i,v.oneCell'=true:=fun i v hv=>by
     by_cases hi:i<n
     ·unfold xQ at hv;rw[if_pos hi]at hv;obtain⟨r,hr,rfl⟩:=ax1.mp hv;obtain⟨x,hx1,hx2⟩:=cell i hi r (ay9.mp hr);exact hx2.one (a90.mp (yN _) x (a94 hx1))
     ·unfold xQ at hv;rw[if_neg hi]at hv;simp only[au9,az4,or_false]at hv;rcases hv with rfl|rfl|rfl|rfl|rfl|rfl<;>rfl
    have hsz0:(Array.range xs.length).size=n:=by simp[hlen]
    have rg:∀j,j<n->(Array.range xs.length)[j]! =j:=fun j hj=>by
     rw[getElem!_pos _ j (by rw[hsz0];exact hj)];simp
    have fk:∀t,t<n*6->(flatK (xQ c n) 6 (Array.range xs.length))[t]! =c[t]!:=fun t ht=>by
     have hq:t/6<n:=by omega
     rw[get_flatK _ _ _ _ (by rw[hsz0];exact ht),rg _ hq,aew _ _ _ _ hq (Nat.mod_lt _ (by decide))]
     congr 1
     omega
    have hH:HoldsK (xQ c n) 6 w (g.ob o) 0 (Array.range xs.length):=by
     intro t ht;have ht':t<n*6:=by rw[size_flatK,hsz0]at ht;exact ht
     refine⟨?_,?_⟩
     ·rw[fk t ht',av2];show w.cell? ⟨g.ob o,t,none⟩=some c[t]!;rw[cell_of_heap h1,getElem!_pos c t (by omega)]
      exact aw0 (by omega)
     ·rw[World.frozen?,h1];rfl
    have hb:g.ob o<w.heap.size:=(ay0.mp h1).1;have hcmp:CmpLays C.P gf #[] (xQ c n) 6 (aer xs) (g.ob o) 0 (Array.range xs.length).size w:=fun m os dk _ i j=>by
     obtain⟨u,hu,lu⟩:=fst i;obtain⟨u',hu',lu'⟩:=fst j;rw[hu,hu'];exact ajf (abr xs i) (abr xs j) u u' _ lu lu'
    have run:=AnyQ.slices_SortFunc_eq L 6 aE zE (xQ c n) (agc c n) oneC (aer xs) (aja xs) gf #[] (g.ob o) 0 cap (Array.range xs.length) w eg hcmp hH hb (by omega)
    rw[hfs,hsz0]at run;refine CQ hfn (run.mono fun e' w2 ⟨he,q,os,hw2⟩=>⟨_,he,g,?_,.tup _ _ .nil⟩);have hd:=apB xs;have hd0:pdq (ltOf (aer xs)) (Array.range xs.length) 0 n (Lib.bitLen n) true true=Eh xs:=by unfold Eh;rw[hsz0]
    rw[hd0]at hw2;have hF:(flatK (xQ c n) 6 (Eh xs)).size=n*6:=by rw[size_flatK,hd.1,hlen]
    have heap:w2.heap=(w.heap.modify (g.ob o) (onCells (putCells id 0 (flatK (xQ c n) 6 (Eh xs)))))++os:=by rw[hw2];rfl
    have hms:(w.heap.modify (g.ob o) (onCells (putCells id 0 (flatK (xQ c n) 6 (Eh xs))))).size=w.heap.size:=by simp
    have h2:w2.heap[g.ob o]?=some (.cells (putCells id 0 (flatK (xQ c n) 6 (Eh xs)) c) e (0,0)):=by
     rw[heap,Array.getElem?_append_left (by rw[hms];exact hb),aB3,if_pos rfl,h1]
     rfl
    have psz:(putCells id 0 (flatK (xQ c n) 6 (Eh xs)) c).size=c.size:=by simp[putCells]
    refine ajF hw ho (by rw[hw2];rfl) (by rw[hw2];rfl) (by rw[hw2];rfl) (by rw[heap];simp) (fun k hk hne=>?_) ⟨_,e,(0,0),h2,by rw[psz];exact h2',by rw[psz,Qd,L6];omega,fun i x hx=>?_,?_,?_⟩
    ·rw[heap,Array.getElem?_append_left (by rw[hms];exact hk),aB3,if_neg (fun h=>hne h.symm)]
    ·have hi:i<n*6:=by
      have:=(a00.mp hx).1;rw[Qd,L6]at this;omega
     have hq:i/6<n:=by omega
     have hr:i%6<6:=Nat.mod_lt _ (by decide)
     have hoi:=hd.2 (i/6) (by omega)
     have ei:i=i/6*6+i%6:=by omega
     have es:(X6 xs)[i/6]'(by rw[L6];omega)=xs[(Eh xs)[i/6]!]!:=by
      unfold X6;rw[List.getElem_map,List.getElem_range,av4,a02 hoi,getElem!_pos xs _ hoi];rfl
     have hx':=hx;rw[ei,ajo (X6 xs) (i/6) (i%6) (by rw[L6];omega) hr,es]at hx'
     obtain⟨y,hy1,hy2⟩:=cell ((Eh xs)[i/6]!) (by omega) (i%6) hr
     rw[hy1]at hx';cases hx';refine⟨(flatK (xQ c n) 6 (Eh xs))[i]!,?_,?_⟩
     ·unfold putCells;rw[Array.getElem?_mapIdx,aw0 (by omega),au8,if_pos ⟨a98 _,by rw[hF];omega⟩]
      rfl
     ·rw[get_flatK _ _ _ _ (by rw[hd.1,hlen];exact hi),aew _ _ _ _ (by omega) hr]
      exact hy2
    ·refine⟨rfl,fun t' x' ht=>?_⟩;obtain⟨q1,q2⟩:=h5.2 t' x' ht;refine⟨q1,fun hx=>?_⟩;rw[psz,Qd,L6,<-Qd];exact q2 hx
    ·intro i v hv;exact absurd (h6 i v hv).1 (by simp)
   ·cases h
  ·cases h
 ·cases h
def ah7{D:Ctx}(hq:∀args O,ai D fs args O=UG fc args O):Vm D fs fc:=by
 intro O hσ o ho t N hN xs hxs;have hex:fc=fc/\N<4611686018427387904/\∃ys:List EL,kQ xs=kQ ys/\ys.length=N:=⟨rfl,by omega,xs,rfl,hxs⟩
 refine⟨X6 hex.2.2.choose,by rw[L6];exact hex.2.2.choose_spec.2,?_⟩
 rw[hq];unfold UG amr;simp only[ah0 ho t xs];rw[dif_pos hex,anq]
end
end Go.Ev
