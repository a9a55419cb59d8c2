/- Code of functions as the evaluator has it, and what some of them compute. No conditions. -/
import Derived.Test.YtegpahkgmealkaaGreatDoorCB
import Derived.Test.YtegpahkgmealkaaGreatDoorEC
set_option linter.unusedVariables false
set_option linter.unusedSimpArgs false
namespace Go.Ev
set_option maxRecDepth 100000
variable{C:Ctx}
theorem abS(hC:Has C DK qU)(b:UInt8)(O:St):ai C DK [.int .u8 b.toNat] O=some (.bool (vU b),O):=by
 rw[hC.go (NVs.hand (.cons (.int _ _) .nil) _)];have hx:vU b=(((b.toNat:Int)==32)||((b.toNat:Int)==9)||((b.toNat:Int)==10)||((b.toNat:Int)==13)):=by
  rw[Bool.eq_iff_iff];simp[vU];omega
 rw[hx];cases c1:((b.toNat:Int)==32)
 ·cases c2:((b.toNat:Int)==9)
  ·cases c3:((b.toNat:Int)==10)
   ·cases c4:((b.toNat:Int)==13)<;>simp only[qU,c1,c2,c3,c4,EVX,seval]
   ·simp only[qU,c1,c2,c3,Bool.or_true,Bool.true_or,EVX,seval]
  ·simp only[qU,c1,c2,Bool.or_true,Bool.true_or,EVX,seval]
 ·simp only[qU,c1,Bool.true_or,EVX,seval]
structure RV where
 place:Int
 k:Int
 a:Int
 z:Int
 n:Int
 t:BS
 after:Int
 count:Int
 depth:Int
def RV.cs(s:LU)(r:RV):LA:=[.str s,.int .i64 r.place,.int .u8 r.k,.int .i64 r.a,.int .i64 r.z,.int .i64 r.n,.str r.t.1,.int .i64 r.after,.int .i64 r.count,.int .i64 r.depth]
def RV.o(s:LU)(r:RV):AO:=.cells (r.cs s) FZ
theorem RV.below(s:LU)(r:RV):(r.o s).below 0=true:=rfl
theorem Ok.set{O:St}(h:Ok O)(o:Nat){x:AO}(hx:x.below 0=true):Ok (O.set o x):=by
 unfold Ok at*;rw[List.length_set];rw[List.all_eq_true]at*;intro y hy;rcases List.mem_or_eq_of_mem_set hy with hy|rfl
 ·exact h y hy
 ·exact AO.below_mono (Nat.zero_le _) _ hx
theorem Us(O:St)(o:Nat)(x:AO)(L:St)(k:Nat):(O.set o x++L)[O.length+k]?=L[k]?:=by
 rw[List.getElem?_append_right (by simp)]
 simp
theorem jG(O:St)(o:Nat)(x:AO)(L:St):(O.set o x++L)[O.length]?=L[0]?:=Us O o x L 0
theorem Ut(O:St)(o:Nat)(x y:AO)(L:St)(k:Nat):(O.set o x++L).set (O.length+k) y=O.set o x++L.set k y:=by
 rw[List.set_append_right _ _ (by simp)]
 simp
theorem sS(O:St)(o:Nat)(x y:AO)(L:St):(O.set o x++L).set O.length y=O.set o x++L.set 0 y:=Ut O o x y L 0
structure NextHas(C:Ctx):Prop where
 lex:QJ C
 space:Has C DK qU
 next:Has C Ac tN
theorem PT (H:NextHas C) (s:LU) (hs:s.length<1099511627777) (r:RV) (O:St) (o:Nat) (ho:o<O.length):∀(n i:Nat),i+n=s.length->
  aB C (ai C) 65 [0] dm [(0,.ref o 0)] (O.set o ({r with place:=(i:Int)}.o s))=some (.exit 0,[(0,.ref o 0)],O.set o ({r with place:=(runN vU s i:Nat)}.o s))
 |0,i,hi=>by
  rw[aA (he:=rfl)];have h:¬((i:Int)<(s.length:Int)):=by omega
  have h':=MX vU s i (by omega)
  have gs:∀x:AO,(O.set o x)[o]?=some x:=fun x=>by simp[ho]
  unfold RV.o RV.cs;simp only[dm,h,h',gs,EVX,seval]
 |n+1,i,hi=>by
  rw[aA (he:=rfl)];generalize hk:aB C (ai C) 65 [0] dm=k;have h:((i:Int)<(s.length:Int)):=by omega
  have h2:i<s.length:=by omega
  have hb:s[i]?=some s[i]:=List.getElem?_eq_getElem h2;have hw:=wrS i (by omega)
  have h3:(0:Int)<=i:=by omega
  have gs:∀x:AO,(O.set o x)[o]?=some x:=fun x=>by simp[ho]
  have ih:=PT H s hs r O o ho n (i+1) (by omega)
  rw[hk]at ih;have q:=fun Y=>abS H.space s[i] Y;dsimp only[RV.o,RV.cs]at*;cases hx:vU s[i]
  ·simp only[dm,h,h3,hb,gs,q,hx,MZ vU s i h2 hx,EVX,seval]
  ·simp only[dm,h,h3,hb,hw,gs,q,hx,gu vU s i h2 hx,splice,List.set_set,ih,EVX,seval]
theorem o9 (H:NextHas C) (s:LU) (hs:s.length<1099511627777) (r:RV) (hr:0<=r.after) (O:St) (hσ:Ok O) (o:Nat) (ho:O[o]?=some (r.o s)):
  ∃(r':RV) (e:Int),ai C Ac [.ref o 0] O=some (.int .i64 e,O.set o (r'.o s))/\0<=r'.after/\r'.count=r.count/\r'.depth=r.depth:=by
 have hl:o<O.length:=(List.getElem?_eq_some_iff.mp ho).1;have hn:hand false [.ref o 0] O=some ([.ref o 0],O):=rfl;have gs:∀(x:AO),(O.set o x)[o]?=some x:=fun x=>by simp[hl]
 have ga:∀(x:AO) (L:St),(O.set o x++L)[o]?=some x:=fun x L=>by rw[List.getElem?_append_left (by simpa using hl)];exact gs x
 have sa:∀(x y:AO) (L:St),(O.set o x++L).set o y=O.set o y++L:=fun x y L=>by rw[List.set_append_left _ _ (by simpa using hl),List.set_set]
 have ty:∀(p' k' a' z' n':Int) (t':LU) (f' c' d' e:Int) (L:St),tidy O.length [.int .i64 e] (O.set o (.cells [.str s,.int .i64 p',.int .u8 k',.int .i64 a',.int .i64 z',.int .i64 n',.str t',.int .i64 f',.int .i64 c',.int .i64 d'] FZ)++L)=O.set o (.cells [.str s,.int .i64 p',.int .u8 k',.int .i64 a',.int .i64 z',.int .i64 n',.str t',.int .i64 f',.int .i64 c',.int .i64 d'] FZ):=fun p' k' a' z' n' t' f' c' d' e L=>by
  have:=df (hσ.set o (x:=.cells [.str s,.int .i64 p',.int .u8 k',.int .i64 a',.int .i64 z',.int .i64 n',.str t',.int .i64 f',.int .i64 c',.int .i64 d'] FZ) rfl) (vs:=[.int .i64 e]) rfl L;rwa[List.length_set]at this
 rw[H.next.go hn];obtain⟨pl,k0,a0,z0,n0,t0,af,ct,dp⟩:=r;dsimp only at hr;obtain⟨i,rfl⟩:∃i:Nat,af=i:=⟨af.toNat,by omega⟩
 generalize hR:RV.mk pl k0 a0 z0 n0 t0 i ct dp=r at*;have hi:r.after=i:=by rw[<-hR]
 obtain⟨p,hp,lp⟩:∃p:Nat,0<=p/\aB C (ai C) 65 [0] dm [(0,.ref o 0)] (O.set o ({r with place:=(i:Int)}.o s))=some (.exit 0,[(0,.ref o 0)],O.set o ({r with place:=(p:Int)}.o s)):=by
  by_cases hle:i<=s.length
  ·exact⟨_,Nat.zero_le _,PT H s hs r O o hl (s.length-i) i (by omega)⟩
  ·refine⟨i,Nat.zero_le _,?_⟩;rw[aA (he:=rfl)];have h:¬((i:Int)<(s.length:Int)):=by omega
   unfold RV.o RV.cs;simp only[dm,h,gs,EVX,seval]
 obtain⟨v,q,k,a,z,m,t,e,rfl,hz,ht⟩:=ahe H.lex s hs p _ (hσ.set o (RV.below s {r with place:=(p:Int)}));by_cases c:e=0
 ·subst c;subst hR;refine⟨{place:=p,count:=ct,depth:=dp,k:=k,a:=a,z:=z,n:=m,t:=⟨t,ht⟩,after:=z},0,?_,hz,rfl,rfl⟩;unfold lG at*;dsimp only[RV.o,RV.cs]at*;simp only[tN,ho,gs,ga,sa,lp,q,splice,ty,List.length_set,jG,AV.cells,AV.flat,EVX,seval]
 ·have c':(e !=0)=true:=by simpa using c
  subst hR;refine⟨⟨p,k0,a0,z0,n0,t0,i,ct,dp⟩,e,?_,hr,rfl,rfl⟩;unfold lG at*;dsimp only[RV.o,RV.cs]at*;simp only[tN,ho,c',gs,lp,q,splice,ty,List.length_set,AV.cells,AV.flat,EVX,seval]
theorem zB(hC:Has C nT kE)(s:LU)(r:RV)(O:St)(o:Nat)(ho:O[o]?=some (r.o s)):∃e:Int,ai C nT [.ref o 0] O=some (.int .i64 e,O)/\e≠0:=by
 have hn:hand false [.ref o 0] O=some ([.ref o 0],O):=rfl;rw[hC.go hn];dsimp only[RV.o,RV.cs]at ho;cases c:(r.k==11)
 ·exact⟨3,by simp only[kE,ho,c,EVX,seval],by omega⟩
 ·exact⟨4,by simp only[kE,ho,c,EVX,seval],by omega⟩
structure ReadHas(C:Ctx)extends NextHas C where
 wrong:Has C nT kE
 expect:Has C xQ lX
 more:Has C Ad jq
def RV.keeps(r r':RV):Prop:=0<=r'.after/\r'.count=r.count/\r'.depth=r.depth
theorem U1 (H:ReadHas C) (s:LU) (hs:s.length<1099511627777) (kind:Int) (r:RV) (hr:0<=r.after) (O:St) (hσ:Ok O) (o:Nat) (ho:O[o]?=some (r.o s)):
  ∃(r':RV) (e:Int),ai C xQ [.ref o 0,.int .u8 kind] O=some (.int .i64 e,O.set o (r'.o s))/\r.keeps r':=by
 have hl:o<O.length:=(List.getElem?_eq_some_iff.mp ho).1;have hn:hand false [.ref o 0,.int .u8 kind] O=some ([.ref o 0,.int .u8 kind],O):=rfl;have ty0:∀(x:AO) (e:Int),tidy O.length [.int .i64 e] (O.set o x)=O.set o x:=fun x e=>by
  have:=aX (O.set o x) [.int .i64 e];rwa[List.length_set]at this
 obtain⟨r',e,q,k1,k2,k3⟩:=o9 H.toNextHas s hs r hr O hσ o ho;have g:(O.set o (r'.o s))[o]?=some (r'.o s):=by simp[hl]
 obtain⟨e2,w,we⟩:=zB H.wrong s r' _ o g;rw[H.expect.go hn];dsimp only[RV.o,RV.cs]at g w q;cases c:(e !=0)
 ·have c0:e=0:=by simpa using c
  subst c0;cases c2:(r'.k !=kind)
  ·exact⟨r',0,by dsimp only[RV.o,RV.cs];simp only[lX,q,g,c2,ty0,EVX,seval],k1,k2,k3⟩
  ·exact⟨r',e2,by dsimp only[RV.o,RV.cs];simp only[lX,q,g,w,c2,ty0,EVX,seval],k1,k2,k3⟩
 ·exact⟨r',e,by dsimp only[RV.o,RV.cs];simp only[lX,q,c,ty0,EVX,seval],k1,k2,k3⟩
theorem PV (H:ReadHas C) (s:LU) (hs:s.length<1099511627777) (last:Int) (r:RV) (hr:0<=r.after) (O:St) (hσ:Ok O) (o:Nat) (ho:O[o]?=some (r.o s)):
  ∃(r':RV) (b:Bool) (e:Int),ai C Ad [.ref o 0,.int .u8 last] O=some (.tup [.bool b,.int .i64 e],O.set o (r'.o s))/\r.keeps r':=by
 have hl:o<O.length:=(List.getElem?_eq_some_iff.mp ho).1;have hn:hand false [.ref o 0,.int .u8 last] O=some ([.ref o 0,.int .u8 last],O):=rfl;have ty0:∀(x:AO) (b:Bool) (e:Int),tidy O.length [.bool b,.int .i64 e] (O.set o x)=O.set o x:=fun x b e=>by
  have:=aX (O.set o x) [.bool b,.int .i64 e];rwa[List.length_set]at this
 obtain⟨r',e,q,k1,k2,k3⟩:=o9 H.toNextHas s hs r hr O hσ o ho;have g:(O.set o (r'.o s))[o]?=some (r'.o s):=by simp[hl]
 obtain⟨e2,w,we⟩:=zB H.wrong s r' _ o g;obtain⟨r2,e3,q2,m1,m2,m3⟩:=o9 H.toNextHas s hs r' k1 _ (hσ.set o (RV.below s r')) o g;rw[List.set_set]at q2;rw[H.more.go hn];dsimp only[RV.o,RV.cs]at g w q q2;cases c:(e !=0)
 ·have c0:e=0:=by simpa using c
  subst c0;cases c2:(r'.k==last)
  ·cases c3:(r'.k==5)
   ·exact⟨r',false,e2,by dsimp only[RV.o,RV.cs];simp only[jq,q,g,w,c2,c3,ty0,EVX,seval],k1,k2,k3⟩
   ·cases c4:(e3 !=0)
    ·have c0:e3=0:=by simpa using c4
     subst c0;exact⟨r2,true,0,by dsimp only[RV.o,RV.cs];simp only[jq,q,q2,g,c2,c3,ty0,EVX,seval],m1,m2.trans k2,m3.trans k3⟩
    ·exact⟨r2,false,e3,by dsimp only[RV.o,RV.cs];simp only[jq,q,q2,g,c2,c3,c4,ty0,EVX,seval],m1,m2.trans k2,m3.trans k3⟩
  ·exact⟨r',false,0,by dsimp only[RV.o,RV.cs];simp only[jq,q,g,c2,ty0,EVX,seval],k1,k2,k3⟩
 ·exact⟨r',false,e,by dsimp only[RV.o,RV.cs];simp only[jq,q,c,ty0,EVX,seval],k1,k2,k3⟩
theorem DV:∀l:List JV,NVs (aG l)
 |[]=>by rw[aG];exact .nil
 |j::l=>by
  rw[aG];intro v hv;rcases List.mem_append.mp hv with h|h
  ·exact j.nvs v h
  ·exact DV l v h
theorem aiD(l:List LU):NVs (l.map AV.str):=by
 intro v hv;obtain⟨s,_,rfl⟩:=List.mem_map.mp hv;exact .str _
def JV.zero:JV:=JV.leaf 0 0 [] lb0
theorem JV.zero_cs:JV.zero.cs=[.int .u8 0,.int .i64 0,.str [],.sl 0 [],.sl 0 []]:=JV.leaf_cs 0 0 [] lb0
structure W9(C:Ctx)(f:FuncId)(K:KF):Prop where
 fs:C.fs f=some K.forget
 prim:C.prim f=none
 raw:C.raw f=true
 ok:K.ok=true
def ajn(n:Nat)(rs:List XR)(r:RX):Option (AV×St):=match r with
 |some (.exit _,_,_)=>none
 |none=>none
 |some (_,e,O2)=>match bI e O2 rs with
  |none=>none
  |some vs=>some (bi vs,tidy n vs O2)
theorem W9.go{f:FuncId}{K:KF}(h:W9 C f K){args:LA}{O:St}(hl:Nat.ble args.length K.ntmps=true:=by rfl):ai C f args O=ajn O.length K.results (dI C (ai C) K.ntmps K.body (mg 0 args) O):=by
 have hl:=Nat.not_lt.mpr (Nat.le_of_ble_eq_true hl);rw[ain h.fs h.prim h.raw h.ok];unfold yH ajn;rw[show hand true args O=some (args,O)from rfl];dsimp only;rw[if_neg hl];rfl
theorem Zi(n rs e O):ajn n rs (some (.ret,e,O))=match bI e O rs with
 |none=>none
 |some vs=>some (bi vs,tidy n vs O):=rfl
theorem OQ(n rs e O):ajn n rs (some (.normal,e,O))=match bI e O rs with
 |none=>none
 |some vs=>some (bi vs,tidy n vs O):=rfl
abbrev EL:Type:=BS×JV
def elC(x:EL):LA:=.str x.1.1::x.2.cs
def jE(xs:List EL):LA:=xs.flatMap elC
theorem lI(x:EL):(elC x).length=6:=by simp[elC,JV.len]
theorem Zf(xs:List EL):(jE xs).length=xs.length*6:=dA lI xs
theorem Ql(x:EL):ae 0 (elC x)=true:=by
 unfold elC;rw[ae,JV.bel];rfl
theorem Rz(xs:List EL):ae 0 (jE xs)=true:=nN Ql xs
theorem vk(x:EL):(elC x).all AV.flat=true:=by
 unfold elC;rw[List.all_cons,JV.flat];rfl
theorem EU(x:EL)(R:LA):(elC x++R).take 6=elC x:=by
 rw[<-lI x];simp
theorem alO(x:EL)(R:LA):6<=(elC x++R).length:=by simp[lI]
theorem GV(xs:List EL)(i:Nat)(h:i<xs.length):(jE xs).drop (i*6)=elC xs[i]++jE (xs.drop (i+1)):=lL lI (List.getElem?_eq_getElem h)
def row(O:St)(o:Nat)(t:Option (TypeId×Bool))(xs:List EL):St:=O.set o (.cells (jE xs) ⟨false,t⟩)
theorem adL{O:St}{o:Nat}(h:o<O.length)(t:Option (TypeId×Bool))(xs:List EL):(row O o t xs)[o]?=some (.cells (jE xs) ⟨false,t⟩):=by simp[row,h]
theorem akb(O:St)(o:Nat)(t:Option (TypeId×Bool))(xs ys:List EL):(row O o t xs).set o (.cells (jE ys) ⟨false,t⟩)=row O o t ys:=by simp[row]
theorem Hy(O:St)(o:Nat)(t:Option (TypeId×Bool))(xs:List EL):(row O o t xs).length=O.length:=by simp[row]
structure apA(C:Ctx)(fc:FuncId)(c:EL->EL->Int):Prop where
 is:∀(x y:EL) (Y:St),Ok Y->ai C fc [.agg (elC x),.agg (elC y)] Y=some (.int .i64 (c x y),Y)
def ajk(fc:FuncId):AV:=.func (.func fc) [] []
theorem ajm(x:EL):NVs (elC x):=by
 unfold elC;exact .cons (.str _) x.2.nvs
theorem set_self{Y:St}{p:Nat}{x:AO}(h:Y[p]?=some x):Y.set p x=Y:=by
 apply List.ext_getElem?;intro i;rw[List.getElem?_set];split
 ·rename_i hp;subst hp;split
  ·exact h.symm
  ·rw[List.getElem?_eq_none (by omega)]at h;cases h
 ·rfl
theorem uw{S:St}{n:Nat}(h:S.length=n)(L:St)(k:Nat):(S++L)[n+k]?=L[k]?:=by
 subst h;rw[List.getElem?_append_right (by omega)]
 simp
theorem fH{S:St}{n:Nat}(h:S.length=n)(L:St):(S++L)[n]?=L[0]?:=uw h L 0
theorem aca{S:St}{n:Nat}(h:S.length=n)(L:St)(k:Nat)(y:AO):(S++L).set (n+k) y=S++L.set k y:=by
 subst h;rw[List.set_append_right _ _ (by omega)]
 simp
theorem pV{S:St}{n:Nat}(h:S.length=n)(L:St)(y:AO):(S++L).set n y=S++L.set 0 y:=aca h L 0 y
theorem aF{S:St}{q:Nat}{x:AO}(h:S[q]?=some x)(L:St):(S++L)[q]?=some x:=by
 rw[List.getElem?_append_left (List.getElem?_eq_some_iff.mp h).1];exact h
theorem eF{S:St}{q:Nat}{x:AO}(h:S[q]?=some x)(L:St)(y:AO):(S++L).set q y=S.set q y++L:=by
 rw[List.set_append_left _ _ (List.getElem?_eq_some_iff.mp h).1]
theorem bM{S:St}{q:Nat}{x:AO}(h:S[q]?=some x)(y:AO):(S.set q y)[q]?=some y:=by
 simp[(List.getElem?_eq_some_iff.mp h).1]
theorem aI{S:St}{p q:Nat}{x:AO}(h:S[p]?=some x)(hne:p≠q)(y:AO):(S.set q y)[p]?=some x:=by
 rw[List.getElem?_set_ne (fun e=>hne e.symm)];exact h
theorem cZ(S:St)(k q:Nat)(h:k<=q)(y:AO):(S.set q y).take k=S.take k:=by
 apply List.ext_getElem?;intro i;rw[List.getElem?_take,List.getElem?_take];split
 ·rw[List.getElem?_set_ne (by omega)]
 ·rfl
theorem oN(S L:St)(k:Nat)(h:k<=S.length):(S++L).take k=S.take k:=List.take_append_of_le_length h
def lH(xs:List EL):LA:=xs.map fun x=>.str x.1.1
def vT(xs:List EL):LA:=aG (xs.map (·.2))
theorem Jw(xs:List EL):(lH xs).length=xs.length:=by simp[lH]
theorem Ot(xs:List EL):(vT xs).length=xs.length*5:=by simp[vT,iZ]
theorem Pi(xs:List EL)(x:EL):lH (xs++[x])=lH xs++[.str x.1.1]:=by simp[lH]
theorem UC(xs:List EL)(x:EL):vT (xs++[x])=vT xs++x.2.cs:=by simp[vT,BZ,aG]
theorem NF{O:St}{sz bytes n m q:Nat}{l:LA}(cs:LA)(hq:O[q]?=some (.cells l FZ))(hm:¬m=0)(hl:l.length=n*sz)(h1:(n+m)*bytes<=70368744177664)(h2:n+m<=70368744177664):qV O sz bytes none (.msl q 0 n sz) m cs=some (.msl O.length 0 (n+m) sz,O.set q .dead++[.cells (l++cs) FZ]):=by
 unfold qV;rw[if_neg hm];simp only[hq];rw[if_pos ⟨trivial,hl,h1,h2⟩];rfl
def amu(q1 q2 n:Nat):AO:=.cells [.int .u8 5,.int .i64 0,.str [],.msl q1 0 n 1,.msl q2 0 n 5] FZ
structure alu(o n0 N:Nat)(t:Option (TypeId×Bool))(xs:List EL)(i q1 q2:Nat)(Y:St):Prop where
 row:Y[o]?=some (.cells (jE xs) ⟨false,t⟩)
 v:Y[n0+1]?=some (amu q1 q2 i)
 names:Y[q1]?=some (.cells (lH (xs.take i)) FZ)
 vals:Y[q2]?=some (.cells (vT (xs.take i)) FZ)
 lo:o<n0
 l1:n0+2<=q1
 l2:n0+2<=q2
 ne:q1≠q2
theorem PO (o n0 N:Nat) (hN:N<274877906944) (t:Option (TypeId×Bool)) (xs:List EL) (hx:xs.length=N):∀(n i q1 q2:Nat) (Y:St),i+n=N->1<=i->alu o n0 N t xs i q1 q2 Y->
  ∃(q1' q2':Nat) (Y':St),aB C (ai C) 31 [2,3,9,10,11] gB [(2,.ref n0 0),(3,.ref (n0+1) 0),(9,.msl o 0 N 6),(10,.int .i64 N),(11,.int .i64 i)] Y=some (.exit 0,[(2,.ref n0 0),(3,.ref (n0+1) 0)],Y')/\alu o n0 N t xs N q1' q2' Y'/\Y'.take (n0+1)=Y.take (n0+1)
 |0,i,q1,q2,Y,hi,h1,I=>by
  refine ⟨q1,q2,Y,?_,(by have:i=N:=by omega
                         subst this;exact I),rfl⟩
  rw[aA (he:=rfl)];have h:¬((i:Int)<(N:Int)):=by omega
  simp only[gB,h,EVX,seval]
 |n+1,i,q1,q2,Y,hi,h1,I=>by
  obtain⟨hrow,hv,hna,hva,hlo,hl1,hl2,hne⟩:=I;have iN:i<N:=by omega
  have li:i<xs.length:=by omega
  have h:((i:Int)<(N:Int)):=by omega
  have pi:(0:Int)<=(i:Int):=by omega
  have hw:=wrS i (by omega)
  have di:=GV xs i li;have ht:xs.take (i+1)=xs.take i++[xs[i]]:=by rw[List.take_succ_eq_append_getElem li]
  have lna:=Jw (xs.take i);have lva:=Ot (xs.take i);have lt:(xs.take i).length=i:=by simp;omega
  rw[lt]at lna lva;have ca:∀l,AV.cells (.agg l)=l:=fun _=>rfl;generalize hm:xs[i]=x at*;have S1:(Y.set q1 .dead).length=Y.length:=by simp
  have v1:=aI hv (show n0+1≠q1 by omega) .dead
  have a1:=aI hva (fun e=>hne e.symm) .dead;unfold amu at*;rw[aA (he:=rfl)];generalize hk:aB C (ai C) 31 [2,3,9,10,11] gB=k at*;have b0:=fun L=>aF hv L;have c0:=fun L=>aF hna L;have p0:=fun L y=>eF hna L y;have g1:=fun L=>fH (show Y.length=Y.length from rfl) L;have s1:=fun L y=>pV (show Y.length=Y.length from rfl) L y;have b1:=fun L=>aF v1 L;have pv:=fun L y=>eF v1 L y;have eh:(elC x).head? =some (.str x.1.1):=rfl;have et:(elC x).drop 1=x.2.cs:=rfl;have ek:x.2.cs.take 5=x.2.cs:=List.take_of_length_le (by rw[JV.len];exact Nat.le_refl _)
  have el:5<=x.2.cs.length:=by rw[JV.len];exact Nat.le_refl _
  have jl:=JV.len x.2;have jf:=JV.flat x.2;have na:=Pi (xs.take i) x;have va:=UC (xs.take i) x;have ap1:=NF (O:=Y++[.cells (elC x) FZ]) (sz:=1) (bytes:=16) (n:=i) (m:=1) [.str x.1.1] (c0 _) (by omega) (by rw[lna];omega) (by omega) (by omega)
  rw[p0,List.length_append,List.append_assoc]at ap1;simp only[List.length_cons,List.length_nil,List.cons_append,List.nil_append,Nat.zero_add,<-na]at ap1;have v2:=bM v1 (.cells [.int .u8 5,.int .i64 0,.str [],.msl (Y.length+1) 0 (i+1) 1,.msl q2 0 i 5] FZ);have a2:=aI a1 (show q2≠n0+1 by omega) (.cells [.int .u8 5,.int .i64 0,.str [],.msl (Y.length+1) 0 (i+1) 1,.msl q2 0 i 5] FZ)
  generalize hS2:(Y.set q1 .dead).set (n0+1) (.cells [.int .u8 5,.int .i64 0,.str [],.msl (Y.length+1) 0 (i+1) 1,.msl q2 0 i 5] FZ)=S2 at*;have S2l:S2.length=Y.length:=by rw[<-hS2];simp
  have b2:=fun L=>aF v2 L;have c2:=fun L=>aF a2 L;have p2:=fun L y=>eF a2 L y;have w1:=fun L=>fH S2l L;have ap2:=NF (O:=S2++[.cells (elC x) FZ,.cells (lH (xs.take i++[x])) FZ]) (sz:=5) (bytes:=80) (n:=i) (m:=1) x.2.cs (c2 _) (by omega) lva (by omega) (by omega)
  rw[p2,List.length_append,List.append_assoc,S2l]at ap2;simp only[List.length_cons,List.length_nil,List.cons_append,List.nil_append,Nat.zero_add,<-va]at ap2;have v3:=aI v2 (show n0+1≠q2 by omega) .dead
  have p3:=fun L y=>eF v3 L y;have b3:=fun L=>aF v3 L;simp only[gB,h,eh,et,ek,jl,jf,ap1,ap2,hS2,b2,w1,p3,b3,iN,pi,hw,di,hrow,b0,g1,s1,b1,pv,ca,EU,alO,lI,vk,splice,EVX,seval];have v4:=bM v3 (.cells [.int .u8 5,.int .i64 0,.str [],.msl (Y.length+1) 0 (i+1) 1,.msl (Y.length+2) 0 (i+1) 5] FZ);have o1:=aI hrow (show o≠q1 by omega) .dead
  have o2:=aI o1 (show o≠n0+1 by omega) (.cells [.int .u8 5,.int .i64 0,.str [],.msl (Y.length+1) 0 (i+1) 1,.msl q2 0 i 5] FZ)
  rw[hS2]at o2;have o3:=aI o2 (show o≠q2 by omega) .dead
  have o4:=aI o3 (show o≠n0+1 by omega) (.cells [.int .u8 5,.int .i64 0,.str [],.msl (Y.length+1) 0 (i+1) 1,.msl (Y.length+2) 0 (i+1) 5] FZ)
  have nl:n0+1<Y.length:=(List.getElem?_eq_some_iff.mp hv).1;have t4:((S2.set q2 .dead).set (n0+1) (.cells [.int .u8 5,.int .i64 0,.str [],.msl (Y.length+1) 0 (i+1) 1,.msl (Y.length+2) 0 (i+1) 5] FZ)).take (n0+1)=Y.take (n0+1):=by
   rw[cZ _ _ _ (Nat.le_refl _),cZ _ _ _ (by omega),<-hS2,cZ _ _ _ (Nat.le_refl _),cZ _ _ _ (by omega)]
  generalize hS4:(S2.set q2 .dead).set (n0+1) (.cells [.int .u8 5,.int .i64 0,.str [],.msl (Y.length+1) 0 (i+1) 1,.msl (Y.length+2) 0 (i+1) 5] FZ)=S4 at*;have S4l:S4.length=Y.length:=by rw[<-hS4];simp[S2l]
  obtain⟨q1',q2',Y',e1,e2,e3⟩:=PO o n0 N hN t xs hx n (i+1) (Y.length+1) (Y.length+2) (S4++[.cells (elC x) FZ,.cells (lH (xs.take i++[x])) FZ,.cells (vT (xs.take i++[x])) FZ]) (by omega) (by omega)
   ⟨aF o4 _,aF v4 _,by rw[uw S4l,ht];rfl,by rw[uw S4l,ht];rfl,hlo,by omega,by omega,by omega⟩
  rw[hk]at e1;exact⟨q1',q2',Y',e1,e2,by rw[e3,oN _ _ _ (by rw[S4l];omega),t4]⟩
theorem Yw (o:Nat) (O:St) (ho:o<O.length) (N:Nat) (hN:N<274877906944) (t:Option (TypeId×Bool)) (xs:List EL) (hx:xs.length=N) (h1:1<=N) (res:AO):
  ∃(q1 q2:Nat) (Y':St),aB C (ai C) 31 [2,3,9,10,11] gB [(2,.ref O.length 0),(3,.ref (O.length+1) 0),(9,.msl o 0 N 6),(10,.int .i64 N),(11,.int .i64 0)] (row O o t xs++[res,.cells [.int .u8 5,.int .i64 0,.str [],.nils,.nils] FZ])=some (.exit 0,[(2,.ref O.length 0),(3,.ref (O.length+1) 0)],Y')/\
   alu o O.length N t xs N q1 q2 Y'/\Y'.take (O.length+1)=row O o t xs++[res]:=by
 have rl:(row O o t xs).length=O.length:=Hy O o t xs;have hr:=adL ho t xs;have l0:0<xs.length:=by omega
 have h:((0:Int)<(N:Int)):=by omega
 have n0:0<N:=by omega
 have di:=GV xs 0 l0;have ht:xs.take 1=[xs[0]]:=by
  cases xs with
  |nil=>simp at l0
  |cons x l=>rfl
 generalize hm:xs[0]=x at*;have ca:∀l,AV.cells (.agg l)=l:=fun _=>rfl;have r0:=fun L=>aF hr L;have g2:=fun L k=>uw rl L k;have s2:=fun L k y=>aca rl L k y;have eh:(elC x).head? =some (.str x.1.1):=rfl;have et:(elC x).drop 1=x.2.cs:=rfl;have ek:x.2.cs.take 5=x.2.cs:=List.take_of_length_le (by rw[JV.len];exact Nat.le_refl _)
 have el:5<=x.2.cs.length:=by rw[JV.len];exact Nat.le_refl _
 have jl:=JV.len x.2;have jf:=JV.flat x.2;have ap1:∀S:St,qV S 1 16 none .nils 1 [.str x.1.1]=some (.msl S.length 0 1 1,S++[.cells [.str x.1.1] FZ]):=fun S=>Dj S none [.str x.1.1] (by omega) (by omega) (by omega)
 have ap2:∀S:St,qV S 5 80 none .nils 1 x.2.cs=some (.msl S.length 0 1 5,S++[.cells x.2.cs FZ]):=fun S=>Dj S none x.2.cs (by omega) (by omega) (by omega)
 rw[aA (he:=rfl)];have rc:=PO (C:=C) o O.length N hN t xs hx (N-1) 1 (O.length+3) (O.length+4) (row O o t xs++[res,.cells [.int .u8 5,.int .i64 0,.str [],.msl (O.length+3) 0 1 1,.msl (O.length+4) 0 1 5] FZ,.cells (elC x) FZ,.cells [.str x.1.1] FZ,.cells x.2.cs FZ]) (by omega) (Nat.le_refl _)
  ⟨aF hr _,by rw[uw rl];rfl,by rw[uw rl,ht];rfl,by rw[uw rl,ht];simp[vT,aG],by omega,by omega,by omega,by omega⟩
 obtain⟨q1,q2,Y',e1,e2,e3⟩:=rc;generalize hk:aB C (ai C) 31 [2,3,9,10,11] gB=k at*;refine⟨q1,q2,Y',?_,e2,?_⟩
 ·simp only[Int.cast_ofNat_Int]at e1;simp only[Nat.zero_mul]at di;simp only[gB,h,n0,di,r0,g2,s2,rl,ap1,ap2,eh,et,ek,jl,jf,ca,EU,lI,vk,splice,List.length_append,Nat.le_add_right,EVX,seval];exact e1
 ·rw[e3,List.take_append,rl];rw[List.take_of_length_le (by rw[rl];omega)]
  simp
def Qd(C:Ctx)(fs fc:FuncId):Prop:=∀(O:St),Ok O->∀(o:Nat),o<O.length->∀(t:Option (TypeId×Bool)) (N:Nat),N<1099511627776->∀xs:List EL,xs.length=N->∃xs':List EL,xs'.length=N/\ai C fs [.msl o 0 N 6,ajk fc] (row O o t xs)=some (.tup [],row O o t xs')
theorem aae (hS:Qd C dU yF) (hC:W9 C xw BK)
  (o:Nat) (O:St) (hσ:Ok O) (ho:o<O.length) (N:Nat) (hN:N<274877906944) (t:Option (TypeId×Bool)) (xs:List EL) (hx:xs.length=N) (hN1:1<=N):
  ∃(xs':List EL) (q1 q2:Nat) (Y':St),xs'.length=N/\ai C xw [.msl o 0 N 6] (row O o t xs)=some (.agg [.int .u8 5,.int .i64 0,.str [],.msl q1 0 N 1,.msl q2 0 N 5],Y')/\Y'.take O.length=row O o t xs'/\
   Y'[q1]?=some (.cells (lH xs') FZ)/\Y'[q2]?=some (.cells (vT xs') FZ)/\O.length+2<=q1/\O.length+2<=q2/\q1≠q2:=by
 have rl:=Hy O o t xs;have sr:∀ys:List EL,(O++[.cells [.int .u8 0,.int .i64 0,.str [],.nils,.nils] FZ]:St).set o (.cells (jE ys) ⟨false,t⟩)=row O o t ys++[.cells [.int .u8 0,.int .i64 0,.str [],.nils,.nils] FZ]:=fun ys=>by
  rw[List.set_append_left _ _ ho];rfl
 obtain⟨x1,k1,k2⟩:=hS (O++[.cells [.int .u8 0,.int .i64 0,.str [],.nils,.nils] FZ]) (hσ.plus rfl) o (by simp;omega) t N (by omega) xs hx
 unfold row at k2;rw[sr,sr]at k2;obtain⟨q1,q2,Y',e1,I,e3⟩:=Yw (C:=C) o O ho N hN t x1 k1 hN1 (.cells [.int .u8 0,.int .i64 0,.str [],.nils,.nils] FZ);obtain⟨i1,i2,i3,i4,i5,i6,i7,i8⟩:=I;have tk:x1.take N=x1:=List.take_of_length_le (by omega)
 rw[tk]at i3 i4;unfold amu at i2;have g0:Y'[O.length]?=some (.cells [.int .u8 0,.int .i64 0,.str [],.nils,.nils] FZ):=by
  have:(Y'.take (O.length+1))[O.length]?=some (.cells [.int .u8 0,.int .i64 0,.str [],.nils,.nils] FZ):=by
   rw[e3,fH (Hy O o t x1)];rfl
  rw[List.getElem?_take]at this;rwa[if_pos (by omega)]at this
 refine⟨x1,q1,q2,Y'.set O.length (.cells [.int .u8 5,.int .i64 0,.str [],.msl q1 0 N 1,.msl q2 0 N 5] FZ),k1,?_,?_,aI i3 (by omega) _,aI i4 (by omega) _,i6,i7,i8⟩
 ·have rl1:=Hy O o t x1;have s2:=fun L k y=>aca rl1 L k y;have g2:=fun L k=>uw rl1 L k;have gs:=bM g0 (.cells [.int .u8 5,.int .i64 0,.str [],.msl q1 0 N 1,.msl q2 0 N 5] FZ);have ty:∀S:St,tidy O.length [.agg [.int .u8 5,.int .i64 0,.str [],.msl q1 0 N 1,.msl q2 0 N 5]] S=S:=fun S=>wX (by
   have:¬q1<O.length:=by omega
   simp[ae,below,this]) S
  rw[hC.go,rl];unfold ajk at k2;simp only[BK,k2,e1,rl,rl1,s2,g2,g0,gs,i2,ty,bI,splice,AV.cells,AV.flat,Zi,EVX,seval]
 ·rw[cZ _ _ _ (Nat.le_refl _)];have:(Y'.take (O.length+1)).take O.length=row O o t x1:=by
   rw[e3,List.take_append_of_le_length (by rw[Hy];exact Nat.le_refl _),List.take_of_length_le (by rw[Hy];exact Nat.le_refl _)]
  rw[List.take_take]at this;rwa[Nat.min_eq_left (by omega)]at this
def aaN(C:Ctx)(s:LU)(m:Nat):Prop:=∀(r:RV) (O:St) (o:Nat),Ok O->O[o]?=some (r.o s)->0<=r.after->0<=r.count->8192<=r.count+m->
 ∃(j:JV) (e:Int) (r':RV),ai C rP [.ref o 0] O=some (.tup [j.av,.int .i64 e],O.set o (r'.o s))/\0<=r'.after/\r.count<=r'.count/\(e=0->r.count<r'.count/\r'.count<=8192)
def aj0(C:Ctx)(f:FuncId)(s:LU)(m:Nat):Prop:=∀(r:RV) (O:St) (o:Nat),Ok O->O[o]?=some (r.o s)->0<=r.after->0<=r.count->r.count<=8192->8192<=r.count+m->
 ∃(j:JV) (e:Int) (r':RV),ai C f [.ref o 0] O=some (.tup [j.av,.int .i64 e],O.set o (r'.o s))/\0<=r'.after/\r.count<=r'.count/\(e=0->r'.count<=8192)
theorem Gf{O:St}(hσ:Ok O)(o:Nat){x:AO}(hx:x.below 0=true)(vs:LA)(hv:ae 0 vs=true)(L:St):tidy O.length vs (O.set o x++L)=O.set o x:=by
 have:=df (hσ.set o hx) (vs:=vs) hv L;rwa[List.length_set]at this
def ni:AO:=.cells [.int .u8 0,.int .i64 0,.str [],.nils,.nils] FZ
theorem WS(hC:Has C rP aO)(hw:Has C nT kE)(s:LU)(m:Nat)(hL:0<m->aj0 C pK s (m-1))(hO:0<m->aj0 C mO s (m-1)):aaN C s m:=by
 intro r O o hσ ho ha hct hm;have hn:hand false [.ref o 0] O=some ([.ref o 0],O):=rfl;have okz:∀(x:AO) (hx:x.below 0=true) (L:St),L.all (AO.below 0)=true->Ok (O.set o x++L):=fun x hx L hL=>(hσ.set o hx).plus hL;obtain⟨e1,w,we⟩:=zB hw s r (O++[ni]) o (aF ho _);rw[hC.go hn];obtain⟨pl,k,a,z,n,t,af,ct,dp⟩:=r;dsimp only[RV.o,RV.cs,ni]at*;have g0:=fun L=>aF ho L;have p0:=fun L y=>eF ho L y;have g1:=fun x L=>aF (bM ho x) L;have p1:∀(x y:AO) (L:St),(O.set o x++L).set o y=O.set o y++L:=fun x y L=>by rw[eF (bM ho x),List.set_set]
 have sself:=set_self ho;have tyL:∀(q m':Int) (w:LU) (e p' k' a' z' n':Int) (t':LU) (f' c' d':Int) (L:St),tidy O.length [.agg [.int .u8 q,.int .i64 m',.str w,.sl 0 [],.sl 0 []],.int .i64 e] (O.set o (.cells [.str s,.int .i64 p',.int .u8 k',.int .i64 a',.int .i64 z',.int .i64 n',.str t',.int .i64 f',.int .i64 c',.int .i64 d'] FZ)++L)=O.set o (.cells [.str s,.int .i64 p',.int .u8 k',.int .i64 a',.int .i64 z',.int .i64 n',.str t',.int .i64 f',.int .i64 c',.int .i64 d'] FZ):=fun q m' w e p' k' a' z' n' t' f' c' d' L=>Gf hσ o rfl _ rfl L;have tyJ:∀(j:JV) (e p' k' a' z' n':Int) (t':LU) (f' c' d':Int) (L:St),tidy O.length [.agg j.cs,.int .i64 e] (O.set o (.cells [.str s,.int .i64 p',.int .u8 k',.int .i64 a',.int .i64 z',.int .i64 n',.str t',.int .i64 f',.int .i64 c',.int .i64 d'] FZ)++L)=O.set o (.cells [.str s,.int .i64 p',.int .u8 k',.int .i64 a',.int .i64 z',.int .i64 n',.str t',.int .i64 f',.int .i64 c',.int .i64 d'] FZ):=fun j e p' k' a' z' n' t' f' c' d' L=>Gf hσ o rfl _ (by rw[ae,below,j.bel];rfl) L
 have ty0:∀(e:Int) (L:St),tidy O.length [.agg [.int .u8 0,.int .i64 0,.str [],.sl 0 [],.sl 0 []],.int .i64 e] (O++L)=O:=fun e L=>df hσ (vs:=[.agg [.int .u8 0,.int .i64 0,.str [],.sl 0 [],.sl 0 []],.int .i64 e]) rfl L;by_cases h7:k=7
 ·subst h7;by_cases hc:8192<=ct
  ·refine⟨JV.zero,5,⟨pl,7,a,z,n,t,af,ct,dp⟩,?_,ha,Int.le_refl _,fun h=>absurd h (by decide)⟩
   dsimp only[RV.o,RV.cs];rw[sself];simp only[aO,hc,g0,ty0,bI,bu,dE,AV.cells,AV.flat,JV.av,JV.zero_cs,splice,EVX,seval]
  ·have hw1:IntKind.i64.wrap (ct+1)=ct+1:=wrE (by omega)
   refine⟨JV.leaf 1 1 [] lb0,0,⟨pl,7,a,z,n,t,af,ct+1,dp⟩,?_,ha,by dsimp only;omega,fun _=>by dsimp only;omega⟩
   simp only[aO,hc,hw1,g0,p0,g1,jG,sS,tyL,bI,bu,dE,AV.cells,AV.flat,JV.av,JV.leaf_cs,splice,EVX,seval]
 by_cases h8:k=8
 ·subst h8;by_cases hc:8192<=ct
  ·refine⟨JV.zero,5,⟨pl,8,a,z,n,t,af,ct,dp⟩,?_,ha,Int.le_refl _,fun h=>absurd h (by decide)⟩
   dsimp only[RV.o,RV.cs];rw[sself];simp only[aO,hc,g0,ty0,bI,bu,dE,AV.cells,AV.flat,JV.av,JV.zero_cs,splice,EVX,seval]
  ·have hw1:IntKind.i64.wrap (ct+1)=ct+1:=wrE (by omega)
   refine⟨JV.leaf 1 0 [] lb0,0,⟨pl,8,a,z,n,t,af,ct+1,dp⟩,?_,ha,by dsimp only;omega,fun _=>by dsimp only;omega⟩
   simp only[aO,hc,hw1,g0,p0,g1,jG,sS,tyL,bI,bu,dE,AV.cells,AV.flat,JV.av,JV.leaf_cs,splice,EVX,seval]
 by_cases h9:k=9
 ·subst h9;by_cases hc:8192<=ct
  ·refine⟨JV.zero,5,⟨pl,9,a,z,n,t,af,ct,dp⟩,?_,ha,Int.le_refl _,fun h=>absurd h (by decide)⟩
   dsimp only[RV.o,RV.cs];rw[sself];simp only[aO,hc,g0,ty0,bI,bu,dE,AV.cells,AV.flat,JV.av,JV.zero_cs,splice,EVX,seval]
  ·have hw1:IntKind.i64.wrap (ct+1)=ct+1:=wrE (by omega)
   refine⟨JV.leaf 2 n [] lb0,0,⟨pl,9,a,z,n,t,af,ct+1,dp⟩,?_,ha,by dsimp only;omega,fun _=>by dsimp only;omega⟩
   simp only[aO,hc,hw1,g0,p0,g1,jG,sS,tyL,bI,bu,dE,AV.cells,AV.flat,JV.av,JV.leaf_cs,splice,EVX,seval]
 by_cases h10:k=10
 ·subst h10;by_cases hc:8192<=ct
  ·refine⟨JV.zero,5,⟨pl,10,a,z,n,t,af,ct,dp⟩,?_,ha,Int.le_refl _,fun h=>absurd h (by decide)⟩
   dsimp only[RV.o,RV.cs];rw[sself];simp only[aO,hc,g0,ty0,bI,bu,dE,AV.cells,AV.flat,JV.av,JV.zero_cs,splice,EVX,seval]
  ·have hw1:IntKind.i64.wrap (ct+1)=ct+1:=wrE (by omega)
   refine⟨JV.leaf 3 0 t.1 t.2,0,⟨pl,10,a,z,n,t,af,ct+1,dp⟩,?_,ha,by dsimp only;omega,fun _=>by dsimp only;omega⟩
   simp only[aO,hc,hw1,g0,p0,g1,jG,sS,tyL,bI,bu,dE,AV.cells,AV.flat,JV.av,JV.leaf_cs,splice,EVX,seval]
 by_cases h1:k=1
 ·subst h1;by_cases hc:8192<=ct
  ·refine⟨JV.zero,5,⟨pl,1,a,z,n,t,af,ct,dp⟩,?_,ha,Int.le_refl _,fun h=>absurd h (by decide)⟩
   dsimp only[RV.o,RV.cs];rw[sself];simp only[aO,hc,g0,ty0,bI,bu,dE,AV.cells,AV.flat,JV.av,JV.zero_cs,splice,EVX,seval]
  ·have hw1:IntKind.i64.wrap (ct+1)=ct+1:=wrE (by omega)
   by_cases hd:12<=dp
   ·refine⟨JV.zero,8,⟨pl,1,a,z,n,t,af,ct+1,dp⟩,?_,ha,by dsimp only;omega,fun h=>absurd h (by decide)⟩
    simp only[aO,hc,hw1,hd,g0,p0,g1,jG,sS,tyL,bI,bu,dE,AV.cells,AV.flat,JV.av,JV.zero_cs,splice,EVX,seval]
   ·obtain⟨j,e,r2,q1,q2,q3,q4⟩:=hO (by omega) ⟨pl,1,a,z,n,t,af,ct+1,IntKind.i64.wrap (dp+1)⟩ (O.set o (RV.o s ⟨pl,1,a,z,n,t,af,ct+1,IntKind.i64.wrap (dp+1)⟩)++[ni,ni]) o (okz _ rfl _ rfl) (g1 _ _) ha (by dsimp only;omega) (by dsimp only;omega) (by dsimp only;omega)
    rw[p1]at q1;obtain⟨pl2,k2,a2,z2,n2,t2,af2,ct2,dp2⟩:=r2;dsimp only[RV.o,RV.cs,ni]at q1 q2 q3 q4;have nf:=fun Y r=>j.nvs.nf Y r;have jl:=JV.len j;have jf:=JV.flat j;have jt:j.cs.take 5=j.cs:=List.take_of_length_le (by rw[JV.len];exact Nat.le_refl _)
    have je:5<=j.cs.length:=by rw[JV.len];exact Nat.le_refl _
    refine⟨j,e,⟨pl2,k2,a2,z2,n2,t2,af2,ct2,IntKind.i64.wrap (dp2-1)⟩,?_,q2,by dsimp only at*;omega,fun h=>⟨by dsimp only at*;omega,q4 h⟩⟩
    simp only[aO,hc,hw1,hd,q1,nf,jl,jf,jt,tyJ,g0,p0,g1,p1,Us,jG,Ut,sS,bI,bu,AV.cells,AV.flat,JV.av,List.length_set,splice,EVX,seval]
 by_cases h3:k=3
 ·subst h3;by_cases hc:8192<=ct
  ·refine⟨JV.zero,5,⟨pl,3,a,z,n,t,af,ct,dp⟩,?_,ha,Int.le_refl _,fun h=>absurd h (by decide)⟩
   dsimp only[RV.o,RV.cs];rw[sself];simp only[aO,hc,g0,ty0,bI,bu,dE,AV.cells,AV.flat,JV.av,JV.zero_cs,splice,EVX,seval]
  ·have hw1:IntKind.i64.wrap (ct+1)=ct+1:=wrE (by omega)
   by_cases hd:12<=dp
   ·refine⟨JV.zero,8,⟨pl,3,a,z,n,t,af,ct+1,dp⟩,?_,ha,by dsimp only;omega,fun h=>absurd h (by decide)⟩
    simp only[aO,hc,hw1,hd,g0,p0,g1,jG,sS,tyL,bI,bu,dE,AV.cells,AV.flat,JV.av,JV.zero_cs,splice,EVX,seval]
   ·obtain⟨j,e,r2,q1,q2,q3,q4⟩:=hL (by omega) ⟨pl,3,a,z,n,t,af,ct+1,IntKind.i64.wrap (dp+1)⟩ (O.set o (RV.o s ⟨pl,3,a,z,n,t,af,ct+1,IntKind.i64.wrap (dp+1)⟩)++[ni,ni]) o (okz _ rfl _ rfl) (g1 _ _) ha (by dsimp only;omega) (by dsimp only;omega) (by dsimp only;omega)
    rw[p1]at q1;obtain⟨pl2,k2,a2,z2,n2,t2,af2,ct2,dp2⟩:=r2;dsimp only[RV.o,RV.cs,ni]at q1 q2 q3 q4;have nf:=fun Y r=>j.nvs.nf Y r;have jl:=JV.len j;have jf:=JV.flat j;have jt:j.cs.take 5=j.cs:=List.take_of_length_le (by rw[JV.len];exact Nat.le_refl _)
    have je:5<=j.cs.length:=by rw[JV.len];exact Nat.le_refl _
    refine⟨j,e,⟨pl2,k2,a2,z2,n2,t2,af2,ct2,IntKind.i64.wrap (dp2-1)⟩,?_,q2,by dsimp only at*;omega,fun h=>⟨by dsimp only at*;omega,q4 h⟩⟩
    simp only[aO,hc,hw1,hd,q1,nf,jl,jf,jt,tyJ,g0,p0,g1,p1,Us,jG,Ut,sS,bI,bu,AV.cells,AV.flat,JV.av,List.length_set,splice,EVX,seval]
 have n7:(k==7)=false:=by simpa using h7
 have n8:(k==8)=false:=by simpa using h8
 have n9:(k==9)=false:=by simpa using h9
 have n10:(k==10)=false:=by simpa using h10
 have n1:(k==1)=false:=by simpa using h1
 have n3:(k==3)=false:=by simpa using h3
 refine⟨JV.zero,e1,⟨pl,k,a,z,n,t,af,ct,dp⟩,?_,ha,Int.le_refl _,fun h=>absurd h we⟩;dsimp only[RV.o,RV.cs];rw[sself];simp only[aO,n7,n8,n9,n10,n1,n3,w,g0,ty0,bI,bu,dE,AV.cells,AV.flat,JV.av,JV.zero_cs,splice,EVX,seval]
theorem N8{Y:St}{q n sz:Nat}{l:LA}{fz:Fz}(hq:Y[q]?=some (.cells l fz))(hl:l.length=n*sz)(ns:NVs l):aU Y (bZ Y 11) (.msl q 0 n sz)=some (.sl n l,[q]):=by
 have nr:bZ Y 11 l=some (l,[]):=by
  show aJ Y (bZ Y 10) l=_;exact ns.nf _ _
 unfold aU;rw[hq];show(if 0+n*sz<=l.length then match bZ Y 11 ((l.drop 0).take (n*sz))with|some (l,fs)=>some (AV.sl n l,q::fs)|none=>none else none)=_
 rw[if_pos (by omega),List.drop_zero,List.take_of_length_le (by omega),nr]
theorem Ah{Y:St}{q:Nat}{l:LA}(hq:Y[q]?=some (.cells l FZ)):freeze Y [q]=Y.set q (.cells l ⟨true,none⟩):=by
 unfold freeze;rw[hq];rfl
theorem wY{O S:St}{vs:LA}{x:AO}{o:Nat}(hσ:Ok O)(hx:x.below 0=true)(hv:ae 0 vs=true)(h:S.take O.length=O.set o x):tidy O.length vs S=O.set o x:=by
 unfold tidy;have hl:(S.take O.length).length=O.length:=by rw[h];simp
 have hok:(S.take O.length).all (AO.below O.length)=true:=by
  have:=hσ.set o hx;unfold Ok at this;rw[List.length_set]at this;rw[h];exact this
 by_cases he:S.length=O.length
 ·rw[if_pos he,<-h,List.take_of_length_le (by omega)]
 ·rw[if_neg he,hok,aK (Nat.zero_le _) _ hv];exact h
def Xa(Y:St)(n0:Nat)(is:List JV)(x:AV):Prop:=(is=[]/\x=.nils)\/(is≠[]/\∃q,x=.msl q 0 is.length 5/\Y[q]?=some (.cells (aG is) FZ)/\n0+2<=q)
structure aln(s:LU)(O:St)(o:Nat)(r:RV)(is:List JV)(x:AV)(Y:St):Prop where
 hok:Ok Y
 hr:Y[o]?=some (r.o s)
 hres:Y[O.length]?=some ni
 hv:Y[O.length+1]?=some (.cells [.int .u8 4,.int .i64 0,.str [],.nils,x] FZ)
 his:Xa Y O.length is x
 hpre:Y.take O.length=O.set o (r.o s)
def ap7(s:LU)(O:St)(o:Nat)(ct:Int)(x:RX):Prop:=∃(r':RV) (e:Int) (Y':St) (l:LA),x=some (.ret,[(2,.ref O.length 0),(3,.int .i64 e)],Y')/\0<=r'.after/\ct<=r'.count/\(e=0->r'.count<=8192)/\Y'.take O.length=O.set o (r'.o s)/\
 Y'[O.length]?=some (.cells l FZ)/\(l=[.int .u8 0,.int .i64 0,.str [],.nils,.nils]\/∃(is:List JV) (q:Nat),is.length<=8192/\l=[.int .u8 4,.int .i64 0,.str [],.nils,.msl q 0 is.length 5]/\Y'[q]?=some (.cells (aG is) FZ)/\O.length+2<=q)
theorem Ok.set2{O:St}(h:Ok O)(o:Nat){x:AO}(hx:x.below O.length=true):Ok (O.set o x):=by
 unfold Ok at*;rw[List.length_set];rw[List.all_eq_true]at*;intro y hy;rcases List.mem_or_eq_of_mem_set hy with hy|rfl
 ·exact h y hy
 ·exact hx
theorem aaU {Y:St} {n0 o:Nat} {is:List JV} {x:AV} (j:JV) (c:AO) (h:Xa Y n0 is x) (hok:Ok Y) (hl:is.length<=8192) (ho:o<n0) {y z w:AO} (h1:Y[o]?=some y) (h2:Y[n0]?=some z) (h3:Y[n0+1]?=some w):
  ∃Y2:St,qV (Y++[c]) 5 80 none x 1 j.cs=some (.msl (Y.length+1) 0 (is.length+1) 5,Y2++[c,.cells (aG (is++[j])) FZ])/\Y2.length=Y.length/\Y2[o]?=some y/\Y2[n0]?=some z/\Y2[n0+1]?=some w/\Y2.take n0=Y.take n0/\Ok Y2:=by
 rcases h with⟨e1,e2⟩|⟨e1,q,e2,e3,e4⟩
 ·subst e1;subst e2;refine⟨Y,?_,rfl,h1,h2,h3,rfl,hok⟩;rw[Dj _ none j.cs (by omega) (by omega) (by omega)]
  simp[aG]
 ·subst e2;have hq:(Y++[c])[q]?=some (.cells (aG is) FZ):=aF e3 _;refine⟨Y.set q .dead,?_,by simp,aI h1 (by omega) _,aI h2 (by omega) _,aI h3 (by omega) _,cZ _ _ _ (by omega) _,hok.set2 _ rfl⟩
  rw[NF j.cs hq (by omega) (iZ is) (by omega) (by omega),eF e3,BZ]
  simp[aG]
theorem VU (H:ReadHas C) (s:LU) (hs:s.length<1099511627777) (m:Nat) (hV:aaN C s m) (O:St) (o:Nat) (hoσ:o<O.length):∀(k:Nat) (r:RV) (is:List JV) (x:AV) (Y:St),aln s O o r is x Y->0<=r.after->(is.length:Int)<=r.count->r.count<=8192->8192<=r.count+k->8192<=r.count+m->
  ap7 s O o r.count (aB C (ai C) 53 [0,2,4] bJ [(0,.ref o 0),(2,.ref O.length 0),(4,.ref (O.length+1) 0)] Y)
 |k,r,is,x,Y,I,ha,hc1,hc2,hk,hm=>by
  obtain⟨hok,hr,hres,hv,his,hpre⟩:=I;obtain⟨j,e,r1,v1,v2,v3,v4⟩:=hV r Y o hok hr ha (by omega) hm
  have T1:(Y.set o (r1.o s)).length=Y.length:=by simp
  have hr1:=bM hr (r1.o s);have hres1:=aI hres (show O.length≠o by omega) (r1.o s)
  have hv1:=aI hv (show O.length+1≠o by omega) (r1.o s)
  have ok1:=hok.set o (RV.below s r1);have hpre1:(Y.set o (r1.o s)).take O.length=O.set o (r1.o s):=by rw[List.take_set,hpre,List.set_set]
  have his1:Xa (Y.set o (r1.o s)) O.length is x:=by
   rcases his with h|⟨e1,q,e2,e3,e4⟩
   ·exact .inl h
   ·exact .inr ⟨e1,q,e2,aI e3 (by omega) _,e4⟩
  have nl:O.length+1<Y.length:=(List.getElem?_eq_some_iff.mp hv).1;generalize hS1:Y.set o (r1.o s)=S1 at*;have jl:=JV.len j;have jf:=JV.flat j;have jt:j.cs.take 5=j.cs:=List.take_of_length_le (by rw[JV.len];exact Nat.le_refl _)
  have je:5<=j.cs.length:=by rw[JV.len];exact Nat.le_refl _
  have d5:∀l:LA,l.length=5->l.drop 5=[]:=fun l h=>List.drop_eq_nil_of_le (by omega)
  have b1:=fun L=>aF hv1 L;have c1:=fun L=>aF hres1 L;have p1:=fun L y=>eF hres1 L y;dsimp only[ni]at*;rw[aA (he:=rfl)];cases ce:(e !=0)
  ·have e0:e=0:=by simpa using ce
   subst e0;obtain⟨w1,w2⟩:=v4 rfl;obtain⟨S2,a1,a2,a3,a4,a5,a6,a7⟩:=aaU j (.cells j.cs FZ) his1 ok1 (by omega) hoσ hr1 hres1 hv1
   rw[T1]at a1 a2;have b2:=fun L=>aF a5 L;have p2:=fun L y=>eF a5 L y;have ok3:Ok ((S2++[AO.cells j.cs FZ,AO.cells (aG (is++[j])) FZ]:St).set (O.length+1) (.cells [.int .u8 4,.int .i64 0,.str [],.nils,.msl (Y.length+1) 0 (is.length+1) 5] FZ)):=by
    refine Ok.set2 (a7.plus (by simp only[List.all_cons,List.all_nil,AO.below,JV.bel,fJ,Bool.and_true])) _ ?_
    rw[List.length_append,a2];simp[AO.below,ae,below]
   rw[p2]at ok3;have hr3:=aI a3 (show o≠O.length+1 by omega) (.cells [.int .u8 4,.int .i64 0,.str [],.nils,.msl (Y.length+1) 0 (is.length+1) 5] FZ)
   have hres3:=aI a4 (show O.length≠O.length+1 by omega) (.cells [.int .u8 4,.int .i64 0,.str [],.nils,.msl (Y.length+1) 0 (is.length+1) 5] FZ)
   have hv3:=bM a5 (.cells [.int .u8 4,.int .i64 0,.str [],.nils,.msl (Y.length+1) 0 (is.length+1) 5] FZ);have hpre3:(S2.set (O.length+1) (.cells [.int .u8 4,.int .i64 0,.str [],.nils,.msl (Y.length+1) 0 (is.length+1) 5] FZ)).take O.length=O.set o (r1.o s):=by
    rw[cZ _ _ _ (by omega),a6,hpre1]
   have T3:(S2.set (O.length+1) (.cells [.int .u8 4,.int .i64 0,.str [],.nils,.msl (Y.length+1) 0 (is.length+1) 5] FZ)).length=Y.length:=by simp[a2]
   generalize hS3:S2.set (O.length+1) (.cells [.int .u8 4,.int .i64 0,.str [],.nils,.msl (Y.length+1) 0 (is.length+1) 5] FZ)=S3 at*;obtain⟨r2,b,e2,m1,m2,m3,m4⟩:=PV H s hs 4 r1 v2 _ ok3 o (aF hr3 _);rw[eF hr3]at m1;have hr4:=bM hr3 (r2.o s);have hres4:=aI hres3 (show O.length≠o by omega) (r2.o s)
   have hv4:=aI hv3 (show O.length+1≠o by omega) (r2.o s)
   have T4:(S3.set o (r2.o s)).length=Y.length:=by simp[T3]
   have ok4:=ok3.set o (RV.below s r2);rw[eF hr3]at ok4;have hpre4:(S3.set o (r2.o s)).take O.length=O.set o (r2.o s):=by rw[List.take_set,hpre3,List.set_set]
   generalize hS4:S3.set o (r2.o s)=S4 at*;have c4:=fun L=>aF hres4 L;have p4:=fun L y=>eF hres4 L y;have v5:=fun L=>aF hv4 L;have oq:∀y L,(S4.set O.length y++L)[O.length]?=some y:=fun y L=>aF (bM hres4 y) L;have pq:∀y L,(S4.set O.length y++L).take O.length=O.set o (r2.o s):=fun y L=>by
    rw[oN _ _ _ (by simp[T4];omega),cZ _ _ _ (Nat.le_refl _),hpre4]
   have blk:∀y L,(S4.set O.length y++(AO.cells j.cs FZ::AO.cells (aG (is++[j])) FZ::L))[Y.length+1]?=some (.cells (aG (is++[j])) FZ):=fun y L=>by
    rw[uw (by simp[T4])];rfl
   cases ce2:(e2 !=0)
   ·have e0:e2=0:=by simpa using ce2
    subst e0;cases b
    ·
     refine⟨r2,0,S4.set O.length (.cells [.int .u8 4,.int .i64 0,.str [],.nils,.msl (Y.length+1) 0 (is.length+1) 5] FZ)++[.cells j.cs FZ,.cells (aG (is++[j])) FZ],_,?_,m2,by omega,fun _=>by omega,pq _ _,oq _ _,.inr ⟨is++[j],Y.length+1,by simp;omega,by simp,blk _ _,by omega⟩⟩
     generalize hk:aB C (ai C) 53 [0,2,4] bJ=kk at*;simp only[bJ,v1,b1,a1,b2,p2,hS3,m1,c4,p4,v5,jl,jf,jt,splice,d5,ce,AV.cells,AV.flat,JV.av,EVX,seval]
    ·
     have I2:aln s O o r2 (is++[j]) (.msl (Y.length+1) 0 (is.length+1) 5) (S4++[.cells j.cs FZ,.cells (aG (is++[j])) FZ]):=by
      refine⟨ok4,aF hr4 _,aF hres4 _,aF hv4 _,.inr ⟨by simp,Y.length+1,by simp,?_,by omega⟩,?_⟩
      ·rw[uw T4];rfl
      ·rw[oN _ _ _ (by omega),hpre4]
     have hk0:0<k:=by omega
     obtain⟨k,rfl⟩:∃k',k=k'+1:=⟨k-1,by omega⟩
     have ih:=VU H s hs m hV O o hoσ k r2 (is++[j]) _ _ I2 m2 (by simp;omega) (by omega) (by omega) (by omega)
     obtain⟨r',e',Y',l,i1,i2,i3,i4,i5,i6,i7⟩:=ih;refine⟨r',e',Y',l,?_,i2,by omega,i4,i5,i6,i7⟩
     generalize hk:aB C (ai C) 53 [0,2,4] bJ=kk at*;simp only[bJ,v1,b1,a1,b2,p2,hS3,m1,jl,jf,jt,splice,d5,ce,AV.cells,AV.flat,JV.av,i1,EVX,seval]
   ·refine⟨r2,e2,S4.set O.length (.cells [.int .u8 0,.int .i64 0,.str [],.nils,.nils] FZ)++[.cells j.cs FZ,.cells (aG (is++[j])) FZ],_,?_,m2,by omega,fun h=>absurd h (by simpa using ce2),pq _ _,oq _ _,.inl rfl⟩
    generalize hk:aB C (ai C) 53 [0,2,4] bJ=kk at*;simp only[bJ,v1,b1,a1,b2,p2,hS3,m1,c4,p4,jl,jf,jt,splice,d5,ce,ce2,AV.cells,AV.flat,JV.av,EVX,seval]
  ·refine⟨r1,e,S1.set O.length (.cells [.int .u8 0,.int .i64 0,.str [],.nils,.nils] FZ)++[.cells j.cs FZ],_,?_,v2,v3,fun h=>absurd h (by simpa using ce),?_,aF (bM hres1 _) _,.inl rfl⟩
   ·generalize hk:aB C (ai C) 53 [0,2,4] bJ=kk at*;simp only[bJ,v1,c1,p1,jl,jf,splice,d5,ce,AV.cells,AV.flat,JV.av,EVX,seval]
   ·rw[oN _ _ _ (by simp[T1];omega),cZ _ _ _ (Nat.le_refl _),hpre1]
theorem EW {O Y:St} {o:Nat} {x:AO} (hσ:Ok O) (hx:x.below 0=true) (e:Int) (E:As) (h2:look E 2=.ref O.length 0) (h3:look E 3=.int .i64 e) (hτ:Y.take O.length=O.set o x) (hl:Y[O.length]?=some (.cells [.int .u8 0,.int .i64 0,.str [],.nils,.nils] FZ)):
  BN O.length [.cell 2 true 5,.tmp 3] (some (.ret,E,Y))=some (.tup [JV.zero.av,.int .i64 e],O.set o x):=by
 rw[qJ];have:bI E Y [.cell 2 true 5,.tmp 3]=some [.agg [.int .u8 0,.int .i64 0,.str [],.nils,.nils],.int .i64 e]:=by
  simp only[bI,h2,h3,hl,pt,List.drop_zero,List.length_cons,List.length_nil,List.take];rfl
 rw[this];have hh:hand false [.agg [.int .u8 0,.int .i64 0,.str [],.nils,.nils],.int .i64 e] Y=some ([JV.zero.av,.int .i64 e],Y):=by
  rw[sN,aP,bu,aP,aP,aP,aP,aP,dE,zt,JV.av,JV.zero_cs];rfl
 dsimp only;rw[hh];dsimp only[bi];rw[wY hσ hx (by rw[ae,JV.av,below,JV.bel];rfl) hτ]
theorem agn {O Y:St} {o:Nat} {x:AO} (hσ:Ok O) (hx:x.below 0=true) (e:Int) (E:As) (h2:look E 2=.ref O.length 0) (h3:look E 3=.int .i64 e) (hτ:Y.take O.length=O.set o x) (is:List JV) (his:is.length<=8192) (q:Nat) (hl:Y[O.length]?=some (.cells [.int .u8 4,.int .i64 0,.str [],.nils,.msl q 0 is.length 5] FZ)) (hq:Y[q]?=some (.cells (aG is) FZ)) (hq2:O.length+2<=q):
  BN O.length [.cell 2 true 5,.tmp 3] (some (.ret,E,Y))=some (.tup [(JV.mk 4 0 [] [] is (by simp) (by omega) his (StB.nil lb0)).av,.int .i64 e],O.set o x):=by
 rw[qJ];have:bI E Y [.cell 2 true 5,.tmp 3]=some [.agg [.int .u8 4,.int .i64 0,.str [],.nils,.msl q 0 is.length 5],.int .i64 e]:=by
  simp only[bI,h2,h3,hl,pt,List.drop_zero,List.length_cons,List.length_nil,List.take];rfl
 rw[this];have hh:hand false [.agg [.int .u8 4,.int .i64 0,.str [],.nils,.msl q 0 is.length 5],.int .i64 e] Y=some ([(JV.mk 4 0 [] [] is (by simp) (by omega) his (StB.nil lb0)).av,.int .i64 e],Y.set q (.cells (aG is) ⟨true,none⟩)):=by
  rw[sN,aP,bu,aP,aP,aP,aP,aP,dE,N8 hq (iZ is) (DV is),zt,JV.av,JV.mk_cs,<-Ah hq];rfl
 dsimp only;rw[hh];dsimp only[bi];rw[wY hσ hx (by rw[ae,JV.av,below,JV.bel];rfl) (by rw[cZ _ _ _ (by omega),hτ])]
theorem ahq(H:ReadHas C)(hC:Has C pK lh)(s:LU)(hs:s.length<1099511627777)(m:Nat)(hV:aaN C s m):aj0 C pK s m:=by
 intro r O o hσ ho ha hc0 hc hm;have hl:o<O.length:=(List.getElem?_eq_some_iff.mp ho).1;have hn:hand false [.ref o 0] O=some ([.ref o 0],O):=rfl;have ok1:Ok (O++[.cells [.int .u8 0,.int .i64 0,.str [],.nils,.nils] FZ,.cells [.int .u8 4,.int .i64 0,.str [],.nils,.nils] FZ]):=hσ.plus rfl;obtain⟨r1,e,n1,n2,n3,n4⟩:=o9 H.toNextHas s hs r ha _ ok1 o (aF ho _);rw[eF ho]at n1;have g0:=fun x L=>aF (bM ho x) L;rw[hC.go hn];have L1:(O.set o (r1.o s)).length=O.length:=by simp
 have q0:=fun L=>fH L1 L;have q1:=fun L k=>uw L1 L k;have w0:=fun L y=>pV L1 L y;have e0:∀L:St,(O.set o (r1.o s)++L).take O.length=O.set o (r1.o s):=fun L=>by
  rw[List.take_append_of_le_length (by simp),List.take_of_length_le (by simp)]
 have q2:∀(x:AO) (L:St),(O.set o (r1.o s)++x::L)[O.length]?=some x:=fun x L=>by rw[q0];rfl
 have I:aln s O o r1 [] .nils (O.set o (r1.o s)++[ni,.cells [.int .u8 4,.int .i64 0,.str [],.nils,.nils] FZ]):=by
  refine⟨(hσ.set o (RV.below s r1)).plus rfl,g0 _ _,by rw[q0];rfl,by rw[q1];rfl,.inl ⟨rfl,rfl⟩,e0 _⟩
 obtain⟨r2,e2,Y2,l,i1,i2,i3,i4,i5,i6,i7⟩:=VU H s hs m hV O o hl 8192 r1 [] .nils _ I n2 (by simp;omega) (by omega) (by omega) (by omega)
 cases ce:(e !=0)
 ·have c0:e=0:=by simpa using ce
  subst c0;cases c4:(r1.k==4)
  ·have hi:∃j:JV,BN O.length [.cell 2 true 5,.tmp 3] (some (.ret,[(2,.ref O.length 0),(3,.int .i64 e2)],Y2))=some (.tup [j.av,.int .i64 e2],O.set o (r2.o s)):=by
    rcases i7 with i7|⟨is,q,i7,i8,i9,i10⟩
    ·subst i7;exact⟨_,EW hσ (RV.below s r2) e2 _ rfl rfl i5 i6⟩
    ·subst i8;exact⟨_,agn hσ (RV.below s r2) e2 _ rfl rfl i5 is i7 q i6 i9 i10⟩
   obtain⟨j,hj⟩:=hi;refine⟨j,e2,r2,?_,i2,by omega,i4⟩
   rw[<-hj];dsimp only[RV.o,RV.cs,ni]at*
   congr 1
   simp only[lh,n1,g0,c4,i1,splice,EVX,seval]
  ·refine⟨JV.leaf 4 0 [] lb0,0,r1,?_,n2,by omega,fun _=>by omega⟩
   have tk:=wY (S:=O.set o (r1.o s)++[AO.cells [.int .u8 4,.int .i64 0,.str [],.nils,.nils] FZ,AO.cells [.int .u8 4,.int .i64 0,.str [],.nils,.nils] FZ]) hσ (RV.below s r1) (vs:=[.agg [.int .u8 4,.int .i64 0,.str [],.sl 0 [],.sl 0 []],.int .i64 0]) rfl (e0 _);dsimp only[RV.o,RV.cs,ni]at*;simp only[lh,n1,g0,q0,q1,w0,c4,splice,tk,bI,bu,dE,AV.cells,AV.flat,JV.av,JV.leaf_cs,EVX,seval]
 ·refine⟨JV.zero,e,r1,?_,n2,by omega,fun h=>absurd h (by simpa using ce)⟩
  have hj:=EW hσ (RV.below s r1) e [(2,.ref O.length 0),(3,.int .i64 e)] rfl rfl (e0 _) (q2 (.cells [.int .u8 0,.int .i64 0,.str [],.nils,.nils] FZ) [.cells [.int .u8 4,.int .i64 0,.str [],.nils,.nils] FZ]);rw[<-hj];dsimp only[RV.o,RV.cs,ni]at*
  congr 1
  simp only[lh,n1,q0,w0,ce,splice,EVX,seval]
def wS(l:List (LU×Int)):List (AV×AV):=l.map fun p=>(.str p.1,.int .i64 p.2)
theorem ahv(l:List (LU×Int))(i:Nat)(s:LU)(n:Int):(wS l).set i (.str s,.int .i64 n)=wS (l.set i (s,n)):=by simp[wS,List.map_set]
theorem aeT(l:List (LU×Int))(s:LU)(n:Int):wS l++[(.str s,.int .i64 n)]=wS (l++[(s,n)]):=by simp[wS]
theorem Sj(s:LU):∀(l:List (LU×Int)) (k:Nat),mX (.str s) (wS l) k=some none\/∃(i:Nat) (n:Int),mX (.str s) (wS l) k=some (some (i,.int .i64 n))/\k<=i/\i<k+l.length
 |[],k=>.inl rfl
 |p::l,k=>by
  have hm:wS (p::l)=(.str p.1,.int .i64 p.2)::wS l:=rfl;rw[hm];simp only[mX,ZJ];cases iH s p.1
  ·rcases Sj s l (k+1)with h|⟨i,n,h,h1,h2⟩
   ·left;exact h
   ·right;refine⟨i,n,h,by omega,?_⟩
    rw[List.length_cons];omega
  ·right;refine⟨k,p.2,rfl,Nat.le_refl _,?_⟩;rw[List.length_cons];omega
def lookA(O:St)(z m k:AV):Option AV:=match mapOf O m with
 |some es=>match mX k es 0 with
  |some (some (_,v))=>some v
  |some none=>some z
  |none=>none
 |none=>none
def aoZ(O:St):Option AV->Option Out
 |some v=>some (.val v O)
 |none=>none
theorem uM(O:St)(v:AV):aoZ O (some v)=some (.val v O):=rfl
theorem O7(a:XA->AV)(n0:Nat)(O:St)(z:AV)(m k:XA):aj C a n0 O (.lookup z m k false)=aoZ O (lookA O z (a m) (a k)):=by
 rw[aj.eq_32];unfold lookA;cases mapOf O (a m)with
 |none=>rfl
 |some es=>
  dsimp only;cases mX (a k) es 0 with
  |none=>rfl
  |some x=>
   cases x with
   |none=>rfl
   |some q=>rfl
def aiN(O:St)(m k v:AV):Option St:=match m with
 |.map r=>match O[r]? with
  |some (.map es)=>match k with
   |.str s=>match mX (.str s) es 0 with
    |some (some (i,_))=>some (O.set r (.map (es.set i (.str s,v))))
    |some none=>some (O.set r (.map (es++[(.str s,v)])))
    |none=>none
   |_=>none
  |_=>none
 |_=>none
def aor:Option St->Option Out
 |some O=>some (.val .undef O)
 |none=>none
theorem Oa(O:St):aor (some O)=some (.val .undef O):=rfl
theorem ah2(a:XA->AV)(n0:Nat)(O:St)(m k v:XA):aj C a n0 O (.mapUpd m k v)=aor (aiN O (a m) (a k) (a v)):=by
 rw[aj.eq_33];unfold aiN;cases a m<;>try rfl
 dsimp only;rename_i r;cases O[r]? with
 |none=>rfl
 |some x=>
  cases x<;>try rfl
  dsimp only;cases a k<;>try rfl
  dsimp only;rename_i es s;cases mX (.str s) es 0 with
  |none=>rfl
  |some x=>
   cases x with
   |none=>rfl
   |some q=>rfl
theorem ZT{O:St}{p:Nat}{l:List (LU×Int)}(h:O[p]?=some (.map (wS l)))(s:LU):∃n:Int,∀L:St,lookA (O++L) (.int .i64 0) (.map p) (.str s)=some (.int .i64 n):=by
 rcases Sj s l 0 with f|⟨i,n,f,_,_⟩
 ·exact⟨0,fun L=>by simp only[lookA,mapOf,aF h,f]⟩
 ·exact⟨n,fun L=>by simp only[lookA,mapOf,aF h,f]⟩
theorem aku{O:St}{p:Nat}{l:List (LU×Int)}(h:O[p]?=some (.map (wS l)))(s:LU)(n:Int):∃l':List (LU×Int),∀L:St,aiN (O++L) (.map p) (.str s) (.int .i64 n)=some (O.set p (.map (wS l'))++L):=by
 rcases Sj s l 0 with f|⟨i,n',f,_,_⟩
 ·exact⟨l++[(s,n)],fun L=>by simp only[aiN,aF h,f,eF h,aeT]⟩
 ·exact⟨l.set i (s,n),fun L=>by simp only[aiN,aF h,f,eF h,ahv]⟩
theorem abC(k:Nat)(l:List (LU×Int)):(AO.map (wS l)).below k=true:=by
 show(ae k ((wS l).map (·.1))&&ae k ((wS l).map (·.2)))=true
 induction l with
 |nil=>rfl
 |cons p l ih=>
  rw[Bool.and_eq_true]at ih;show(ae k (.str p.1::(wS l).map (·.1))&&ae k (.int .i64 p.2::(wS l).map (·.2)))=true;rw[ae,ae,ih.1,ih.2];rfl
def aai:AO:=.cells [.str [],.int .u8 0,.int .i64 0,.str [],.nils,.nils] FZ
def zEL:EL:=(⟨[],lb0⟩,JV.zero)
theorem UI:elC zEL=[.str [],.int .u8 0,.int .i64 0,.str [],.sl 0 [],.sl 0 []]:=by simp[elC,zEL,JV.zero_cs]
theorem abD (H:ReadHas C) (hC:Has C jT bU) (s:LU) (hs:s.length<1099511627777) (m:Nat) (hV:aaN C s m) (r:RV) (O:St) (o p:Nat) (l:List (LU×Int)) (hσ:Ok O) (ho:O[o]?=some (r.o s)) (hp:O[p]?=some (.map (wS l))) (ha:0<=r.after) (hc0:0<=r.count) (hm:8192<=r.count+m):
  ∃(x:EL) (e:Int) (r':RV),ai C jT [.ref o 0,.map p] O=some (.tup [.agg (elC x),.int .i64 e],O.set o (r'.o s))/\0<=r'.after/\r.count<=r'.count/\(e=0->r.count<r'.count/\r'.count<=8192):=by
 have hn:hand false [.ref o 0,.map p] O=some ([.ref o 0,.map p],O):=rfl;have ok1:Ok (O++[aai]):=hσ.plus rfl;obtain⟨e0,w,we⟩:=zB H.wrong s r (O++[aai]) o (aF ho _);obtain⟨r1,e1,x1,x2,x3,x4⟩:=U1 H s hs 6 r ha _ ok1 o (aF ho _);rw[eF ho]at x1;have ho1:=bM ho (r1.o s);have ok2:Ok (O.set o (r1.o s)++[aai]):=(hσ.set o (RV.below s r1)).plus rfl;obtain⟨r2,e2,y1,y2,y3,y4⟩:=o9 H.toNextHas s hs r1 x2 _ ok2 o (aF ho1 _);rw[eF ho1,List.set_set]at y1;have ho2:=bM ho (r2.o s);have ok3:Ok (O.set o (r2.o s)++[aai]):=(hσ.set o (RV.below s r2)).plus rfl;obtain⟨j,e3,r3,z1,z2,z3,z4⟩:=hV r2 _ o ok3 (aF ho2 _) y2 (by omega) (by omega)
 rw[eF ho2,List.set_set]at z1;have g0:=fun L=>aF ho L;have tyZ:∀(x:AO) (hx:x.below 0=true) (e:Int) (L:St),tidy O.length [.agg [.str [],.int .u8 0,.int .i64 0,.str [],.sl 0 [],.sl 0 []],.int .i64 e] (O.set o x++L)=O.set o x:=fun x hx e L=>Gf hσ o hx _ rfl L;have tyx:∀(x:AO) (hx:x.below 0=true) (y:LA) (hy:ae 0 y=true) (e:Int) (L:St),tidy O.length [.agg y,.int .i64 e] (O.set o x++L)=O.set o x:=fun x hx y hy e L=>Gf hσ o hx _ (by rw[ae,below,hy];rfl) L
 have ty0:∀(e:Int) (L:St),tidy O.length [.agg [.str [],.int .u8 0,.int .i64 0,.str [],.sl 0 [],.sl 0 []],.int .i64 e] (O++L)=O:=fun e L=>df hσ rfl L;have t1:=fun e L=>tyZ (r1.o s) (RV.below s r1) e L;have t2:=fun e L=>tyZ (r2.o s) (RV.below s r2) e L;have t3:=fun e L=>tyZ (r3.o s) (RV.below s r3) e L;have t4:=fun e L=>tyx (r3.o s) (RV.below s r3) (elC (r.t,j)) (Ql _) e L;have nf:=fun Y r'=>(ajm (r.t,j)).nf Y r';have sself:=set_self ho;have jl:=JV.len j;have jf:=JV.flat j;have jt:j.cs.take 5=j.cs:=List.take_of_length_le (by rw[JV.len];exact Nat.le_refl _)
 have je:5<=j.cs.length:=by rw[JV.len];exact Nat.le_refl _
 have el:=lI (r.t,j);have ef:=vk (r.t,j);have et:(elC (r.t,j)).take 6=elC (r.t,j):=List.take_of_length_le (by rw[lI];exact Nat.le_refl _)
 have d5:∀l:LA,l.length=5->l.drop 5=[]:=fun l h=>List.drop_eq_nil_of_le (by omega)
 have eb:AV.str r.t.1::j.cs=elC (r.t,j):=rfl;rw[hC.go hn];dsimp only[RV.o,RV.cs,aai]at*;cases ck:(r.k !=10)
 ·
  obtain⟨n,go⟩:=ZT hp r.t;cases cn:decide (n>0)
  ·cases c1:(e1 !=0)
   ·cases c2:(e2 !=0)
    ·cases c3:(e3 !=0)
     ·have c0:e3=0:=by simpa using c3
      subst c0;refine⟨(r.t,j),0,r3,?_,z2,by omega,fun _=>by have:=z4 rfl;omega⟩
      simp only[bU,ck,cn,go,↓O7,uM,c1,c2,c3,x1,y1,z1,g0,t4,nf,jl,jf,jt,el,ef,et,eb,d5,Us,jG,Ut,sS,bI,bu,AV.cells,JV.av,List.length_set,splice,EVX,seval]
     ·refine⟨zEL,e3,r3,?_,z2,by omega,fun h=>absurd h (by simpa using c3)⟩
      simp only[bU,ck,cn,go,↓O7,uM,c1,c2,c3,x1,y1,z1,g0,t3,jl,jf,d5,UI,Us,jG,Ut,sS,bI,bu,dE,AV.cells,AV.flat,JV.av,List.length_set,splice,EVX,seval]
    ·refine⟨zEL,e2,r2,?_,y2,by omega,fun h=>absurd h (by simpa using c2)⟩
     simp only[bU,ck,cn,go,↓O7,uM,c1,c2,x1,y1,g0,t2,d5,UI,jG,sS,bI,bu,dE,AV.cells,AV.flat,splice,EVX,seval]
   ·refine⟨zEL,e1,r1,?_,x2,by omega,fun h=>absurd h (by simpa using c1)⟩
    simp only[bU,ck,cn,go,↓O7,uM,c1,x1,g0,t1,d5,UI,jG,sS,bI,bu,dE,AV.cells,AV.flat,splice,EVX,seval]
  ·refine⟨zEL,7,r,?_,ha,by omega,fun h=>absurd h (by omega)⟩
   rw[sself];simp only[bU,ck,cn,go,↓O7,uM,g0,ty0,d5,UI,bI,bu,dE,AV.cells,AV.flat,splice,EVX,seval]
 ·refine⟨zEL,e0,r,?_,ha,by omega,fun h=>absurd h we⟩
  rw[sself];simp only[bU,ck,w,g0,ty0,d5,UI,bI,bu,dE,AV.cells,AV.flat,splice,EVX,seval]
structure SortHas(C:Ctx):Prop where
 srt:Qd C dU yF
 sorted:W9 C xw BK
def alv(Y:St)(n0:Nat)(xs:List EL)(x:AV):Prop:=(xs=[]/\x=.nils)\/(xs≠[]/\∃q,x=.msl q 0 xs.length 6/\Y[q]?=some (.cells (jE xs) FZ)/\n0+2<=q)
theorem aep(xs:List EL)(x:EL):jE (xs++[x])=jE xs++elC x:=by simp[jE]
theorem alC {Y:St} {n0:Nat} {xs:List EL} {x:AV} (y:EL) (c:AO) (h:alv Y n0 xs x) (hok:Ok Y) (hl:xs.length<=8192):
  ∃Y2:St,qV (Y++[c]) 6 96 none x 1 (elC y)=some (.msl (Y.length+1) 0 (xs.length+1) 6,Y2++[c,.cells (jE (xs++[y])) FZ])/\Y2.length=Y.length/\(∀(i:Nat) (w:AO),i<n0+2->Y[i]?=some w->Y2[i]?=some w)/\Y2.take n0=Y.take n0/\Ok Y2:=by
 rcases h with⟨e1,e2⟩|⟨e1,q,e2,e3,e4⟩
 ·subst e1;subst e2;refine⟨Y,?_,rfl,fun _ _ _ h=>h,rfl,hok⟩;rw[Dj _ none (elC y) (by omega) (by omega) (by omega)]
  simp[jE]
 ·subst e2;have hq:(Y++[c])[q]?=some (.cells (jE xs) FZ):=aF e3 _;refine⟨Y.set q .dead,?_,by simp,fun i w hi h=>aI h (by omega) _,cZ _ _ _ (by omega) _,hok.set2 _ rfl⟩
  rw[NF (elC y) hq (by omega) (Zf xs) (by omega) (by omega),eF e3,aep]
  simp
structure alr(s:LU)(O:St)(o:Nat)(r:RV)(xs:List EL)(x:AV)(Y:St):Prop where
 hok:Ok Y
 hr:Y[o]?=some (r.o s)
 hres:Y[O.length]?=some ni
 hmap:∃l,Y[O.length+1]?=some (.map (wS l))
 hxs:alv Y O.length xs x
 hpre:Y.take O.length=O.set o (r.o s)
def apa(s:LU)(O:St)(o:Nat)(ct:Int)(x:RX):Prop:=∃(r':RV) (e:Int) (Y':St) (l:LA),x=some (.ret,[(2,.ref O.length 0),(3,.int .i64 e)],Y')/\0<=r'.after/\ct<=r'.count/\(e=0->r'.count<=8192)/\Y'.take O.length=O.set o (r'.o s)/\
 Y'[O.length]?=some (.cells l FZ)/\(l=[.int .u8 0,.int .i64 0,.str [],.nils,.nils]\/∃(xs:List EL) (q1 q2:Nat),xs.length<=8192/\l=[.int .u8 5,.int .i64 0,.str [],.msl q1 0 xs.length 1,.msl q2 0 xs.length 5]/\Y'[q1]?=some (.cells (lH xs) FZ)/\Y'[q2]?=some (.cells (vT xs) FZ)/\O.length+2<=q1/\O.length+2<=q2/\q1≠q2)
theorem Pm (H:ReadHas C) (HS:SortHas C) (hM:Has C jT bU) (s:LU) (hs:s.length<1099511627777) (m:Nat) (hV:aaN C s m) (O:St) (o:Nat) (hoσ:o<O.length):∀(k:Nat) (r:RV) (xs:List EL) (x:AV) (Y:St),alr s O o r xs x Y->0<=r.after->(xs.length:Int)<=r.count->r.count<=8192->8192<=r.count+k->8192<=r.count+m->
  apa s O o r.count (aB C (ai C) 59 [0,2,5,6] bC [(0,.ref o 0),(2,.ref O.length 0),(5,x),(6,.map (O.length+1))] Y)
 |k,r,xs,x,Y,I,ha,hc1,hc2,hk,hm=>by
  obtain⟨hok,hr,hres,⟨ml,hmap⟩,hxs,hpre⟩:=I;obtain⟨j,e,r1,v1,v2,v3,v4⟩:=abD H hM s hs m hV r Y o (O.length+1) ml hok hr hmap ha (by omega) hm
  have T1:(Y.set o (r1.o s)).length=Y.length:=by simp
  have hr1:=bM hr (r1.o s);have hres1:=aI hres (show O.length≠o by omega) (r1.o s)
  have hmap1:=aI hmap (show O.length+1≠o by omega) (r1.o s)
  have ok1:=hok.set o (RV.below s r1);have hpre1:(Y.set o (r1.o s)).take O.length=O.set o (r1.o s):=by rw[List.take_set,hpre,List.set_set]
  have hxs1:alv (Y.set o (r1.o s)) O.length xs x:=by
   rcases hxs with h|⟨e1,q,e2,e3,e4⟩
   ·exact .inl h
   ·exact .inr ⟨e1,q,e2,aI e3 (by omega) _,e4⟩
  have nl:O.length+1<Y.length:=(List.getElem?_eq_some_iff.mp hmap).1;generalize hS1:Y.set o (r1.o s)=S1 at*;have jl:=lI j;have jf:=vk j;have jt:(elC j).take 6=elC j:=List.take_of_length_le (by rw[lI];exact Nat.le_refl _)
  have je:6<=(elC j).length:=by rw[lI];exact Nat.le_refl _
  have eh:(elC j).head? =some (.str j.1.1):=rfl;have d6:∀l:LA,l.length=6->l.drop 6=[]:=fun l h=>List.drop_eq_nil_of_le (by omega)
  have c1:=fun L=>aF hres1 L;have p1:=fun L y=>eF hres1 L y;dsimp only[ni]at*;rw[aA (he:=rfl)];cases ce:(e !=0)
  ·have e0:e=0:=by simpa using ce
   subst e0;obtain⟨w1,w2⟩:=v4 rfl;obtain⟨S2,a1,a2,a3,a6,a7⟩:=alC j (.cells (elC j) FZ) hxs1 ok1 (by omega)
   rw[T1]at a1 a2;have hr2:=a3 o _ (by omega) hr1
   have hres2:=a3 O.length _ (by omega) hres1
   have hmap2:=a3 (O.length+1) _ (by omega) hmap1
   have g2:=fun L=>fH (a2.trans T1.symm) L;obtain⟨n,lk⟩:=ZT hmap2 j.1.1;obtain⟨ml2,up⟩:=aku hmap2 j.1.1 (IntKind.i64.wrap (n+1));have ok3:Ok ((S2++[AO.cells (elC j) FZ,AO.cells (jE (xs++[j])) FZ]:St).set (O.length+1) (.map (wS ml2))):=by
    exact Ok.set2 (a7.plus (by simp only[List.all_cons,List.all_nil,AO.below,Ql,Rz,Bool.and_true])) _ (abC _ _)
   rw[eF hmap2]at ok3;have hr3:=aI hr2 (show o≠O.length+1 by omega) (.map (wS ml2))
   have hres3:=aI hres2 (show O.length≠O.length+1 by omega) (.map (wS ml2))
   have hmap3:=bM hmap2 (.map (wS ml2));have hpre3:(S2.set (O.length+1) (.map (wS ml2))).take O.length=O.set o (r1.o s):=by
    rw[cZ _ _ _ (by omega),a6,hpre1]
   have T3:(S2.set (O.length+1) (.map (wS ml2))).length=Y.length:=by simp[a2]
   generalize hS3:S2.set (O.length+1) (.map (wS ml2))=S3 at*;obtain⟨r2,b,e2,m1,m2,m3,m4⟩:=PV H s hs 2 r1 v2 _ ok3 o (aF hr3 _);rw[eF hr3]at m1;have hr4:=bM hr3 (r2.o s);have hres4:=aI hres3 (show O.length≠o by omega) (r2.o s)
   have hmap4:=aI hmap3 (show O.length+1≠o by omega) (r2.o s)
   have T4:(S3.set o (r2.o s)).length=Y.length:=by simp[T3]
   have ok4:=ok3.set o (RV.below s r2);rw[eF hr3]at ok4;have hpre4:(S3.set o (r2.o s)).take O.length=O.set o (r2.o s):=by rw[List.take_set,hpre3,List.set_set]
   generalize hS4:S3.set o (r2.o s)=S4 at*;have c4:=fun L=>aF hres4 L;have p4:=fun L y=>eF hres4 L y;have blk:(S4++[AO.cells (elC j) FZ,AO.cells (jE (xs++[j])) FZ]:St)[Y.length+1]?=some (.cells (jE (xs++[j])) FZ):=by
    rw[uw T4];rfl
   cases ce2:(e2 !=0)
   ·have e0:e2=0:=by simpa using ce2
    subst e0;cases b
    ·
     have bl:Y.length+1<(S4++[AO.cells (elC j) FZ,AO.cells (jE (xs++[j])) FZ]:St).length:=(List.getElem?_eq_some_iff.mp blk).1;obtain⟨xs',q1,q2,Y',k1,k2,k3,k4,k5,k6,k7,k8⟩:=aae HS.srt HS.sorted (Y.length+1) _ ok4 bl (xs.length+1) (by omega) none (xs++[j]) (by simp) (by omega)
     unfold row at k2 k3;rw[set_self blk]at k2;have tl:∀y:AO,(Y'.take (S4++[AO.cells (elC j) FZ,AO.cells (jE (xs++[j])) FZ]:St).length).take O.length=O.set o (r2.o s):=fun _=>by
      rw[k3,cZ _ _ _ (by omega),oN _ _ _ (by omega),hpre4]
     have tk:Y'.take O.length=O.set o (r2.o s):=by
      have:=tl .dead;rw[List.take_take,Nat.min_eq_left (by simp[T4];omega)]at this
      exact this
     have rz:Y'[O.length]?=some (.cells [.int .u8 0,.int .i64 0,.str [],.nils,.nils] FZ):=by
      have h1:(Y'.take (S4++[AO.cells (elC j) FZ,AO.cells (jE (xs++[j])) FZ]:St).length)[O.length]?=some (.cells [.int .u8 0,.int .i64 0,.str [],.nils,.nils] FZ):=by
       rw[k3];exact aI (aF hres4 _) (by omega) _
      rw[List.getElem?_take]at h1;rwa[if_pos (by simp[T4];omega)]at h1
     have ll:O.length<(S4++[AO.cells (elC j) FZ,AO.cells (jE (xs++[j])) FZ]:St).length:=by simp[T4];omega
     refine⟨r2,0,Y'.set O.length (.cells [.int .u8 5,.int .i64 0,.str [],.msl q1 0 (xs.length+1) 1,.msl q2 0 (xs.length+1) 5] FZ),_,?_,m2,by omega,fun _=>by omega,by rw[cZ _ _ _ (Nat.le_refl _),tk],bM rz _,.inr ⟨xs',q1,q2,by rw[k1];omega,by rw[k1],aI k4 (by omega) _,aI k5 (by omega) _,by omega,by omega,k8⟩⟩
     generalize hk:aB C (ai C) 59 [0,2,5,6] bC=kk at*;simp only[bC,v1,a1,g2,lk,up,m1,k2,rz,jl,jf,jt,eh,splice,d6,ce,AV.cells,AV.flat,↓O7,↓ah2,uM,Oa,EVX,seval]
    ·
     have I2:alr s O o r2 (xs++[j]) (.msl (Y.length+1) 0 (xs.length+1) 6) (S4++[.cells (elC j) FZ,.cells (jE (xs++[j])) FZ]):=by
      refine⟨ok4,aF hr4 _,aF hres4 _,⟨ml2,aF hmap4 _⟩,.inr ⟨by simp,Y.length+1,by simp,blk,by omega⟩,?_⟩
      rw[oN _ _ _ (by omega),hpre4]
     have hk0:0<k:=by omega
     obtain⟨k,rfl⟩:∃k',k=k'+1:=⟨k-1,by omega⟩
     have ih:=Pm H HS hM s hs m hV O o hoσ k r2 (xs++[j]) _ _ I2 m2 (by simp;omega) (by omega) (by omega) (by omega)
     obtain⟨r',e',Y',l,i1,i2,i3,i4,i5,i6,i7⟩:=ih;refine⟨r',e',Y',l,?_,i2,by omega,i4,i5,i6,i7⟩
     generalize hk:aB C (ai C) 59 [0,2,5,6] bC=kk at*;simp only[bC,v1,a1,g2,lk,up,m1,i1,jl,jf,jt,eh,splice,d6,ce,AV.cells,↓O7,↓ah2,uM,Oa,EVX,seval]
   ·refine⟨r2,e2,S4.set O.length (.cells [.int .u8 0,.int .i64 0,.str [],.nils,.nils] FZ)++[.cells (elC j) FZ,.cells (jE (xs++[j])) FZ],_,?_,m2,by omega,fun h=>absurd h (by simpa using ce2),?_,aF (bM hres4 _) _,.inl rfl⟩
    ·generalize hk:aB C (ai C) 59 [0,2,5,6] bC=kk at*;simp only[bC,v1,a1,g2,lk,up,m1,c4,p4,jl,jf,jt,eh,splice,d6,ce,ce2,AV.cells,AV.flat,↓O7,↓ah2,uM,Oa,EVX,seval]
    ·rw[oN _ _ _ (by simp[T4];omega),cZ _ _ _ (Nat.le_refl _),hpre4]
  ·refine⟨r1,e,S1.set O.length (.cells [.int .u8 0,.int .i64 0,.str [],.nils,.nils] FZ)++[.cells (elC j) FZ],_,?_,v2,v3,fun h=>absurd h (by simpa using ce),?_,aF (bM hres1 _) _,.inl rfl⟩
   ·generalize hk:aB C (ai C) 59 [0,2,5,6] bC=kk at*;simp only[bC,v1,c1,p1,jl,jf,splice,d6,ce,AV.cells,AV.flat,EVX,seval]
   ·rw[oN _ _ _ (by simp[T1];omega),cZ _ _ _ (Nat.le_refl _),hpre1]
theorem abm{Y:St}{q1 q2:Nat}{l1 l2:LA}(h1:Y[q1]?=some (.cells l1 FZ))(h2:Y[q2]?=some (.cells l2 FZ))(hne:q1≠q2):freeze Y [q1,q2]=(Y.set q1 (.cells l1 ⟨true,none⟩)).set q2 (.cells l2 ⟨true,none⟩):=by
 unfold freeze;rw[h1];exact Ah (aI h2 (fun e=>hne e.symm) _)
def ajS(xs:List EL)(h:xs.length<=8192):JV:=.mk 5 0 [] (xs.map (·.1.1)) (xs.map (·.2)) (by simp) (by simp) (by simpa using h) ⟨lb0,fun x hx=>by
 obtain⟨y,_,rfl⟩:=List.mem_map.mp hx;exact y.1.2⟩
theorem acX {O Y:St} {o:Nat} {x:AO} (hσ:Ok O) (hx:x.below 0=true) (e:Int) (E:As) (h2:look E 2=.ref O.length 0) (h3:look E 3=.int .i64 e) (hτ:Y.take O.length=O.set o x) (xs:List EL) (hxs:xs.length<=8192) (q1 q2:Nat) (hl:Y[O.length]?=some (.cells [.int .u8 5,.int .i64 0,.str [],.msl q1 0 xs.length 1,.msl q2 0 xs.length 5] FZ)) (hq1:Y[q1]?=some (.cells (lH xs) FZ)) (hq2:Y[q2]?=some (.cells (vT xs) FZ)) (n1:O.length+2<=q1) (n2:O.length+2<=q2) (ne:q1≠q2):
  BN O.length [.cell 2 true 5,.tmp 3] (some (.ret,E,Y))=some (.tup [(ajS xs hxs).av,.int .i64 e],O.set o x):=by
 rw[qJ];have:bI E Y [.cell 2 true 5,.tmp 3]=some [.agg [.int .u8 5,.int .i64 0,.str [],.msl q1 0 xs.length 1,.msl q2 0 xs.length 5],.int .i64 e]:=by
  simp only[bI,h2,h3,hl,pt,List.drop_zero,List.length_cons,List.length_nil,List.take];rfl
 rw[this];have nn:NVs (lH xs):=by
  have:=aiD (xs.map (·.1.1));rw[List.map_map]at this;exact this
 have hh:hand false [.agg [.int .u8 5,.int .i64 0,.str [],.msl q1 0 xs.length 1,.msl q2 0 xs.length 5],.int .i64 e] Y=some ([(ajS xs hxs).av,.int .i64 e],(Y.set q1 (.cells (lH xs) ⟨true,none⟩)).set q2 (.cells (vT xs) ⟨true,none⟩)):=by
  rw[sN,aP,bu,aP,aP,aP,aP,aP,N8 hq1 (by rw[Jw,Nat.mul_one]) nn,N8 hq2 (Ot xs) (DV _),zt,<-abm hq1 hq2 ne]
  unfold ajS JV.av;rw[JV.mk_cs,List.length_map,List.length_map,List.map_map];rfl
 dsimp only;rw[hh];dsimp only[bi];rw[wY hσ hx (by rw[ae,JV.av,below,JV.bel];rfl) (by rw[cZ _ _ _ (by omega),cZ _ _ _ (by omega),hτ])]
theorem abO(H:ReadHas C)(HS:SortHas C)(hM:Has C jT bU)(hC:Has C mO jJ)(s:LU)(hs:s.length<1099511627777)(m:Nat)(hV:aaN C s m):aj0 C mO s m:=by
 intro r O o hσ ho ha hc0 hc hm;have hl:o<O.length:=(List.getElem?_eq_some_iff.mp ho).1;have hn:hand false [.ref o 0] O=some ([.ref o 0],O):=rfl;have ok1:Ok (O++[.cells [.int .u8 0,.int .i64 0,.str [],.nils,.nils] FZ]):=hσ.plus rfl;obtain⟨r1,e,n1,n2,n3,n4⟩:=o9 H.toNextHas s hs r ha _ ok1 o (aF ho _);rw[eF ho]at n1;have g0:=fun x L=>aF (bM ho x) L;rw[hC.go hn];have L1:(O.set o (r1.o s)).length=O.length:=by simp
 have q0:=fun L=>fH L1 L;have q1:=fun L k=>uw L1 L k;have w0:=fun L y=>pV L1 L y;have e0:∀L:St,(O.set o (r1.o s)++L).take O.length=O.set o (r1.o s):=fun L=>by
  rw[List.take_append_of_le_length (by simp),List.take_of_length_le (by simp)]
 have q2:∀(x:AO) (L:St),(O.set o (r1.o s)++x::L)[O.length]?=some x:=fun x L=>by rw[q0];rfl
 have I:alr s O o r1 [] .nils (O.set o (r1.o s)++[ni,.map []]):=by
  refine⟨(hσ.set o (RV.below s r1)).plus rfl,g0 _ _,by rw[q0];rfl,⟨[],by rw[q1];rfl⟩,.inl ⟨rfl,rfl⟩,e0 _⟩
 obtain⟨r2,e2,Y2,l,i1,i2,i3,i4,i5,i6,i7⟩:=Pm H HS hM s hs m hV O o hl 8192 r1 [] .nils _ I n2 (by simp;omega) (by omega) (by omega) (by omega)
 cases ce:(e !=0)
 ·have c0:e=0:=by simpa using ce
  subst c0;cases c4:(r1.k==2)
  ·have hi:∃j:JV,BN O.length [.cell 2 true 5,.tmp 3] (some (.ret,[(2,.ref O.length 0),(3,.int .i64 e2)],Y2))=some (.tup [j.av,.int .i64 e2],O.set o (r2.o s)):=by
    rcases i7 with i7|⟨xs,q1,q2,hxs,i7,i8,i9,i10,i11,i12⟩
    ·subst i7;exact⟨_,EW hσ (RV.below s r2) e2 _ rfl rfl i5 i6⟩
    ·subst i7;exact⟨_,acX hσ (RV.below s r2) e2 _ rfl rfl i5 xs hxs q1 q2 i6 i8 i9 i10 i11 i12⟩
   obtain⟨j,hj⟩:=hi;refine⟨j,e2,r2,?_,i2,by omega,i4⟩
   rw[<-hj];dsimp only[RV.o,RV.cs,ni]at*
   congr 1
   simp only[jJ,n1,g0,L1,c4,i1,EVX,seval]
  ·refine⟨JV.leaf 5 0 [] lb0,0,r1,?_,n2,by omega,fun _=>by omega⟩
   have tk:=wY (S:=O.set o (r1.o s)++[AO.cells [.int .u8 5,.int .i64 0,.str [],.nils,.nils] FZ]) hσ (RV.below s r1) (vs:=[.agg [.int .u8 5,.int .i64 0,.str [],.sl 0 [],.sl 0 []],.int .i64 0]) rfl (e0 _);dsimp only[RV.o,RV.cs,ni]at*;simp only[jJ,n1,g0,q0,w0,c4,splice,tk,bI,bu,dE,AV.cells,AV.flat,JV.av,JV.leaf_cs,EVX,seval]
 ·refine⟨JV.zero,e,r1,?_,n2,by omega,fun h=>absurd h (by simpa using ce)⟩
  have hj:=EW hσ (RV.below s r1) e [(2,.ref O.length 0),(3,.int .i64 e)] rfl rfl (e0 _) (q2 (.cells [.int .u8 0,.int .i64 0,.str [],.nils,.nils] FZ) []);rw[<-hj];dsimp only[RV.o,RV.cs,ni]at*
  congr 1
  simp only[jJ,n1,q0,w0,ce,splice,EVX,seval]
structure Gp(C:Ctx):Prop extends ReadHas C,SortHas C where
 member:Has C jT bU
 object:Has C mO jJ
 list:Has C pK lh
 value:Has C rP aO
theorem JS(H:Gp C)(s:LU)(hs:s.length<1099511627777):∀m:Nat,aaN C s m
 |0=>WS H.value H.wrong s 0 (fun h=>absurd h (by omega)) (fun h=>absurd h (by omega))
 |m+1=>WS H.value H.wrong s (m+1) (fun _=>ahq H.toReadHas H.list s hs m (JS H s hs m)) (fun _=>abO H.toReadHas H.toSortHas H.member H.object s hs m (JS H s hs m))
theorem af6 (H:Gp C) (hC:Has C fK oP) (s:LU) (O:St) (hσ:Ok O):
  ∃(j:JV) (p e:Int),ai C fK [.str s] O=some (.tup [j.av,.int .i64 p,.int .i64 e],O):=by
 have ty:∀(j:LA) (hj:ae 0 j=true) (p e:Int) (L:St),tidy O.length [.agg j,.int .i64 p,.int .i64 e] (O++L)=O:=fun j hj p e L=>df hσ (by rw[ae,below,hj];rfl) L
 have tz:=fun p e L=>ty [.int .u8 0,.int .i64 0,.str [],.sl 0 [],.sl 0 []] rfl p e L;rw[hC.go (NVs.hand (.cons (.str _) .nil) _)];by_cases h:(65536:Int)<(s.length:Int)
 ·refine⟨JV.zero,0,5,?_⟩;simp only[oP,h,tz,bI,bu,dE,AV.cells,AV.flat,JV.av,JV.zero_cs,splice,EVX,seval]
 have hs:s.length<1099511627777:=by omega
 have ok0:∀r:RV,Ok (O++[ni,r.o s]):=fun r=>hσ.plus rfl;have o0:∀r:RV,(O++[ni,r.o s]:St)[O.length+1]?=some (r.o s):=fun r=>by rw[dW];rfl
 have s0:∀r r':RV,(O++[ni,r.o s]:St).set (O.length+1) (r'.o s)=O++[ni,r'.o s]:=fun r r'=>by rw[F9];rfl
 obtain⟨r1,e1,n1,n2,n3,n4⟩:=o9 H.toNextHas s hs ⟨0,0,0,0,0,⟨[],lb0⟩,0,0,0⟩ (Int.le_refl _) _ (ok0 _) (O.length+1) (o0 _);rw[s0]at n1;obtain⟨j,e2,r2,v1,v2,v3,v4⟩:=JS H s hs 8192 r1 _ (O.length+1) (ok0 r1) (o0 _) n2 (by rw[n3];exact Int.le_refl _) (by rw[n3];decide)
 rw[s0]at v1;have ok1:∀r:RV,Ok (O++[.cells j.cs FZ,r.o s]):=fun r=>hσ.plus (by rw[List.all_cons,List.all_cons,RV.below,show AO.below 0 (.cells j.cs FZ)=true from j.bel];rfl)
 have o1:∀r:RV,(O++[AO.cells j.cs FZ,r.o s]:St)[O.length+1]?=some (r.o s):=fun r=>by rw[dW];rfl
 have s1:∀r r':RV,(O++[AO.cells j.cs FZ,r.o s]:St).set (O.length+1) (r'.o s)=O++[AO.cells j.cs FZ,r'.o s]:=fun r r'=>by rw[F9];rfl
 obtain⟨r3,e3,w1,w2,w3,w4⟩:=o9 H.toNextHas s hs r2 v2 _ (ok1 _) (O.length+1) (o1 _);rw[s1]at w1;have tj:=fun p e L=>ty j.cs j.bel p e L;have nf:=fun Y r'=>j.nvs.nf Y r';have jl:=JV.len j;have jf:=JV.flat j;have jt:j.cs.take 5=j.cs:=List.take_of_length_le (by rw[JV.len];exact Nat.le_refl _)
 have je:5<=j.cs.length:=by rw[JV.len];exact Nat.le_refl _
 have jd:j.cs.drop 5=[]:=List.drop_eq_nil_of_le (by omega)
 have sj:∀a b c d e:AV,splice j.cs 0 [a,b,c,d,e]=[a,b,c,d,e]:=fun a b c d e=>by simp[splice,jd]
 have sk:∀a b c d e:AV,splice [a,b,c,d,e] 0 j.cs=j.cs:=fun a b c d e=>by simp[splice,jl]
 have ss:splice j.cs 0 j.cs=j.cs:=by simp[splice]
 dsimp only[RV.o,RV.cs,ni]at*;cases c1:(e1 !=0)
 ·cases c2:(e2 !=0)
  ·cases c3:(e3 !=0)
   ·cases c4:(r3.k !=11)
    ·refine⟨j,0,0,?_⟩;simp only[oP,h,n1,v1,w1,c1,c2,c3,c4,tj,nf,jl,jf,jt,ss,sk,bI,bu,AV.cells,AV.flat,JV.av,EVX,seval]
    ·refine⟨JV.zero,r3.place,11,?_⟩;simp only[oP,h,n1,v1,w1,c1,c2,c3,c4,tz,jl,jf,sj,sk,bI,bu,dE,AV.cells,AV.flat,JV.av,JV.zero_cs,EVX,seval]
   ·refine⟨JV.zero,r3.place,e3,?_⟩;simp only[oP,h,n1,v1,w1,c1,c2,c3,tz,jl,jf,sj,sk,bI,bu,dE,AV.cells,AV.flat,JV.av,JV.zero_cs,EVX,seval]
  ·refine⟨JV.zero,r2.place,e2,?_⟩;simp only[oP,h,n1,v1,c1,c2,tz,jl,jf,sj,sk,bI,bu,dE,AV.cells,AV.flat,JV.av,JV.zero_cs,EVX,seval]
 ·refine⟨JV.zero,r1.place,e1,?_⟩;simp only[oP,h,n1,c1,tz,bI,bu,dE,AV.cells,AV.flat,JV.av,JV.zero_cs,splice,EVX,seval]
theorem Nh(ns:List LU)(i:Nat)(h:i<ns.length):(ns.map AV.str).drop i=.str ns[i]::(ns.map AV.str).drop (i+1):=by
 rw[List.drop_eq_getElem_cons (by simpa using h)]
 simp
theorem Nj(ns:List LU):(ns.map AV.str).length=ns.length:=by simp
theorem EJ (ns:List LU) (hn:ns.length<=8192) (O:St):∀(n i:Nat),i+n=ns.length->1<=i->
  aB C (ai C) 20 [0,3] bP [(0,.sl ns.length (ns.map .str)),(3,.int .i64 i)] O=some (.exit 0,[],O)\/aB C (ai C) 20 [0,3] bP [(0,.sl ns.length (ns.map .str)),(3,.int .i64 i)] O=some (.ret,[(2,.bool false)],O)
 |0,i,hi,h1=>by
  rw[aA (he:=rfl)];have h:¬((i:Int)<(ns.length:Int)):=by omega
  left;simp only[bP,h,EVX,seval]
 |n+1,i,hi,h1=>by
  have h:((i:Int)<(ns.length:Int)):=by omega
  have h2:i<ns.length:=by omega
  have h3:i-1<ns.length:=by omega
  have w1:IntKind.i64.wrap ((i:Int)-1)=((i-1:Nat):Int):=wrE (by omega)
  have w2:=wrS i (by omega)
  have p1:(0:Int)<=((i-1:Nat):Int):=by omega
  have p2:(0:Int)<=(i:Int):=by omega
  have d1:=Nh ns (i-1) h3;have d2:=Nh ns i h2;have sl:=Nj ns;have ih:=EJ ns hn O n (i+1) (by omega) (by omega)
  rw[aA (he:=rfl)];generalize hk:aB C (ai C) 20 [0,3] bP=k at*;cases hb:Op.bytesLess ns[i-1] ns[i]
  ·right;simp only[bP,h,h2,h3,w1,p1,p2,d1,d2,sl,hb,Int.toNat_natCast,List.head?_cons,EVX,seval]
  ·rcases ih with ih|ih
   ·left;simp only[bP,h,h2,h3,w1,w2,p1,p2,d1,d2,sl,hb,ih,Int.toNat_natCast,List.head?_cons,EVX,seval]
   ·right;simp only[bP,h,h2,h3,w1,w2,p1,p2,d1,d2,sl,hb,ih,Int.toNat_natCast,List.head?_cons,EVX,seval]
theorem Yy(ns:List LU):NV (.sl ns.length (ns.map .str)):=.sl _ (ny ns)
theorem Qa(hC:Has C mV lY)(ns:List LU)(hn:ns.length<=8192)(O:St):∃b:Bool,ai C mV [.sl ns.length (ns.map .str)] O=some (.bool b,O):=by
 rw[hC.go (NVs.hand (.cons (Yy ns) .nil) _)];by_cases h0:ns=[]
 ·subst h0;refine⟨true,?_⟩;have h:¬((1:Int)<0):=by omega
  have lp:aB C (ai C) 20 [0,3] bP [(0,.sl 0 []),(3,.int .i64 1)] O=some (.exit 0,[],O):=by
   rw[aA (he:=rfl)];simp only[bP,h,Int.cast_ofNat_Int,EVX,seval]
  simp only[lY,List.length_nil,List.map_nil,lp,EVX,seval]
 ·have h1:1<=ns.length:=by
   cases ns with
   |nil=>exact absurd rfl h0
   |cons=>simp
  rcases EJ (C:=C) ns hn O (ns.length-1) 1 (by omega) (Nat.le_refl _)with h|h
  ·refine⟨true,?_⟩;simp only[Int.cast_ofNat_Int]at h;simp only[lY,h,EVX,seval]
  ·refine⟨false,?_⟩;simp only[Int.cast_ofNat_Int]at h;simp only[lY,h,EVX,seval]
theorem SS (ns:List LU) (x:LU) (hn:ns.length<=8192) (O:St):∀(n i:Nat),i+n=ns.length->
  aB C (ai C) 19 [0,1,7,8] aT [(0,.sl ns.length (ns.map .str)),(1,.str x),(7,.int .i64 ns.length),(8,.int .i64 i)] O=some (.exit 0,[],O)\/∃k:Nat,k<ns.length/\aB C (ai C) 19 [0,1,7,8] aT [(0,.sl ns.length (ns.map .str)),(1,.str x),(7,.int .i64 ns.length),(8,.int .i64 i)] O=some (.ret,[(4,.int .i64 k)],O)
 |0,i,hi=>by
  rw[aA (he:=rfl)];have h:¬((i:Int)<(ns.length:Int)):=by omega
  left;simp only[aT,h,EVX,seval]
 |n+1,i,hi=>by
  have h:((i:Int)<(ns.length:Int)):=by omega
  have h2:i<ns.length:=by omega
  have w2:=wrS i (by omega)
  have p2:(0:Int)<=(i:Int):=by omega
  have d2:=Nh ns i h2;have sl:=Nj ns;have ih:=SS ns x hn O n (i+1) (by omega)
  rw[aA (he:=rfl)];generalize hk:aB C (ai C) 19 [0,1,7,8] aT=k at*;by_cases hb:x=ns[i]
  ·right;refine⟨i,h2,?_⟩;simp only[aT,h,h2,p2,d2,sl,<-hb,Int.toNat_natCast,List.head?_cons,decide_true,EVX,seval]
  ·rcases ih with ih|⟨k',k1,ih⟩
   ·left;simp only[aT,h,h2,w2,p2,d2,sl,hb,ih,Int.toNat_natCast,List.head?_cons,decide_false,EVX,seval]
   ·right;refine⟨k',k1,?_⟩;simp only[aT,h,h2,w2,p2,d2,sl,hb,ih,Int.toNat_natCast,List.head?_cons,decide_false,EVX,seval]
theorem slices_Index(hC:Has C kz gz)(ns:List LU)(x:LU)(hn:ns.length<=8192)(O:St):∃k:Int,ai C kz [.sl ns.length (ns.map .str),.str x] O=some (.int .i64 k,O)/\k<ns.length:=by
 rw[hC.go (NVs.hand (.cons (Yy ns) (.cons (.str _) .nil)) _)];rcases SS (C:=C) ns x hn O ns.length 0 (by omega)with h|⟨k,k1,h⟩
 ·refine⟨-1,?_,by omega⟩
  simp only[Int.cast_ofNat_Int]at h;simp only[gz,h,EVX,seval]
 ·refine⟨k,?_,by omega⟩
  simp only[Int.cast_ofNat_Int]at h;simp only[gz,h,EVX,seval]
theorem alU (hC:Has C iY qF) (ns:List LU) (x:LU) (O:St) (a b:Nat) (ha:O[a]?=some (.cells [.sl ns.length (ns.map .str)] FZ)) (hb:O[b]?=some (.cells [.str x] FZ)) (i:Nat) (hi:i<ns.length):
  ∃r:Bool,ai C iY [.int .i64 i,.ref a 0,.ref b 0] O=some (.bool r,O):=by
 have hn:hand false [.int .i64 i,.ref a 0,.ref b 0] O=some ([.int .i64 i,.ref a 0,.ref b 0],O):=rfl;have p2:(0:Int)<=(i:Int):=by omega
 have d2:=Nh ns i hi;have sl:=Nj ns;rw[hC.go hn];refine⟨!(Op.bytesLess ns[i] x),?_⟩;simp only[qF,ha,hb,hi,p2,d2,sl,Int.toNat_natCast,List.head?_cons,EVX,seval]
theorem F7 (h1:Has C iY qF) (ns:List LU) (hn:ns.length<=8192) (x:LU) (O:St) (a b:Nat) (ha:O[a]?=some (.cells [.sl ns.length (ns.map .str)] FZ)) (hb:O[b]?=some (.cells [.str x] FZ)):∀(n i j:Nat),i<=j->j<=ns.length->j-i<=n->
  ∃r:Nat,r<=ns.length/\aB C (ai C) 26 [1,5,6] jZ [(1,.func (.func iY) [] [.ref a 0,.ref b 0]),(5,.int .i64 i),(6,.int .i64 j)] O=some (.exit 0,[(5,.int .i64 r)],O)
 |n,i,j,hij,hj,hd=>by
  rw[aA (he:=rfl)];by_cases h:i<j
  ·have h':((i:Int)<(j:Int)):=by omega
   obtain⟨n,rfl⟩:∃m,n=m+1:=⟨n-1,by omega⟩
   obtain⟨r,q⟩:=alU h1 ns x O a b ha hb ((i+j)/2) (by omega)
   have ih1:=F7 h1 ns hn x O a b ha hb n ((i+j)/2+1) j (by omega) hj (by omega)
   have ih2:=F7 h1 ns hn x O a b ha hb n i ((i+j)/2) (by omega) (by omega) (by omega)
   have w1:IntKind.i64.wrap ((i:Int)+(j:Int))=((i+j:Nat):Int):=wrE (by omega)
   have w2:IntKind.u64.wrap ((i+j:Nat):Int)=((i+j:Nat):Int):=wu64 (by omega) (by omega)
   have w3:((i+j:Nat):Int).fdiv (2^min 1 IntKind.u64.bits)=(((i+j)/2:Nat):Int):=by
    show((i+j:Nat):Int).fdiv 2=_;rw[Int.fdiv_eq_ediv_of_nonneg _ (by omega)]
    omega
   have w4:IntKind.i64.wrap ((((i+j)/2:Nat)):Int)=(((i+j)/2:Nat):Int):=wrE (by omega)
   have w5:IntKind.i64.wrap ((((i+j)/2:Nat))+1:Int)=(((i+j)/2+1:Nat):Int):=wrE (by omega)
   have n1:¬((1:Int)<0):=by omega
   generalize hk:aB C (ai C) 26 [1,5,6] jZ=k at*;generalize hm:(i+j)/2=m at*;cases r
   ·obtain⟨r',r1,ih⟩:=ih1;refine⟨r',r1,?_⟩;simp only[jZ,h',w1,w2,w3,w4,w5,n1,q,jk,ih,List.nil_append,List.cons_append,EVX,seval]
   ·obtain⟨r',r1,ih⟩:=ih2;refine⟨r',r1,?_⟩;simp only[jZ,h',w1,w2,w3,w4,n1,q,jk,ih,List.nil_append,List.cons_append,EVX,seval]
  ·have h':¬((i:Int)<(j:Int)):=by omega
   refine⟨i,by omega,?_⟩
   simp only[jZ,h',EVX,seval]
theorem sort_Search (hC:Has C BU BL) (h1:Has C iY qF) (ns:List LU) (hn:ns.length<=8192) (x:LU) (O:St) (a b:Nat) (ha:O[a]?=some (.cells [.sl ns.length (ns.map .str)] FZ)) (hb:O[b]?=some (.cells [.str x] FZ)):
  ∃r:Nat,r<=ns.length/\ai C BU [.int .i64 ns.length,.func (.func iY) [] [.ref a 0,.ref b 0]] O=some (.int .i64 r,O):=by
 have hn':hand false [.int .i64 ns.length,.func (.func iY) [] [.ref a 0,.ref b 0]] O=some ([.int .i64 ns.length,.func (.func iY) [] [.ref a 0,.ref b 0]],O):=rfl;obtain⟨r,r1,q⟩:=F7 h1 ns hn x O a b ha hb ns.length 0 ns.length (by omega) (by omega) (by omega)
 refine⟨r,r1,?_⟩;rw[hC.go hn'];simp only[Int.cast_ofNat_Int]at q;simp only[BL,q,EVX,seval]
structure Qc(C:Ctx):Prop where
 asc:Has C mV lY
 idx:Has C kz gz
 srch:Has C BU BL
 f1:Has C iY qF
 find:Has C Lj yX
theorem ace (H:Qc C) (ns:List LU) (hn:ns.length<=8192) (x:LU) (O:St) (hσ:Ok O):
  ∃(k:Int) (b:Bool),ai C Lj [.sl ns.length (ns.map .str),.str x] O=some (.tup [.int .i64 k,.bool b],O)/\(b=true->0<=k)/\k<=ns.length:=by
 have ty:∀(k:Int) (b:Bool) (L:St),tidy O.length [.int .i64 k,.bool b] (O++L)=O:=fun k b L=>df hσ rfl L;rw[H.find.go (NVs.hand (.cons (Yy ns) (.cons (.str _) .nil)) _)];obtain⟨b,hb⟩:=Qa H.asc ns hn (O++[.cells [.sl ns.length (ns.map .str)] FZ,.cells [.str x] FZ]);obtain⟨k,hk,k1⟩:=slices_Index H.idx ns x hn (O++[.cells [.sl ns.length (ns.map .str)] FZ,.cells [.str x] FZ]);obtain⟨r,r1,hr⟩:=sort_Search H.srch H.f1 ns hn x (O++[.cells [.sl ns.length (ns.map .str)] FZ,.cells [.str x] FZ]) O.length (O.length+1) (by rw[cu];rfl) (by rw[dW];rfl)
 cases b
 ·refine⟨k,decide (k>=0),?_,by simp,by omega⟩
  simp only[yX,hb,hk,ty,EVX,seval]
 ·by_cases h:r<ns.length
  ·have h':((r:Int)<(ns.length:Int)):=by omega
   have p2:(0:Int)<=(r:Int):=by omega
   have d2:=Nh ns r h;have sl:=Nj ns;refine⟨r,decide (ns[r]=x),?_,fun _=>by omega,by omega⟩
   simp only[yX,hb,hr,ty,h,h',p2,d2,sl,Int.toNat_natCast,List.head?_cons,EVX,seval]
  ·have h':¬((r:Int)<(ns.length:Int)):=by omega
   refine⟨r,false,?_,fun h=>absurd h (by decide),by omega⟩
   simp only[yX,hb,hr,ty,h',EVX,seval]
theorem Rx(a b:AV)(l m:LA):qf (a::l) (b::m)=(diff a b||qf l m):=by rw[qf]
theorem WJ:∀(l m:List LU),l.length=m.length->qf (l.map .str) (m.map .str)=false->l=m
 |[],[],_,_=>rfl
 |[],_::_,h,_=>by simp at h
 |_::_,[],h,_=>by simp at h
 |a::l,b::m,h,hd=>by
  rw[List.map_cons,List.map_cons,Rx,Bool.or_eq_false_iff]at hd;have h1:a=b:=by
   have:=hd.1;unfold diff at this;rw[lm]at this;simpa using this
  rw[h1,WJ l m (by simpa using h) hd.2]
mutual
theorem JW.same:∀(x y:JW) (R R':LA),qf (x.cs++R) (y.cs++R')=false->x=y/\qf R R'=false
 |.mk k n t ns is,.mk k' n' t' ns' is',R,R',h=>by
  rw[JW.cs,JW.cs]at h;simp only[List.cons_append,List.nil_append,Rx,Bool.or_eq_false_iff]at h;obtain⟨h1,h2,h3,h4,h5,h6⟩:=h;unfold diff at h1 h2 h3 h4 h5;have e1:k=k':=by simpa using h1
  have e2:n=n':=by simpa using h2
  have e3:t=t':=by
   rw[lm]at h3;simpa using h3
  rw[Bool.or_eq_false_iff]at h4 h5;have e4:ns=ns':=WJ _ _ (by simpa using h4.1) h4.2
  have e5:is=is':=vI.same is is' (by simpa using h5.1) h5.2
  exact⟨by rw[e1,e2,e3,e4,e5],h6⟩
theorem vI.same:∀(l m:List JW),l.length=m.length->qf (vI l) (vI m)=false->l=m
 |[],[],_,_=>rfl
 |[],_::_,h,_=>by simp at h
 |_::_,[],h,_=>by simp at h
 |a::l,b::m,h,hd=>by
  rw[vI,vI]at hd;obtain⟨h1,h2⟩:=JW.same a b _ _ hd;rw[h1,vI.same l m (by simpa using h) h2]
end
theorem JV.differ{x y:JV}(h:x.w≠y.w)(R R':LA):qf (x.cs++R) (y.cs++R')=true:=by
 cases hd:qf (x.cs++R) (y.cs++R')
 ·exact absurd (JW.same x.w y.w R R' hd).1 h
 ·rfl
theorem JV.cs_ex(j:JV):∃(k n:Int) (t:LU) (ns:List LU) (is:List JV),j.cs=[.int .u8 k,.int .i64 n,.str t,.sl ns.length (ns.map .str),.sl is.length (aG is)]/\ns.length<=8192/\is.length<=8192/\(∀x∈is,SizeOf.sizeOf x.w<SizeOf.sizeOf j.w)/\∃h1 h3 h2 h4,j=JV.mk k n t ns is h1 h3 h2 h4:=by
 obtain⟨k,n,t,ns,is,h1,h3,h2,h4,rfl⟩:=j.ex;refine⟨k,n,t,ns,is,JV.mk_cs ..,by omega,h2,?_,h1,h3,h2,h4,rfl⟩
 intro x hx;show SizeOf.sizeOf x.w<SizeOf.sizeOf (JW.mk k n t ns (is.map (·.w)));have:SizeOf.sizeOf x.w<SizeOf.sizeOf (is.map (·.w)):=List.sizeOf_lt_of_mem (List.mem_map_of_mem hx);simp;omega
def Abv(is:List JV)(x:AV):Prop:=x=.nilp\/∃(a:JV) (R:LA),x=.eptr (a.cs++R)/\ae 0 R=true/\∀j∈is,SizeOf.sizeOf j.w<SizeOf.sizeOf a.w
theorem Abv.nv{is:List JV}{x:AV}(h:Abv is x):NV x:=by
 rcases h with rfl|⟨a,R,rfl,hR,_⟩
 ·exact⟨fun _ _=>rfl,rfl⟩
 ·exact⟨fun _ _=>rfl,by rw[below];exact wI _ _ a.bel hR⟩
theorem alz(np:Bool){is:List JV}{x:AV}(h:Abv is x)(j:JV)(hj:j∈is)(R:LA):tX np .eql 3 false (.eptr (j.cs++R)) x=some (.bool false):=by
 rcases h with rfl|⟨a,R',rfl,_,hs⟩
 ·cases np<;>rfl
 ·have hd:=JV.differ (x:=j) (y:=a) (by
   intro e;have:=hs j hj;rw[e]at this;omega) R R'
  obtain⟨k,n,t,ns,is1,e1,_⟩:=j.cs_ex;obtain⟨k',n',t',ns',is2,e2,_⟩:=a.cs_ex;have hb:tX np .eql 3 false (.eptr (j.cs++R)) (.eptr (a.cs++R'))=binOp .eql 3 false (.eptr (j.cs++R)) (.eptr (a.cs++R')):=by
   cases np
   ·rfl
   ·unfold tX;rw[show TM (.eptr (j.cs++R)) (.eptr (a.cs++R'))=false from by rw[e1,e2];rfl]
  rw[hb];show qK .eql (eqA 3 false (.eptr (j.cs++R)) (.eptr (a.cs++R')))=_;have u1:Gj (j.cs++R)=true:=by rw[e1];rfl
  have u2:Gj (a.cs++R')=true:=by rw[e2];rfl
  show(if qf (j.cs++R) (a.cs++R')&&(Gj (j.cs++R)&&Gj (a.cs++R'))then some false else none).map AV.bool=_;rw[hd,u1,u2];rfl
theorem uG(is:List JV)(i:Nat)(h:i<is.length):(aG is).drop (i*5)=is[i].cs++aG (is.drop (i+1)):=by
 induction is generalizing i with
 |nil=>simp at h
 |cons j l ih=>
  cases i with
  |zero=>simp[aG]
  |succ i=>
   rw[aG,Nat.add_mul,Nat.one_mul,Nat.add_comm,<-JV.len j,List.drop_append,List.drop_of_length_le (by omega),List.nil_append]
   rw[show j.cs.length+i*j.cs.length-j.cs.length=i*5 from by rw[JV.len];omega]
   have:=ih i (by simpa using h)
   simpa using this
theorem agY(is:List JV):NV (.sl is.length (aG is)):=.sl _ (fJ is)
theorem KY (is:List JV) (hn:is.length<=8192) (lv:Int) (x:AV) (hx:Abv is x)
  (ih0:∀(is':List JV) (lv':Int) (x':AV) (O:St),(∃j∈is,∀y∈is',SizeOf.sizeOf y.w<SizeOf.sizeOf j.w)->is'.length<=8192->Abv is' x'->ai C kC [.sl is'.length (aG is'),.int .i64 lv',x',.bool false] O=some (.bool false,O)) (O:St):∀(n i:Nat),i+n=is.length->
  aB C (ai C) 55 [0,1,2,3,13,14] iR [(0,.sl is.length (aG is)),(1,.int .i64 lv),(2,x),(3,.bool false),(13,.int .i64 is.length),(14,.int .i64 i)] O=some (.exit 0,[],O)
 |0,i,hi=>by
  rw[aA (he:=rfl)];have h:¬((i:Int)<(is.length:Int)):=by omega
  simp only[iR,h,EVX,seval]
 |n+1,i,hi=>by
  have h:((i:Int)<(is.length:Int)):=by omega
  have h2:i<is.length:=by omega
  have w2:=wrS i (by omega)
  have p2:(0:Int)<=(i:Int):=by omega
  have d2:=uG is i h2;have sl:=iZ is;have ih:=KY is hn lv x hx ih0 O n (i+1) (by omega)
  have hj:is[i]∈is:=List.getElem_mem h2;generalize is[i]=j at*;generalize hR:aG (is.drop (i+1))=R at*;have hRb:ae 0 R=true:=by rw[<-hR];exact fJ _
  have ne:=alz C.np hx j hj R;obtain⟨k,m,t,ns,is',e1,l1,l2,hs,_⟩:=j.cs_ex;have ca:=ih0 is' (IntKind.i64.wrap (lv+1)) x O ⟨j,hj,hs⟩ l2 (by
   rcases hx with h|⟨a,R',h,hb,hl⟩
   ·exact .inl h
   ·exact .inr ⟨a,R',h,hb,fun y hy=>Nat.lt_trans (hs y hy) (hl j hj)⟩)
  have cb:=ih0 is' (IntKind.i64.wrap (lv+1)) (.eptr (j.cs++R)) O ⟨j,hj,hs⟩ l2 (.inr ⟨j,R,rfl,hRb,hs⟩);have f4:((j.cs++R).drop 4).head? =some (.sl is'.length (aG is')):=by rw[e1];rfl
  have f5:4<=(j.cs++R).length:=by rw[List.length_append,JV.len];omega
  rw[aA (he:=rfl)];generalize hk:aB C (ai C) 55 [0,1,2,3,13,14] iR=kk at*;generalize hv:IntKind.i64.wrap (BitVec.ofInt IntKind.i64.bits lv&&&BitVec.ofInt IntKind.i64.bits (IntKind.i64.wrap (lv-1))).toNat=v;cases c:(v==0)
  ·simp only[iR,h,h2,w2,p2,d2,sl,ne,hv,c,ca,f4,f5,ih,Int.toNat_natCast,EVX,seval]
  ·simp only[iR,h,h2,w2,p2,d2,sl,ne,hv,c,cb,f4,f5,ih,Int.toNat_natCast,EVX,seval]
theorem IY(hC:Has C kC pX):∀(k:Nat) (is:List JV) (lv:Int) (x:AV) (O:St),(∀y∈is,SizeOf.sizeOf y.w<k)->is.length<=8192->Abv is x->ai C kC [.sl is.length (aG is),.int .i64 lv,x,.bool false] O=some (.bool false,O)
 |k,is,lv,x,O,hk,hn,hx=>by
  have lp:=KY is hn lv x hx (C:=C) (fun is' lv' x' O' hs hn' hx'=>by
   obtain⟨j,hj,hs⟩:=hs;have h1:=hk j hj;obtain⟨k,rfl⟩:∃k',k=k'+1:=⟨k-1,by omega⟩
   exact IY hC k is' lv' x' O' (fun y hy=>by have:=hs y hy;omega) hn' hx') O is.length 0 (by omega)
  rw[hC.go (NVs.hand (.cons (agY is) (.cons (.int _ _) (.cons hx.nv (.cons (.bool _) .nil)))) _)];simp only[Int.cast_ofNat_Int]at lp;simp only[pX,lp,EVX,seval]
theorem Zk(hC:Has C kC pX)(is:List JV)(hn:is.length<=8192)(lv:Int)(O:St):ai C kC [.sl is.length (aG is),.int .i64 lv,.nilp,.bool false] O=some (.bool false,O):=
 IY hC (SizeOf.sizeOf (is.map (·.w))) is lv .nilp O (fun y hy=>List.sizeOf_lt_of_mem (List.mem_map_of_mem hy)) hn (.inl rfl)
theorem yA{O S:St}{vs:LA}(hσ:Ok O)(hv:ae 0 vs=true)(h:S.take O.length=O):tidy O.length vs S=O:=by
 have hx:AO.below 0 .dead=true:=rfl;have h':O.set O.length .dead=O:=List.set_eq_of_length_le (Nat.le_refl _);have:=wY (o:=O.length) (x:=.dead) hσ hx hv (by rw[h',h])
 rw[this,h']
def QC(C:Ctx):Prop:=∀(ns:List LU) (O:St),ns.length<=8192->Ok O->ai C dS [.sl ns.length (ns.map .str)] O=some (.sl ns.length (ns.map .str),O)
theorem aam(a b c d:Nat):same (.msl a b c d) (.msl a b c d)=true:=by simp[same]
theorem Xa.same{Y:St}{n0:Nat}{is:List JV}{x:AV}(h:Xa Y n0 is x):same x x=true:=by
 rcases h with⟨_,rfl⟩|⟨_,q,rfl,_⟩
 ·rfl
 ·exact aam ..
theorem Xa.flat{Y:St}{n0:Nat}{is:List JV}{x:AV}(h:Xa Y n0 is x):x.flat=true:=by
 rcases h with⟨_,rfl⟩|⟨_,q,rfl,_⟩<;>rfl
theorem VJ{Y:St}{n0 m:Nat}{is:List JV}{x:AV}(h:Xa Y n0 is x)(k n:Int)(t:LU)(ns:List LU)(hm:m<=n0):∃Y',hand false [.agg [.int .u8 k,.int .i64 n,.str t,.sl ns.length (ns.map .str),x]] Y=some ([.agg [.int .u8 k,.int .i64 n,.str t,.sl ns.length (ns.map .str),.sl is.length (aG is)]],Y')/\Y'.take m=Y.take m:=by
 rcases h with⟨rfl,rfl⟩|⟨_,q,rfl,hq,hq2⟩
 ·refine⟨Y,?_,rfl⟩;rw[sN,aP,bu,aP,aP,aP,aP,aP,dE,zt];rfl
 ·refine⟨_,?_,cZ Y m q (by omega) (.cells (aG is) ⟨true,none⟩)⟩
  rw[sN,aP,bu,aP,aP,aP,aP,aP,N8 hq (iZ is) (DV is),zt,<-Ah hq];rfl
structure ae9(O:St)(b:AO)(hd:LA)(is:List JV)(x:AV)(Y:St):Prop where
 hok:Ok Y
 hb:Y[O.length]?=some b
 hres:Y[O.length+1]?=some ni
 hv:Y[O.length+1+1]?=some (.cells (hd++[x]) FZ)
 his:Xa Y (O.length+1) is x
 hpre:Y.take O.length=O
theorem adY{O S T:St}{n m:Nat}(h:n<=m)(e:S.take m=T.take m):S.take n=T.take n:=by
 have:=congrArg (List.take n) e;rwa[List.take_take,List.take_take,Nat.min_eq_left h]at this
theorem Ze (is:List JV) (hn:is.length<=8192) (hd:LA) (k n0:Int) (t:LU) (ns:List LU) (hhd:hd=[.int .u8 k,.int .i64 n0,.str t,.sl ns.length (ns.map .str)]) (O:St) (b:AO)
  (hD:∀j∈is,∀Y:St,Ok Y->ai C iW [j.av] Y=some (j.av,Y)):∀(n i:Nat),i+n=is.length->∀(x:AV) (Y:St),ae9 O b hd (is.take i) x Y->
  ∃(x':AV) (Y':St),aB C (ai C) 32 [2,3,17,18,19] ja [(2,.ref (O.length+1) 0),(3,.ref (O.length+1+1) 0),(17,.sl is.length (aG is)),(18,.int .i64 is.length),(19,.int .i64 i)] Y=some (.exit 0,[(2,.ref (O.length+1) 0),(3,.ref (O.length+1+1) 0)],Y')/\ae9 O b hd is x' Y'
 |0,i,hi,x,Y,I=>by
  have h:¬((i:Int)<(is.length:Int)):=by omega
  refine⟨x,Y,?_,by rw[List.take_of_length_le (by omega)]at I;exact I⟩
  rw[aA (he:=rfl)];simp only[ja,h,EVX,seval]
 |n+1,i,hi,x,Y,I=>by
  obtain⟨hok,hb,hres,hv,his,hpre⟩:=I;have h:((i:Int)<(is.length:Int)):=by omega
  have h2:i<is.length:=by omega
  have w2:=wrS i (by omega)
  have p2:(0:Int)<=(i:Int):=by omega
  have d2:=uG is i h2;have sl:=iZ is;have hj:is[i]∈is:=List.getElem_mem h2;have ht:is.take (i+1)=is.take i++[is[i]]:=by rw[List.take_succ_eq_append_getElem h2]
  generalize is[i]=j at*;generalize aG (is.drop (i+1))=R at*;have jl:=JV.len j;have jf:=JV.flat j;have jt:(j.cs++R).take 5=j.cs:=by rw[<-jl];simp
  have je:5<=(j.cs++R).length:=by simp[jl]
  have jt':j.cs.take 5=j.cs:=List.take_of_length_le (by rw[JV.len];exact Nat.le_refl _)
  have je':5<=j.cs.length:=by rw[JV.len];exact Nat.le_refl _
  have sp:∀a b c d e:AV,splice [a,b,c,d,e] 0 j.cs=j.cs:=fun a b c d e=>by simp[splice,jl]
  have ok1:Ok (Y++[.cells j.cs FZ]):=hok.plus (by rw[List.all_cons,show AO.below 0 (.cells j.cs FZ)=true from j.bel];rfl)
  have q:=hD j hj _ ok1;have sx:=his.same;obtain⟨S2,a1,a2,a3,a4,a5,a6,a7⟩:=aaU (o:=O.length) j (.cells j.cs FZ) his hok (by simp;omega) (by omega) hb hres hv
  have lt:(is.take i).length=i:=by simp;omega
  rw[lt]at a1;have b1:=fun L=>aF hv L;have b2:=fun L=>aF a5 L;have p3:=fun L y=>eF a5 L y;have g1:=fun L=>fH (show Y.length=Y.length from rfl) L;have s1:=fun L y=>pV (show Y.length=Y.length from rfl) L y;subst hhd;dsimp only[List.cons_append,List.nil_append]at*;have ok3:Ok ((S2++[AO.cells j.cs FZ,AO.cells (aG (is.take i++[j])) FZ]:St).set (O.length+1+1) (.cells [.int .u8 k,.int .i64 n0,.str t,.sl ns.length (ns.map .str),.msl (Y.length+1) 0 (i+1) 5] FZ)):=by
   refine Ok.set2 (a7.plus (by simp only[List.all_cons,List.all_nil,AO.below,JV.bel,fJ,Bool.and_true])) _ ?_
   rw[List.length_append,a2];have:=aK (Nat.zero_le (Y.length+2)) _ (ny ns);simp only[AO.below,ae,below,List.length_cons,List.length_nil,this];simp
  rw[p3]at ok3;have nl:O.length+1+1<Y.length:=(List.getElem?_eq_some_iff.mp hv).1;have I2:ae9 O b [.int .u8 k,.int .i64 n0,.str t,.sl ns.length (ns.map .str)] (is.take (i+1)) (.msl (Y.length+1) 0 (i+1) 5) (S2.set (O.length+1+1) (.cells [.int .u8 k,.int .i64 n0,.str t,.sl ns.length (ns.map .str),.msl (Y.length+1) 0 (i+1) 5] FZ)++[.cells j.cs FZ,.cells (aG (is.take i++[j])) FZ]):=by
   rw[ht];refine⟨ok3,aF (aI a3 (by omega) _) _,aF (aI a4 (by omega) _) _,aF (bM a5 _) _,.inr ⟨by simp,Y.length+1,by simp[lt],?_,by omega⟩,?_⟩
   ·rw[uw (by rw[List.length_set,a2])];rfl
   ·rw[oN _ _ _ (by rw[List.length_set,a2];omega),cZ _ _ _ (by omega)]
    exact(adY (O:=O) (by omega) a6).trans hpre
  obtain⟨x',Y',e1,e2⟩:=Ze is hn _ k n0 t ns rfl O b hD n (i+1) (by omega) _ _ I2
  refine⟨x',Y',?_,e2⟩;rw[aA (he:=rfl)];generalize hk:aB C (ai C) 32 [2,3,17,18,19] ja=kk at*;unfold JV.av at q;simp only[ja,h,h2,w2,p2,d2,sl,q,sx,a1,b1,b2,p3,g1,s1,e1,jl,jf,jt,je,jt',sp,Int.toNat_natCast,AV.cells,AV.flat,EVX,seval]
theorem EC(hCl:QC C)(hC:Has C iW uU):∀(m:Nat) (j:JV) (O:St),SizeOf.sizeOf j.w<m->Ok O->ai C iW [j.av] O=some (j.av,O)
 |0,j,O,hm,_=>absurd hm (by omega)
 |m+1,j,O,hm,hσ=>by
  obtain⟨k,n,t,ns,is,e1,l1,l2,hs,h1,h2,hj⟩:=j.cs_ex;have hD:∀x∈is,∀Y:St,Ok Y->ai C iW [x.av] Y=some (x.av,Y):=fun x hx Y hτ=>EC hCl hC m x Y (by have:=hs x hx;omega) hτ
  have ok1:Ok (O++[.cells j.cs FZ,.cells [.int .u8 0,.int .i64 0,.str [],.nils,.nils] FZ]):=hσ.plus (by rw[List.all_cons,show AO.below 0 (.cells j.cs FZ)=true from j.bel];rfl)
  have cl:=hCl ns _ l1 ok1;have ok2:Ok (O++[.cells j.cs FZ,ni,.cells [.int .u8 k,.int .i64 n,.str t,.sl ns.length (ns.map .str),.nils] FZ]):=hσ.plus (by
   rw[List.all_cons,show AO.below 0 (.cells j.cs FZ)=true from j.bel];simp[ni,AO.below,ae,below,ny])
  obtain⟨x',Y',q1,q2⟩:=Ze is l2 _ k n t ns rfl O (.cells j.cs FZ) hD is.length 0 (by omega) .nils _ ⟨ok2,by rw[cu];rfl,by rw[dW];rfl,by rw[Nat.add_assoc,dW];rfl,.inl ⟨rfl,rfl⟩,by simp⟩
  obtain⟨hok,hb,hres,hv,his,hpre⟩:=q2;obtain⟨Y2,hh,ht⟩:=VJ (m:=O.length) (is:=is) (n0:=O.length+1) (Y:=Y'.set (O.length+1) (.cells [.int .u8 k,.int .i64 n,.str t,.sl ns.length (ns.map .str),x'] FZ)) (x:=x') (by
   rcases his with h|⟨e1,q,e2,e3,e4⟩
   ·exact .inl h
   ·exact .inr ⟨e1,q,e2,aI e3 (by omega) _,e4⟩) k n t ns (by omega)
  have fx:=his.flat
  rw[cZ _ _ _ (by omega),hpre]at ht
  have ty:=yA (vs:=[.agg [.int .u8 k,.int .i64 n,.str t,.sl ns.length (ns.map .str),.sl is.length (aG is)]]) hσ (by simp[ae,below,ny,fJ]) ht
  have g2:=bM hres (.cells [.int .u8 k,.int .i64 n,.str t,.sl ns.length (ns.map .str),x'] FZ);have hn:hand false [j.av] O=some ([j.av],O):=NVs.hand (.cons j.nv .nil) _;unfold JV.av at*;rw[hC.go hn];have b1:∀(E:As),look E 2=.ref (O.length+1) 0->BN O.length [.cell 2 true 5] (some (.ret,E,Y'.set (O.length+1) (.cells [.int .u8 k,.int .i64 n,.str t,.sl ns.length (ns.map .str),x'] FZ)))=some (.agg [.int .u8 k,.int .i64 n,.str t,.sl ns.length (ns.map .str),.sl is.length (aG is)],O):=fun E h2=>by
   rw[qJ];have:bI E (Y'.set (O.length+1) (.cells [.int .u8 k,.int .i64 n,.str t,.sl ns.length (ns.map .str),x'] FZ)) [.cell 2 true 5]=some [.agg [.int .u8 k,.int .i64 n,.str t,.sl ns.length (ns.map .str),x']]:=by
    simp only[bI,h2,g2,pt,List.drop_zero,List.length_cons,List.length_nil,List.take];rfl
   rw[this];dsimp only;rw[hh];dsimp only[bi];rw[ty]
  rw[e1]at cl q1 hb;generalize hE:BN=eR at*;dsimp only[List.cons_append,List.nil_append,ni,Int.natCast_zero,Int.cast_ofNat_Int]at*;simp only[uU,e1,cl,q1,hres,hv,fx,AV.cells,Nat.add_assoc,splice,EVX,seval];refine b1 _ ?_;rfl
theorem Vp (hEn:Has C kC pX) (is:List JV) (hn:is.length<=8192) (hd:LA) (k n0:Int) (t:LU) (ns:List LU) (hhd:hd=[.int .u8 k,.int .i64 n0,.str t,.sl ns.length (ns.map .str)]) (O:St) (b:AO)
  (hD:∀j∈is,∀Y:St,Ok Y->ai C iW [j.av] Y=some (j.av,Y)):∀(n i:Nat),i+n=is.length->∀(x:AV) (Y:St),ae9 O b hd (is.take i) x Y->
  ∃(x':AV) (Y':St),aB C (ai C) 36 [2,3,17,18,19] oz [(2,.ref (O.length+1) 0),(3,.ref (O.length+1+1) 0),(17,.sl is.length (aG is)),(18,.int .i64 is.length),(19,.int .i64 i)] Y=some (.exit 0,[(2,.ref (O.length+1) 0),(3,.ref (O.length+1+1) 0)],Y')/\ae9 O b hd is x' Y'
 |0,i,hi,x,Y,I=>by
  have h:¬((i:Int)<(is.length:Int)):=by omega
  refine⟨x,Y,?_,by rw[List.take_of_length_le (by omega)]at I;exact I⟩
  rw[aA (he:=rfl)];simp only[oz,h,EVX,seval]
 |n+1,i,hi,x,Y,I=>by
  obtain⟨hok,hb,hres,hv,his,hpre⟩:=I;have h:((i:Int)<(is.length:Int)):=by omega
  have h2:i<is.length:=by omega
  have w2:=wrS i (by omega)
  have p2:(0:Int)<=(i:Int):=by omega
  have d2:=uG is i h2;have sl:=iZ is;have hj:is[i]∈is:=List.getElem_mem h2;have ht:is.take (i+1)=is.take i++[is[i]]:=by rw[List.take_succ_eq_append_getElem h2]
  generalize is[i]=j at*;generalize aG (is.drop (i+1))=R at*;have jl:=JV.len j;have jf:=JV.flat j;have jt:(j.cs++R).take 5=j.cs:=by rw[<-jl];simp
  have je:5<=(j.cs++R).length:=by simp[jl]
  have jt':j.cs.take 5=j.cs:=List.take_of_length_le (by rw[JV.len];exact Nat.le_refl _)
  have je':5<=j.cs.length:=by rw[JV.len];exact Nat.le_refl _
  have sp:∀a b c d e:AV,splice [a,b,c,d,e] 0 j.cs=j.cs:=fun a b c d e=>by simp[splice,jl]
  have ok1:Ok (Y++[.cells j.cs FZ]):=hok.plus (by rw[List.all_cons,show AO.below 0 (.cells j.cs FZ)=true from j.bel];rfl)
  have q:=hD j hj _ ok1;obtain⟨k1,n1,t1,ns1,is1,f1,f2,f3,_⟩:=j.cs_ex;have en:=Zk hEn is1 f3 1 (Y++[.cells j.cs FZ]);have f4:(j.cs.drop 4).head? =some (.sl is1.length (aG is1)):=by rw[f1];rfl
  have f5:4<=j.cs.length:=by rw[jl];omega
  have sx:=his.same;obtain⟨S2,a1,a2,a3,a4,a5,a6,a7⟩:=aaU (o:=O.length) j (.cells j.cs FZ) his hok (by simp;omega) (by omega) hb hres hv
  have lt:(is.take i).length=i:=by simp;omega
  rw[lt]at a1;have b1:=fun L=>aF hv L;have b2:=fun L=>aF a5 L;have p3:=fun L y=>eF a5 L y;have g1:=fun L=>fH (show Y.length=Y.length from rfl) L;have s1:=fun L y=>pV (show Y.length=Y.length from rfl) L y;subst hhd;dsimp only[List.cons_append,List.nil_append]at*;have ok3:Ok ((S2++[AO.cells j.cs FZ,AO.cells (aG (is.take i++[j])) FZ]:St).set (O.length+1+1) (.cells [.int .u8 k,.int .i64 n0,.str t,.sl ns.length (ns.map .str),.msl (Y.length+1) 0 (i+1) 5] FZ)):=by
   refine Ok.set2 (a7.plus (by simp only[List.all_cons,List.all_nil,AO.below,JV.bel,fJ,Bool.and_true])) _ ?_
   rw[List.length_append,a2];have:=aK (Nat.zero_le (Y.length+2)) _ (ny ns);simp only[AO.below,ae,below,List.length_cons,List.length_nil,this];simp
  rw[p3]at ok3;have nl:O.length+1+1<Y.length:=(List.getElem?_eq_some_iff.mp hv).1;have I2:ae9 O b [.int .u8 k,.int .i64 n0,.str t,.sl ns.length (ns.map .str)] (is.take (i+1)) (.msl (Y.length+1) 0 (i+1) 5) (S2.set (O.length+1+1) (.cells [.int .u8 k,.int .i64 n0,.str t,.sl ns.length (ns.map .str),.msl (Y.length+1) 0 (i+1) 5] FZ)++[.cells j.cs FZ,.cells (aG (is.take i++[j])) FZ]):=by
   rw[ht];refine⟨ok3,aF (aI a3 (by omega) _) _,aF (aI a4 (by omega) _) _,aF (bM a5 _) _,.inr ⟨by simp,Y.length+1,by simp[lt],?_,by omega⟩,?_⟩
   ·rw[uw (by rw[List.length_set,a2])];rfl
   ·rw[oN _ _ _ (by rw[List.length_set,a2];omega),cZ _ _ _ (by omega)]
    exact(adY (O:=O) (by omega) a6).trans hpre
  obtain⟨x',Y',e1,e2⟩:=Vp hEn is hn _ k n0 t ns rfl O b hD n (i+1) (by omega) _ _ I2
  refine⟨x',Y',?_,e2⟩;rw[aA (he:=rfl)];generalize hk:aB C (ai C) 36 [2,3,17,18,19] oz=kk at*;unfold JV.av at q;simp only[oz,h,h2,w2,p2,d2,sl,q,en,f4,sx,a1,b1,b2,p3,g1,s1,e1,jl,jf,jt,je,jt',sp,Int.toNat_natCast,AV.cells,AV.flat,EVX,seval]
structure CopyHas(C:Ctx):Prop where
 cl:QC C
 dup:Has C iW uU
 endless:Has C kC pX
 copy:Has C zi J3
theorem JR(H:CopyHas C)(j:JV)(O:St)(hσ:Ok O):ai C zi [j.av] O=some (j.av,O):=by
 obtain⟨k,n,t,ns,is,e1,l1,l2,hs,h1,h2,hj⟩:=j.cs_ex;have hD:∀x∈is,∀Y:St,Ok Y->ai C iW [x.av] Y=some (x.av,Y):=fun x hx Y hτ=>EC H.cl H.dup _ x Y (Nat.lt_succ_self _) hτ;have ok1:Ok (O++[.cells j.cs FZ,.cells [.int .u8 0,.int .i64 0,.str [],.nils,.nils] FZ]):=hσ.plus (by rw[List.all_cons,show AO.below 0 (.cells j.cs FZ)=true from j.bel];rfl)
 have cl:=H.cl ns _ l1 ok1;have ok2:Ok (O++[.cells j.cs FZ,ni,.cells [.int .u8 k,.int .i64 n,.str t,.sl ns.length (ns.map .str),.nils] FZ]):=hσ.plus (by
  rw[List.all_cons,show AO.below 0 (.cells j.cs FZ)=true from j.bel];simp[ni,AO.below,ae,below,ny])
 obtain⟨x',Y',q1,q2⟩:=Vp H.endless is l2 _ k n t ns rfl O (.cells j.cs FZ) hD is.length 0 (by omega) .nils _ ⟨ok2,by rw[cu];rfl,by rw[dW];rfl,by rw[Nat.add_assoc,dW];rfl,.inl ⟨rfl,rfl⟩,by simp⟩
 obtain⟨hok,hb,hres,hv,his,hpre⟩:=q2;obtain⟨Y2,hh,ht⟩:=VJ (m:=O.length) (is:=is) (n0:=O.length+1) (Y:=Y'.set (O.length+1) (.cells [.int .u8 k,.int .i64 n,.str t,.sl ns.length (ns.map .str),x'] FZ)) (x:=x') (by
  rcases his with h|⟨e1,q,e2,e3,e4⟩
  ·exact .inl h
  ·exact .inr ⟨e1,q,e2,aI e3 (by omega) _,e4⟩) k n t ns (by omega)
 have fx:=his.flat
 rw[cZ _ _ _ (by omega),hpre]at ht
 have ty:=yA (vs:=[.agg [.int .u8 k,.int .i64 n,.str t,.sl ns.length (ns.map .str),.sl is.length (aG is)]]) hσ (by simp[ae,below,ny,fJ]) ht
 have g2:=bM hres (.cells [.int .u8 k,.int .i64 n,.str t,.sl ns.length (ns.map .str),x'] FZ);have hn:hand false [j.av] O=some ([j.av],O):=NVs.hand (.cons j.nv .nil) _;unfold JV.av at*;rw[H.copy.go hn];have b1:∀(E:As),look E 2=.ref (O.length+1) 0->BN O.length [.cell 2 true 5] (some (.ret,E,Y'.set (O.length+1) (.cells [.int .u8 k,.int .i64 n,.str t,.sl ns.length (ns.map .str),x'] FZ)))=some (.agg [.int .u8 k,.int .i64 n,.str t,.sl ns.length (ns.map .str),.sl is.length (aG is)],O):=fun E h2=>by
  rw[qJ];have:bI E (Y'.set (O.length+1) (.cells [.int .u8 k,.int .i64 n,.str t,.sl ns.length (ns.map .str),x'] FZ)) [.cell 2 true 5]=some [.agg [.int .u8 k,.int .i64 n,.str t,.sl ns.length (ns.map .str),x']]:=by
   simp only[bI,h2,g2,pt,List.drop_zero,List.length_cons,List.length_nil,List.take];rfl
  rw[this];dsimp only;rw[hh];dsimp only[bi];rw[ty]
 rw[e1]at cl q1 hb;generalize hE:BN=eR at*;dsimp only[List.cons_append,List.nil_append,ni,Int.natCast_zero,Int.cast_ofNat_Int]at*;simp only[J3,e1,cl,q1,hres,hv,fx,AV.cells,Nat.add_assoc,splice,EVX,seval];refine b1 _ ?_;rfl
theorem afn(H:CopyHas C)(F:Qc C)(hC:Has C xU uA)(j:JV)(x:LU)(O:St)(hσ:Ok O):∃(j':JV) (b:Bool),ai C xU [j.av,.str x] O=some (.tup [j'.av,.bool b],O):=by
 obtain⟨k,n,t,ns,is,e1,l1,l2,hs,h1,h2,hj⟩:=j.cs_ex;have hn:hand false [j.av,.str x] O=some ([j.av,.str x],O):=NVs.hand (.cons j.nv (.cons (.str _) .nil)) _;have tz:∀(b:Bool) (L:St),tidy O.length [.agg [.int .u8 0,.int .i64 0,.str [],.sl 0 [],.sl 0 []],.bool b] (O++L)=O:=fun b L=>df hσ rfl L;have ok1:Ok (O++[.cells j.cs FZ,.cells [.int .u8 0,.int .i64 0,.str [],.nils,.nils] FZ]):=hσ.plus (by rw[List.all_cons,show AO.below 0 (.cells j.cs FZ)=true from j.bel];rfl)
 obtain⟨a,b,q1,q2,q3⟩:=ace F ns l1 x _ ok1;rw[hC.go hn];unfold JV.av;rw[e1]at q1 ok1;rw[e1];cases hk:(k !=5)
 ·cases b
  ·refine⟨JV.zero,false,?_⟩;rw[JV.zero_cs];simp only[uA,hk,q1,tz,bI,bu,dE,AV.cells,AV.flat,splice,EVX,seval]
  ·have ha:=q2 rfl;obtain⟨a,rfl⟩:=Int.eq_ofNat_of_zero_le ha;by_cases hl:a<is.length
   ·have hl':¬((is.length:Int)<=(a:Int)):=by omega
    have d2:=uG is a hl;have sl:=iZ is;generalize is[a]=y at*;generalize aG (is.drop (a+1))=R at*;have yl:=JV.len y;have yf:=JV.flat y;have yt:(y.cs++R).take 5=y.cs:=by rw[<-yl];simp
    have ye:5<=(y.cs++R).length:=by simp[yl]
    have yt':y.cs.take 5=y.cs:=List.take_of_length_le (by rw[JV.len];exact Nat.le_refl _)
    have ye':5<=y.cs.length:=by rw[JV.len];exact Nat.le_refl _
    have sp:∀a b c d e:AV,splice [a,b,c,d,e] 0 y.cs=y.cs:=fun a b c d e=>by simp[splice,yl]
    have cp:=JR H y _ ok1;have ty:∀(b:Bool) (L:St),tidy O.length [.agg y.cs,.bool b] (O++L)=O:=fun b L=>df hσ (by rw[ae,below,y.bel];rfl) L
    have nf:=fun Y r=>y.nvs.nf Y r;refine⟨y,true,?_⟩;unfold JV.av at cp;simp only[uA,hk,q1,hl,hl',ha,d2,sl,cp,yl,yf,yt,ye,yt',sp,ty,nf,Int.toNat_natCast,bI,bu,AV.cells,EVX,seval]
   ·have hl':((is.length:Int)<=(a:Int)):=by omega
    refine⟨JV.zero,false,?_⟩;rw[JV.zero_cs];simp only[uA,hk,q1,hl',tz,bI,bu,dE,AV.cells,AV.flat,splice,EVX,seval]
 ·refine⟨JV.zero,false,?_⟩;rw[JV.zero_cs];simp only[uA,hk,tz,bI,bu,dE,AV.cells,AV.flat,splice,EVX,seval]
theorem S9:∀is:List JV,aG is=is.flatMap JV.cs
 |[]=>by rw[aG];rfl
 |j::l=>by rw[aG,S9 l,List.flatMap_cons]
theorem TB (k n:Int) (t:LU) (ns:List LU) (I:AV) (hl:ns.length<=1099511627776) (O:St) (X:AO) (hX:X=.cells [.int .u8 k,.int .i64 n,.str t,.sl ns.length (ns.flatMap sC),I] FZ):∀(m i:Nat),i+m=ns.length->
  aB C (ai C) 81 [2,3,5] eU [(2,.ref O.length 0),(3,.ref (O.length+1) 0),(5,.int .i64 i)] (O++[X,X])=some (.exit 0,[(2,.ref O.length 0),(3,.ref (O.length+1) 0)],O++[X,X])
 |0,i,hi=>by
  rw[aA (he:=rfl)];have h:¬((i:Int)<(ns.length:Int)):=by omega
  have fl:=dA yI ns;rw[Nat.mul_one]at fl;subst hX;simp only[eU,h,bH,cu,EVX,seval]
 |m+1,i,hi=>by
  rw[aA (he:=rfl)];have h:((i:Int)<(ns.length:Int)):=by omega
  have h2:i<ns.length:=by omega
  have hb:ns[i]?=some ns[i]:=List.getElem?_eq_getElem h2;have hw:=wrS i (by omega)
  have h3:(0:Int)<=i:=by omega
  have fl:=dA yI ns;have fd:=lL yI hb;obtain⟨p,hpe⟩:∃p,p=ns[i]:=⟨_,rfl⟩;rw[<-hpe,Nat.mul_one]at fd;rw[Nat.mul_one]at fl;have pc:sC p=[.str p]:=rfl;have ih:=TB k n t ns I hl O X hX m (i+1) (by omega)
  subst hX;generalize hk:aB C (ai C) 81 [2,3,5] eU=k at*;simp only[eU,h,h2,h3,hw,fl,fd,pc,bH,ih,cu,dW,List.cons_append,Nat.mul_one,EVX,seval]
theorem WQ (k n:Int) (t:LU) (N:AV) (is:List JV) (hl:is.length<=8192) (O:St) (X:AO) (hX:X=.cells [.int .u8 k,.int .i64 n,.str t,N,.sl is.length (is.flatMap JV.cs)] FZ) (hO:Ok (O++[X,X])) (IH:∀j∈is,∀Y,Ok Y->ai C fA [j.av,j.av] Y=some (.bool true,Y)):∀(m i:Nat),i+m=is.length->
  aB C (ai C) 81 [2,3,6] ig [(2,.ref O.length 0),(3,.ref (O.length+1) 0),(6,.int .i64 i)] (O++[X,X])=some (.exit 2,[],O++[X,X])
 |0,i,hi=>by
  rw[aA (he:=rfl)];have h:¬((i:Int)<(is.length:Int)):=by omega
  subst hX;simp only[ig,h,bH,cu,EVX,seval]
 |m+1,i,hi=>by
  rw[aA (he:=rfl)];have h:((i:Int)<(is.length:Int)):=by omega
  have h2:i<is.length:=by omega
  have hb:is[i]?=some is[i]:=List.getElem?_eq_getElem h2;have hw:=wrS i (by omega)
  have h3:(0:Int)<=i:=by omega
  have fl:=dA JV.len is;have fd:=lL JV.len hb;have q:=IH is[i] (List.getElem_mem h2) _ hO;obtain⟨p,hpe⟩:∃p,p=is[i]:=⟨_,rfl⟩;rw[<-hpe]at fd q;unfold JV.av at q;obtain⟨a,b,c,d,e,pc⟩:∃a b c d e,p.cs=[a,b,c,d,e]:=by
   have:=JV.len p
   match h:p.cs,this with
   |[a,b,c,d,e],_=>exact⟨a,b,c,d,e,rfl⟩
  have pf:([a,b,c,d,e]:LA).all AV.flat=true:=by
   rw[<-pc];exact JV.flat p
  rw[pc]at fd q;have ih:=WQ k n t N is hl O X hX hO IH m (i+1) (by omega)
  subst hX;generalize hk:aB C (ai C) 81 [2,3,6] ig=k at*;simp only[ig,h,h2,h3,hw,fl,fd,q,bH,ih,cu,dW,List.cons_append,List.take_succ_cons,List.take_zero,EVX,seval]
theorem PG(hC:Has C fA kZ):∀(m:Nat) (j:JV) (O:St),SizeOf.sizeOf j.w<m->Ok O->ai C fA [j.av,j.av] O=some (.bool true,O)
 |0,j,O,hm,_=>absurd hm (by omega)
 |m+1,j,O,hm,hσ=>by
  obtain⟨k,n,t,ns,is,e1,l1,l2,hs,h1,h2,hj⟩:=j.cs_ex;have IH:∀x∈is,∀Y:St,Ok Y->ai C fA [x.av,x.av] Y=some (.bool true,Y):=fun x hx Y hτ=>PG hC m x Y (by have:=hs x hx;omega) hτ
  have hn:hand false [j.av,j.av] O=some ([j.av,j.av],O):=NVs.hand (.cons j.nv (.cons j.nv .nil)) _;rw[amS,S9]at e1;have hO:Ok (O++[.cells j.cs FZ,.cells j.cs FZ]):=hσ.plus (by
   have:AO.below 0 (.cells j.cs FZ)=true:=j.bel;rw[List.all_cons,this,List.all_cons,this];rfl)
  rw[e1]at hO;have lp:=TB (C:=C) k n t ns (.sl is.length (is.flatMap JV.cs)) (by omega) O _ rfl ns.length 0 (by omega)
  have lq:=WQ (C:=C) k n t (.sl ns.length (ns.flatMap sC)) is l2 O _ rfl hO IH is.length 0 (by omega)
  simp only[Int.cast_ofNat_Int]at lp lq;have fl:=dA yI ns;have fl2:=dA JV.len is;rw[Nat.mul_one]at fl;have ty:=df hσ (vs:=[.bool true]) rfl;unfold JV.av at hn⊢;rw[hC.go hn,e1];simp only[kZ,lp,lq,bH,ty,cu,dW,AV.cells,List.cons_append,EVX,seval]
theorem abT(hC:Has C fA kZ)(j:JV)(O:St)(hσ:Ok O):ai C fA [j.av,j.av] O=some (.bool true,O):=PG hC _ j O (Nat.lt_succ_self _) hσ
def rC(n:Int)(hs:List PS)(j:JV):LA:=.int .i64 n::.sl hs.length (hs.flatMap pC)::j.cs
theorem aab(n:Int)(hs:List PS)(j:JV):ae 0 (rC n hs j)=true:=by
 unfold rC;have h:below 0 (.sl hs.length (hs.flatMap pC))=true:=(uJ hs).cl;rw[ae,ae,h,j.bel];rfl
theorem amL(n:Int)(hs:List PS)(j:JV):(rC n hs j).length=7:=by simp[rC,JV.len]
theorem abW(hC:Has C uj tK)(hH:Has C fU fQ)(hV:Has C fA kZ)(n:Int)(hs:List PS)(hl:hs.length<=1099511627776)(j:JV)(O:St)(hσ:Ok O):ai C uj [.agg (rC n hs j),.agg (rC n hs j)] O=some (.bool true,O):=by
 have nv:NV (.agg (rC n hs j)):=.agg (.cons (.int _ _) (.cons (uJ hs) j.nvs));have hO:Ok (O++[.cells (rC n hs j) FZ,.cells (rC n hs j) FZ]):=hσ.plus (by
  have:AO.below 0 (.cells (rC n hs j) FZ)=true:=aab n hs j;rw[List.all_cons,this,List.all_cons,this];rfl)
 rw[hC.go (NVs.hand (.cons nv (.cons nv .nil)) _)];have q1:=CU hH hs hl;have q2:=abT hV j _ hO;unfold JV.av at q2;obtain⟨a,b,c,d,e,pc⟩:∃a b c d e,j.cs=[a,b,c,d,e]:=by
  have:=JV.len j
  match h:j.cs,this with
  |[a,b,c,d,e],_=>exact⟨a,b,c,d,e,rfl⟩
 have pf:([a,b,c,d,e]:LA).all AV.flat=true:=by
  rw[<-pc];exact JV.flat j
 have ty:=df hσ (vs:=[.bool true]) rfl;unfold rC at q2⊢;rw[pc]at q2⊢;simp only[tK,q1,q2,ty,cu,dW,AV.cells,List.cons_append,List.take_succ_cons,EVX,seval]
structure RoV where
 name:LU
 thr:Int
 ids:List LU
 term:Bool
 paths:List LU
 pres:List LU
def tC(ns:List LU):AV:=.sl ns.length (ns.flatMap sC)
def RoV.cs(r:RoV):LA:=[.str r.name,.int .i64 r.thr,tC r.ids,.bool r.term,tC r.paths,tC r.pres]
theorem RoV.len(r:RoV):r.cs.length=6:=rfl
theorem aiG(ns:List LU):below 0 (tC ns)=true:=(CV ns).cl
theorem RoV.bel(r:RoV):ae 0 r.cs=true:=by
 unfold RoV.cs;simp[ae,aiG,below]
structure RoV.ok(r:RoV):Prop where
 ids:r.ids.length<=1099511627776
 paths:r.paths.length<=1099511627776
 pres:r.pres.length<=1099511627776
structure DelHas(C:Ctx):Prop where
 texts:Has C rO rJ
 auth:Has C ui tJ
 keys:Has C uh tH
 del:Has C zV zH
theorem Oh:∀l:LA,(∀v∈l,same v v=true)->vS l l=true
 |[],_=>by simp[vS]
 |v::l,h=>by
  rw[vS,h v (by simp),Oh l fun x hx=>h x (by simp[hx])];rfl
theorem Yk(n:Nat)(l:LA)(h:∀v∈l,same v v=true):same (.sl n l) (.sl n l)=true:=by
 rw[same,Oh l h];simp
theorem ail(l:LA)(h:∀v∈l,same v v=true):same (.agg l) (.agg l)=true:=by
 rw[same,Oh l h]
theorem Yl(ns:List LU):same (tC ns) (tC ns)=true:=Yk _ _ fun v hv=>by
 obtain⟨s,_,hs⟩:=List.mem_flatMap.mp hv;simp only[sC,List.mem_singleton]at hs;rw[hs];exact CW _
theorem RoV.same(r:RoV):∀v∈r.cs,Ev.same v v=true:=fun v hv=>by
 simp only[RoV.cs,List.mem_cons,List.not_mem_nil,or_false]at hv;rcases hv with rfl|rfl|rfl|rfl|rfl|rfl
 ·exact CW _
 ·exact F6 _ _
 ·exact Yl _
 ·exact Hz _
 ·exact Yl _
 ·exact Yl _
theorem TZ (H:DelHas C) (K:AV) (B:LA) (rs:List RoV) (hr:∀r∈rs,r.ok) (hl:rs.length<=1099511627776) (q:Nat) (X:AO) (hX:X=.cells (K::.sl rs.length (rs.flatMap RoV.cs)::B) FZ):∀(m i:Nat) (Y:St),i+m=rs.length->Ok Y->Y[q]?=some X->Y[q+1]?=some X->
  ∃G',aB C (ai C) 104 [2,3,5] iq [(2,.ref q 0),(3,.ref (q+1) 0),(5,.int .i64 i)] Y=some (.exit 0,[],Y++G')
 |0,i,Y,hi,hτ,f2,f3=>by
  refine⟨[],?_⟩;rw[aA (he:=rfl),List.append_nil];have h:¬((i:Int)<(rs.length:Int)):=by omega
  subst hX;simp only[iq,h,f2,bH,EVX,seval]
 |m+1,i,Y,hi,hτ,f2,f3=>by
  have h2:i<rs.length:=by omega
  have hb:rs[i]?=some rs[i]:=List.getElem?_eq_getElem h2;have fl:=dA RoV.len rs;have fd:=lL RoV.len hb;have ok:=hr rs[i] (List.getElem_mem h2);obtain⟨p,hpe⟩:∃p,p=rs[i]:=⟨_,rfl⟩;rw[<-hpe]at fd ok;have g2:(Y++[.cells p.cs FZ,.cells p.cs FZ])[q]?=some X:=aF f2 _;have g3:(Y++[.cells p.cs FZ,.cells p.cs FZ])[q+1]?=some X:=aF f3 _;have g4:(Y++[.cells p.cs FZ])[q+1]?=some X:=aF f3 _;have sm1:=ail _ p.same;have sm2:same (.sl rs.length (rs.flatMap RoV.cs)) (.sl rs.length (rs.flatMap RoV.cs))=true:=Yk _ _ fun v hv=>by
   obtain⟨r,_,hv⟩:=List.mem_flatMap.mp hv;exact r.same v hv
  have hO:Ok (Y++[.cells p.cs FZ,.cells p.cs FZ]):=hτ.plus (by
   have:AO.below 0 (.cells p.cs FZ)=true:=p.bel;rw[List.all_cons,this,List.all_cons,this];rfl)
  obtain⟨G',ih⟩:=TZ H K B rs hr hl q X hX m (i+1) _ (by omega) hO g2 g3
  refine⟨[.cells p.cs FZ,.cells p.cs FZ]++G',?_⟩;rw[<-List.append_assoc];rw[aA (he:=rfl)];have h:((i:Int)<(rs.length:Int)):=by omega
  have hw:=wrS i (by omega)
  have h3:(0:Int)<=i:=by omega
  have q1:=TS H.auth p.thr p.ids ok.ids _ hO;have q2:=PH H.texts p.paths ok.paths;have q3:=PH H.texts p.pres ok.pres;unfold aC at q1;have pc:p.cs=[.str p.name,.int .i64 p.thr,.sl p.ids.length (p.ids.flatMap sC),.bool p.term,.sl p.paths.length (p.paths.flatMap sC),.sl p.pres.length (p.pres.flatMap sC)]:=rfl;rw[pc]at ih g2 g3 g4 sm1 q1 fd⊢;subst hX;generalize hk:aB C (ai C) 104 [2,3,5] iq=k at*;simp only[iq,h,h2,h3,hw,fl,fd,f2,f3,g4,sm1,sm2,q1,q2,q3,bH,ih,cu,dW,AV.cells,AV.flat,List.cons_append,List.nil_append,List.take_succ_cons,List.take_zero,EVX,seval]
structure UK where
 keys:List PS
 roles:List RoV
 thr:Int
 ids:List LU
 bits:Int
 pre:LU
def UK.cs(d:UK):LA:=[.sl d.keys.length (d.keys.flatMap pC),.sl d.roles.length (d.roles.flatMap RoV.cs),.int .i64 d.thr,tC d.ids,.int .i64 d.bits,.str d.pre]
structure UK.ok(d:UK):Prop where
 keys:d.keys.length<=1099511627776
 roles:d.roles.length<=1099511627776
 each:∀r∈d.roles,r.ok
 ids:d.ids.length<=1099511627776
theorem PL(l:List RoV):below 0 (.sl l.length (l.flatMap RoV.cs))=true:=nN (fun r=>r.bel) l
theorem UK.nvs(d:UK):NVs d.cs:=.cons (uJ d.keys) (.cons (.sl _ (PL d.roles)) (.cons (.int _ _) (.cons (CV d.ids) (.cons (.int _ _) (.cons (.str _) .nil)))))
theorem UK.bel(d:UK):ae 0 d.cs=true:=d.nvs.cl
theorem abV(H:DelHas C)(d:UK)(hd:d.ok)(O:St)(hσ:Ok O):ai C zV [.agg d.cs,.agg d.cs] O=some (.bool true,O):=by
 have nv:NV (.agg d.cs):=.agg d.nvs;rw[H.del.go (NVs.hand (.cons nv (.cons nv .nil)) _)];have hO:Ok (O++[.cells d.cs FZ,.cells d.cs FZ]):=hσ.plus (by
  have:AO.below 0 (.cells d.cs FZ)=true:=d.bel;rw[List.all_cons,this,List.all_cons,this];rfl)
 have dc:d.cs=[.sl d.keys.length (d.keys.flatMap pC),.sl d.roles.length (d.roles.flatMap RoV.cs),.int .i64 d.thr,.sl d.ids.length (d.ids.flatMap sC),.int .i64 d.bits,.str d.pre]:=rfl;obtain⟨G',lp⟩:=TZ H (.sl d.keys.length (d.keys.flatMap pC)) [.int .i64 d.thr,tC d.ids,.int .i64 d.bits,.str d.pre] d.roles hd.each hd.roles O.length _ rfl d.roles.length 0 _ (by omega) hO (by rw[cu];rfl) (by rw[dW];rfl)
 simp only[Int.cast_ofNat_Int,List.append_assoc]at lp;have q1:=abU H.keys d.keys hd.keys;have q2:=TS H.auth d.thr d.ids hd.ids _ hO;have fl:=dA RoV.len d.roles;have ty:=df hσ (vs:=[.bool true]) rfl;unfold aC at q2;rw[dc]at q2 lp⊢;simp only[zH,lp,q1,q2,bH,ty,cu,dW,AV.cells,List.cons_append,List.nil_append,List.take_succ_cons,List.take_zero,EVX,seval]
structure TgV where
 path:LU
 n:Int
 hs:List PS
 j:JV
def TgV.cs(t:TgV):LA:=.str t.path::rC t.n t.hs t.j
theorem TgV.len(t:TgV):t.cs.length=8:=by rw[TgV.cs,List.length_cons,amL]
theorem TgV.bel(t:TgV):ae 0 t.cs=true:=by
 rw[TgV.cs,ae,aab];rfl
structure aaM(C:Ctx):Prop extends DelHas C where
 hashes:Has C fU fQ
 val:Has C fA kZ
 record:Has C uj tK
 targets:Has C zX zJ
theorem Uz (H:aaM C) (v e:Int) (D:LA) (l:List TgV) (hh:∀t∈l,t.hs.length<=1099511627776) (hl:l.length<=1099511627776) (q:Nat) (X:AO) (hX:X=.cells (.int .i64 v::.int .i64 e::.sl l.length (l.flatMap TgV.cs)::D) FZ) (Y:St) (hτ:Ok Y) (f2:Y[q]?=some X) (f3:Y[q+1]?=some X):∀(m i:Nat),i+m=l.length->
  aB C (ai C) 71 [2,3,5] iC [(2,.ref q 0),(3,.ref (q+1) 0),(5,.int .i64 i)] Y=some (.exit 0,[],Y)
 |0,i,hi=>by
  rw[aA (he:=rfl)];have h:¬((i:Int)<(l.length:Int)):=by omega
  subst hX;simp only[iC,h,f2,bH,EVX,seval]
 |m+1,i,hi=>by
  have h2:i<l.length:=by omega
  have hb:l[i]?=some l[i]:=List.getElem?_eq_getElem h2;have fl:=dA TgV.len l;have fd:=lL TgV.len hb;have q1:=abW H.record H.hashes H.val l[i].n l[i].hs (hh _ (List.getElem_mem h2)) l[i].j Y hτ;obtain⟨p,hpe⟩:∃p,p=l[i]:=⟨_,rfl⟩;rw[<-hpe]at fd q1;have ih:=Uz H v e D l hh hl q X hX Y hτ f2 f3 m (i+1) (by omega)
  rw[aA (he:=rfl)];have h:((i:Int)<(l.length:Int)):=by omega
  have hw:=wrS i (by omega)
  have h3:(0:Int)<=i:=by omega
  obtain⟨a,b,c,d,g,pc⟩:∃a b c d g,p.j.cs=[a,b,c,d,g]:=by
   have:=JV.len p.j
   match h:p.j.cs,this with
   |[a,b,c,d,g],_=>exact⟨a,b,c,d,g,rfl⟩
  have pf:([a,b,c,d,g]:LA).all AV.flat=true:=by
   rw[<-pc];exact JV.flat p.j
  unfold rC at q1;unfold TgV.cs rC at fd;rw[pc]at q1 fd;have fd2:(l.flatMap TgV.cs).drop (i*8)=[.str p.path,.int .i64 p.n,.sl p.hs.length (p.hs.flatMap pC),a,b,c,d,g]++(l.drop (i+1)).flatMap TgV.cs:=fd;subst hX;generalize hk:aB C (ai C) 71 [2,3,5] iC=k at*;simp only[iC,h,h2,h3,hw,fl,fd2,f2,f3,q1,bH,ih,List.cons_append,List.nil_append,List.take_succ_cons,List.take_zero,EVX,seval]
structure wG where
 ver:Int
 exp:Int
 list:List TgV
 del:UK
def wG.cs(t:wG):LA:=.int .i64 t.ver::.int .i64 t.exp::.sl t.list.length (t.list.flatMap TgV.cs)::t.del.cs
structure wG.ok(t:wG):Prop where
 list:t.list.length<=1099511627776
 each:∀x∈t.list,x.hs.length<=1099511627776
 del:t.del.ok
theorem wG.nvs(t:wG):NVs t.cs:=.cons (.int _ _) (.cons (.int _ _) (.cons (.sl _ (nN (fun r=>r.bel) t.list)) t.del.nvs))
theorem abY(H:aaM C)(t:wG)(ht:t.ok)(O:St)(hσ:Ok O):ai C zX [.agg t.cs,.agg t.cs] O=some (.bool true,O):=by
 have nv:NV (.agg t.cs):=.agg t.nvs;rw[H.targets.go (NVs.hand (.cons nv (.cons nv .nil)) _)];have hO:Ok (O++[.cells t.cs FZ,.cells t.cs FZ]):=hσ.plus (by
  have:AO.below 0 (.cells t.cs FZ)=true:=t.nvs.cl;rw[List.all_cons,this,List.all_cons,this];rfl)
 have lp:=Uz H t.ver t.exp t.del.cs t.list ht.each ht.list O.length _ rfl _ hO (by rw[cu];rfl) (by rw[dW];rfl) t.list.length 0 (by omega)
 simp only[Int.cast_ofNat_Int]at lp;have q1:=abV H.toDelHas t.del ht.del _ hO;have fl:=dA TgV.len t.list;have ty:=df hσ (vs:=[.bool true]) rfl;have dc:t.cs=[.int .i64 t.ver,.int .i64 t.exp,.sl t.list.length (t.list.flatMap TgV.cs),.sl t.del.keys.length (t.del.keys.flatMap pC),.sl t.del.roles.length (t.del.roles.flatMap RoV.cs),.int .i64 t.del.thr,.sl t.del.ids.length (t.del.ids.flatMap sC),.int .i64 t.del.bits,.str t.del.pre]:=rfl;have dd:t.del.cs=[.sl t.del.keys.length (t.del.keys.flatMap pC),.sl t.del.roles.length (t.del.roles.flatMap RoV.cs),.int .i64 t.del.thr,.sl t.del.ids.length (t.del.ids.flatMap sC),.int .i64 t.del.bits,.str t.del.pre]:=rfl;rw[dc,dd]at q1;rw[dc]at lp⊢;simp only[zJ,lp,q1,bH,ty,cu,dW,AV.cells,List.cons_append,List.nil_append,List.take_succ_cons,EVX,seval]
structure fD where
 th:Int
 ids:List LU
def fD.cs(a:fD):LA:=[.int .i64 a.th,.sl a.ids.length (a.ids.flatMap sC)]
theorem fD.len(a:fD):a.cs.length=2:=rfl
theorem JP(l:List LU):ae 0 (l.flatMap sC)=true:=nN (fun _=>rfl) l
theorem fD.below(a:fD):ae 0 a.cs=true:=by
 simp only[fD.cs,ae,Ev.below,JP];rfl
theorem acA(a:fD):NV (.agg a.cs):=.agg (.cons (.int _ _) (.cons (.sl _ (JP _)) .nil))
def liN:List LU->Nat->Nat
 |[],n=>n
 |s::l,n=>if n<5000 then liN l (n+10+min 5000 s.length)else n
def laN:List fD->Nat->Nat
 |[],n=>n
 |a::l,n=>laN l (liN a.ids n)
theorem aho:∀(l:List LU) (n:Nat),n<=liN l n
 |[],n=>Nat.le_refl _
 |h::l,n=>by
  unfold liN;split
  ·exact Nat.le_trans (by omega) (aho l _)
  ·exact Nat.le_refl _
theorem ahp:∀(l:List LU) (n:Nat),n<=10010->liN l n<=10010
 |[],n,h=>h
 |s::l,n,h=>by
  unfold liN;split
  ·exact ahp l _ (by omega)
  ·exact h
theorem IC (azs:List fD) (m:Nat) (a:fD) (hm:azs[m]?=some a) (O:St):∀(n i acc:Nat),i+n=a.ids.length->acc<=10010->(acc<5000->10*i<=acc)->
  aB C (ai C) 41 [0,3,4,5] dL [(0,.sl azs.length (azs.flatMap fD.cs)),(3,.int .i64 acc),(4,.int .i64 m),(5,.int .i64 i)] O=some (.exit 2,[(0,.sl azs.length (azs.flatMap fD.cs)),(3,.int .i64 (liN (a.ids.drop i) acc:Nat)),(4,.int .i64 m)],O)
 |0,i,acc,hi,ha,hb=>by
  rw[aA (he:=rfl)];have hml:m<azs.length:=(List.getElem?_eq_some_iff.mp hm).1;have h:¬((i:Int)<(a.ids.length:Int)):=by omega
  have h':a.ids.drop i=[]:=List.drop_eq_nil_of_le (by omega)
  have h0:(0:Int)<=m:=by omega
  have fl:=dA fD.len azs;have fd:=lL fD.len hm;have pc:a.cs=[.int .i64 a.th,.sl a.ids.length (a.ids.flatMap sC)]:=rfl;simp only[dL,h,h',h0,hml,fl,fd,pc,liN,bH,EVX,seval]
 |n+1,i,acc,hi,ha,hbb=>by
  rw[aA (he:=rfl)];have hml:m<azs.length:=(List.getElem?_eq_some_iff.mp hm).1;have h:((i:Int)<(a.ids.length:Int)):=by omega
  have h2:i<a.ids.length:=by omega
  have hb:a.ids[i]?=some a.ids[i]:=List.getElem?_eq_getElem h2;have h':a.ids.drop i=a.ids[i]::a.ids.drop (i+1):=List.drop_eq_getElem_cons h2;have h0:(0:Int)<=m:=by omega
  have h3:(0:Int)<=i:=by omega
  have fl:=dA fD.len azs;have fd:=lL fD.len hm;have fi:=dA yI a.ids;have fe:=lL yI hb;rw[Nat.mul_one]at fe fi;obtain⟨p,hpe⟩:∃p,p=a.ids[i]:=⟨_,rfl⟩;rw[<-hpe]at fe h';have pc:a.cs=[.int .i64 a.th,.sl a.ids.length (a.ids.flatMap sC)]:=rfl;have ps:sC p=[.str p]:=rfl;rw[h',liN];by_cases hc:acc<5000
  ·have hc':((acc:Int)<5000):=by omega
   have hw:=wrS i (by omega)
   have w1:IntKind.i64.wrap ((acc:Int)+10)=((acc+10:Nat):Int):=wrE (by omega)
   have w2:IntKind.i64.wrap (((acc+10:Nat):Int)+((min 5000 p.length:Nat):Int))=((acc+10+min 5000 p.length:Nat):Int):=wrE (by omega)
   have ih:=IC azs m a hm O n (i+1) (acc+10+min 5000 p.length) (by omega) (by omega) (by omega)
   rw[if_pos hc,<-ih];generalize hk:aB C (ai C) 41 [0,3,4,5] dL=k at*;simp only[dL,h,h2,h3,h0,hml,hc',hw,w1,w2,ZZ,fl,fd,fi,fe,pc,ps,bH,Nat.mul_one,EVX,seval]
  ·have hc':¬((acc:Int)<5000):=by omega
   rw[if_neg hc];simp only[dL,h,h0,hml,hc',fl,fd,pc,bH,EVX,seval]
theorem Fp (azs:List fD) (hl:azs.length<=100) (O:St):∀(n m acc:Nat),m+n=azs.length->acc<=10010->
  aB C (ai C) 41 [0,3,4] gZ [(0,.sl azs.length (azs.flatMap fD.cs)),(3,.int .i64 acc),(4,.int .i64 m)] O=some (.exit 0,[(3,.int .i64 (laN (azs.drop m) acc:Nat))],O)
 |0,m,acc,hi,ha=>by
  rw[aA (he:=rfl)];have h:¬((m:Int)<(azs.length:Int)):=by omega
  have h':azs.drop m=[]:=List.drop_eq_nil_of_le (by omega)
  simp only[gZ,h,h',laN,bH,EVX,seval]
 |n+1,m,acc,hi,ha=>by
  rw[aA (he:=rfl)];have h:((m:Int)<(azs.length:Int)):=by omega
  have h2:m<azs.length:=by omega
  have hb:azs[m]?=some azs[m]:=List.getElem?_eq_getElem h2;have h':azs.drop m=azs[m]::azs.drop (m+1):=List.drop_eq_getElem_cons h2;have hw:=wrS m (by omega)
  obtain⟨a,hae⟩:∃a,a=azs[m]:=⟨_,rfl⟩;rw[<-hae]at h' hb;have lp:=IC (C:=C) azs m a hb O a.ids.length 0 acc (by omega) ha (by omega)
  simp only[Int.cast_ofNat_Int,List.drop_zero]at lp;have ih:=Fp azs hl O n (m+1) (liN a.ids acc) (by omega) (ahp _ _ ha)
  rw[h',laN,<-ih];generalize hk:aB C (ai C) 41 [0,3,4] gZ=k at*;simp only[gZ,h,hw,lp,bH,EVX,seval]
def Am(azs:List fD):Bool:=decide (5000<=laN azs 0)
theorem Td(hC:Has C lF sW)(azs:List fD)(hl:azs.length<=100)(O:St):ai C lF [.xsl azs.length (azs.flatMap fD.cs)] O=some (.bool (Am azs),O):=by
 have hn:hand false [.xsl azs.length (azs.flatMap fD.cs)] O=some ([.sl azs.length (azs.flatMap fD.cs)],O):=by
  have ns:NVs (azs.flatMap fD.cs):=fun v hv=>by
   obtain⟨a,_,ha⟩:=List.mem_flatMap.mp hv;simp only[fD.cs,List.mem_cons,List.not_mem_nil,or_false]at ha;rcases ha with rfl|rfl
   ·exact .int _ _
   ·exact .sl _ (JP _)
  show(match bZ O 12 [.xsl azs.length (azs.flatMap fD.cs)]with|some (l,fs)=>some (l,freeze O fs)|none=>none)=_
  have:aU O (bZ O 11) (.xsl azs.length (azs.flatMap fD.cs))=some (.sl azs.length (azs.flatMap fD.cs),[]):=by
   show(match aJ O (bZ O 11) (azs.flatMap fD.cs)with|some (l,fs)=>some (AV.sl azs.length l,fs)|none=>none)=_
   rw[ns.nf]
  rw[show bZ O 12 [.xsl azs.length (azs.flatMap fD.cs)]=(match aU O (bZ O 11) (.xsl azs.length (azs.flatMap fD.cs)),aJ O (bZ O 11) []with|some (v,fs),some (l,gs)=>some (v::l,fs++gs)|_,_=>none)from rfl,this]
  rfl
 rw[hC.go hn];have lp:=Fp (C:=C) azs hl O azs.length 0 0 (by omega) (by omega)
 simp only[Int.cast_ofNat_Int,List.drop_zero]at lp;have e:decide ((5000:Int)<=(laN azs 0:Int))=Am azs:=by unfold Am;rw[Bool.eq_iff_iff];simp;omega
 simp only[sW,lp,e,EVX,seval]
structure yD where
 name:LU
 version:Int
 length:Int
 hashes:List PS
def yD.cs(p:yD):LA:=[.str p.name,.int .i64 p.version,.int .i64 p.length,.sl p.hashes.length (p.hashes.flatMap pC)]
theorem amC(p:yD):NV (.agg p.cs):=.agg (.cons (.str _) (.cons (.int _ _) (.cons (.int _ _) (.cons (uJ _) .nil))))
theorem adn(l:List PS):NV (.sl l.length (l.flatMap pC)):=uJ l
structure eG where
 id:LU
 sig:LU
 dig:LU
def eG.cs(k:eG):LA:=[.str k.id,.str k.sig,.str k.dig]
theorem eG.len(k:eG):k.cs.length=3:=rfl
theorem UD(l:List eG):NV (.sl l.length (l.flatMap eG.cs)):=.sl _ (nN (fun _=>rfl) l)
def ZP(k:PS):Bool:=decide (300<k.1.length)||decide (300<k.2.length)
def DW(l:List PS):Bool:=decide (40<l.length)||l.any ZP
def ZQ(k:eG):Bool:=decide (300<k.id.length)||decide (300<k.sig.length)||decide (300<k.dig.length)
def wR(l:List eG):Bool:=decide (60<l.length)||l.any ZQ
theorem yR (l:List PS) (hl:l.length<=40) (O:St):∀(n i:Nat),i+n=l.length->
  aB C (ai C) 29 [0,3] bV [(0,.sl l.length (l.flatMap pC)),(3,.int .i64 i)] O=if(l.drop i).any ZP then some (.ret,[(2,.bool true)],O)else some (.exit 0,[],O)
 |0,i,hi=>by
  rw[aA (he:=rfl)];have h:¬((i:Int)<(l.length:Int)):=by omega
  have h':l.drop i=[]:=List.drop_eq_nil_of_le (by omega)
  simp only[bV,h,h',List.any_nil,bH,EVX,seval]
 |n+1,i,hi=>by
  rw[aA (he:=rfl)];have h:((i:Int)<(l.length:Int)):=by omega
  have h2:i<l.length:=by omega
  have hb:l[i]?=some l[i]:=List.getElem?_eq_getElem h2;have h':l.drop i=l[i]::l.drop (i+1):=List.drop_eq_getElem_cons h2;have h3:(0:Int)<=i:=by omega
  have hw:=wrS i (by omega)
  have fl:=dA DZ l;have fd:=lL DZ hb;obtain⟨p,hpe⟩:∃p,p=l[i]:=⟨_,rfl⟩;rw[<-hpe]at fd h';have pc:pC p=[.str p.1,.str p.2]:=rfl;have ih:=yR l hl O n (i+1) (by omega)
  rw[h',List.any_cons,ZP];generalize hk:aB C (ai C) 29 [0,3] bV=k at*;by_cases c1:300<p.1.length
  ·have c1':(300:Int)<(p.1.length:Int):=by omega
   simp only[bV,h,h2,h3,c1,c1',fl,fd,pc,bH,Bool.true_or,EVX,seval]
  ·have c1':¬(300:Int)<(p.1.length:Int):=by omega
   by_cases c2:300<p.2.length
   ·have c2':(300:Int)<(p.2.length:Int):=by omega
    simp only[bV,h,h2,h3,c1,c1',c2,c2',fl,fd,pc,bH,Bool.true_or,Bool.or_true,EVX,seval]
   ·have c2':¬(300:Int)<(p.2.length:Int):=by omega
    simp only[bV,h,h2,h3,hw,c1,c1',c2,c2',ih,fl,fd,pc,bH,EVX,seval]
theorem Fq(hC:Has C pI kK)(l:List PS)(O:St):ai C pI [.sl l.length (l.flatMap pC)] O=some (.bool (DW l),O):=by
 rw[hC.go (NVs.hand (.cons (adn l) .nil) _)];have fl:=dA DZ l;unfold DW;by_cases c:40<l.length
 ·have c':(40:Int)<(l.length:Int):=by omega
  simp only[kK,c,c',bH,Bool.true_or,EVX,seval]
 ·have c':¬(40:Int)<(l.length:Int):=by omega
  have lp:=yR (C:=C) l (by omega) O l.length 0 (by omega)
  simp only[Int.cast_ofNat_Int,List.drop_zero]at lp;cases ha:l.any ZP<;>rw[ha]at lp<;>simp only[kK,c,c',lp,bH,EVX,seval]
theorem uH (l:List eG) (hl:l.length<=60) (O:St):∀(n i:Nat),i+n=l.length->
  aB C (ai C) 38 [0,3] aY [(0,.sl l.length (l.flatMap eG.cs)),(3,.int .i64 i)] O=if(l.drop i).any ZQ then some (.ret,[(2,.bool true)],O)else some (.exit 0,[],O)
 |0,i,hi=>by
  rw[aA (he:=rfl)];have h:¬((i:Int)<(l.length:Int)):=by omega
  have h':l.drop i=[]:=List.drop_eq_nil_of_le (by omega)
  simp only[aY,h,h',List.any_nil,bH,EVX,seval]
 |n+1,i,hi=>by
  rw[aA (he:=rfl)];have h:((i:Int)<(l.length:Int)):=by omega
  have h2:i<l.length:=by omega
  have hb:l[i]?=some l[i]:=List.getElem?_eq_getElem h2;have h':l.drop i=l[i]::l.drop (i+1):=List.drop_eq_getElem_cons h2;have h3:(0:Int)<=i:=by omega
  have hw:=wrS i (by omega)
  have fl:=dA eG.len l;have fd:=lL eG.len hb;obtain⟨p,hpe⟩:∃p,p=l[i]:=⟨_,rfl⟩;rw[<-hpe]at fd h';have pc:p.cs=[.str p.id,.str p.sig,.str p.dig]:=rfl;have ih:=uH l hl O n (i+1) (by omega)
  rw[h',List.any_cons,ZQ];generalize hk:aB C (ai C) 38 [0,3] aY=k at*;by_cases c1:300<p.id.length
  ·have c1':(300:Int)<(p.id.length:Int):=by omega
   simp only[aY,h,h2,h3,c1,c1',fl,fd,pc,bH,Bool.true_or,EVX,seval]
  ·have c1':¬(300:Int)<(p.id.length:Int):=by omega
   by_cases c2:300<p.sig.length
   ·have c2':(300:Int)<(p.sig.length:Int):=by omega
    simp only[aY,h,h2,h3,c1,c1',c2,c2',fl,fd,pc,bH,Bool.true_or,Bool.or_true,EVX,seval]
   ·have c2':¬(300:Int)<(p.sig.length:Int):=by omega
    by_cases c3:300<p.dig.length
    ·have c3':(300:Int)<(p.dig.length:Int):=by omega
     simp only[aY,h,h2,h3,c1,c1',c2,c2',c3,c3',fl,fd,pc,bH,Bool.true_or,Bool.or_true,EVX,seval]
    ·have c3':¬(300:Int)<(p.dig.length:Int):=by omega
     simp only[aY,h,h2,h3,hw,c1,c1',c2,c2',c3,c3',ih,fl,fd,pc,bH,EVX,seval]
theorem Ju(hC:Has C iV eP)(l:List eG)(O:St):ai C iV [.sl l.length (l.flatMap eG.cs)] O=some (.bool (wR l),O):=by
 rw[hC.go (NVs.hand (.cons (UD l) .nil) _)];have fl:=dA eG.len l;unfold wR;by_cases c:60<l.length
 ·have c':(60:Int)<(l.length:Int):=by omega
  simp only[eP,c,c',bH,Bool.true_or,EVX,seval]
 ·have c':¬(60:Int)<(l.length:Int):=by omega
  have lp:=uH (C:=C) l (by omega) O l.length 0 (by omega)
  simp only[Int.cast_ofNat_Int,List.drop_zero]at lp;cases ha:l.any ZQ<;>rw[ha]at lp<;>simp only[eP,c,c',lp,bH,EVX,seval]
def byA(h:Bool)(l:List eG):LA:=[.bool h,.sl l.length (l.flatMap eG.cs)]
theorem Rh(h:Bool)(l:List eG):NV (.agg (byA h l)):=.agg (.cons (.bool _) (.cons (UD l) .nil))
def lhN:List PS->Nat->Nat
 |[],n=>n
 |h::l,n=>if n<5000 then lhN l (n+10+min 5000 h.1.length+min 5000 h.2.length)else n
theorem ahn:∀(l:List PS) (n:Nat),n<=lhN l n
 |[],n=>Nat.le_refl _
 |h::l,n=>by
  unfold lhN;split
  ·exact Nat.le_trans (by omega) (ahn l _)
  ·exact Nat.le_refl _
theorem adp:∀(l:List PS) (n:Nat),lhN l n<5000->n+10*l.length<=lhN l n
 |[],n,_=>by simp[lhN]
 |h::l,n,hl=>by
  unfold lhN at*;split at hl
  ·rename_i hn;rw[if_pos hn];have:=adp l _ hl;simp only[List.length_cons];omega
  ·omega
def Tm(l:List PS):Bool:=decide (5000<=lhN l 0)
theorem Ok.more{Y:St}(h:Ok Y){L:St}(hl:L.all (AO.below 0)=true):Ok (Y++L):=h.app (by
 rw[List.all_eq_true]at*;exact fun x hx=>AO.below_mono (Nat.zero_le _) x (hl x hx))
structure JudHas(C:Ctx):Prop where
 hmac:Has C La JX
 table:Has C Iw Ik
 clone:afy C aZ 3
def Nw(l:List eG):AV:=.sl l.length (l.flatMap eG.cs)
theorem ae3(l:List eG):NV (Nw l):=UD l
theorem JU(l:List eG):below 0 (Nw l)=true:=(ae3 l).cl
def agE:AO:=.cells [.iface 119 (.agg [])] FZ
def Yz(l:List eG):AO:=.cells [.iface 212 (.agg [Nw l])] FZ
theorem ajA(H:JudHas C)(O:St):ai C La [] O=some (.ref O.length 0,O++[agE]):=by
 have hn:hand false [] O=some ([],O):=rfl;have tk:∀Y,tidy O.length [.ref O.length 0] Y=Y:=fun Y=>wX (by simp[ae,below]) Y
 rw[H.hmac.go hn];simp only[JX,agE,tk,EVX,seval]
theorem aiI(H:JudHas C)(l:List eG)(hl:l.length<=60)(O:St):ai C Iw [Nw l] O=some (.ref O.length 0,O++[Yz l]):=by
 have tk:∀Y,tidy O.length [.ref O.length 0] Y=Y:=fun Y=>wX (by simp[ae,below]) Y
 have hs:(l.flatMap eG.cs).all UW=true:=by
  rw[List.all_eq_true];intro x hx;obtain⟨v,_,hv⟩:=List.mem_flatMap.mp hx;simp only[eG.cs,List.mem_cons,List.not_mem_nil,or_false]at hv;rcases hv with rfl|rfl|rfl<;>rfl
 have hc:=fun Y=>H.clone l.length (l.flatMap eG.cs) Y (by rw[dA eG.len]) (by omega) hs
 rw[H.table.go (NVs.hand (.cons (ae3 l) .nil) _)];simp only[Ik,Nw,Yz,hc,tk,EVX,seval]
def Ou(h:Bool)(l:List eG):AO:=match h with
 |true=>agE
 |false=>Yz l
def aaf(h:Bool)(l:List eG):AO:=.cells [.bool h,match h with
 |true=>.nils
 |false=>Nw l] FZ
open Go.RowKit Classical
def Gh.one(g:Gh)(o:Nat):Gh:={g with n:=1,ob:=fun _=>g.ob o,bs:=fun _=>g.bs o}
theorem Xx(g:Gh)(o:Nat):(g.cut 0).le (g.one o):=⟨rfl,Nat.zero_le _,fun _ h=>(Nat.not_lt_zero _ h).elim,fun _ h=>(Nat.not_lt_zero _ h).elim,fun _ _ _ h=>h⟩
theorem ahR{g g':Gh}{w:World}{o o':Nat}{l:LA}{fz:Fz}(h:OR g w o (.cells l fz))(hb:ae 0 l=true)(hle:(g.cut 0).le g')(h1:g'.ob o'=g.ob o)(h2:g'.bs o'=g.bs o)(h3:∀i v,g'.im (g.ob o) i=some v->g.im (g.ob o) i=some v):OR g' w o' (.cells l fz):=by
 obtain⟨c,e,fr,a1,a2,a3,a4,a5,a6⟩:=h;refine⟨c,e,fr,by rw[h1];exact a1,by rw[h2];exact a2,a3,fun i x hx=>?_,a5,fun i v hv=>a6 i v (h3 i v (by rw[<-h1];exact hv))⟩
 obtain⟨v,b1,b2⟩:=a4 i x hx;exact⟨v,b1,(b2.cut (zM hb hx)).mono hle⟩
theorem anl{g:Gh}{w:World}{O:St}{o:Nat}{l:LA}{fz:Fz}(hw:WR g w O)(ho:O[o]?=some (.cells l fz))(hb:ae 0 l=true):WR (g.one o) w [.cells l fz]:=
 ⟨rfl,hw.im,hw.uf,fun k x hk=>by
  cases k with
  |zero=>cases hk;exact ahR (hw.obj o _ ho) hb (Xx g o) rfl rfl fun _ _ h=>h
  |succ k=>simp at hk,fun k k' x x' hk hk' _ _ _=>by
  cases k with
  |zero=>cases k' with
   |zero=>rfl
   |succ k'=>simp at hk'
  |succ k=>simp at hk⟩
theorem aew{g:Gh}{w w':World}{O:St}{o:Nat}{l:LA}{fz:Fz}(hw:WR g w O)(ho:O[o]?=some (.cells l fz))(hb:ae 0 l=true){g':Gh}(hgo:Goes (g.one o) [.cells l fz] w g' [.cells l fz] w'):Goes g O w {g with im:=g'.im} O w'/\(g'.cut 0).le {g with im:=g'.im}:=by
 have hp:g'.pl=g.pl:=hgo.le.pl;have hob:g'.ob 0=g.ob o:=hgo.le.ob 0 (Nat.zero_lt_one);have hbs:g'.bs 0=g.bs o:=hgo.le.bs 0 (Nat.zero_lt_one);have hle:(g'.cut 0).le {g with im:=g'.im}:=⟨hp.symm,Nat.zero_le _,fun o ho=>(Nat.not_lt_zero _ ho).elim,fun o ho=>(Nat.not_lt_zero _ ho).elim,fun _ _ _ h=>h⟩;have hle':g.le {g with im:=g'.im}:=⟨rfl,Nat.le_refl _,fun _ _=>rfl,fun _ _=>rfl,fun b i v h=>hgo.le.im b i v h⟩;have hun:∀b,b≠g.ob o->UL (g.one o) [.cells l fz] b:=fun b hne k x h hl e=>by
  cases k with
  |zero=>exact hne e.symm
  |succ k=>simp at h
 refine⟨⟨hle',⟨hw.n,hgo.wr.im,fun b i v hv=>(hgo.wr.uf b i v hv).imp (fun e=>⟨(congrFun hp b).symm.trans e.1,e.2⟩) id,fun k x hx=>?_,hw.inj⟩,hgo.os,hgo.tape,hgo.output,hgo.size,fun b hlt hu=>?_⟩,hle⟩
 ·by_cases hko:k=o
  ·subst hko;rw[ho]at hx;cases hx;exact ahR (g:=g') (o:=0) (hgo.wr.obj 0 _ rfl) hb hle hob.symm hbs.symm fun _ _ h=>h
  have hk:=hw.obj k x hx;cases x with
  |dead=>trivial
  |cells l2 fz2=>
   obtain⟨c,e,fr,h1,h2,h3,h4,h5,h6⟩:=hk;have hlt:g.ob k<w.heap.size:=(Array.getElem?_eq_some_iff.mp h1).1;have hne:g.ob k≠g.ob o:=fun e=>hko (hw.inj k o _ _ hx ho rfl rfl e);obtain⟨_,f2,f3⟩:=hgo.fr (g.ob k) hlt (hun _ hne);refine⟨c,e,fr,f2.trans h1,h2,h3,fun i y hy=>?_,h5,fun i v hv=>h6 i v ((f3 i).symm.trans hv)⟩;obtain⟨v,hv,hr⟩:=h4 i y hy;exact⟨v,hv,hr.mono hle'⟩
  |map es=>
   obtain⟨ents,clock,h1,h2⟩:=hk;have hlt:g.ob k<w.heap.size:=(Array.getElem?_eq_some_iff.mp h1).1;have hne:g.ob k≠g.ob o:=fun e=>hko (hw.inj k o _ _ hx ho rfl rfl e);obtain⟨_,f2,f3⟩:=hgo.fr (g.ob k) hlt (hun _ hne);exact⟨ents,clock,f2.trans h1,h2.size,h2.clk,fun i k v hkv=>by
    obtain⟨e,he,hk,hv,hborn⟩:=h2.at_ i k v hkv;exact⟨e,he,hk.mono hle',hv.mono hle',hborn⟩⟩
 ·obtain⟨_,f2,f3⟩:=hgo.fr b hlt (hun b fun e=>hu o _ ho rfl e.symm);exact⟨hu,f2,f3⟩
structure QK(D C:Ctx):Prop where
 P:D.P=C.P
 gl:D.gl=C.gl
 np:D.np=C.np
 cl:∀n l,C.gl n=some l->ae 0 l=true
theorem QK.GL{D C:Ctx}(h:QK D C){g:Gh}(hg:GL C g):GL D g:=⟨fun n l hl=>hg.1 n l (by rw[<-h.gl];exact hl),by rw[h.np];exact hg.2⟩
theorem GL.cut{C:Ctx}{g g':Gh}(hg:GL C g)(hc:∀n l,C.gl n=some l->ae 0 l=true)(hle:(g.cut 0).le g'):GL C g':=⟨fun n l hl=>⟨((hg.1 n l hl).1.cut (hc n l hl)).mono hle,(congrFun hle.pl n).trans (hg.1 n l hl).2⟩,hg.2.imp id fun e b=>(congrFun hle.pl b).trans (e b)⟩
noncomputable def pFn(D:Ctx)(f:FuncId)(args:LA)(O:St):Option (AV×St):=
 match hand false args O with
 |none=>none
 |some (azs,O1)=>if ae 0 azs=true then match ai D f azs []with
  |some (v,[])=>some (v,O1)
  |_=>none else none
theorem QK.does{D C:Ctx}(h:QK D C){f:FuncId}{args:List Value}{w:World}{R:Value->World->Prop}(hd:Does D.P f args w R):Does C.P f args w R:=by rw[<-h.P];exact hd
theorem JD{D C:Ctx}(hs:QK D C)(hc:fO D (ai D))(f:FuncId):POK C f (pFn D f):=by
 intro args O v O' h g w args' ha hw hg;unfold pFn at h;split at h
 ·cases h
 ·rename_i azs O1 hh;split at h
  ·rename_i hb;split at h
   ·rename_i v2 h2;cases h;obtain⟨g1,hgo1,hv1⟩:=um hw false hh ha;have hw1:=hgo1.wr;have hw0:WR (g1.cut 0) w []:=⟨rfl,hw1.im,hw1.uf,fun o x hx=>by simp at hx,fun o o' x x' hx=>by simp at hx⟩
    have hg1:=GL.cut (hs.GL (hg.mono hgo1.le)) (fun n l hl=>hs.cl n l (by rw[<-hs.gl];exact hl)) (g':=g1.cut 0) ⟨rfl,Nat.le_refl _,fun _ _=>rfl,fun _ _=>rfl,fun _ _ _ h=>h⟩
    refine hs.does ((hc f azs [] _ [] h2 (g1.cut 0) w args' (hv1.cut hb) hw0 hg1).mono fun v' w' ⟨g',hgo',hr'⟩=>?_);obtain⟨hf,hle⟩:=DU hw1 hgo';exact⟨_,hgo1.trans hf,hr'.mono hle⟩
   ·cases h
  ·cases h
noncomputable def pRo(D:Ctx)(f:FuncId)(args:LA)(O:St):Option (AV×St):=
 match hand false args O with
 |some (.ref o 0::azs,O1)=>match O1[o]? with
  |some (.cells l fz)=>if ae 0 azs=true/\ae 0 l=true then match ai D f (.ref 0 0::azs) [.cells l fz]with
   |some (v,Y)=>if below 0 v=true/\Y=[.cells l fz]then some (v,O1)else none
   |none=>none else none
  |_=>none
 |_=>none
theorem amI{D C:Ctx}(hs:QK D C)(hc:fO D (ai D))(f:FuncId):POK C f (pRo D f):=by
 intro args O v O' h g w args' ha hw hg;unfold pRo at h;split at h
 ·rename_i o azs O1 hh;split at h
  ·rename_i l fz ho;split at h
   ·rename_i hb;split at h
    ·rename_i v2 Y h2;split at h
     ·rename_i hτ;obtain⟨hv0,rfl⟩:=hτ;cases h;obtain⟨g1,hgo1,hv1⟩:=um hw false hh ha;have hw1:=hgo1.wr;have hg1:=GL.cut (hs.GL (hg.mono hgo1.le)) (fun n l hl=>hs.cl n l (by rw[<-hs.gl];exact hl)) (Xx g1 o)
      have hargs:VRs (g1.one o) (.ref 0 0::azs) args':=by
       cases hv1 with
       |cons _ v1 _ l1 x y=>
        cases x with
        |ref o off hlt=>exact .cons _ _ _ _ (.ref (g:=g1.one o) 0 0 Nat.zero_lt_one) ((y.cut hb.1).mono (Xx g1 o))
      refine hs.does ((hc f _ _ _ _ h2 (g1.one o) w args' hargs (anl hw1 ho hb.2) hg1).mono fun v' w' ⟨g',hgo',hr'⟩=>?_);obtain⟨hf,hle⟩:=aew hw1 ho hb.2 hgo';exact⟨_,hgo1.trans hf,(hr'.cut hv0).mono hle⟩
     ·cases h
    ·cases h
   ·cases h
  ·cases h
 ·cases h
variable{D:Ctx}{PK:PkI}
theorem ahK:Ok ([]:St):=rfl
theorem aoT{f:FuncId}{args:List Sh}{res:Sh}(h:fC D PK f (.pure args res))(hc:cls args=true){azs:LA}(hm:Mt V0 args azs):∃v,M V0 res v/\∀O,pFn D f azs O=some (v,O):=by
 have hn:=Mt.nvs hm hc;obtain⟨v,e,hv⟩:=h [] azs azs [] ahK (hn.hand _) ahK hm;refine⟨v,hv,fun O=>?_⟩;unfold pFn;rw[hn.hand];dsimp only;rw[if_pos hn.cl,e]
end Go.Ev
namespace Go.Ev
set_option maxRecDepth 100000
variable{C:Ctx}
structure T3 where
 c:Int
 f:FuncId
 x:LA
 y:LA
def T3.cs(t:T3):LA:=[.int .u8 t.c,.func (.func t.f) t.x t.y]
theorem T3.len(t:T3):t.cs.length=2:=rfl
inductive uN(C:Ctx)(n:Nat):List T3->St->Int->St->Prop
 |nil (S:St):uN C n [] S 0 S
 |yes (t:T3) (l:List T3) (S S':St):ae n t.x=true->ae n t.y=true->S.length=n->S'.length=n->Ok S'->(∀G,Ok (S++G)->ai C t.f (t.x++t.y) (S++G)=some (.bool true,S'++G))->uN C n (t::l) S t.c S'
 |no (t:T3) (l:List T3) (S S' S'':St) (r:Int):ae n t.x=true->ae n t.y=true->S.length=n->S'.length=n->Ok S'->(∀G,Ok (S++G)->ai C t.f (t.x++t.y) (S++G)=some (.bool false,S'++G))->uN C n l S' r S''->uN C n (t::l) S r S''
def T3.ao(t:T3):AO:=.cells [.int .u8 t.c,.func (.func t.f) t.x t.y] FZ
theorem Xl{n k:Nat}(h:n<=k){x:AO}(hx:x.below n=true):x.below k=true:=by
 cases x with
 |dead=>rfl
 |cells l fz=>exact aK h l hx
 |map es=>
  simp only[AO.below,Bool.and_eq_true]at hx⊢;exact⟨aK h _ hx.1,aK h _ hx.2⟩
theorem adz{S:St}{x:AO}(hS:Ok S)(hx:x.below (S.length+1)=true):Ok (S++[x]):=adW hS (by simp[hx])
theorem Sl (n:Nat) (ts:List T3):∀(l:List T3) (i:Nat) (S S':St) (r:Int) (G:St),uN C n l S r S'->ts.drop i=l->i<=ts.length->S.length=n->ts.length<=1000->Ok (S++G)->(∀x∈G,AO.below (n+G.length) x=true)->
  ∃G',aB C (ai C) 17 [5,6,7] dP [(5,.sl ts.length (ts.flatMap T3.cs)),(6,.int .i64 ts.length),(7,.int .i64 i)] (S++G)=some (.ret,[(2,.int .u8 r)],S'++G')\/(r=0/\aB C (ai C) 17 [5,6,7] dP [(5,.sl ts.length (ts.flatMap T3.cs)),(6,.int .i64 ts.length),(7,.int .i64 i)] (S++G)=some (.exit 0,[],S'++G'))
 |[],i,S,S',r,G,R,hd,hi,hS,hn,hok,hG=>by
  cases R;have:i=ts.length:=by
   have:=congrArg List.length hd;simp at this;omega
  subst this;refine⟨G,.inr ⟨rfl,?_⟩⟩;rw[aA (he:=rfl)];have h:¬((ts.length:Int)<(ts.length:Int)):=by omega
  simp only[dP,h,EVX,seval]
 |t::l,i,S,S',r,G,R,hd,hi,hS,hn,hok,hG=>by
  have hlt:i<ts.length:=by
   by_cases h:i<ts.length
   ·exact h
   ·rw[List.drop_eq_nil_of_le (by omega)]at hd
    cases hd
  have hget:ts[i]?=some t:=by
   rw[List.drop_eq_getElem_cons hlt]at hd;rw[List.getElem?_eq_getElem hlt];exact congrArg some (List.cons.inj hd).1
  have hd2:ts.drop (i+1)=l:=by
   rw[List.drop_eq_getElem_cons hlt]at hd;exact(List.cons.inj hd).2
  have h:((i:Int)<(ts.length:Int)):=by omega
  have h0:(0:Int)<=(i:Int):=by omega
  have w1:=wrS i (by omega)
  have fl:=dA T3.len ts;have fa:=lL T3.len hget;have tc:t.cs=[.int .u8 t.c,.func (.func t.f) t.x t.y]:=rfl;rw[tc]at fa;simp only[List.cons_append,List.nil_append]at fa;generalize(ts.drop (i+1)).flatMap T3.cs=R' at fa;generalize hF:ts.flatMap T3.cs=F at fl fa⊢;cases R with
  |yes _ _ _ _ hx hy a b c e=>
   have e':=fun X=>e (G++X);simp only[<-List.append_assoc]at e';refine⟨G++[t.ao],.inl ?_⟩;have ok2:Ok ((S++G)++[t.ao]):=adz hok (by
    have hl:n<=(S++G).length+1:=by rw[List.length_append];omega
    simp only[T3.ao,AO.below,ae,below,aK hl _ hx,aK hl _ hy,Bool.and_self])
   have e2:=e' [t.ao] ok2;unfold T3.ao at e2⊢;rw[aA (he:=rfl)];generalize hk:aB C (ai C) 17 [5,6,7] dP=k at*;rw[<-List.append_assoc];have hT:(S'++G).length=(S++G).length:=by rw[List.length_append,List.length_append,a,b]
   generalize S++G=T at*;generalize S'++G=T' at*;have g2:∀X:AO,(T'++[X])[T.length]?=some X:=fun X=>by rw[<-hT];exact cu _ _
   simp only[g2,dP,h,h0,hlt,fl,fa,e2,jk,EVX,seval]
  |no _ _ _ S1 _ _ hx hy a b c e R1=>
   have e':=fun X=>e (G++X);simp only[<-List.append_assoc]at e';have ok2:Ok ((S++G)++[t.ao]):=adz hok (by
    have hl:n<=(S++G).length+1:=by rw[List.length_append];omega
    simp only[T3.ao,AO.below,ae,below,aK hl _ hx,aK hl _ hy,Bool.and_self])
   have e2:=e' [t.ao] ok2;have hG2:∀z∈G++[t.ao],AO.below (n+(G++[t.ao]).length) z=true:=fun z hz=>by
    rw[List.length_append];rcases List.mem_append.mp hz with hz|hz
    ·exact Xl (by simp) (hG z hz)
    ·simp only[List.mem_singleton]at hz;subst hz;have hl:n<=n+(G.length+1):=by omega
     simp only[T3.ao,AO.below,ae,below,List.length_singleton,aK hl _ hx,aK hl _ hy,Bool.and_self]
   have ok3:Ok (S1++(G++[t.ao])):=adW c (by
    rw[b,List.all_eq_true];exact hG2)
   obtain⟨G',ih⟩:=Sl n ts l (i+1) S1 S' r (G++[t.ao]) R1 hd2 (by omega) b hn ok3 hG2
   refine⟨G',?_⟩;have tail:aB C (ai C) 17 [5,6,7] dP [(5,.sl ts.length F),(6,.int .i64 ts.length),(7,.int .i64 i)] (S++G)=aB C (ai C) 17 [5,6,7] dP [(5,.sl ts.length F),(6,.int .i64 ts.length),(7,.int .i64 (i+1:Nat))] (S1++(G++[t.ao])):=by
    rw[aA (he:=rfl)];unfold T3.ao at e2⊢;generalize hk:aB C (ai C) 17 [5,6,7] dP=k at*;rw[<-List.append_assoc];generalize S++G=T at*;generalize S1++G=T' at*;simp only[dP,h,h0,hlt,fl,fa,e2,w1,jk,EVX,seval]
   rw[tail];rw[hF]at ih;exact ih
theorem uN.end_{n:Nat}{l:List T3}{S S':St}{r:Int}(R:uN C n l S r S')(h:S.length=n)(hok:Ok S):S'.length=n/\Ok S':=by
 induction R with
 |nil S=>exact⟨h,hok⟩
 |yes t l S S' _ _ _ b c _=>exact⟨b,c⟩
 |no t l S S1 S' r _ _ _ b c _ _ ih=>exact ih b c
def T3.nv(t:T3):Prop:=(∀Y r,aJ Y r t.x=some (t.x,[]))/\∀Y r,aJ Y r t.y=some (t.y,[])
theorem aay:∀(l:List T3),(∀t∈l,t.nv)->∀Y r,aJ Y r (l.flatMap T3.cs)=some (l.flatMap T3.cs,[])
 |[],_,Y,r=>rfl
 |t::l,h,Y,r=>by
  have ih:=aay l (fun t ht=>h t (by simp[ht])) Y r
  obtain⟨h1,h2⟩:=h t (by simp)
  rw[List.flatMap_cons,show t.cs=[.int .u8 t.c,.func (.func t.f) t.x t.y]from rfl,List.cons_append,List.cons_append,List.nil_append,aP,aP,abN,ajQ,h1,h2,ih];rfl
theorem EQ(hC:Has C BP xg){ts:List T3}{S S':St}{r:Int}(R:uN C S.length ts S r S')(hok:Ok S)(hn:ts.length<=1000)(hnv:∀t∈ts,t.nv):ai C BP [.xsl ts.length (ts.flatMap T3.cs)] S=some (.int .u8 r,S'):=by
 obtain⟨hl,hok'⟩:=R.end_ rfl hok;have hn0:hand false [.xsl ts.length (ts.flatMap T3.cs)] S=some ([.sl ts.length (ts.flatMap T3.cs)],S):=by
  simp only[sN,aP,zt,amr,aay ts hnv,freeze,List.append_nil]
 rw[hC.go hn0];obtain⟨G',h⟩:=Sl S.length ts ts 0 S S' r [] R rfl (Nat.zero_le _) rfl hn (by rw[List.append_nil];exact hok) (fun x hx=>by cases hx)
 rw[List.append_nil,show((0:Nat):Int)=0 from rfl]at h;have ty:=fun v=>df hok' (vs:=[.int .u8 v]) rfl;rw[hl]at ty;rcases h with h|⟨h0,h⟩
 ·simp only[xg,h,ty,EVX,seval]
 ·subst h0;simp only[xg,h,ty,EVX,seval]
structure dZ where
 v:AV
 a1:Int
 a2:AV
 ks:AV
 pn:LU
 pv:Int
 pl:Int
 ph:AV
 now:Int
 data:LU
 size:Int
 x0:AV
 x1:AV
 x2:AV
 x3:AV
 x4:AV
 e0:AV
 e1:AV
 e2:AV
 e3:AV
 e4:AV
 e5:AV
 ver:Int
 exp:Int
def dZ.cs(F:dZ):LA:=[F.v,.int .i64 F.a1,F.a2,F.ks,.str F.pn,.int .i64 F.pv,.int .i64 F.pl,F.ph,.int .i64 F.now,.str F.data,.int .i64 F.size,F.x0,F.x1,F.x2,F.x3,F.x4,F.e0,F.e1,F.e2,F.e3,F.e4,F.e5,.int .i64 F.ver,.int .i64 F.exp]
structure ChkHas(C:Ctx):Prop where
 missing:Has C mJ xB
 big:Has C qZ qR
 small:Has C tY sV
 otherDigest:Has C dY jC
 noText:Has C nS yL
 noEnvelope:Has C jW uz
 unsigned:Has C lK vV
 otherVersion:Has C lQ rH
 expired:Has C mG xA
variable{Y:St}{o:Nat}{F:dZ}
theorem TA(H:ChkHas C)(hτ:Ok Y)(ho:Y[o]?=some (.cells F.cs FZ)):ai C mJ [.ref o 0] Y=some (.bool (F.size== -1),Y):=by
 have hn:hand false [.ref o 0] Y=some ([.ref o 0],Y):=rfl;rw[H.missing.go hn];have ty:=fun b=>aX Y [.bool b];unfold dZ.cs at ho;simp only[xB,ho,ty,EVX,seval]
theorem afJ(H:ChkHas C)(hτ:Ok Y)(ho:Y[o]?=some (.cells F.cs FZ)):ai C qZ [.ref o 0] Y=some (.bool (decide (F.size<0)||(decide (0<=F.pl)&&decide (F.pl<(F.data.length:Int)))),Y):=by
 have hn:hand false [.ref o 0] Y=some ([.ref o 0],Y):=rfl;rw[H.big.go hn];have ty:=fun b=>aX Y [.bool b];unfold dZ.cs at ho;by_cases c1:F.size<0
 ·simp only[qR,ho,ty,c1,decide_true,Bool.true_or,EVX,seval]
 by_cases c2:(0:Int)<=F.pl
 ·simp only[qR,ho,ty,c1,c2,decide_true,decide_false,Bool.false_or,Bool.true_and,EVX,seval]
 ·simp only[qR,ho,ty,c1,c2,decide_false,Bool.false_and,EVX,seval]
theorem afh(H:ChkHas C)(hτ:Ok Y)(ho:Y[o]?=some (.cells F.cs FZ)):ai C tY [.ref o 0] Y=some (.bool (decide (0<=F.pl)&&decide ((F.data.length:Int)<F.pl)),Y):=by
 have hn:hand false [.ref o 0] Y=some ([.ref o 0],Y):=rfl;rw[H.small.go hn];have ty:=fun b=>aX Y [.bool b];unfold dZ.cs at ho;by_cases c2:(0:Int)<=F.pl
 ·simp only[sV,ho,ty,c2,decide_true,Bool.true_and,EVX,seval]
 ·simp only[sV,ho,ty,c2,decide_false,Bool.false_and,EVX,seval]
theorem PZ(H:ChkHas C)(hτ:Ok Y)(ho:Y[o]?=some (.cells F.cs FZ)):ai C lQ [.ref o 0] Y=some (.bool (F.ver !=F.pv),Y):=by
 have hn:hand false [.ref o 0] Y=some ([.ref o 0],Y):=rfl;rw[H.otherVersion.go hn];have ty:=fun b=>aX Y [.bool b];unfold dZ.cs at ho;simp only[rH,ho,ty,EVX,seval]
theorem RN(H:ChkHas C)(hτ:Ok Y)(ho:Y[o]?=some (.cells F.cs FZ)){b:Bool}(hw:ai C mW [.int .i64 F.exp,.int .i64 F.now] Y=some (.bool b,Y)):ai C mG [.ref o 0] Y=some (.bool b,Y):=by
 have hn:hand false [.ref o 0] Y=some ([.ref o 0],Y):=rfl;rw[H.expired.go hn];have ty:=fun b=>aX Y [.bool b];unfold dZ.cs at ho;simp only[xA,ho,ty,hw,EVX,seval]
theorem PU(H:ChkHas C)(hτ:Ok Y)(ho:Y[o]?=some (.cells F.cs FZ)){b:Bool}(hw:ai C iU [F.v,.agg [F.e0,F.e1,F.e2,F.e3,F.e4,F.e5],.agg [.int .i64 F.a1,F.a2],F.ks] Y=some (.bool b,Y)):ai C lK [.ref o 0] Y=some (.bool !b,Y):=by
 have hn:hand false [.ref o 0] Y=some ([.ref o 0],Y):=rfl;rw[H.unsigned.go hn];have ty:=fun b=>aX Y [.bool b];unfold dZ.cs at ho;simp only[vV,ho,ty,hw,EVX,seval]
theorem N9(H:ChkHas C)(hτ:Ok Y)(ho:Y[o]?=some (.cells F.cs FZ))(l:LA)(hp:F.ph=.sl 0 l):ai C dY [.ref o 0] Y=some (.bool false,Y):=by
 have hn:hand false [.ref o 0] Y=some ([.ref o 0],Y):=rfl;rw[H.otherDigest.go hn];have ty:=fun b=>aX Y [.bool b];unfold dZ.cs at ho;rw[hp]at ho;simp only[jC,ho,ty,EVX,seval]
theorem TF(H:ChkHas C)(hτ:Ok Y)(ho:Y[o]?=some (.cells F.cs FZ))(n:Nat)(l:LA)(hp:F.ph=.sl n l)(h0:n≠0){d dg:LU}{b:Bool}(hh:ai C rX [F.ph,.str [115,104,97,50,53,54]] Y=some (.tup [.str d,.bool b],Y))(hd:ai C mP [.str F.data] Y=some (.str dg,Y)):ai C dY [.ref o 0] Y=some (.bool (!b|| !decide (d=dg)),Y):=by
 have hn:hand false [.ref o 0] Y=some ([.ref o 0],Y):=rfl;rw[H.otherDigest.go hn];have ty:=fun b=>aX Y [.bool b];unfold dZ.cs at ho;rw[hp]at ho hh;have c:((n:Int)==0)=false:=by
  rw[beq_eq_false_iff_ne];omega
 cases b
 ·simp only[jC,ho,ty,c,hh,Bool.not_false,Bool.true_or,EVX,seval]
 ·simp only[jC,ho,ty,c,hh,hd,jA,Bool.not_true,Bool.false_or,EVX,seval]
def dZ.withX(F:dZ)(r0 r1 r2 r3 r4:AV):dZ:={F with x0:=r0,x1:=r1,x2:=r2,x3:=r3,x4:=r4}
def dZ.withE(F:dZ)(r0 r1 r2 r3 r4 r5:AV):dZ:={F with e0:=r0,e1:=r1,e2:=r2,e3:=r3,e4:=r4,e5:=r5}
structure One(x:AV):Prop where
 fl:x.flat=true
 cl:x.cells=[x]
 nv:NV x
theorem Ok.setS{Y:St}(h:Ok Y)(o:Nat){cs:LA}{fz:Fz}(hx:ae Y.length cs=true):Ok (Y.set o (.cells cs fz)):=Ok.set2 h o hx
theorem V7 (H:ChkHas C) (hτ:Ok Y) (ho:Y[o]?=some (.cells F.cs FZ)) {r0 r1 r2 r3 r4:AV} (k0:One r0) (k1:One r1) (k2:One r2) (k3:One r3) (k4:One r4) (hb:ae Y.length (F.withX r0 r1 r2 r3 r4).cs=true) {n e:Int} (hr:ai C fK [.str F.data] Y=some (.tup [.agg [r0,r1,r2,r3,r4],.int .i64 n,.int .i64 e],Y)):
  ai C nS [.ref o 0] Y=some (.bool (e !=0),Y.set o (.cells (F.withX r0 r1 r2 r3 r4).cs FZ)):=by
 have hn:hand false [.ref o 0] Y=some ([.ref o 0],Y):=rfl;rw[H.noText.go hn];have okS:=Ok.setS hτ o (fz:=FZ) hb;have ty:=fun b L=>df okS (vs:=[.bool b]) rfl L;rw[List.length_set]at ty;have g0:=fun L=>aF ho L;have p0:=fun L y=>eF ho L y;obtain⟨a0,b0,_⟩:=k0;obtain⟨a1,b1,_⟩:=k1;obtain⟨a2,b2,_⟩:=k2;obtain⟨a3,b3,_⟩:=k3;obtain⟨a4,b4,_⟩:=k4;unfold dZ.withX dZ.cs at*;simp only[yL,ho,ty,hr,g0,p0,a0,a1,a2,a3,a4,splice,cu,Ee,EVX,seval]
theorem IJ (H:ChkHas C) (hτ:Ok Y) (ho:Y[o]?=some (.cells F.cs FZ)) {r0 r1 r2 r3 r4 r5:AV} (k0:One r0) (k1:One r1) (k2:One r2) (k3:One r3) (k4:One r4) (k5:One r5) (hb:ae Y.length (F.withE r0 r1 r2 r3 r4 r5).cs=true) {e:Int} (hr:ai C ql [.agg [F.x0,F.x1,F.x2,F.x3,F.x4]] Y=some (.tup [.agg [r0,r1,r2,r3,r4,r5],.int .i64 e],Y)):
  ai C jW [.ref o 0] Y=some (.bool (e !=0),Y.set o (.cells (F.withE r0 r1 r2 r3 r4 r5).cs FZ)):=by
 have hn:hand false [.ref o 0] Y=some ([.ref o 0],Y):=rfl;rw[H.noEnvelope.go hn];have okS:=Ok.setS hτ o (fz:=FZ) hb;have ty:=fun b L=>df okS (vs:=[.bool b]) rfl L;rw[List.length_set]at ty;have g0:=fun L=>aF ho L;have p0:=fun L y=>eF ho L y;obtain⟨a0,b0,_⟩:=k0;obtain⟨a1,b1,_⟩:=k1;obtain⟨a2,b2,_⟩:=k2;obtain⟨a3,b3,_⟩:=k3;obtain⟨a4,b4,_⟩:=k4;obtain⟨a5,b5,_⟩:=k5;unfold dZ.withE dZ.cs at*;simp only[uz,ho,ty,hr,g0,p0,a0,a1,a2,a3,a4,a5,splice,cu,Ee,EVX,seval]
def dZ.withV(F:dZ)(a b:Int):dZ:={F with ver:=a,exp:=b}
theorem aim(a b:Nat):same (.ref a b) (.ref a b)=true:=by simp[same]
theorem afx (hC:Has C vz zG) (hτ:Ok Y) (ho:Y[o]?=some (.cells F.cs FZ)) {a t:Nat} (ha:Y[a]?=some (.cells [.ref o 0] FZ)) {t0 t1 t2 t3 t4 t5 t6 t7 t8:AV} (ht:Y[t]?=some (.cells [t0,t1,t2,t3,t4,t5,t6,t7,t8] FZ)) (hat:a≠t) (hot:o≠t) (hoa:a≠o) {v x e:Int} {r2 r3 r4 r5 r6 r7 r8:AV} (k2:One r2) (k3:One r3) (k4:One r4) (k5:One r5) (k6:One r6) (k7:One r7) (k8:One r8)
  (hb:ae Y.length [r2,r3,r4,r5,r6,r7,r8]=true) (hb2:ae Y.length (F.withV v x).cs=true) (hr:ai C wM [.agg [F.e0,F.e1,F.e2,F.e3,F.e4]] Y=some (.tup [.agg [.int .i64 v,.int .i64 x,r2,r3,r4,r5,r6,r7,r8],.int .i64 e],Y)):
  ai C vz [.ref a 0,.ref t 0] Y=some (.bool (e !=0),(Y.set t (.cells [.int .i64 v,.int .i64 x,r2,r3,r4,r5,r6,r7,r8] FZ)).set o (.cells (F.withV v x).cs FZ)):=by
 have hn:hand false [.ref a 0,.ref t 0] Y=some ([.ref a 0,.ref t 0],Y):=rfl;rw[hC.go hn];have hb1:ae Y.length [.int .i64 v,.int .i64 x,r2,r3,r4,r5,r6,r7,r8]=true:=by
  simp only[ae,below,Bool.true_and]at hb⊢;exact hb
 have ok1:=Ok.setS hτ t (fz:=FZ) hb1;have okS:=Ok.setS ok1 o (cs:=(F.withV v x).cs) (fz:=FZ) (by rw[List.length_set];exact hb2)
 have ty:=fun b=>aX ((Y.set t (.cells [.int .i64 v,.int .i64 x,r2,r3,r4,r5,r6,r7,r8] FZ)).set o (.cells (F.withV v x).cs FZ)) [.bool b];rw[List.length_set,List.length_set]at ty;obtain⟨a2,b2,_⟩:=k2;obtain⟨a3,b3,_⟩:=k3;obtain⟨a4,b4,_⟩:=k4;obtain⟨a5,b5,_⟩:=k5;obtain⟨a6,b6,_⟩:=k6;obtain⟨a7,b7,_⟩:=k7;obtain⟨a8,b8,_⟩:=k8;have A1:=aI ha hat (.cells [.int .i64 v,.int .i64 x,r2,r3,r4,r5,r6,r7,r8] FZ);have T1:=bM ht (.cells [.int .i64 v,.int .i64 x,r2,r3,r4,r5,r6,r7,r8] FZ);have Oq1:=aI ho hot (.cells [.int .i64 v,.int .i64 x,r2,r3,r4,r5,r6,r7,r8] FZ);have Oq2:=fun y=>bM Oq1 y;have A2:=fun y=>aI A1 hoa y;have T2:=fun y=>aI T1 (fun e=>hot e.symm) y;unfold dZ.withV dZ.cs at*;simp only[zG,ho,ha,ht,hr,ty,A1,T1,Oq1,Oq2,A2,T2,a2,a3,a4,a5,a6,a7,a8,splice,List.set_set,F6,aim,EVX,seval]
theorem afz (hC:Has C pG sU) (hτ:Ok Y) (ho:Y[o]?=some (.cells F.cs FZ)) {a t:Nat} (ha:Y[a]?=some (.cells [.ref o 0] FZ)) {t0 t1 t2:AV} (ht:Y[t]?=some (.cells [t0,t1,t2] FZ)) (hat:a≠t) (hot:o≠t) (hoa:a≠o) {v x e:Int} {r2:AV} (k2:One r2)
  (hb:ae Y.length [r2]=true) (hb2:ae Y.length (F.withV F.ver x).cs=true) (hr:ai C ru [.agg [F.e0,F.e1,F.e2,F.e3,F.e4]] Y=some (.tup [.agg [.int .i64 v,.int .i64 x,r2],.int .i64 e],Y)):
  ai C pG [.ref a 0,.ref t 0] Y=some (.bool (e !=0),(Y.set t (.cells [.int .i64 v,.int .i64 x,r2] FZ)).set o (.cells (F.withV F.ver x).cs FZ)):=by
 have hn:hand false [.ref a 0,.ref t 0] Y=some ([.ref a 0,.ref t 0],Y):=rfl;rw[hC.go hn];have ty:=fun b=>aX ((Y.set t (.cells [.int .i64 v,.int .i64 x,r2] FZ)).set o (.cells (F.withV F.ver x).cs FZ)) [.bool b];rw[List.length_set,List.length_set]at ty;obtain⟨a2,b2,_⟩:=k2;have A1:=aI ha hat (.cells [.int .i64 v,.int .i64 x,r2] FZ);have T1:=bM ht (.cells [.int .i64 v,.int .i64 x,r2] FZ);have Oq1:=aI ho hot (.cells [.int .i64 v,.int .i64 x,r2] FZ);unfold dZ.withV dZ.cs at*;simp only[sU,ho,ha,ht,hr,ty,A1,T1,Oq1,a2,splice,EVX,seval]
end Go.Ev
namespace Go.Ev
set_option maxRecDepth 100000
variable{C:Ctx}
def QS(B:St)(F:dZ)(T:LA):St:=B++[.cells F.cs FZ,.cells [.ref B.length 0] FZ,.cells T FZ]
theorem dQ(B F T):(QS B F T).length=B.length+3:=by simp[QS]
theorem EH(B F T)(G:St):(QS B F T++G)[B.length]?=some (.cells F.cs FZ):=by
 unfold QS;rw[List.append_assoc,cu];rfl
theorem anw(B F T)(G:St):(QS B F T++G)[B.length+1]?=some (.cells [.ref B.length 0] FZ):=by
 unfold QS;rw[List.append_assoc,dW];rfl
theorem anx(B F T)(G:St):(QS B F T++G)[B.length+2]?=some (.cells T FZ):=by
 unfold QS;rw[List.append_assoc,dW];rfl
theorem Gn(B F T)(F':dZ)(G:St):(QS B F T++G).set B.length (.cells F'.cs FZ)=QS B F' T++G:=by
 unfold QS;rw[List.append_assoc];simp
theorem acn(B F T)(T':LA)(G:St):(QS B F T++G).set (B.length+2) (.cells T' FZ)=QS B F T'++G:=by
 unfold QS;rw[List.append_assoc,F9];simp
theorem als(B F T)(G:St){i:Nat}{x:AO}(h:B[i]?=some x):(QS B F T++G)[i]?=some x:=aF (aF h _) G
structure pY(x:AV):Prop extends One x where
 b0:below 0 x=true
theorem pY.b{x:AV}(h:pY x)(n:Nat):below n x=true:=below_mono (Nat.zero_le _) _ h.b0
def Ext(O Y:St):Prop:=∀(i:Nat) (x:AO),O[i]?=some x->Y[i]?=some x
def mt(c:Int)(f:FuncId)(o:Nat):T3:=⟨c,f,[.ref o 0],[]⟩
def ag6(c:Int)(f:FuncId)(a t:Nat):T3:=⟨c,f,[],[.ref a 0,.ref t 0]⟩
theorem al1(c f o):(mt c f o).nv:=⟨fun _ _=>rfl,fun _ _=>rfl⟩
theorem acN(c f a t):(ag6 c f a t).nv:=⟨fun _ _=>rfl,fun _ _=>rfl⟩
theorem uN.step{n:Nat}(t:T3)(l:List T3){S S':St}(b:Bool)(hx:ae n t.x=true)(hy:ae n t.y=true)(hS:S.length=n)(hS':S'.length=n)(hok:Ok S')(h:∀G,Ok (S++G)->ai C t.f (t.x++t.y) (S++G)=some (.bool b,S'++G)){Q:Int->St->Prop}(h1:b=true->Q t.c S')(h0:b=false->∃r S'',uN C n l S' r S''/\Q r S''):∃r S'',uN C n (t::l) S r S''/\Q r S'':=by
 cases b with
 |true=>exact⟨_,_,.yes t l S S' hx hy hS hS' hok h,h1 rfl⟩
 |false=>
  obtain⟨r,S'',R,q⟩:=h0 rfl;exact⟨r,S'',.no t l S S' S'' r hx hy hS hS' hok h R,q⟩
def z5:LA:=[.int .u8 0,.int .i64 0,.str [],.nils,.nils]
def zT:LA:=[.int .i64 0,.int .i64 0,.nils,.nils,.nils,.int .i64 0,.nils,.int .i64 0,.str []]
def zTn:LA:=[.int .i64 0,.int .i64 0,.sl 0 [],.sl 0 [],.sl 0 [],.int .i64 0,.sl 0 [],.int .i64 0,.str []]
def zS:LA:=[.int .i64 0,.int .i64 0,.nils]
def zSn:LA:=[.int .i64 0,.int .i64 0,.sl 0 []]
structure InF where
 v:AV
 a1:Int
 a2:AV
 ks:AV
 pn:LU
 pv:Int
 pl:Int
 ph:AV
 now:Int
 data:LU
 size:Int
def InF.F(I:InF):dZ:=⟨I.v,I.a1,I.a2,I.ks,I.pn,I.pv,I.pl,I.ph,I.now,I.data,I.size,.int .u8 0,.int .i64 0,.str [],.nils,.nils,.int .u8 0,.int .i64 0,.str [],.nils,.nils,.nils,0,0⟩
def InF.pin(I:InF):LA:=[.str I.pn,.int .i64 I.pv,.int .i64 I.pl,I.ph]
def InF.auth(I:InF):LA:=[.int .i64 I.a1,I.a2]
structure InF.ok(I:InF)(n:Nat):Prop where
 v:NV I.v\/∃p,I.v=.ref p 0/\p<n
 a2:pY I.a2
 ks:pY I.ks
 ph:below 0 I.ph=true
structure Told(C:Ctx)(O:St)(I:InF)where
 x0:AV
 x1:AV
 x2:AV
 x3:AV
 x4:AV
 n1:Int
 e1:Int
 r0:AV
 r1:AV
 r2:AV
 r3:AV
 r4:AV
 r5:AV
 e2:Int
 en:Bool
 hx0:pY x0
 hx1:pY x1
 hx2:pY x2
 hx3:pY x3
 hx4:pY x4
 hr0:pY r0
 hr1:pY r1
 hr2:pY r2
 hr3:pY r3
 hr4:pY r4
 hr5:pY r5
 rd:∀Y,Ok Y->ai C fK [.str I.data] Y=some (.tup [.agg [x0,x1,x2,x3,x4],.int .i64 n1,.int .i64 e1],Y)
 sg:e1=0->∀Y,Ok Y->ai C ql [.agg [x0,x1,x2,x3,x4]] Y=some (.tup [.agg [r0,r1,r2,r3,r4,r5],.int .i64 e2],Y)
 enough:e1=0->e2=0->∀Y,Ok Y->Ext O Y->ai C iU [I.v,.agg [r0,r1,r2,r3,r4,r5],.agg I.auth,I.ks] Y=some (.bool en,Y)
structure Ei(C:Ctx)(O:St)(I:InF)extends Told C O I where
 tv:Int
 tx:Int
 t2:AV
 t3:AV
 t4:AV
 t5:AV
 t6:AV
 t7:AV
 t8:AV
 e3:Int
 ov:Bool
 od:Bool
 h2:pY t2
 h3:pY t3
 h4:pY t4
 h5:pY t5
 h6:pY t6
 h7:pY t7
 h8:pY t8
 tg:e1=0->e2=0->∀Y,Ok Y->ai C wM [.agg [r0,r1,r2,r3,r4]] Y=some (.tup [.agg [.int .i64 tv,.int .i64 tx,t2,t3,t4,t5,t6,t7,t8],.int .i64 e3],Y)
 over:∀Y,Ok Y->ai C mW [.int .i64 tx,.int .i64 I.now] Y=some (.bool ov,Y)
 odig:∀Y o F,Ok Y->Y[o]?=some (.cells (dZ.cs F) FZ)->F.ph=I.ph->F.data=I.data->ai C dY [.ref o 0] Y=some (.bool od,Y)
def Ei.T{C:Ctx}{O:St}{I:InF}(t:Ei C O I):LA:=[.int .i64 t.tv,.int .i64 t.tx,t.t2,t.t3,t.t4,t.t5,t.t6,t.t7,t.t8]
structure Eh(C:Ctx)(O:St)(I:InF)extends Told C O I where
 sv:Int
 sx:Int
 s2:AV
 e3:Int
 ov:Bool
 h2:pY s2
 sn:e1=0->e2=0->∀Y,Ok Y->ai C ru [.agg [r0,r1,r2,r3,r4]] Y=some (.tup [.agg [.int .i64 sv,.int .i64 sx,s2],.int .i64 e3],Y)
 over:∀Y,Ok Y->ai C mW [.int .i64 sx,.int .i64 I.now] Y=some (.bool ov,Y)
def Eh.S{C:Ctx}{O:St}{I:InF}(t:Eh C O I):LA:=[.int .i64 t.sv,.int .i64 t.sx,t.s2]
def IV(size:Int)(e1 e2 e3:Int)(en ov:Bool):Int:=
 if size== -1 then 2 else if decide (size<0)then 3 else if e1 !=0 then 6 else if e2 !=0 then 7 else if e3 !=0 then 7 else if !en then 8 else if ov then 10 else 0
def Eh.c{C:Ctx}{O:St}{I:InF}(t:Eh C O I):Int:=IV I.size t.e1 t.e2 t.e3 t.en t.ov
def Ui(o a t:Nat):List T3:=[mt 2 mJ o,mt 3 qZ o,mt 6 nS o,mt 7 jW o,ag6 7 pG a t,mt 8 lK o,mt 10 mG o]
def IQ(size pl dl:Int)(od:Bool)(e1 e2 e3:Int)(en:Bool)(tv pv:Int)(ov:Bool):Int:=
 if size== -1 then 2 else if decide (size<0)||(decide (0<=pl)&&decide (pl<dl))then 3 else if decide (0<=pl)&&decide (dl<pl)then 4 else if od then 5 else if e1 !=0 then 6 else if e2 !=0 then 7 else if e3 !=0 then 7 else if !en then 8 else if tv !=pv then 9 else if ov then 10 else 0
def Ei.c{C:Ctx}{O:St}{I:InF}(t:Ei C O I):Int:=IQ I.size I.pl I.data.length t.od t.e1 t.e2 t.e3 t.en t.tv I.pv t.ov
structure J5(C:Ctx):Prop extends ChkHas C where
 first:Has C BP xg
 role:Has C zf iO
 role1:Has C vz zG
 snap:Has C qY dF
 snap1:Has C pG sU
def TY(o a t:Nat):List T3:=[mt 2 mJ o,mt 3 qZ o,mt 4 tY o,mt 5 dY o,mt 6 nS o,mt 7 jW o,ag6 7 vz a t,mt 8 lK o,mt 9 lQ o,mt 10 mG o]
theorem afw{O:St}(L F T)(G:St):Ext O (QS (O++L) F T++G):=fun i x h=>als _ F T G (aF h L)
theorem Il{B F T}(hB:Ok B)(hF:ae (B.length+3) (dZ.cs F)=true)(hT:ae 0 T=true):Ok (QS B F T):=by
 unfold QS;refine adW hB ?_;have h3:decide (B.length<B.length+3)=true:=by simp
 simp only[List.all_cons,List.all_nil,AO.below,List.length_cons,List.length_nil,Nat.zero_add,Nat.reduceAdd,aK (Nat.zero_le _) _ hT,hF,ae,below,h3,Bool.and_self]
theorem Qb{I:InF}{n m:Nat}(h:I.ok n)(hm:n<=m):ae m I.F.cs=true:=by
 have hv:below m I.v=true:=by
  rcases h.v with h|⟨p,e,hp⟩
  ·exact below_mono (Nat.zero_le _) _ h.cl
  ·rw[e];simp only[below,decide_eq_true_eq];omega
 simp only[dZ.cs,InF.F,ae,below,hv,h.a2.b,h.ks.b,below_mono (Nat.zero_le _) _ h.ph,Bool.and_self]
end Go.Ev
