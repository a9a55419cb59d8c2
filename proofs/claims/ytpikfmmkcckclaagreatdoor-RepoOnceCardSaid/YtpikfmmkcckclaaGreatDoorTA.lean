/- Contracts. No conditions. -/
import Derived.Test.YtpikfmmkcckclaaGreatDoorCB
set_option linter.unusedVariables false
set_option linter.unusedSimpArgs false
set_option linter.defProp false
namespace Go.Ev
set_option maxRecDepth 1000000
noncomputable section
def kV:KF:=(.mk ?k:KsA 190 []).1
def xm:KC:=(.mk ?k:LsA 189 [] 0).1
attribute [local irreducible] xm
def VP:KF:=(.mk ?k:KsA 189 [xm]).1
def qE:KC:=(.mk ?k:LsA 133 [] 0).1
attribute [local irreducible] qE
def GI:KF:=(.mk ?k:KsA 133 [qE]).1
end
noncomputable section
def bJ:KF:=(.mk ?k:KsA 303 []).1
def gV:KC:=(.mk ?k:LsA 263 [] 0).1
attribute [local irreducible] gV
def jc:KC:=(.mk ?k:LsA 263 [gV] 1).1
attribute [local irreducible] jc
def kF:KC:=(.mk ?k:LsA 263 [gV,jc] 2).1
attribute [local irreducible] kF
def nC:KC:=(.mk ?k:LsA 263 [gV,jc,kF] 3).1
attribute [local irreducible] nC
def qB:KF:=(.mk ?k:KsA 263 [gV,jc,kF,nC]).1
def iV:KC:=(.mk ?k:LsA 199 [] 0).1
attribute [local irreducible] iV
def qA:KF:=(.mk ?k:KsA 199 [iV]).1
def kE:KC:=(.mk ?k:LsA 200 [] 0).1
attribute [local irreducible] kE
def nz:KC:=(.mk ?k:LsA 200 [kE] 1).1
attribute [local irreducible] nz
def DD:KF:=(.mk ?k:KsA 200 [kE,nz]).1
def Sl:KF:=(.mk ?k:KsA 198 []).1
def YP:KF:=(.mk ?k:KsA 144 []).1
def Ph:KF:=(.mk ?k:KsA 90 []).1
end
set_option maxRecDepth 100000
variable{C:Ctx}
abbrev Wsh:=BitVec 32
def iw(x:Wsh):AV:=.int .u32 (x.toNat:Int)
def Y8(np:Bool)(op:BinOp)(ek:Nat)(c:Bool)(x:Wsh)(y:AV):xn np op ek c (iw x) y=binOp op ek c (iw x) y:=by cases np<;>rfl
def Yn(x:Wsh):BitVec.ofInt 32 (x.toNat:Int)=x:=by
 apply BitVec.eq_of_toNat_eq;rw[aj6 32 x.toNat x.isLt]
def VK(x:Wsh):IntKind.u32.wrap (x.toNat:Int)=(x.toNat:Int):=alZ .u32 rfl _ x.isLt
def ak4(b:Bool)(x y:Wsh):binOp .xor 0 b (iw x) (iw y)=some (iw (x^^^y)):=by
 show some (AV.int .u32 (IntKind.u32.wrap ((BitVec.ofInt 32 (x.toNat:Int)^^^BitVec.ofInt 32 (y.toNat:Int)).toNat:Int)))=_;rw[Yn,Yn,VK];rfl
def apj(b:Bool)(x y:Wsh):binOp .and 0 b (iw x) (iw y)=some (iw (x&&&y)):=by
 show some (AV.int .u32 (IntKind.u32.wrap ((BitVec.ofInt 32 (x.toNat:Int)&&&BitVec.ofInt 32 (y.toNat:Int)).toNat:Int)))=_;rw[Yn,Yn,VK];rfl
def ao2(b:Bool)(x y:Wsh):binOp .or 0 b (iw x) (iw y)=some (iw (x|||y)):=by
 show some (AV.int .u32 (IntKind.u32.wrap ((BitVec.ofInt 32 (x.toNat:Int)|||BitVec.ofInt 32 (y.toNat:Int)).toNat:Int)))=_;rw[Yn,Yn,VK];rfl
def aeS(b:Bool)(x y:Wsh):binOp .add 0 b (iw x) (iw y)=some (iw (x+y)):=by
 show some (AV.int .u32 (IntKind.u32.wrap ((x.toNat:Int)+(y.toNat:Int))))=_;have:IntKind.u32.wrap ((x.toNat:Int)+(y.toNat:Int))=((x+y).toNat:Int):=by
  rw[IntKind.wrap_u32,BitVec.toNat_add];omega
 rw[this];rfl
def apk(x:Wsh):unOp .xor (iw x)=some (iw (~~~x)):=by
 show some (AV.int .u32 (IntKind.u32.wrap ((BitVec.ofInt 32 4294967295^^^BitVec.ofInt 32 (x.toNat:Int)).toNat:Int)))=_;rw[Yn,VK];have:BitVec.ofInt 32 4294967295^^^x= ~~~x:=by
  rw[show BitVec.ofInt 32 4294967295=BitVec.allOnes 32 from rfl,BitVec.allOnes_xor]
 rw[this];rfl
def ak2(b:Bool)(x:Wsh)(k:IntKind)(n:Nat):binOp .shl 0 b (iw x) (.int k (n:Int))=some (iw (x<<<(min n 32))):=by
 show zh .shl .u32 (x.toNat:Int) (n:Int)=_;unfold zh;rw[if_neg (by omega)]
 show some (AV.int .u32 (IntKind.u32.wrap ((x.toNat:Int)*2^(min n 32))))=_;have:IntKind.u32.wrap ((x.toNat:Int)*2^(min n 32))=((x<<<(min n 32)).toNat:Int):=by
  rw[IntKind.wrap_u32,BitVec.toNat_shiftLeft,Nat.shiftLeft_eq,Int.natCast_emod,Int.natCast_mul,Int.natCast_pow];rfl
 rw[this];rfl
def ak3(b:Bool)(x:Wsh)(k:IntKind)(n:Nat):binOp .shr 0 b (iw x) (.int k (n:Int))=some (iw (x>>>(min n 32))):=by
 show zh .shr .u32 (x.toNat:Int) (n:Int)=_;unfold zh;rw[if_neg (by omega)]
 show some (AV.int .u32 ((x.toNat:Int).fdiv (2^(min n 32))))=_;have:(x.toNat:Int).fdiv (2^(min n 32))=((x>>>(min n 32)).toNat:Int):=by
  rw[BitVec.toNat_ushiftRight,Nat.shiftRight_eq_div_pow,az6 _ (Int.pow_nonneg (by decide)),Int.natCast_ediv,Int.natCast_pow]
  rfl
 rw[this];rfl
def rotl(x:Wsh)(n:Nat):Wsh:=(x<<<n)|||(x>>>(32-n))
def aay (hC:Has C bG bJ) (x:Wsh) (k:Int) (n:Nat) (hn:n<32)
  (hk:IntKind.u64.wrap ((BitVec.ofInt IntKind.u64.bits (IntKind.u64.wrap k)&&&BitVec.ofInt IntKind.u64.bits 31).toNat:Int)=(n:Int)) (O:St):
  ai C bG [iw x,.int .i64 k] O=some (iw (rotl x n),O):=by
 rw[hC.run];unfold BG;have h1:IntKind.u64.wrap (32-(n:Int))=((32-n:Nat):Int):=by rw[wu64]<;>omega
 have h2:min n 32=n:=by omega
 have h3:min (32-n) 32=32-n:=by omega
 have hn':∀O r,asb O r (iw x)=some (iw x,[]):=fun _ _=>by unfold iw asb;rfl
 have hn2:∀O r,asb O r (iw (x<<<n|||x>>>(32-n)))=some (iw (x<<<n|||x>>>(32-n)),[]):=fun _ _=>by unfold iw asb;rfl
 simp only[bJ,hk,h1,ak2,ak3,ao2,h2,h3,hn',hn2,rotl,Y8,EVY,seval]
def QM(x:Wsh):(iw x).cells=[iw x]:=rfl
def VA(x:Wsh):(iw x).flat=true:=rfl
def amP(b:Bool)(x:Wsh)(k:IntKind)(z:Int)(h0:0<=z)(h1:z<=32):binOp .shl 0 b (iw x) (.int k z)=some (iw (x<<<z.toNat)):=by
 have:=ak2 b x k z.toNat
 rw[Int.toNat_of_nonneg h0,az7 (by omega)]at this
 exact this
def agx(b:Bool)(x:Wsh)(k:IntKind)(z:Int)(h0:0<=z)(h1:z<=32):binOp .shr 0 b (iw x) (.int k z)=some (iw (x>>>z.toNat)):=by
 have:=ak3 b x k z.toNat
 rw[Int.toNat_of_nonneg h0,az7 (by omega)]at this
 exact this
def wb(b:UInt8):Wsh:=BitVec.ofNat 32 b.toNat
def arI(b:UInt8):AV.int .u32 (IntKind.u32.wrap (b.toNat:Int))=iw (wb b):=by
 have hlt:b.toNat<256:=b.toNat_lt;unfold iw wb;rw[as4 (by omega) (by omega),BitVec.toNat_ofNat,Nat.mod_eq_of_lt (by omega)]
def vV(l:List Wsh)(i:Nat)(h:i<l.length):((l.map iw).drop i).head? =some (iw (l.getD i 0)):=by
 rw[aC7,ax5,a02 h,av4,a02 h];rfl
def Ii{α:Type}(f:α->AV)(l:List α)(i:Nat)(v:α)(h:i<l.length):splice (l.map f) i [f v]=(l.set i v).map f:=by
 unfold splice;rw[List.set_eq_take_append_cons_drop,if_pos h];simp
def dI(b:Bool)(st:List Wsh)(part:LU)(sz:Int):LA:=.bool b::(st.map iw++(ofBytes part++[.int .i64 sz]))
def mQ{b st part sz}(h8:st.length=8)(h64:part.length=64):(dI b st part sz).length=74:=by
 simp[dI,aI,h8,h64]
def aeN{b st part sz}(h8:st.length=8)(h64:part.length=64)(i:Nat)(hi:i<64):((dI b st part sz).drop (9+i)).head? =some (.int .u8 ((part.getD i 0).toNat:Int)):=by
 unfold dI ofBytes;rw[aC7,show 9+i=(8+i)+1 by omega,ax0,ay8 (by simp[h8]),av1 (by simp[h8,h64];omega)]
 simp only[aw8,h8,ax5,show 8+i-8=i by omega]
 rw[a02 (by omega),av4,a02 (by omega)]
 rfl
def acV{b st part sz}(h8:st.length=8)(i:Nat)(hi:i<8):((dI b st part sz).drop (1+i)).head? =some (iw (st.getD i 0)):=by
 unfold dI;rw[aC7,aD8 1 i,ax0,av1 (by simp[h8];omega),ax5,a02 (by omega),av4,a02 (by omega)]
 rfl
def ahN{b st part sz}(h8:st.length=8)(i:Nat)(hi:i<8)(v:Wsh):splice (dI b st part sz) (1+i) [iw v]=dI b (st.set i v) part sz:=by
 unfold dI splice;rw[aD8 1 i,aD7,show i+1+[iw v].length=(i+1)+1 from rfl,aB0,av7 (by simp[h8];omega),List.drop_append_of_le_length (by simp[h8];omega)]
 have:=Ii iw st i v (by omega)
 unfold splice at this;rw[<-this];simp
def jY(O:St)(x:AO):(O++[x])[O.length]?=some x:=by simp
def oZ(O:St)(x y:AO):(O++[x]).set O.length y=O++[y]:=by simp
def E8{O:St}{o:Nat}{x:AO}(h:O[o]?=some x)(l:St):(O++l)[o]?=some x:=by
 have:o<O.length:=(a00.mp h).1;rw[av1 this,h]
def wordAt(part:LU)(i:Nat):Wsh:=wb (part.getD (4*i) 0)<<<24|||wb (part.getD (4*i+1) 0)<<<16|||wb (part.getD (4*i+2) 0)<<<8|||wb (part.getD (4*i+3) 0)
def WQ(part:LU):Nat->Nat->List Wsh->List Wsh
 |0,_,w=>w
 |n+1,i,w=>WQ part n (i+1) (w.set i (wordAt part i))
def ZR (b:Bool) (st:List Wsh) (part:LU) (sz:Int) (O:St) (p:Nat) (hp:O[p]?=some (.cells (dI b st part sz) FZ)) (h8:st.length=8) (h64:part.length=64):
  ∀(n i:Nat) (w:List Wsh),i+n=16->w.length=64->
  aH C (ai C) 213 [0,2,21] gV [(0,.ref p 0),(2,.ref O.length 0),(21,.int .i64 i)] (O++[.cells (w.map iw) FZ])=
   some (.exit 0,[(0,.ref p 0),(2,.ref O.length 0)],O++[.cells ((WQ part n i w).map iw) FZ])
 |0,i,w,hi,hw=>by
  rw[jh (he:=rfl)];have h:¬((i:Int)<16):=by omega
  simp only[gV,h,WQ,EVY,seval]
 |n+1,i,w,hi,hw=>by
  rw[jh (he:=rfl)];generalize hk:aH C (ai C) 213 [0,2,21] gV=rest;have h:((i:Int)<16):=by omega
  have w1:IntKind.i64.wrap (4*(i:Int))=((4*i:Nat):Int):=wrE (by omega)
  have w2:IntKind.i64.wrap (((4*i:Nat):Int)+1)=((4*i+1:Nat):Int):=wrE (by omega)
  have w3:IntKind.i64.wrap (((4*i:Nat):Int)+2)=((4*i+2:Nat):Int):=wrE (by omega)
  have w4:IntKind.i64.wrap (((4*i:Nat):Int)+3)=((4*i+3:Nat):Int):=wrE (by omega)
  have w5:=wrS i (by omega)
  have p1:∀j:Nat,(0:Int)<=(j:Int):=fun j=>by omega
  have l1:4*i<64:=by omega
  have l2:4*i+1<64:=by omega
  have l3:4*i+2<64:=by omega
  have l4:4*i+3<64:=by omega
  have l5:i<64:=by omega
  have l6:i+1<=64:=by omega
  have g:=E8 hp [.cells (w.map iw) FZ];have s1:=Ii iw w i (wordAt part i) (by omega)
  unfold wordAt at s1;simp only[gV,h,w1,w2,w3,w4,w5,p1,l1,l2,l3,l4,l5,l6,g,hw,aw8,aeN h8 h64,arI,amP,ao2,QM,VA,jY,oZ,s1,a81,Int.reduceLE,Int.reduceToNat,Y8,EVY,seval];rw[<-hk,ZR b st part sz O p hp h8 h64 n (i+1) _ (by omega) (by rw[a95,hw])]
  rfl
def rot(hC:Has C bG bJ)(k:Int)(n:Nat)(hn:n<32)
 (hk:IntKind.u64.wrap ((BitVec.ofInt IntKind.u64.bits (IntKind.u64.wrap k)&&&BitVec.ofInt IntKind.u64.bits 31).toNat:Int)=(n:Int)):
 ∀(x:Wsh) (O:St),ai C bG [iw x,.int .i64 k] O=some (iw (rotl x n),O):=fun x O=>aay hC x k n hn hk O
def ar2(x:Wsh):Wsh:=rotl x 25^^^rotl x 14^^^x>>>3
def anW(x:Wsh):Wsh:=rotl x 15^^^rotl x 13^^^x>>>10
def akF(w:List Wsh)(i:Nat):Wsh:=w.getD (i-16) 0+ar2 (w.getD (i-15) 0)+w.getD (i-7) 0+anW (w.getD (i-2) 0)
def WS:Nat->Nat->List Wsh->List Wsh
 |0,_,w=>w
 |n+1,i,w=>WS n (i+1) (w.set i (akF w i))
def ZT (hR:Has C bG bJ) (O:St) (p:Nat):
  ∀(n i:Nat) (w:List Wsh),16<=i->i+n=64->w.length=64->
  aH C (ai C) 213 [0,2,4] jc [(0,.ref p 0),(2,.ref O.length 0),(4,.int .i64 i)] (O++[.cells (w.map iw) FZ])=
   some (.exit 2,[(0,.ref p 0),(2,.ref O.length 0)],O++[.cells ((WS n i w).map iw) FZ])
 |0,i,w,h16,hi,hw=>by
  rw[jh (he:=rfl)];have h:¬((i:Int)<64):=by omega
  simp only[jc,h,WS,EVY,Nat.reduceEqDiff,Nat.reduceSub,Nat.reduceGT,Nat.reduceLT,reduceIte,reduceCtorEq,Nat.reduceMul,Nat.reduceLeDiff,Int.reduceToNat,Int.reduceLE,Int.reduceLT,Int.reduceEq,Nat.reduceAdd,Int.reduceBNe,Int.reduceBEq,Int.reduceNeg]
 |n+1,i,w,h16,hi,hw=>by
  rw[jh (he:=rfl)];generalize hk:aH C (ai C) 213 [0,2,4] jc=rest;have h:((i:Int)<64):=by omega
  have w1:IntKind.i64.wrap ((i:Int)-15)=((i-15:Nat):Int):=wrE (by omega)
  have w2:IntKind.i64.wrap ((i:Int)-2)=((i-2:Nat):Int):=wrE (by omega)
  have w3:IntKind.i64.wrap ((i:Int)-16)=((i-16:Nat):Int):=wrE (by omega)
  have w4:IntKind.i64.wrap ((i:Int)-7)=((i-7:Nat):Int):=wrE (by omega)
  have w5:=wrS i (by omega)
  have p1:∀j:Nat,(0:Int)<=(j:Int):=fun j=>by omega
  have l1:i-15<64:=by omega
  have l2:i-2<64:=by omega
  have l3:i-16<64:=by omega
  have l4:i-7<64:=by omega
  have l5:i<64:=by omega
  have l6:i+1<=64:=by omega
  have a1:=vV w (i-15) (by omega)
  have a2:=vV w (i-2) (by omega)
  have a3:=vV w (i-16) (by omega)
  have a4:=vV w (i-7) (by omega)
  have r1:=rot hR (-7) 25 (by decide) (by decide)
  have r2:=rot hR (-18) 14 (by decide) (by decide)
  have r3:=rot hR (-17) 15 (by decide) (by decide)
  have r4:=rot hR (-19) 13 (by decide) (by decide)
  have s1:=Ii iw w i (akF w i) (by omega)
  unfold akF ar2 anW at s1;simp only[jc,h,w1,w2,w3,w4,w5,p1,l1,l2,l3,l4,l5,l6,hw,a1,a2,a3,a4,r1,r2,r3,r4,aw8,agx,ak4,aeS,QM,VA,jY,oZ,s1,a81,Int.reduceLE,Int.reduceToNat,Y8,EVY,Nat.reduceEqDiff,Nat.reduceSub,Nat.reduceGT,Nat.reduceLT,reduceIte,reduceCtorEq,Nat.reduceMul,Nat.reduceLeDiff,Int.reduceToNat,Int.reduceLE,Int.reduceLT,Int.reduceEq,Nat.reduceAdd,Int.reduceBNe,Int.reduceBEq,Int.reduceNeg];rw[<-hk,ZT hR O p n (i+1) _ (by omega) (by omega) (by rw[a95,hw])]
  rfl
def kR:List Wsh:=[0x428a2f98,0x71374491,0xb5c0fbcf,0xe9b5dba5,0x3956c25b,0x59f111f1,0x923f82a4,0xab1c5ed5,
 0xd807aa98,0x12835b01,0x243185be,0x550c7dc3,0x72be5d74,0x80deb1fe,0x9bdc06a7,0xc19bf174,
 0xe49b69c1,0xefbe4786,0x0fc19dc6,0x240ca1cc,0x2de92c6f,0x4a7484aa,0x5cb0a9dc,0x76f988da,
 0x983e5152,0xa831c66d,0xb00327c8,0xbf597fc7,0xc6e00bf3,0xd5a79147,0x06ca6351,0x14292967,
 0x27b70a85,0x2e1b2138,0x4d2c6dfc,0x53380d13,0x650a7354,0x766a0abb,0x81c2c92e,0x92722c85,
 0xa2bfe8a1,0xa81a664b,0xc24b8b70,0xc76c51a3,0xd192e819,0xd6990624,0xf40e3585,0x106aa070,
 0x19a4c116,0x1e376c08,0x2748774c,0x34b0bcb5,0x391c0cb3,0x4ed8aa4a,0x5b9cca4f,0x682e6ff3,
 0x748f82ee,0x78a5636f,0x84c87814,0x8cc70208,0x90befffa,0xa4506ceb,0xbef9a3f7,0xc67178f2]
def hI:List Wsh:=[0x6a09e667,0xbb67ae85,0x3c6ef372,0xa54ff53a,0x510e527f,0x9b05688c,0x1f83d9ab,0x5be0cd19]
def aeE(w:List Wsh)(i:Nat)(e f g h:Wsh):Wsh:=h+(rotl e 26^^^rotl e 21^^^rotl e 7)+(e&&&f^^^ ~~~e&&&g)+kR.getD i 0+w.getD i 0
def ao8(a b c:Wsh):Wsh:=(a&&&b^^^a&&&c^^^b&&&c)
def TA(w:List Wsh)(i:Nat)(s:List Wsh):List Wsh:=
 [aeE w i (s.getD 4 0) (s.getD 5 0) (s.getD 6 0) (s.getD 7 0)+(rotl (s.getD 0 0) 30^^^rotl (s.getD 0 0) 19^^^rotl (s.getD 0 0) 10)+ao8 (s.getD 0 0) (s.getD 1 0) (s.getD 2 0),
  s.getD 0 0,s.getD 1 0,s.getD 2 0,s.getD 3 0+aeE w i (s.getD 4 0) (s.getD 5 0) (s.getD 6 0) (s.getD 7 0),s.getD 4 0,s.getD 5 0,s.getD 6 0]
def Ig(w:List Wsh):Nat->Nat->List Wsh->List Wsh
 |0,_,s=>s
 |n+1,i,s=>Ig w n (i+1) (TA w i s)
def En(l v:LA)(h:l.length=v.length):splice l 0 v=v:=by
 unfold splice;rw[aD9,au3,av2,au1 (by omega),au6]
def ZU (hR:Has C bG bJ) (hg:C.gl sF=some (kR.map iw)) (Y:St) (p q:Nat) (w:List Wsh) (hw:w.length=64) (hq:Y[q]?=some (.cells (w.map iw) FZ)):
  ∀(n i:Nat) (s:List Wsh),i+n=64->s.length=8->
  aH C (ai C) 213 [0,2,9,115] kF [(0,.ref p 0),(2,.ref q 0),(9,.ref Y.length 0),(115,.int .i64 i)] (Y++[.cells (s.map iw) FZ])=
   some (.exit 4,[(0,.ref p 0),(9,.ref Y.length 0)],Y++[.cells ((Ig w n i s).map iw) FZ])
 |0,i,s,hi,hs=>by
  rw[jh (he:=rfl)];have h:¬((i:Int)<64):=by omega
  simp only[kF,h,Ig,EVY,Nat.reduceEqDiff,Nat.reduceSub,Nat.reduceGT,Nat.reduceLT,reduceIte,reduceCtorEq,Nat.reduceMul,Nat.reduceLeDiff,Int.reduceToNat,Int.reduceLE,Int.reduceLT,Int.reduceEq,Nat.reduceAdd,Int.reduceBNe,Int.reduceBEq,Int.reduceNeg]
 |n+1,i,s,hi,hs=>by
  rw[jh (he:=rfl)];generalize hk:aH C (ai C) 213 [0,2,9,115] kF=rest;have h:((i:Int)<64):=by omega
  have w5:=wrS i (by omega)
  have p1:∀j:Nat,(0:Int)<=(j:Int):=fun j=>by omega
  have l5:i<64:=by omega
  have l6:i<=kR.length:=by show i<=64;omega
  have a0:(s.map iw).head? =some (iw (s.getD 0 0)):=vV s 0 (by omega)
  have a1:=vV s 1 (by omega)
  have a2:=vV s 2 (by omega)
  have a3:=vV s 3 (by omega)
  have a4:=vV s 4 (by omega)
  have a5:=vV s 5 (by omega)
  have a6:=vV s 6 (by omega)
  have a7:=vV s 7 (by omega)
  have b1:=vV w i (by omega)
  have b2:=vV kR i (by show i<64;omega)
  have r1:=rot hR (-6) 26 (by decide) (by decide)
  have r2:=rot hR (-11) 21 (by decide) (by decide)
  have r3:=rot hR (-25) 7 (by decide) (by decide)
  have r4:=rot hR (-2) 30 (by decide) (by decide)
  have r5:=rot hR (-13) 19 (by decide) (by decide)
  have r6:=rot hR (-22) 10 (by decide) (by decide)
  have g:=E8 hq [.cells (s.map iw) FZ];have s1:splice (s.map iw) 0 ((TA w i s).map iw)=(TA w i s).map iw:=En _ _ (by simp[hs,TA])
  unfold TA aeE ao8 at s1;simp only[av3,List.map_nil]at s1;simp only[kF,h,w5,p1,l5,l6,hs,g,hg,az2,a0,a1,a2,a3,a4,a5,a6,a7,b1,b2,r1,r2,r3,r4,r5,r6,aw8,ak4,aeS,apj,apk,QM,VA,jY,oZ,s1,a81,Int.reduceLE,Int.reduceToNat,Y8,EVY,Nat.reduceEqDiff,Nat.reduceSub,Nat.reduceGT,Nat.reduceLT,reduceIte,reduceCtorEq,Nat.reduceMul,Nat.reduceLeDiff,Int.reduceToNat,Int.reduceLE,Int.reduceLT,Int.reduceEq,Nat.reduceAdd,Int.reduceBNe,Int.reduceBEq,Int.reduceNeg];rw[<-hk];exact ZU hR hg Y p q w hw hq n (i+1) (TA w i s) (by omega) rfl
def alr{O:St}{p:Nat}(hp:p<O.length)(x:AO)(l:St):(O.set p x++l)[p]?=some x:=by
 rw[av1 (by rw[a95];exact hp),aB2 hp]
def set_set{O:St}{p:Nat}(hp:p<O.length)(x y:AO)(l:St):(O.set p x++l).set p y=O.set p y++l:=by
 rw[az5 _ _ (by rw[a95];exact hp),ax4]
def als(O:St)(p:Nat)(x y:AO):(O.set p x++[y])[O.length]?=some y:=by
 rw[ay8 (by rw[a95];omega)]
 simp
def Ok.setW{O:St}(h:Ok O)(p:Nat){x:AO}(hx:AO.below O.length x=true):Ok (O.set p x):=by
 unfold Ok;rw[a95,a90];intro y hy;rcases List.mem_or_eq_of_mem_set hy with h'|h'
 ·exact a90.mp h y h'
 ·rw[h'];exact hx
def WT(s:List Wsh):Nat->Nat->List Wsh->List Wsh
 |0,_,st=>st
 |n+1,i,st=>WT s n (i+1) (st.set i (st.getD i 0+s.getD i 0))
def ZV (b:Bool) (part:LU) (sz:Int) (h64:part.length=64) (Y:St) (p:Nat) (hp:p<Y.length) (s:List Wsh) (hs:s.length=8):
  ∀(n i:Nat) (st:List Wsh),i+n=8->st.length=8->
  aH C (ai C) 213 [0,9,196] nC [(0,.ref p 0),(9,.ref Y.length 0),(196,.int .i64 i)] (Y.set p (.cells (dI b st part sz) FZ)++[.cells (s.map iw) FZ])=
   some (.exit 6,[],Y.set p (.cells (dI b (WT s n i st) part sz) FZ)++[.cells (s.map iw) FZ])
 |0,i,st,hi,hst=>by
  rw[jh (he:=rfl)];have h:¬((i:Int)<8):=by omega
  simp only[nC,h,WT,EVQ,EVC,EVA,Nat.reduceEqDiff,uF,eqA,bV,bU,oI,gQ,pt,bD,Nat.reduceSub,Nat.reduceGT,Nat.reduceLT,Nat.reduceAdd,hand,df,aT,asb,freeze,reduceIte,reduceCtorEq,ji,gY,isStr,zA,rep,Cb,Cj,Nat.reduceMul,Nat.reduceLeDiff]
 |n+1,i,st,hi,hst=>by
  rw[jh (he:=rfl)];generalize hk:aH C (ai C) 213 [0,9,196] nC=rest;have h:((i:Int)<8):=by omega
  have w5:=wrS i (by omega)
  have p1:∀j:Nat,(0:Int)<=(j:Int):=fun j=>by omega
  have l5:i<8:=by omega
  have l6:1+i+1<=74:=by omega
  have hl:=mQ (b:=b) (sz:=sz) hst h64;have a0:=vV s i (by omega)
  have a1:=acV (b:=b) (part:=part) (sz:=sz) hst i (by omega)
  have s1:=ahN (b:=b) (part:=part) (sz:=sz) hst i (by omega) (st.getD i 0+s.getD i 0)
  simp only[nC,h,w5,p1,l5,l6,hl,a0,a1,s1,alr hp,set_set hp,als,aeS,QM,VA,a81,Y8,EVQ,EVC,EVA,Nat.reduceEqDiff,uF,eqA,bV,bU,oI,gQ,pt,bD,Nat.reduceSub,Nat.reduceGT,Nat.reduceLT,Nat.reduceAdd,hand,df,aT,asb,freeze,reduceIte,reduceCtorEq,ji,gY,isStr,zA,rep,Cb,Cj,Nat.reduceMul,Nat.reduceLeDiff];rw[<-hk];exact ZV b part sz h64 Y p hp s hs n (i+1) _ (by omega) (by rw[a95,hst])
def RZ:List Wsh:=List.replicate 64 0
def af4(st:List Wsh)(part:LU):List Wsh:=WT (Ig (WS 48 16 (WQ part 16 0 RZ)) 64 0 st) 8 0 st
def Qo(part:LU):∀(n i:Nat) (w:List Wsh),(WQ part n i w).length=w.length
 |0,_,_=>rfl
 |n+1,i,w=>by unfold WQ;rw[Qo part n,a95]
def Qp:∀(n i:Nat) (w:List Wsh),(WS n i w).length=w.length
 |0,_,_=>rfl
 |n+1,i,w=>by unfold WS;rw[Qp n,a95]
def Qq(s:List Wsh):∀(n i:Nat) (w:List Wsh),(WT s n i w).length=w.length
 |0,_,_=>rfl
 |n+1,i,w=>by unfold WT;rw[Qq s n,a95]
def JR(w:List Wsh):∀(n i:Nat) (s:List Wsh),s.length=8->(Ig w n i s).length=8
 |0,_,_,h=>h
 |n+1,i,s,_=>by unfold Ig;exact JR w n _ _ rfl
def UA{st:List Wsh}(h:st.length=8)(part:LU):(af4 st part).length=8:=by unfold af4;rw[Qq,h]
def Y9(n:Nat):∀l:List Wsh,ae n (l.map iw)=true
 |[]=>rfl
 |x::l=>by
  rw[av3];unfold ae;rw[Y9 n l];rfl
def MV(n:Nat):∀l r:LA,ae n (l++r)=(ae n l&&ae n r)
 |[],r=>by simp[ae]
 |x::l,r=>by simp[ae,MV n l r,Bool.and_assoc]
def xW(n:Nat)(b st part sz):AO.below n (.cells (dI b st part sz) FZ)=true:=by
 unfold AO.below dI;simp[ae,below,MV,Y9,jG]
def anz (hC:Has C qL qB) (hR:Has C bG bJ) (hg:C.gl sF=some (kR.map iw))
  (O:St) (hσ:Ok O) (p:Nat) (b:Bool) (st:List Wsh) (part:LU) (sz:Int) (hp:O[p]?=some (.cells (dI b st part sz) FZ)) (h8:st.length=8) (h64:part.length=64):
  ai C qL [.ref p 0] O=some (.tup [],O.set p (.cells (dI b (af4 st part) part sz) FZ)):=by
 rw[hC.run];unfold BG;have hpl:p<O.length:=(a00.mp hp).1;obtain⟨w0,hw0⟩:∃w0,w0=WQ part 16 0 RZ:=⟨_,rfl⟩;obtain⟨w,hw⟩:∃w,w=WS 48 16 w0:=⟨_,rfl⟩;obtain⟨s,hs⟩:∃s,s=Ig w 64 0 st:=⟨_,rfl⟩;obtain⟨st',hst⟩:∃st',st'=WT s 8 0 st:=⟨_,rfl⟩;have lw0:w0.length=64:=by rw[hw0,Qo];rfl
 have lw:w.length=64:=by rw[hw,Qp,lw0]
 have ls:s.length=8:=by rw[hs];exact JR w 64 0 st h8
 have hm:af4 st part=st':=by unfold af4;rw[hst,hs,hw,hw0]
 rw[hm];have q0:=ZR (C:=C) b st part sz O p hp h8 h64 16 0 RZ (by omega) (by unfold RZ;rw[List.length_replicate])
 have q1:=ZT hR O p 48 16 w0 (by omega) (by omega) lw0
 have q2:=ZU hR hg (O++[.cells (w.map iw) FZ]) p O.length w lw (by rw[jY]) 64 0 st (by omega) h8
 have q3:=ZV (C:=C) b part sz h64 (O++[.cells (w.map iw) FZ]) p (by rw[a04];omega) s ls 8 0 st (by omega) h8
 rw[<-hw0]at q0;rw[<-hw]at q1;rw[<-hs]at q2;rw[<-hst]at q3;have e1:(O++[AO.cells (w.map iw) FZ]).set p (.cells (dI b st part sz) FZ)=O++[AO.cells (w.map iw) FZ]:=by
  rw[az5 _ _ hpl,<-(a00.mp hp).2,List.set_getElem_self]
 rw[e1]at q3;rw[az5 _ _ hpl]at q3;have z64:O++[AO.cells (List.replicate 64 (AV.int .u32 0)) FZ]=O++[.cells (RZ.map iw) FZ]:=rfl;simp only[List.reduceReplicate]at z64;have g1:=E8 hp [AO.cells (w.map iw) FZ];have tk:8<=((dI b st part sz).drop 1).length:=by rw[aD5,mQ h8 h64];omega
 have tk2:((dI b st part sz).drop 1).take 8=st.map iw:=by
  unfold dI;rw[aB0,au0,av7 (by simp[h8]),a08 (by simp[h8])]
 have fl:(st.map iw).all AV.flat=true:=by
  rw[a90];intro x hx;obtain⟨y,_,rfl⟩:=ax1.mp hx;rfl
 have sp:splice [AV.int .u32 0,AV.int .u32 0,AV.int .u32 0,AV.int .u32 0,AV.int .u32 0,AV.int .u32 0,AV.int .u32 0,AV.int .u32 0] 0 (st.map iw)=st.map iw:=En _ _ (by simp[h8])
 have ty:tidy O.length [] (O.set p (.cells (dI b st' part sz) FZ)++[.cells (w.map iw) FZ]++[.cells (s.map iw) FZ])=O.set p (.cells (dI b st' part sz) FZ):=by
  have:=BA (hσ.setW p (xW O.length b st' part sz)) (vs:=[]) rfl ([.cells (w.map iw) FZ]++[.cells (s.map iw) FZ]);rw[a95,<-au2]at this;exact this
 simp only[at6]at q0 q1 q2 q3;simp only[qB,z64,q0,q1,q2,q3,g1,tk,tk2,fl,sp,ty,h8,aw8,jY,oZ,EVQ,EVC,EVA,Nat.reduceEqDiff,uF,eqA,bV,bU,oI,gQ,pt,bD,Nat.reduceSub,Nat.reduceGT,Nat.reduceLT,Nat.reduceAdd,hand,df,aT,asb,freeze,reduceIte,reduceCtorEq,ji,gY,isStr,zA,rep,Cb,Cj,Nat.reduceMul,Nat.reduceLeDiff]
def lay(part:LU)(used:Nat)(s:LU):LU:=part.take used++s++part.drop (used+s.length)
def nX:Nat->List Wsh->LU->Nat->LU->List Wsh×LU
 |0,st,part,_,_=>(st,part)
 |n+1,st,part,used,s=>
  if s=[]then(st,part)else
  if used+min s.length (64-used)=64 then
   nX n (af4 st (lay part used (s.take (min s.length (64-used))))) (lay part used (s.take (min s.length (64-used)))) 0 (s.drop (min s.length (64-used)))
  else(st,lay part used (s.take (min s.length (64-used))))
def OC{part s:LU}{used:Nat}(h:used+s.length<=part.length):(lay part used s).length=part.length:=by
 simp[lay];omega
def ahM{b st part sz}(h8:st.length=8){used:Nat}{s:LU}(h:used+s.length<=part.length):splice (dI b st part sz) (9+used) (ofBytes s)=dI b st (lay part used s) sz:=by
 unfold dI splice lay;rw[show 9+used=(8+used)+1 by omega,aD7,show(8+used)+1+(ofBytes s).length=(8+used+s.length)+1 by rw[aI];omega,aB0]
 have e1:(st.map iw++(ofBytes part++[AV.int .i64 sz])).take (8+used)=st.map iw++ofBytes (part.take used):=by
  rw[List.take_append,a08 (by simp[h8])]
  simp only[aw8,h8,Nat.add_sub_cancel_left];rw[av7 (by rw[aI];omega)]
  unfold ofBytes;rw[List.map_take]
 have e2:(st.map iw++(ofBytes part++[AV.int .i64 sz])).drop (8+used+s.length)=ofBytes (part.drop (used+s.length))++[AV.int .i64 sz]:=by
  rw[List.drop_append,au1 (by simp[h8];omega)]
  simp only[aw8,h8,au3,show 8+used+s.length-8=used+s.length by omega]
  rw[List.drop_append_of_le_length (by rw[aI];omega)]
  unfold ofBytes;rw[List.map_drop]
 rw[e1,e2];simp[ofBytes]
def Em (hM:Has C qL qB) (hR:Has C bG bJ) (hg:C.gl sF=some (kR.map iw))
  (b:Bool) (sz:Int) (O:St) (hσ:Ok O) (p:Nat) (hp:p<O.length):
  ∀(n:Nat) (s:LU) (st:List Wsh) (part:LU) (used:Nat),s.length<n->used<64->s.length<=1099511627776->st.length=8->part.length=64->
  aH C (ai C) 55 [0,1,5] iV [(0,.ref p 0),(1,.str s),(5,.int .i64 used)] (O.set p (.cells (dI b st part sz) FZ))=
   some (.exit 0,[],O.set p (.cells (dI b (nX n st part used s).1 (nX n st part used s).2 sz) FZ))
 |0,s,_,_,_,hn,_,_,_,_=>absurd hn (by omega)
 |n+1,s,st,part,used,hn,hu,hl,h8,h64=>by
  rw[jh (he:=rfl)];generalize hk:aH C (ai C) 55 [0,1,5] iV=rest;by_cases hs:s=[]
  ·subst hs;simp only[iV,nX,Int.reduceLT,EVY,seval]
  ·have hpos:0<s.length:=List.length_pos_iff.mpr hs;have h0:((s.length:Int)>0):=by omega
   obtain⟨k,hkd⟩:∃k,k=min s.length (64-used):=⟨_,rfl⟩;have k1:k<=s.length:=by omega
   have k2:used+k<=64:=by omega
   have k3:0<k:=by omega
   have hlen:=mQ (b:=b) (sz:=sz) h8 h64;have g0:∀x,(O.set p x)[p]?=some x:=fun x=>aB2 hp;have c1:used<=64:=by omega
   have c2:¬used=64:=by omega
   have c3:(0:Int)<=(used:Int):=by omega
   have c4:9+used+k<=74:=by omega
   have tkk:(ofBytes s).take k=ofBytes (s.take k):=by unfold ofBytes;rw[List.map_take]
   have hlay:=ahM (b:=b) (sz:=sz) h8 (used:=used) (s:=s.take k) (part:=part) (by rw[ay6,h64];omega)
   have c5:(0:Int)<=(k:Int):=by omega
   have w1:IntKind.i64.wrap ((used:Int)+(k:Int))=((used+k:Nat):Int):=wrE (by omega)
   have tks:s.take s.length=s:=aD6;have lp:(lay part used (s.take k)).length=64:=by rw[OC (by rw[ay6,h64];omega),h64]
   have ok1:Ok (O.set p (.cells (dI b st (lay part used (s.take k)) sz) FZ)):=hσ.setW p (xW _ _ _ _ _);by_cases h64':used+k=64
   ·have b1:((((used+k:Nat):Int)==64))=true:=by rw[h64'];rfl
    have hmx:=anz hM hR hg (O.set p (.cells (dI b st (lay part used (s.take k)) sz) FZ)) ok1 p b st (lay part used (s.take k)) sz (g0 _) h8 lp;rw[ax4]at hmx;simp only[iV,nX,hs,h0,g0,hlen,c1,c2,c3,c4,c5,<-hkd,tkk,hlay,w1,tks,h64',hmx,vH,ax4,a81,k1,EVY,seval];rw[<-hk];have:=Em hM hR hg b sz O hσ p hp n (s.drop k) (af4 st (lay part used (s.take k))) (lay part used (s.take k)) 0 (by rw[aD5];omega) (by omega) (by rw[aD5];omega) (UA h8 _) lp
    simp only[at6]at this;exact this
   ·have b1:((((used+k:Nat):Int)==64))=false:=by
     rw[beq_eq_false_iff_ne];omega
    have hnil:s.drop k=[]:=au1 (by omega)
    simp only[iV,nX,hs,h0,g0,hlen,c1,c2,c3,c4,c5,<-hkd,tkk,hlay,w1,tks,b1,h64',vH,ax4,a81,k1,EVY,seval];rw[<-hk,hnil];have:=Em hM hR hg b sz O hσ p hp n [] st (lay part used (s.take k)) (used+k) (by simp;omega) (by omega) (by simp) h8 lp
    rw[this];cases n<;>rfl
def Xd{b st part sz}:(dI b st part sz).head? =some (.bool b):=rfl
def OA{b st part sz}(h8:st.length=8)(h64:part.length=64):((dI b st part sz).drop 73).head? =some (.int .i64 sz):=by
 unfold dI;rw[aC7,ax0,ay8 (by simp[h8]),ay8 (by simp[h8,h64,aI])]
 simp[h8,h64,aI]
def Nh{b st part sz}(h8:st.length=8)(h64:part.length=64)(z:Int):splice (dI b st part sz) 73 [.int .i64 z]=dI b st part z:=by
 unfold dI splice;rw[aD7,show 73+[AV.int .i64 z].length=73+1 from rfl,aB0,<-au2,av7 (by simp[h8,h64,aI]),a08 (by simp[h8,h64,aI]),au1 (by simp[h8,h64,aI])]
 simp
def uP(b:Bool)(st:List Wsh):List Wsh:=if b then st else hI
def BH{b:Bool}{st:List Wsh}(h8:st.length=8):(uP b st).length=8:=by cases b<;>simp[uP,h8,hI]
def TB (hC:Has C vk qA) (hM:Has C qL qB) (hR:Has C bG bJ) (hg:C.gl sF=some (kR.map iw)) (hi:C.gl wG=some (hI.map iw))
  (O:St) (hσ:Ok O) (p:Nat) (b:Bool) (st:List Wsh) (part:LU) (sz:Nat) (hp:O[p]?=some (.cells (dI b st part sz) FZ)) (h8:st.length=8) (h64:part.length=64) (hsz:sz<=4398046511104)
  (s:LU) (hl:s.length<=1099511627776):
  ai C vk [.ref p 0,.str s] O=some (.int .i64 0,O.set p (.cells (dI true (nX (s.length+1) (uP b st) part (sz%64) s).1 (nX (s.length+1) (uP b st) part (sz%64) s).2 ((sz+s.length:Nat):Int)) FZ)):=by
 rw[hC.run];unfold BG;have hpl:p<O.length:=(a00.mp hp).1;have g0:∀x,(O.set p x)[p]?=some x:=fun x=>aB2 hpl;have w1:((sz:Int)).tmod 64=((sz%64:Nat):Int):=by rw[aC9 (by omega)];omega
 have w2:IntKind.i64.wrap ((sz:Int)+(s.length:Int))=((sz+s.length:Nat):Int):=wrE (by omega)
 have q:=Em hM hR hg true ((sz+s.length:Nat):Int) O hσ p hpl (s.length+1) s (uP b st) part (sz%64) (by omega) (by omega) hl (BH h8) h64
 have n64:¬((64:Int)=0):=by decide
 have ty:∀x,tidy O.length [.int .i64 0] (O.set p x)=O.set p x:=fun x=>by
  have:=zW (O.set p x) [.int .i64 0];rw[a95]at this;exact this
 cases b with
 |true=>
  have hl0:=mQ (b:=true) (sz:=sz) h8 h64;have z1:=OA (b:=true) (sz:=sz) h8 h64;have z2:=Nh (b:=true) (sz:=sz) h8 h64 ((sz+s.length:Nat):Int);have z0:=Xd (b:=true) (st:=st) (part:=part) (sz:=sz);have e:uP true st=st:=rfl;rw[e]at q⊢;simp only[qA,hp,z0,z1,z2,hl0,w1,w2,n64,q,ty,EVY,seval]
 |false=>
  have e:uP false st=hI:=rfl;have hl0:=mQ (b:=false) (sz:=sz) h8 h64;have hl1:=mQ (b:=true) (sz:=sz) h8 h64;have hl2:=mQ (b:=true) (sz:=sz) (st:=hI) rfl h64;have z0:=Xd (b:=false) (st:=st) (part:=part) (sz:=sz);have z1:=OA (b:=true) (sz:=sz) (st:=hI) rfl h64;have z2:=Nh (b:=true) (sz:=sz) (st:=hI) rfl h64 ((sz+s.length:Nat):Int);have z3:splice (dI false st part sz) 0 [.bool true]=dI true st part sz:=rfl;have z4:splice (dI true st part sz) 1 (hI.map iw)=dI true hI part sz:=by
   unfold dI splice;rw[aD7,show 1+(hI.map iw).length=8+1 from rfl,aB0,List.drop_append,au1 (by simp[h8])]
   simp[h8]
  have z5:8<=(hI.map iw).length:=by decide
  have z6:(hI.map iw).take 8=hI.map iw:=rfl;have z7:(hI.map iw).length=8:=rfl;have z8:(hI.map iw).all AV.flat=true:=rfl;rw[e]at q⊢;simp only[qA,hp,hi,az2,z0,z1,z2,z3,z4,z6,z7,z8,hl0,hl1,hl2,w1,w2,n64,q,g0,ty,ax4,EVY,seval]
def hexV(b:UInt8):Option Nat:=
 if 48<=b.toNat/\b.toNat<=57 then some (b.toNat-48)else if 97<=b.toNat/\b.toNat<=102 then some (b.toNat-87)else none
def QH(s:LU)(i:Int):Option Nat:=
 if i<0 then none else s[i.toNat]?.bind hexV
def JF(o:Option Nat):AV:=
 .tup [.int .i64 (o.getD 0:Nat),.bool o.isSome]
def Lm (hC:Has C ash kV) (s:LU) (i:Int) (O:St):
  ai C ash [.str s,.int .i64 i] O=some (JF (QH s i),O):=by
 rw[hC.run];unfold BG;by_cases h0:i<0
 ·simp only[kV,h0,QH,JF,EVY,seval];rfl
 ·by_cases h1:(s.length:Int)<=i
  ·have h2:s[i.toNat]?=none:=aw2 (by omega)
   simp only[kV,h0,h1,h2,QH,JF,EVY,seval];rfl
  ·have h2:i.toNat<s.length:=by omega
   have h3:0<=i:=by omega
   obtain⟨b,hb⟩:∃b,s[i.toNat]?=some b:=⟨_,a02 h2⟩;have hlt:b.toNat<256:=b.toNat_lt;have hA:((48:Int)<=b.toNat)=(48<=b.toNat):=by simp;omega
   have hB:((b.toNat:Int)<=57)=(b.toNat<=57):=by simp;omega
   have hD:((97:Int)<=b.toNat)=(97<=b.toNat):=by simp;omega
   have hE:((b.toNat:Int)<=102)=(b.toNat<=102):=by simp;omega
   have hv:QH s i=hexV b:=by simp[QH,h0,hb]
   rw[hv];by_cases h4:48<=b.toNat
   ·by_cases h5:b.toNat<=57
    ·have e1:IntKind.u8.wrap ((b.toNat:Int)-48)=((b.toNat-48:Nat):Int):=by rw[wu8]<;>omega
     have e2:IntKind.i64.wrap ((b.toNat-48:Nat):Int)=((b.toNat-48:Nat):Int):=wrE (by omega)
     simp only[kV,h0,h1,h3,hb,h4,h5,hA,hB,e1,e2,EVY,seval];simp[JF,hexV,h4,h5]
    ·by_cases h6:97<=b.toNat
     ·by_cases h7:b.toNat<=102
      ·have e1:IntKind.u8.wrap ((b.toNat:Int)-97)=((b.toNat-97:Nat):Int):=by rw[wu8]<;>omega
       have e2:IntKind.i64.wrap ((b.toNat-97:Nat):Int)=((b.toNat-97:Nat):Int):=wrE (by omega)
       have e3:IntKind.i64.wrap (((b.toNat-97:Nat):Int)+10)=((b.toNat-87:Nat):Int):=wrE (by omega)
       simp only[kV,h0,h1,h3,hb,h4,h5,h6,h7,hA,hB,hD,hE,e1,e2,e3,EVY,seval];simp[JF,hexV,h4,h5,h6,h7]
      ·simp only[kV,h0,h1,h3,hb,h4,h5,h6,h7,hA,hB,hD,hE,EVY,seval];simp[JF,hexV,h4,h5,h6,h7]
     ·simp only[kV,h0,h1,h3,hb,h4,h5,h6,hA,hB,hD,EVY,seval];simp[JF,hexV,h4,h5,h6]
   ·have h6:¬97<=b.toNat:=by omega
    simp only[kV,h0,h1,h3,hb,h4,h6,hA,hD,EVY,seval];simp[JF,hexV,h4,h6]
def Xg(b:UInt8):Bool:=(hexV b).isSome
def ak0{s:LU}{i:Nat}{b:UInt8}(h:s[i]?=some b):(QH s i).isSome=Xg b:=by
 have:¬((i:Int)<0):=by omega
 simp[QH,h,Xg,this]
def Ur (hd:Has C ash kV) (s:LU) (hs:s.length<=1099511627776) (O:St):∀(n i:Nat),i+n=s.length->
  aH C (ai C) 20 [0,7,8] xm [(0,.str s),(7,.int .i64 s.length),(8,.int .i64 i)] O=
   if(s.drop i).all Xg then some (.exit 0,[],O)else some (.ret,[(2,.bool false)],O)
 |0,i,hi=>by
  rw[jh (he:=rfl)];have h:¬((i:Int)<(s.length:Int)):=by omega
  have h':s.drop i=[]:=au1 (by omega)
  simp only[xm,h,h',aw1,EVY,seval]
 |n+1,i,hi=>by
  rw[jh (he:=rfl)];generalize hk:aH C (ai C) 20 [0,7,8] xm=k;have h:((i:Int)<(s.length:Int)):=by omega
  have h2:i<s.length:=by omega
  have hb:s[i]?=some s[i]:=a02 h2;have h':s.drop i=s[i]::s.drop (i+1):=as9 h2;have hw:=wrS i (by omega)
  rw[h',a88,<-ak0 hb];cases hx:(QH s i).isSome
  ·simp only[xm,h,Lm hd,JF,hx,ay5,EVY,seval]
  ·simp only[xm,h,Lm hd,JF,hx,hw,aw6,EVY,seval];rw[<-hk,Ur hd s hs O n (i+1) (by omega)]
def apc (hC:Has C Jn VP) (hd:Has C ash kV) (s:LU) (hs:s.length<=1099511627776) (O:St):
  ai C Jn [.str s] O=some (.bool (s.all Xg),O):=by
 rw[hC.run];unfold BG;have:=Ur hd s hs O s.length 0 (by omega)
 simp only[at6,au0,EVY,seval]at this;cases hx:s.all Xg
 ·rw[hx]at this;simp only[VP,this,EVY,seval]
 ·rw[hx]at this;simp only[VP,this,EVY,seval]
def acW(n:Nat):UInt8:=if n<10 then UInt8.ofNat (48+n)else UInt8.ofNat (87+n)
def hexDigits:LU:=[48,49,50,51,52,53,54,55,56,57,97,98,99,100,101,102]
def ajp(b:UInt8):LU:=[acW (b.toNat/16),acW (b.toNat%16)]
def vU(s:LU):LU:=s.flatMap ajp
def agr(n:Nat)(h:n<16):((ofBytes hexDigits).drop n).head? =some (.int .u8 (acW n).toNat):=by
 have:∀n:Fin 16,((hexDigits.drop n.1).head?).map (fun b=>(AV.int .u8 (b.toNat:Int)))=some (.int .u8 ((acW n.1).toNat:Int)):=by
  intro n;obtain⟨n,hn⟩:=n;rcases(by omega:n=0\/n=1\/n=2\/n=3\/n=4\/n=5\/n=6\/n=7\/n=8\/n=9\/n=10\/n=11\/n=12\/n=13\/n=14\/n=15)with h|h|h|h|h|h|h|h|h|h|h|h|h|h|h|h<;>subst h<;>rfl
 have:=this ⟨n,h⟩;unfold ofBytes;rw[<-List.map_drop,List.head?_map];exact this
def YT {tg:Option (TypeId×Bool)} (O:St) (k:Nat) (acc cs:LU) (m:Nat) (hm:cs.length=m) (h0:0<m) (hl:acc.length+m<=70368744177664):
  rO (pile O k (.cells (ofBytes acc) FZ)) 1 1 tg (.msl (O.length+k) 0 acc.length 1) m (ofBytes cs)=some (.msl (O.length+(k+1)) 0 (acc++cs).length 1,pile O (k+1) (.cells (ofBytes (acc++cs)) FZ)):=by
 have hm0:¬m=0:=by omega
 have ht:(if none=tg then tg else none)=none:=by split<;>simp_all
 unfold rO;rw[if_neg hm0];simp only[JH];rw[if_pos ⟨trivial,by rw[aI];omega,by omega,hl⟩,adv,UH,JD,a04,hm,ht]
def IB (hg:C.gl CX=some (ofBytes hexDigits)) (s:LU) (hs:s.length<=1099511627776) (O:St):∀(n i k:Nat) (acc:LU),i+n=s.length->acc.length=2*i->
  aH C (ai C) 32 [0,3,4] qE [(0,.str s),(3,.msl (O.length+k) 0 acc.length 1),(4,.int .i64 i)] (pile O k (.cells (ofBytes acc) FZ))=
   some (.exit 0,[(3,.msl (O.length+(k+n)) 0 (acc++vU (s.drop i)).length 1)],pile O (k+n) (.cells (ofBytes (acc++vU (s.drop i))) FZ))
 |0,i,k,acc,hi,ha=>by
  rw[jh (he:=rfl)];have h:¬((i:Int)<(s.length:Int)):=by omega
  have h':s.drop i=[]:=au1 (by omega)
  simp only[qE,h,h',vU,aC2,aD4,EVQ,EVC,EVA,Nat.reduceEqDiff,uF,eqA,bV,bU,oI,gQ,pt,bD,Nat.reduceSub,Nat.reduceGT,Nat.reduceLT,Nat.reduceAdd,hand,df,aT,asb,freeze,reduceIte,reduceCtorEq,ji,gY,isStr,zA,rep,Cb,Cj,Nat.reduceMul,Nat.reduceLeDiff]
 |n+1,i,k,acc,hi,ha=>by
  rw[jh (he:=rfl)];generalize hk:aH C (ai C) 32 [0,3,4] qE=rest;have h:((i:Int)<(s.length:Int)):=by omega
  have h2:i<s.length:=by omega
  have hb:s[i]?=some s[i]:=a02 h2;have h':s.drop i=s[i]::s.drop (i+1):=as9 h2;have hw:=wrS i (by omega)
  rw[h'];generalize s[i]=b at hb;have hlt:b.toNat<256:=b.toNat_lt;have h0:(0:Int)<=i:=by omega
  have e1:((b.toNat:Int)).fdiv (2^(min (4:Int).toNat IntKind.u8.bits))=((b.toNat/16:Nat):Int):=by
   show((b.toNat:Int)).fdiv 16=_;rw[az6 _ (by omega)];omega
  have e2:IntKind.u8.wrap ((BitVec.ofInt IntKind.u8.bits (b.toNat:Int)&&&BitVec.ofInt IntKind.u8.bits 15).toNat:Int)=((b.toNat%16:Nat):Int):=by
   have:=aoK .u8 rfl b.toNat 15 hlt (by decide)
   rw[show((15:Nat):Int)=15 from rfl]at this;rw[this,show 15=2^4-1 from rfl,Nat.and_two_pow_sub_one_eq_mod]
  have e3:(0:Int)<=((b.toNat/16:Nat):Int):=by omega
  have e4:(0:Int)<=((b.toNat%16:Nat):Int):=by omega
  have e5:(((b.toNat/16:Nat):Int)).toNat<16/\(((b.toNat/16:Nat):Int)).toNat*1<=(ofBytes hexDigits).length:=by rw[aI];simp[hexDigits];omega
  have e6:(((b.toNat%16:Nat):Int)).toNat<16/\(((b.toNat%16:Nat):Int)).toNat*1<=(ofBytes hexDigits).length:=by rw[aI];simp[hexDigits];omega
  have d1:((ofBytes hexDigits).drop ((((b.toNat/16:Nat):Int)).toNat*1)).head? =some (.int .u8 (acW (b.toNat/16)).toNat):=by
   rw[a81,aw9];exact agr _ (by omega)
  have d2:((ofBytes hexDigits).drop ((((b.toNat%16:Nat):Int)).toNat*1)).head? =some (.int .u8 (acW (b.toNat%16)).toNat):=by
   rw[a81,aw9];exact agr _ (by omega)
  have n4:¬((4:Int)<0):=by decide
  have ti:((i:Int)).toNat=i:=a81 i;have happ:∀tg,rO (pile O k (.cells (ofBytes acc) FZ)) 1 1 tg (.msl (O.length+k) 0 acc.length 1) 2 [.int .u8 (acW (b.toNat/16)).toNat,.int .u8 (acW (b.toNat%16)).toNat]=_:=fun tg=>YT O k acc (ajp b) 2 rfl (by omega) (by omega)
  simp only[a81,aw9]at e5 e6 d1 d2;simp only[qE,h,h0,hb,ti,hw,n4,e1,e2,e3,e4,e5,e6,d1,d2,hg,happ,a81,az2,EVQ,EVC,EVA,Nat.reduceEqDiff,uF,eqA,bV,bU,oI,gQ,pt,bD,Nat.reduceSub,Nat.reduceGT,Nat.reduceLT,Nat.reduceAdd,hand,df,aT,asb,freeze,reduceIte,reduceCtorEq,ji,gY,isStr,zA,rep,Cb,Cj,Nat.reduceMul,Nat.reduceLeDiff];rw[<-hk,IB hg s hs O n (i+1) (k+1) (acc++ajp b) (by omega) (by rw[a04,ha];simp[ajp];omega)]
  simp[vU,aB9,aD8 1 n]
def hex_Encode (hC:Has C CU GI) (hg:C.gl CX=some (ofBytes hexDigits)) (s:LU) (hs:s.length<=1099511627776) (O:St) (hσ:Ok O):
  ai C CU [.str s] O=some (.str (vU s),O):=by
 rw[hC.run];unfold BG;have hl:=IB hg s hs O s.length 0 0 [] (by omega) rfl
 have hw:IntKind.i64.wrap (2*(s.length:Int))=((2*s.length:Nat):Int):=wrE (by omega)
 have hp:O++[AO.cells [] FZ]=pile O 0 (.cells (ofBytes []) FZ):=rfl;have hc:(0:Int)<=0/\(0:Int)<=((2*s.length:Nat):Int)/\((2*s.length:Nat):Int)<=9223372036854775807/\(1:Int)*((2*s.length:Nat):Int)<=140737488355328:=by omega
 simp only[au0,au3,av2,a09,aD4,at6]at hl;have hb:=uC (vU s);have ht:(ofBytes (vU s)).take (vU s).length=ofBytes (vU s):=a08 (by rw[aI];omega)
 have hy:tidy O.length [.str (vU s)] (pile O s.length (.cells (ofBytes (vU s)) FZ))=O:=aai hσ rfl _ _;simp only[GI,hw,hc,hp,hl,hb,ht,hy,JH,aI,aA6,EVQ,EVC,EVA,Nat.reduceEqDiff,uF,eqA,bV,bU,oI,gQ,pt,bD,Nat.reduceSub,Nat.reduceGT,Nat.reduceLT,Nat.reduceAdd,hand,df,aT,asb,freeze,reduceIte,reduceCtorEq,ji,gY,isStr,zA,rep,Cb,Cj,Nat.reduceMul,Nat.reduceLeDiff]
def aoR(len i:Nat):UInt8:=UInt8.ofNat (len/2^(56-8*i))
def WU(len:Nat):Nat->Nat->LU->LU
 |0,_,t=>t
 |n+1,i,t=>WU len n (i+1) (t.set i (aoR len i))
def UR(l:LU)(i:Nat)(v:UInt8)(h:i<l.length):splice (ofBytes l) i [.int .u8 (v.toNat:Int)]=ofBytes (l.set i v):=Ii (fun b:UInt8=>AV.int .u8 (b.toNat:Int)) l i v h
def ahc(n:Nat):IntKind.u8.wrap (n:Int)=((UInt8.ofNat n).toNat:Int):=by
 rw[IntKind.wrap_u8,UInt8.toNat_ofNat'];omega
def NC (Y:St) (p len:Nat):
  ∀(n i:Nat) (t:LU),i+n=8->t.length=8->
  aH C (ai C) 69 [3,4,5,31] kE [(3,.ref p 0),(4,.int .u64 len),(5,.ref Y.length 0),(31,.int .i64 i)] (Y++[.cells (ofBytes t) FZ])=
   some (.exit 0,[(3,.ref p 0),(5,.ref Y.length 0)],Y++[.cells (ofBytes (WU len n i t)) FZ])
 |0,i,t,hi,ht=>by
  rw[jh (he:=rfl)];have h:¬((i:Int)<8):=by omega
  simp only[kE,h,WU,EVY,seval]
 |n+1,i,t,hi,ht=>by
  rw[jh (he:=rfl)];generalize hk:aH C (ai C) 69 [3,4,5,31] kE=rest;have h:((i:Int)<8):=by omega
  have w1:IntKind.i64.wrap (8*(i:Int))=((8*i:Nat):Int):=wrE (by omega)
  have w2:IntKind.i64.wrap (56-((8*i:Nat):Int))=((56-8*i:Nat):Int):=wrE (by omega)
  have w5:=wrS i (by omega)
  have p1:∀j:Nat,(0:Int)<=(j:Int):=fun j=>by omega
  have p2:∀j:Nat,¬((j:Int)<0):=fun j=>by omega
  have m1:min (56-8*i) IntKind.u64.bits=56-8*i:=by show min (56-8*i) 64=_;omega
  have f1:(len:Int).fdiv (2^(56-8*i))=((len/2^(56-8*i):Nat):Int):=by
   rw[az6 _ (Int.pow_nonneg (by decide)),Int.natCast_ediv,Int.natCast_pow];rfl
  have l5:i<8:=by omega
  have l6:i+1<=8:=by omega
  have s1:=UR t i (aoR len i) (by omega)
  unfold aoR at s1;simp only[kE,h,w1,w2,w5,p1,p2,m1,f1,ahc,l5,l6,s1,ht,aI,jY,oZ,a81,EVY,seval];rw[<-hk];exact NC Y p len n (i+1) _ (by omega) (by rw[a95,ht])
def be32(x:Wsh):LU:=[UInt8.ofNat (x>>>24).toNat,UInt8.ofNat (x>>>16).toNat,UInt8.ofNat (x>>>8).toNat,UInt8.ofNat x.toNat]
def ape(y:Wsh)(O:St):apd .u8 (iw y) O=some (.val (.int .u8 ((UInt8.ofNat y.toNat).toNat:Int)) O):=by
 unfold iw;rw[QI,ahc]
def ND (O:St) (st:List Wsh) (h8:st.length=8):
  ∀(n i k:Nat) (acc:LU),i+n=8->acc.length=4*i->
  aH C (ai C) 69 [7,48,49] nz [(7,.msl (O.length+k) 0 acc.length 1),(48,.agg (st.map iw)),(49,.int .i64 i)] (pile O k (.cells (ofBytes acc) FZ))=
   some (.exit 2,[(7,.msl (O.length+(k+n)) 0 (acc++(st.drop i).flatMap be32).length 1)],pile O (k+n) (.cells (ofBytes (acc++(st.drop i).flatMap be32)) FZ))
 |0,i,k,acc,hi,ha=>by
  rw[jh (he:=rfl)];have h:¬((i:Int)<8):=by omega
  have h':st.drop i=[]:=au1 (by omega)
  simp only[nz,h,h',aC2,au6,aD4,EVY,seval]
 |n+1,i,k,acc,hi,ha=>by
  rw[jh (he:=rfl)];generalize hk:aH C (ai C) 69 [7,48,49] nz=rest;have h:((i:Int)<8):=by omega
  have p1:∀j:Nat,(0:Int)<=(j:Int):=fun j=>by omega
  have w5:=wrS i (by omega)
  have l5:i<8:=by omega
  have a0:=vV st i (by omega)
  have h':st.drop i=st.getD i 0::st.drop (i+1):=by
   rw[as9 (by omega),av4,a02 (by omega)];rfl
  rw[h'];generalize st.getD i 0=x at a0;have happ:∀tg,rO (pile O k (.cells (ofBytes acc) FZ)) 1 1 tg (.msl (O.length+k) 0 acc.length 1) 4 [.int .u8 (UInt8.ofNat (x>>>24).toNat).toNat,.int .u8 (UInt8.ofNat (x>>>16).toNat).toNat,.int .u8 (UInt8.ofNat (x>>>8).toNat).toNat,.int .u8 (UInt8.ofNat x.toNat).toNat]=_:=fun tg=>YT O k acc (be32 x) 4 rfl (by omega) (by omega)
  simp only[nz,h,p1,w5,l5,a0,agx,ape,happ,a81,Int.reduceLE,Int.reduceToNat,Y8,EVY,seval];rw[<-hk,ND O st h8 n (i+1) (k+1) (acc++be32 x) (by omega) (by rw[a04,ha];simp[be32];omega)]
  simp[aB9,aD8 1 n]
def pR:∀(n:Nat) (st:List Wsh) (part:LU) (used:Nat) (s:LU),st.length=8->part.length=64->used<=64->(nX n st part used s).1.length=8/\(nX n st part used s).2.length=64
 |0,_,_,_,_,h8,h64,_=>⟨h8,h64⟩
 |n+1,st,part,used,s,h8,h64,hu=>by
  have lp:(lay part used (s.take (min s.length (64-used)))).length=64:=by rw[OC (by rw[ay6,h64];omega),h64]
  unfold nX;split
  ·exact⟨h8,h64⟩
  ·split
   ·exact pR n _ _ 0 _ (UA h8 _) lp (by omega)
   ·exact⟨h8,lp⟩
def Qr(len:Nat):∀(n i:Nat) (t:LU),(WU len n i t).length=t.length
 |0,_,_=>rfl
 |n+1,i,t=>by unfold WU;rw[Qr len n,a95]
def J3(sz:Nat):LU:=128::List.replicate ((119-sz%64)%64) 0
def LZ(sz:Nat):LU:=WU (sz*8) 8 0 (List.replicate 8 0)
def adP(b:Bool)(st:List Wsh)(part:LU)(sz:Nat):List Wsh×LU:=nX ((J3 sz).length+1) (uP b st) part (sz%64) (J3 sz)
def adQ(b:Bool)(st:List Wsh)(part:LU)(sz:Nat):List Wsh×LU:=
 nX ((LZ sz).length+1) (adP b st part sz).1 (adP b st part sz).2 ((sz+(J3 sz).length)%64) (LZ sz)
def yT(b:Bool)(st:List Wsh)(part:LU)(sz:Nat):LU:=(adQ b st part sz).1.flatMap be32
def alv (hC:Has C D6 DD) (hW:Has C vk qA) (hM:Has C qL qB) (hR:Has C bG bJ) (hg:C.gl sF=some (kR.map iw)) (hi:C.gl wG=some (hI.map iw))
  (hRep:∀n:Nat,n<64->∀O,ai C nH [.str [0],.int .i64 n] O=some (.str (List.replicate n 0),O))
  (O:St) (hσ:Ok O) (p:Nat) (b:Bool) (st:List Wsh) (part:LU) (sz:Nat) (hp:O[p]?=some (.cells (dI b st part sz) FZ)) (h8:st.length=8) (h64:part.length=64) (hsz:sz<=2199023255552):
  ai C D6 [.ref p 0] O=some (.str (yT b st part sz),O):=by
 rw[hC.run];unfold BG;have hl0:=mQ (b:=b) (sz:=sz) h8 h64;have z1:=OA (b:=b) (sz:=sz) h8 h64;obtain⟨pad,hpad⟩:∃x,x=J3 sz:=⟨_,rfl⟩;obtain⟨tl,htl⟩:∃x,x=LZ sz:=⟨_,rfl⟩;obtain⟨r1,hr1⟩:∃x,x=adP b st part sz:=⟨_,rfl⟩;obtain⟨r2,hr2⟩:∃x,x=adQ b st part sz:=⟨_,rfl⟩;have lpad:pad.length<=64:=by rw[hpad];unfold J3;simp;omega
 have ltl:tl.length=8:=by rw[htl];unfold LZ;rw[Qr];rfl
 have a1:r1.1.length=8/\r1.2.length=64:=by rw[hr1];exact pR _ _ _ _ _ (BH h8) h64 (by omega)
 have a2:r2.1.length=8/\r2.2.length=64:=by rw[hr2];unfold adQ;rw[<-hr1];exact pR _ _ _ _ _ a1.1 a1.2 (by omega)
 have ok1:Ok (O++[.cells (dI b st part sz) FZ]):=hσ.app (by simp[xW])
 have q1:=TB hW hM hR hg hi (O++[.cells (dI b st part sz) FZ]) ok1 O.length b st part sz (jY _ _) h8 h64 (by omega) pad (by omega)
 rw[oZ,hpad]at q1;have e1:nX ((J3 sz).length+1) (uP b st) part (sz%64) (J3 sz)=r1:=hr1.symm;rw[e1,<-hpad]at q1;have ok2:Ok (O++[.cells (dI true r1.1 r1.2 ((sz+pad.length:Nat):Int)) FZ]++[.cells (ofBytes tl) FZ]):=by
  refine Ok.app (hσ.app (by simp[xW])) (by simp[AO.below,jG])
 have q2:=TB hW hM hR hg hi _ ok2 O.length true r1.1 r1.2 (sz+pad.length) (E8 (jY _ _) _) a1.1 a1.2 (by omega) tl (by omega)
 have e2:nX (tl.length+1) (uP true r1.1) r1.2 ((sz+pad.length)%64) tl=r2:=by rw[hr2];unfold adQ;rw[<-hr1,<-hpad,<-htl];rfl
 have e3:∀x y z:AO,(O++[x]++[y]).set O.length z=O++[z]++[y]:=fun x y z=>by
  rw[az5 _ _ (by simp),oZ]
 rw[e2,e3]at q2;have q3:=NC (C:=C) (O++[.cells (dI true r1.1 r1.2 ((sz+pad.length:Nat):Int)) FZ]) O.length (sz*8) 8 0 (List.replicate 8 0) (by omega) (by simp)
 have e4:WU (sz*8) 8 0 (List.replicate 8 0)=tl:=htl.symm;rw[e4]at q3;obtain⟨Y,hτ⟩:∃Y,Y=O++[.cells (dI true r2.1 r2.2 ((sz+pad.length+tl.length:Nat):Int)) FZ]++[.cells (ofBytes tl) FZ]:=⟨_,rfl⟩;rw[<-hτ]at q2;have q4:=ND (C:=C) Y r2.1 a2.1 8 0 0 [] (by omega) rfl
 simp only[au0,au3,av2,a09,aD4,at6]at q3 q4;have hout:r2.1.flatMap be32=yT b st part sz:=by unfold yT;rw[hr2]
 rw[hout]at q4;have m1:((sz:Int)).tmod 64=((sz%64:Nat):Int):=by rw[aC9 (by omega)];omega
 have w0:IntKind.u64.wrap (sz:Int)=(sz:Int):=by rw[wu64]<;>omega
 have w1:IntKind.u64.wrap ((sz:Int)*8)=((sz*8:Nat):Int):=by rw[wu64]<;>omega
 have w2:IntKind.i64.wrap (119-((sz%64:Nat):Int))=((119-sz%64:Nat):Int):=wrE (by omega)
 have m2:((119-sz%64:Nat):Int).tmod 64=(((119-sz%64)%64:Nat):Int):=by rw[aC9 (by omega)];omega
 have rp:=hRep ((119-sz%64)%64) (by omega)
 have fl:(dI b st part (sz:Int)).all AV.flat=true:=by
  rw[a90];intro x hx;unfold dI at hx;rcases au9.mp hx with h|h
  ·rw[h];rfl
  ·rcases az8.mp h with h|h
   ·obtain⟨y,_,rfl⟩:=ax1.mp h;rfl
   ·rcases az8.mp h with h|h
    ·unfold ofBytes at h;obtain⟨y,_,rfl⟩:=ax1.mp h;rfl
    ·rw[aA2.mp h];rfl
 have tk:(dI b st part (sz:Int)).take 74=dI b st part sz:=a08 (by omega)
 have sp:∀l:LA,l.length=74->splice l 0 (dI b st part (sz:Int))=dI b st part sz:=fun l hl=>En _ _ (by rw[hl,hl0])
 have hpd:[(128:UInt8)]++List.replicate ((119-sz%64)%64) 0=pad:=hpad.symm;have bs:∀y,rQ .add [(128:UInt8)] (List.replicate ((119-sz%64)%64) 0)=y->y=some (.str pad):=by
  intro y hy;rw[<-hy];unfold rQ;dsimp only;rw[if_neg (by simp;omega),hpd]
 have bs:=bs _ rfl;have z8:∀Y:St,Y++[AO.cells [.int .u8 0,.int .u8 0,.int .u8 0,.int .u8 0,.int .u8 0,.int .u8 0,.int .u8 0,.int .u8 0] FZ]=Y++[AO.cells (ofBytes (List.replicate 8 0)) FZ]:=fun _=>rfl;have tk2:(ofBytes tl).take 8=ofBytes tl:=a08 (by rw[aI];omega)
 have tp:Y++[AO.cells [] FZ]=pile Y 0 (.cells (ofBytes []) FZ):=rfl;have g1:∀k x,(pile Y k x)[O.length]?=some (.cells (dI true r2.1 r2.2 ((sz+pad.length+tl.length:Nat):Int)) FZ):=fun k x=>by
  unfold pile;refine E8 ?_ _;rw[hτ];exact E8 (jY _ _) _
 have tk3:∀z:Int,((dI true r2.1 r2.2 z).drop 1).take 8=r2.1.map iw:=by
  intro z;unfold dI;rw[aB0,au0,av7 (by simp[a2.1]),a08 (by simp[a2.1])]
 have tk4:∀z:Int,8<=((dI true r2.1 r2.2 z).drop 1).length:=by intro z;rw[aD5,mQ a2.1 a2.2];omega
 have bo:=uC (yT b st part sz);have bt:=uC tl;have tk5:(ofBytes (yT b st part sz)).take (yT b st part sz).length=ofBytes (yT b st part sz):=a08 (by rw[aI];omega)
 have pg:=fun x=>JH Y 8 x;have ty:∀x,tidy O.length [.str (yT b st part sz)] (pile Y 8 x)=O:=fun x=>by
  unfold pile;rw[hτ,au2,au2];exact BA hσ rfl _
 have c32:(0:Int)<=0/\(0:Int)<=32/\(32:Int)<=9223372036854775807/\(1:Int)*32<=140737488355328:=by decide
 have n64:¬((64:Int)=0):=by decide
 have g2:=E8 hp [AO.cells (dI b st part (sz:Int)) FZ];simp only[DD,hp,g2,hl0,z1,fl,tk,sp,m1,w0,w1,w2,m2,rp,bs,q1,z8,q3,jY,oZ,ltl,tk2,bt,q2,tp,q4,g1,tk3,tk4,bo,tk5,pg,ty,c32,n64,aI,aA6,Int.reduceMul,Int.reduceLE,EVY,Nat.reduceEqDiff,Nat.reduceSub,Nat.reduceGT,Nat.reduceLT,reduceIte,reduceCtorEq,Nat.reduceMul,Nat.reduceLeDiff,Int.reduceToNat,Int.reduceLE,Int.reduceLT,Int.reduceEq,Nat.reduceAdd,Int.reduceBNe,Int.reduceBEq,Int.reduceNeg]
def tX:LU:=List.replicate 64 0
def anx (hC:Has C SQ Sl) (hi:C.gl wG=some (hI.map iw)) (O:St) (hσ:Ok O):
  ai C SQ [] O=some (.ref O.length 0,O++[.cells (dI true hI tX 0) FZ]):=by
 rw[hC.run];unfold BG;have z6:(hI.map iw).take 8=hI.map iw:=rfl;have z7:(hI.map iw).length=8:=rfl;simp only[Sl,hi,az2,z6,z7,EVY,seval];rw[qX (by simp[ae,below])]
 rfl
def qV(s:LU):LU:=yT true (nX (s.length+1) hI tX 0 s).1 (nX (s.length+1) hI tX 0 s).2 s.length
structure N8(C:Ctx):Prop where
 new:Has C SQ Sl
 sum:Has C D6 DD
 write:Has C vk qA
 mix:Has C qL qB
 rot:Has C bG bJ
 sumF:Has C SS YP
 digest:Has C oU Ph
 encode:Has C CU GI
 gr:C.gl sF=some (kR.map iw)
 gi:C.gl wG=some (hI.map iw)
 gd:C.gl CX=some (ofBytes hexDigits)
 rep:∀n:Nat,n<64->∀O,ai C nH [.str [0],.int .i64 n] O=some (.str (List.replicate n 0),O)
def Rx(h:N8 C)(s:LU)(hs:s.length<=1099511627776)(O:St)(hσ:Ok O):ai C SS [.str s] O=some (.str (qV s),O):=by
 rw[h.sumF.run];unfold BG;have q0:=anx h.new h.gi O hσ;have ok1:Ok (O++[.cells (dI true hI tX (0:Nat)) FZ]):=hσ.app (by simp[xW])
 have q1:=TB h.write h.mix h.rot h.gr h.gi _ ok1 O.length true hI tX 0 (jY _ _) rfl rfl (by omega) s hs
 rw[oZ]at q1;have e:uP true hI=hI:=rfl;rw[e]at q1;have la:=pR (s.length+1) hI tX (0%64) s rfl rfl (by omega)
 simp only[Nat.zero_mod,av2]at q1 la;obtain⟨r,hr⟩:∃r,r=nX (s.length+1) hI tX 0 s:=⟨_,rfl⟩;rw[<-hr]at q1 la;have ok2:Ok (O++[.cells (dI true r.1 r.2 (s.length:Int)) FZ]):=hσ.app (by simp[xW])
 have q2:=alv h.sum h.write h.mix h.rot h.gr h.gi h.rep _ ok2 O.length true r.1 r.2 s.length (jY _ _) la.1 la.2 (by omega)
 have e2:yT true r.1 r.2 s.length=qV s:=by unfold qV;rw[hr]
 rw[e2]at q2;have ty:∀x,tidy O.length [.str (qV s)] (O++[x])=O:=fun x=>BA hσ rfl _;simp only[at6]at q1;simp only[YP,q0,q1,q2,ty,EVY,seval]
def pY(s:LU):(qV s).length=32:=by
 have la:=pR (s.length+1) hI tX 0 s rfl rfl (by omega)
 unfold qV yT;have l1:(adP true (nX (s.length+1) hI tX 0 s).1 (nX (s.length+1) hI tX 0 s).2 s.length).1.length=8/\(adP true (nX (s.length+1) hI tX 0 s).1 (nX (s.length+1) hI tX 0 s).2 s.length).2.length=64:=pR _ _ _ _ _ (BH la.1) la.2 (by omega)
 have l2:=(pR ((LZ s.length).length+1) _ _ ((s.length+(J3 s.length).length)%64) (LZ s.length) l1.1 l1.2 (by omega)).1
 have:∀l:List Wsh,(l.flatMap be32).length=4*l.length:=by
  intro l
  induction l with
  |nil=>rfl
  |cons x l ih=>rw[ay1,a04,ih,a07];simp[be32];omega
 rw[this];unfold adQ;rw[l2]
def afo(s:LU):LU:=vU (qV s)
def afp(h:N8 C)(s:LU)(hs:s.length<=1099511627776)(O:St)(hσ:Ok O):ai C oU [.str s] O=some (.str (afo s),O):=by
 rw[h.digest.run];unfold BG;have q0:=Rx h s hs O hσ;have q1:=hex_Encode h.encode h.gd (qV s) (by rw[pY];omega) O hσ
 simp only[Ph,q0,q1,afo,EVY,seval]
set_option maxRecDepth 1000000
noncomputable section
def EC:KF:=(.mk ?k:KsA 191 []).1
def oh:KC:=(.mk ?k:LsA 192 [] 0).1
attribute [local irreducible] oh
def FB:KF:=(.mk ?k:KsA 192 [oh]).1
def aca:KF:=(.mk ?k:KsA 134 []).1
def NY:KF:=(.mk ?k:KsA 193 []).1
def NZ:KF:=(.mk ?k:KsA 194 []).1
end
end Go.Ev
