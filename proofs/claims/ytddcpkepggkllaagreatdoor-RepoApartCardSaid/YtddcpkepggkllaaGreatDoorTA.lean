/- Contracts. No conditions. -/
import Derived.Test.YtddcpkepggkllaaGreatDoorCB
set_option linter.unusedVariables false
set_option linter.unusedSimpArgs false
set_option linter.defProp false
namespace Go.Ev
set_option maxRecDepth 1000000
noncomputable section
def mP:KF:=(.mk ?k:KsA 184 []).1
def y9:KC:=(.mk ?k:LsA 183 [] 0).1
attribute [local irreducible] y9
def Xb:KF:=(.mk ?k:KsA 183 [y9]).1
def sJ:KC:=(.mk ?k:LsA 116 [] 0).1
attribute [local irreducible] sJ
def IK:KF:=(.mk ?k:KsA 116 [sJ]).1
end
noncomputable section
def bZ:KF:=(.mk ?k:KsA 302 []).1
def iT:KC:=(.mk ?k:LsA 258 [] 0).1
attribute [local irreducible] iT
def jV:KC:=(.mk ?k:LsA 258 [iT] 1).1
attribute [local irreducible] jV
def lY:KC:=(.mk ?k:LsA 258 [iT,jV] 2).1
attribute [local irreducible] lY
def oW:KC:=(.mk ?k:LsA 258 [iT,jV,lY] 3).1
attribute [local irreducible] oW
def sF:KF:=(.mk ?k:KsA 258 [iT,jV,lY,oW]).1
def jJ:KC:=(.mk ?k:LsA 193 [] 0).1
attribute [local irreducible] jJ
def sD:KF:=(.mk ?k:KsA 193 [jJ]).1
def lW:KC:=(.mk ?k:LsA 194 [] 0).1
attribute [local irreducible] lW
def oV:KC:=(.mk ?k:LsA 194 [lW] 1).1
attribute [local irreducible] oV
def ET:KF:=(.mk ?k:KsA 194 [lW,oV]).1
def TQ:KF:=(.mk ?k:KsA 192 []).1
def aa4:KF:=(.mk ?k:KsA 127 []).1
def Qj:KF:=(.mk ?k:KsA 81 []).1
end
set_option maxRecDepth 100000
variable{C:Ctx}
abbrev Wsh:=BitVec 32
def iw(x:Wsh):AV:=.int .u32 (x.toNat:Int)
def aai(np:Bool)(op:BinOp)(ek:Nat)(c:Bool)(x:Wsh)(y:AV):zf np op ek c (iw x) y=binOp op ek c (iw x) y:=by cases np<;>rfl
def ZG(x:Wsh):BitVec.ofInt 32 (x.toNat:Int)=x:=by
 apply BitVec.eq_of_toNat_eq;rw[akC 32 x.toNat x.isLt]
def WZ(x:Wsh):IntKind.u32.wrap (x.toNat:Int)=(x.toNat:Int):=anz .u32 rfl _ x.isLt
def alD(b:Bool)(x y:Wsh):binOp .xor 0 b (iw x) (iw y)=some (iw (x^^^y)):=by
 show some (AV.int .u32 (IntKind.u32.wrap ((BitVec.ofInt 32 (x.toNat:Int)^^^BitVec.ofInt 32 (y.toNat:Int)).toNat:Int)))=_;rw[ZG,ZG,WZ];rfl
def aqM(b:Bool)(x y:Wsh):binOp .and 0 b (iw x) (iw y)=some (iw (x&&&y)):=by
 show some (AV.int .u32 (IntKind.u32.wrap ((BitVec.ofInt 32 (x.toNat:Int)&&&BitVec.ofInt 32 (y.toNat:Int)).toNat:Int)))=_;rw[ZG,ZG,WZ];rfl
def apy(b:Bool)(x y:Wsh):binOp .or 0 b (iw x) (iw y)=some (iw (x|||y)):=by
 show some (AV.int .u32 (IntKind.u32.wrap ((BitVec.ofInt 32 (x.toNat:Int)|||BitVec.ofInt 32 (y.toNat:Int)).toNat:Int)))=_;rw[ZG,ZG,WZ];rfl
def agi(b:Bool)(x y:Wsh):binOp .add 0 b (iw x) (iw y)=some (iw (x+y)):=by
 show some (AV.int .u32 (IntKind.u32.wrap ((x.toNat:Int)+(y.toNat:Int))))=_;have:IntKind.u32.wrap ((x.toNat:Int)+(y.toNat:Int))=((x+y).toNat:Int):=by
  rw[IntKind.wrap_u32,BitVec.toNat_add];omega
 rw[this];rfl
def aqN(x:Wsh):unOp .xor (iw x)=some (iw (~~~x)):=by
 show some (AV.int .u32 (IntKind.u32.wrap ((BitVec.ofInt 32 4294967295^^^BitVec.ofInt 32 (x.toNat:Int)).toNat:Int)))=_;rw[ZG,WZ];have:BitVec.ofInt 32 4294967295^^^x= ~~~x:=by
  rw[show BitVec.ofInt 32 4294967295=BitVec.allOnes 32 from rfl,BitVec.allOnes_xor]
 rw[this];rfl
def alB(b:Bool)(x:Wsh)(k:IntKind)(n:Nat):binOp .shl 0 b (iw x) (.int k (n:Int))=some (iw (x<<<(min n 32))):=by
 show Bd .shl .u32 (x.toNat:Int) (n:Int)=_;unfold Bd;rw[if_neg (by omega)]
 show some (AV.int .u32 (IntKind.u32.wrap ((x.toNat:Int)*2^(min n 32))))=_;have:IntKind.u32.wrap ((x.toNat:Int)*2^(min n 32))=((x<<<(min n 32)).toNat:Int):=by
  rw[IntKind.wrap_u32,BitVec.toNat_shiftLeft,Nat.shiftLeft_eq,Int.natCast_emod,Int.natCast_mul,Int.natCast_pow];rfl
 rw[this];rfl
def alC(b:Bool)(x:Wsh)(k:IntKind)(n:Nat):binOp .shr 0 b (iw x) (.int k (n:Int))=some (iw (x>>>(min n 32))):=by
 show Bd .shr .u32 (x.toNat:Int) (n:Int)=_;unfold Bd;rw[if_neg (by omega)]
 show some (AV.int .u32 ((x.toNat:Int).fdiv (2^(min n 32))))=_;have:(x.toNat:Int).fdiv (2^(min n 32))=((x>>>(min n 32)).toNat:Int):=by
  rw[BitVec.toNat_ushiftRight,Nat.shiftRight_eq_div_pow,aA3 _ (Int.pow_nonneg (by decide)),Int.natCast_ediv,Int.natCast_pow]
  rfl
 rw[this];rfl
def rotl(x:Wsh)(n:Nat):Wsh:=(x<<<n)|||(x>>>(32-n))
def abV (hC:Has C bM bZ) (x:Wsh) (k:Int) (n:Nat) (hn:n<32)
  (hk:IntKind.u64.wrap ((BitVec.ofInt IntKind.u64.bits (IntKind.u64.wrap k)&&&BitVec.ofInt IntKind.u64.bits 31).toNat:Int)=(n:Int)) (O:St):
  aj C bM [iw x,.int .i64 k] O=some (iw (rotl x n),O):=by
 rw[hC.run];unfold DD;have h1:IntKind.u64.wrap (32-(n:Int))=((32-n:Nat):Int):=by rw[wu64]<;>omega
 have h2:min n 32=n:=by omega
 have h3:min (32-n) 32=32-n:=by omega
 have hn':∀O r,bF O r (iw x)=some (iw x,[]):=fun _ _=>by unfold iw bF;rfl
 have hn2:∀O r,bF O r (iw (x<<<n|||x>>>(32-n)))=some (iw (x<<<n|||x>>>(32-n)),[]):=fun _ _=>by unfold iw bF;rfl
 simp only[bZ,hk,h1,alB,alC,apy,h2,h3,hn',hn2,rotl,aai,EVY,seval]
def Sl(x:Wsh):(iw x).cells=[iw x]:=rfl
def WO(x:Wsh):(iw x).flat=true:=rfl
def aon(b:Bool)(x:Wsh)(k:IntKind)(z:Int)(h0:0<=z)(h1:z<=32):binOp .shl 0 b (iw x) (.int k z)=some (iw (x<<<z.toNat)):=by
 have:=alB b x k z.toNat
 rw[Int.toNat_of_nonneg h0,az5 (by omega)]at this
 exact this
def ai1(b:Bool)(x:Wsh)(k:IntKind)(z:Int)(h0:0<=z)(h1:z<=32):binOp .shr 0 b (iw x) (.int k z)=some (iw (x>>>z.toNat)):=by
 have:=alC b x k z.toNat
 rw[Int.toNat_of_nonneg h0,az5 (by omega)]at this
 exact this
def wb(b:UInt8):Wsh:=BitVec.ofNat 32 b.toNat
def atw(b:UInt8):AV.int .u32 (IntKind.u32.wrap (b.toNat:Int))=iw (wb b):=by
 have hlt:b.toNat<256:=b.toNat_lt;unfold iw wb;rw[atW (by omega) (by omega),BitVec.toNat_ofNat,Nat.mod_eq_of_lt (by omega)]
def xZ(l:List Wsh)(i:Nat)(h:i<l.length):((l.map iw).drop i).head? =some (iw (l.getD i 0)):=by
 rw[aD1,ay4,a01 h,aw1,a01 h];rfl
def JC{α:Type}(f:α->AV)(l:List α)(i:Nat)(v:α)(h:i<l.length):splice (l.map f) i [f v]=(l.set i v).map f:=by
 unfold splice;rw[List.set_eq_take_append_cons_drop,if_pos h];simp
def dU(b:Bool)(st:List Wsh)(part:LU)(sz:Int):LA:=.bool b::(st.map iw++(ofBytes part++[.int .i64 sz]))
def oL{b st part sz}(h8:st.length=8)(h64:part.length=64):(dU b st part sz).length=74:=by
 simp[dU,aK,h8,h64]
def agc{b st part sz}(h8:st.length=8)(h64:part.length=64)(i:Nat)(hi:i<64):((dU b st part sz).drop (9+i)).head? =some (.int .u8 ((part.getD i 0).toNat:Int)):=by
 unfold dU ofBytes;rw[aD1,show 9+i=(8+i)+1 by omega,ax6,az3 (by simp[h8]),av4 (by simp[h8,h64];omega)]
 simp only[ax5,h8,ay4,show 8+i-8=i by omega]
 rw[a01 (by omega),aw1,a01 (by omega)]
 rfl
def aef{b st part sz}(h8:st.length=8)(i:Nat)(hi:i<8):((dU b st part sz).drop (1+i)).head? =some (iw (st.getD i 0)):=by
 unfold dU;rw[aD1,aE2 1 i,ax6,av4 (by simp[h8];omega),ay4,a01 (by omega),aw1,a01 (by omega)]
 rfl
def ajk{b st part sz}(h8:st.length=8)(i:Nat)(hi:i<8)(v:Wsh):splice (dU b st part sz) (1+i) [iw v]=dU b (st.set i v) part sz:=by
 unfold dU splice;rw[aE2 1 i,ax4,show i+1+[iw v].length=(i+1)+1 from rfl,aB4,av8 (by simp[h8];omega),List.drop_append_of_le_length (by simp[h8];omega)]
 have:=JC iw st i v (by omega)
 unfold splice at this;rw[<-this];simp
def lK(O:St)(x:AO):(O++[x])[O.length]?=some x:=by simp
def qQ(O:St)(x y:AO):(O++[x]).set O.length y=O++[y]:=by simp
def GR{O:St}{o:Nat}{x:AO}(h:O[o]?=some x)(l:St):(O++l)[o]?=some x:=by
 have:o<O.length:=(a00.mp h).1;rw[av4 this,h]
def wordAt(part:LU)(i:Nat):Wsh:=wb (part.getD (4*i) 0)<<<24|||wb (part.getD (4*i+1) 0)<<<16|||wb (part.getD (4*i+2) 0)<<<8|||wb (part.getD (4*i+3) 0)
def X4(part:LU):Nat->Nat->List Wsh->List Wsh
 |0,_,w=>w
 |n+1,i,w=>X4 part n (i+1) (w.set i (wordAt part i))
def ab3 (b:Bool) (st:List Wsh) (part:LU) (sz:Int) (O:St) (p:Nat) (hp:O[p]?=some (.cells (dU b st part sz) FZ)) (h8:st.length=8) (h64:part.length=64):
  ∀(n i:Nat) (w:List Wsh),i+n=16->w.length=64->
  aH C (aj C) 213 [0,2,21] iT [(0,.ref p 0),(2,.ref O.length 0),(21,.int .i64 i)] (O++[.cells (w.map iw) FZ])=
   some (.exit 0,[(0,.ref p 0),(2,.ref O.length 0)],O++[.cells ((X4 part n i w).map iw) FZ])
 |0,i,w,hi,hw=>by
  rw[jX (he:=rfl)];have h:¬((i:Int)<16):=by omega
  simp only[iT,h,X4,EVY,seval]
 |n+1,i,w,hi,hw=>by
  rw[jX (he:=rfl)];generalize hk:aH C (aj C) 213 [0,2,21] iT=rest;have h:((i:Int)<16):=by omega
  have w1:IntKind.i64.wrap (4*(i:Int))=((4*i:Nat):Int):=wrE (by omega)
  have w2:IntKind.i64.wrap (((4*i:Nat):Int)+1)=((4*i+1:Nat):Int):=wrE (by omega)
  have w3:IntKind.i64.wrap (((4*i:Nat):Int)+2)=((4*i+2:Nat):Int):=wrE (by omega)
  have w4:IntKind.i64.wrap (((4*i:Nat):Int)+3)=((4*i+3:Nat):Int):=wrE (by omega)
  have w5:=wrS i (by omega)
  have p1:∀j:Nat,(0:Int)<=(j:Int):=fun j=>by omega
  have l1:4*i<64:=by omega
  have l2:4*i+1<64:=by omega
  have l3:4*i+2<64:=by omega
  have l4:4*i+3<64:=by omega
  have l5:i<64:=by omega
  have l6:i+1<=64:=by omega
  have g:=GR hp [.cells (w.map iw) FZ];have s1:=JC iw w i (wordAt part i) (by omega)
  unfold wordAt at s1;simp only[iT,h,w1,w2,w3,w4,w5,p1,l1,l2,l3,l4,l5,l6,g,hw,ax5,agc h8 h64,atw,aon,apy,Sl,WO,lK,qQ,s1,a95,Int.reduceLE,Int.reduceToNat,aai,EVY,seval];rw[<-hk,ab3 b st part sz O p hp h8 h64 n (i+1) _ (by omega) (by rw[a96,hw])]
  rfl
def rot(hC:Has C bM bZ)(k:Int)(n:Nat)(hn:n<32)
 (hk:IntKind.u64.wrap ((BitVec.ofInt IntKind.u64.bits (IntKind.u64.wrap k)&&&BitVec.ofInt IntKind.u64.bits 31).toNat:Int)=(n:Int)):
 ∀(x:Wsh) (O:St),aj C bM [iw x,.int .i64 k] O=some (iw (rotl x n),O):=fun x O=>abV hC x k n hn hk O
def asF(x:Wsh):Wsh:=rotl x 25^^^rotl x 14^^^x>>>3
def aps(x:Wsh):Wsh:=rotl x 15^^^rotl x 13^^^x>>>10
def amc(w:List Wsh)(i:Nat):Wsh:=w.getD (i-16) 0+asF (w.getD (i-15) 0)+w.getD (i-7) 0+aps (w.getD (i-2) 0)
def X5:Nat->Nat->List Wsh->List Wsh
 |0,_,w=>w
 |n+1,i,w=>X5 n (i+1) (w.set i (amc w i))
def ab4 (hR:Has C bM bZ) (O:St) (p:Nat):
  ∀(n i:Nat) (w:List Wsh),16<=i->i+n=64->w.length=64->
  aH C (aj C) 213 [0,2,4] jV [(0,.ref p 0),(2,.ref O.length 0),(4,.int .i64 i)] (O++[.cells (w.map iw) FZ])=
   some (.exit 2,[(0,.ref p 0),(2,.ref O.length 0)],O++[.cells ((X5 n i w).map iw) FZ])
 |0,i,w,h16,hi,hw=>by
  rw[jX (he:=rfl)];have h:¬((i:Int)<64):=by omega
  simp only[jV,h,X5,EVY,Nat.reduceEqDiff,Nat.reduceSub,Nat.reduceGT,Nat.reduceLT,reduceIte,reduceCtorEq,Nat.reduceMul,Nat.reduceLeDiff,Int.reduceToNat,Int.reduceLE,Int.reduceLT,Int.reduceEq,Nat.reduceAdd,Int.reduceBNe,Int.reduceBEq,Int.reduceNeg]
 |n+1,i,w,h16,hi,hw=>by
  rw[jX (he:=rfl)];generalize hk:aH C (aj C) 213 [0,2,4] jV=rest;have h:((i:Int)<64):=by omega
  have w1:IntKind.i64.wrap ((i:Int)-15)=((i-15:Nat):Int):=wrE (by omega)
  have w2:IntKind.i64.wrap ((i:Int)-2)=((i-2:Nat):Int):=wrE (by omega)
  have w3:IntKind.i64.wrap ((i:Int)-16)=((i-16:Nat):Int):=wrE (by omega)
  have w4:IntKind.i64.wrap ((i:Int)-7)=((i-7:Nat):Int):=wrE (by omega)
  have w5:=wrS i (by omega)
  have p1:∀j:Nat,(0:Int)<=(j:Int):=fun j=>by omega
  have l1:i-15<64:=by omega
  have l2:i-2<64:=by omega
  have l3:i-16<64:=by omega
  have l4:i-7<64:=by omega
  have l5:i<64:=by omega
  have l6:i+1<=64:=by omega
  have a1:=xZ w (i-15) (by omega)
  have a2:=xZ w (i-2) (by omega)
  have a3:=xZ w (i-16) (by omega)
  have a4:=xZ w (i-7) (by omega)
  have r1:=rot hR (-7) 25 (by decide) (by decide)
  have r2:=rot hR (-18) 14 (by decide) (by decide)
  have r3:=rot hR (-17) 15 (by decide) (by decide)
  have r4:=rot hR (-19) 13 (by decide) (by decide)
  have s1:=JC iw w i (amc w i) (by omega)
  unfold amc asF aps at s1;simp only[jV,h,w1,w2,w3,w4,w5,p1,l1,l2,l3,l4,l5,l6,hw,a1,a2,a3,a4,r1,r2,r3,r4,ax5,ai1,alD,agi,Sl,WO,lK,qQ,s1,a95,Int.reduceLE,Int.reduceToNat,aai,EVY,Nat.reduceEqDiff,Nat.reduceSub,Nat.reduceGT,Nat.reduceLT,reduceIte,reduceCtorEq,Nat.reduceMul,Nat.reduceLeDiff,Int.reduceToNat,Int.reduceLE,Int.reduceLT,Int.reduceEq,Nat.reduceAdd,Int.reduceBNe,Int.reduceBEq,Int.reduceNeg];rw[<-hk,ab4 hR O p n (i+1) _ (by omega) (by omega) (by rw[a96,hw])]
  rfl
def kR:List Wsh:=[0x428a2f98,0x71374491,0xb5c0fbcf,0xe9b5dba5,0x3956c25b,0x59f111f1,0x923f82a4,0xab1c5ed5,
 0xd807aa98,0x12835b01,0x243185be,0x550c7dc3,0x72be5d74,0x80deb1fe,0x9bdc06a7,0xc19bf174,
 0xe49b69c1,0xefbe4786,0x0fc19dc6,0x240ca1cc,0x2de92c6f,0x4a7484aa,0x5cb0a9dc,0x76f988da,
 0x983e5152,0xa831c66d,0xb00327c8,0xbf597fc7,0xc6e00bf3,0xd5a79147,0x06ca6351,0x14292967,
 0x27b70a85,0x2e1b2138,0x4d2c6dfc,0x53380d13,0x650a7354,0x766a0abb,0x81c2c92e,0x92722c85,
 0xa2bfe8a1,0xa81a664b,0xc24b8b70,0xc76c51a3,0xd192e819,0xd6990624,0xf40e3585,0x106aa070,
 0x19a4c116,0x1e376c08,0x2748774c,0x34b0bcb5,0x391c0cb3,0x4ed8aa4a,0x5b9cca4f,0x682e6ff3,
 0x748f82ee,0x78a5636f,0x84c87814,0x8cc70208,0x90befffa,0xa4506ceb,0xbef9a3f7,0xc67178f2]
def hI:List Wsh:=[0x6a09e667,0xbb67ae85,0x3c6ef372,0xa54ff53a,0x510e527f,0x9b05688c,0x1f83d9ab,0x5be0cd19]
def ag3(w:List Wsh)(i:Nat)(e f g h:Wsh):Wsh:=h+(rotl e 26^^^rotl e 21^^^rotl e 7)+(e&&&f^^^ ~~~e&&&g)+kR.getD i 0+w.getD i 0
def apE(a b c:Wsh):Wsh:=(a&&&b^^^a&&&c^^^b&&&c)
def UF(w:List Wsh)(i:Nat)(s:List Wsh):List Wsh:=
 [ag3 w i (s.getD 4 0) (s.getD 5 0) (s.getD 6 0) (s.getD 7 0)+(rotl (s.getD 0 0) 30^^^rotl (s.getD 0 0) 19^^^rotl (s.getD 0 0) 10)+apE (s.getD 0 0) (s.getD 1 0) (s.getD 2 0),
  s.getD 0 0,s.getD 1 0,s.getD 2 0,s.getD 3 0+ag3 w i (s.getD 4 0) (s.getD 5 0) (s.getD 6 0) (s.getD 7 0),s.getD 4 0,s.getD 5 0,s.getD 6 0]
def JA(w:List Wsh):Nat->Nat->List Wsh->List Wsh
 |0,_,s=>s
 |n+1,i,s=>JA w n (i+1) (UF w i s)
def FW(l v:LA)(h:l.length=v.length):splice l 0 v=v:=by
 unfold splice;rw[aC9,a99,av5,au5 (by omega),au6]
def ab5 (hR:Has C bM bZ) (hg:C.gl uP=some (kR.map iw)) (Y:St) (p q:Nat) (w:List Wsh) (hw:w.length=64) (hq:Y[q]?=some (.cells (w.map iw) FZ)):
  ∀(n i:Nat) (s:List Wsh),i+n=64->s.length=8->
  aH C (aj C) 213 [0,2,9,115] lY [(0,.ref p 0),(2,.ref q 0),(9,.ref Y.length 0),(115,.int .i64 i)] (Y++[.cells (s.map iw) FZ])=
   some (.exit 4,[(0,.ref p 0),(9,.ref Y.length 0)],Y++[.cells ((JA w n i s).map iw) FZ])
 |0,i,s,hi,hs=>by
  rw[jX (he:=rfl)];have h:¬((i:Int)<64):=by omega
  simp only[lY,h,JA,EVY,Nat.reduceEqDiff,Nat.reduceSub,Nat.reduceGT,Nat.reduceLT,reduceIte,reduceCtorEq,Nat.reduceMul,Nat.reduceLeDiff,Int.reduceToNat,Int.reduceLE,Int.reduceLT,Int.reduceEq,Nat.reduceAdd,Int.reduceBNe,Int.reduceBEq,Int.reduceNeg]
 |n+1,i,s,hi,hs=>by
  rw[jX (he:=rfl)];generalize hk:aH C (aj C) 213 [0,2,9,115] lY=rest;have h:((i:Int)<64):=by omega
  have w5:=wrS i (by omega)
  have p1:∀j:Nat,(0:Int)<=(j:Int):=fun j=>by omega
  have l5:i<64:=by omega
  have l6:i<=kR.length:=by show i<=64;omega
  have a0:(s.map iw).head? =some (iw (s.getD 0 0)):=xZ s 0 (by omega)
  have a1:=xZ s 1 (by omega)
  have a2:=xZ s 2 (by omega)
  have a3:=xZ s 3 (by omega)
  have a4:=xZ s 4 (by omega)
  have a5:=xZ s 5 (by omega)
  have a6:=xZ s 6 (by omega)
  have a7:=xZ s 7 (by omega)
  have b1:=xZ w i (by omega)
  have b2:=xZ kR i (by show i<64;omega)
  have r1:=rot hR (-6) 26 (by decide) (by decide)
  have r2:=rot hR (-11) 21 (by decide) (by decide)
  have r3:=rot hR (-25) 7 (by decide) (by decide)
  have r4:=rot hR (-2) 30 (by decide) (by decide)
  have r5:=rot hR (-13) 19 (by decide) (by decide)
  have r6:=rot hR (-22) 10 (by decide) (by decide)
  have g:=GR hq [.cells (s.map iw) FZ];have s1:splice (s.map iw) 0 ((UF w i s).map iw)=(UF w i s).map iw:=FW _ _ (by simp[hs,UF])
  unfold UF ag3 apE at s1;simp only[av9,List.map_nil]at s1;simp only[lY,h,w5,p1,l5,l6,hs,g,hg,az9,a0,a1,a2,a3,a4,a5,a6,a7,b1,b2,r1,r2,r3,r4,r5,r6,ax5,alD,agi,aqM,aqN,Sl,WO,lK,qQ,s1,a95,Int.reduceLE,Int.reduceToNat,aai,EVY,Nat.reduceEqDiff,Nat.reduceSub,Nat.reduceGT,Nat.reduceLT,reduceIte,reduceCtorEq,Nat.reduceMul,Nat.reduceLeDiff,Int.reduceToNat,Int.reduceLE,Int.reduceLT,Int.reduceEq,Nat.reduceAdd,Int.reduceBNe,Int.reduceBEq,Int.reduceNeg];rw[<-hk];exact ab5 hR hg Y p q w hw hq n (i+1) (UF w i s) (by omega) rfl
def an0{O:St}{p:Nat}(hp:p<O.length)(x:AO)(l:St):(O.set p x++l)[p]?=some x:=by
 rw[av4 (by rw[a96];exact hp),aB5 hp]
def set_set{O:St}{p:Nat}(hp:p<O.length)(x y:AO)(l:St):(O.set p x++l).set p y=O.set p y++l:=by
 rw[aA2 _ _ (by rw[a96];exact hp),ay3]
def an1(O:St)(p:Nat)(x y:AO):(O.set p x++[y])[O.length]?=some y:=by
 rw[az3 (by rw[a96];omega)]
 simp
def Ok.setW{O:St}(h:Ok O)(p:Nat){x:AO}(hx:AO.below O.length x=true):Ok (O.set p x):=by
 unfold Ok;rw[a96,a94];intro y hy;rcases List.mem_or_eq_of_mem_set hy with h'|h'
 ·exact a94.mp h y h'
 ·rw[h'];exact hx
def X6(s:List Wsh):Nat->Nat->List Wsh->List Wsh
 |0,_,st=>st
 |n+1,i,st=>X6 s n (i+1) (st.set i (st.getD i 0+s.getD i 0))
def ab6 (b:Bool) (part:LU) (sz:Int) (h64:part.length=64) (Y:St) (p:Nat) (hp:p<Y.length) (s:List Wsh) (hs:s.length=8):
  ∀(n i:Nat) (st:List Wsh),i+n=8->st.length=8->
  aH C (aj C) 213 [0,9,196] oW [(0,.ref p 0),(9,.ref Y.length 0),(196,.int .i64 i)] (Y.set p (.cells (dU b st part sz) FZ)++[.cells (s.map iw) FZ])=
   some (.exit 6,[],Y.set p (.cells (dU b (X6 s n i st) part sz) FZ)++[.cells (s.map iw) FZ])
 |0,i,st,hi,hst=>by
  rw[jX (he:=rfl)];have h:¬((i:Int)<8):=by omega
  simp only[oW,h,X6,EVQ,EVC,EVA,Nat.reduceEqDiff,wH,eqA,dm,aY,qG,iQ,pt,bK,Nat.reduceSub,Nat.reduceGT,Nat.reduceLT,Nat.reduceAdd,hand,dE,aV,bF,freeze,reduceIte,reduceCtorEq,jY,iV,isStr,BC,rep,Eb,Ef,Nat.reduceMul,Nat.reduceLeDiff]
 |n+1,i,st,hi,hst=>by
  rw[jX (he:=rfl)];generalize hk:aH C (aj C) 213 [0,9,196] oW=rest;have h:((i:Int)<8):=by omega
  have w5:=wrS i (by omega)
  have p1:∀j:Nat,(0:Int)<=(j:Int):=fun j=>by omega
  have l5:i<8:=by omega
  have l6:1+i+1<=74:=by omega
  have hl:=oL (b:=b) (sz:=sz) hst h64;have a0:=xZ s i (by omega)
  have a1:=aef (b:=b) (part:=part) (sz:=sz) hst i (by omega)
  have s1:=ajk (b:=b) (part:=part) (sz:=sz) hst i (by omega) (st.getD i 0+s.getD i 0)
  simp only[oW,h,w5,p1,l5,l6,hl,a0,a1,s1,an0 hp,set_set hp,an1,agi,Sl,WO,a95,aai,EVQ,EVC,EVA,Nat.reduceEqDiff,wH,eqA,dm,aY,qG,iQ,pt,bK,Nat.reduceSub,Nat.reduceGT,Nat.reduceLT,Nat.reduceAdd,hand,dE,aV,bF,freeze,reduceIte,reduceCtorEq,jY,iV,isStr,BC,rep,Eb,Ef,Nat.reduceMul,Nat.reduceLeDiff];rw[<-hk];exact ab6 b part sz h64 Y p hp s hs n (i+1) _ (by omega) (by rw[a96,hst])
def TN:List Wsh:=List.replicate 64 0
def ags(st:List Wsh)(part:LU):List Wsh:=X6 (JA (X5 48 16 (X4 part 16 0 TN)) 64 0 st) 8 0 st
def Rl(part:LU):∀(n i:Nat) (w:List Wsh),(X4 part n i w).length=w.length
 |0,_,_=>rfl
 |n+1,i,w=>by unfold X4;rw[Rl part n,a96]
def Rn:∀(n i:Nat) (w:List Wsh),(X5 n i w).length=w.length
 |0,_,_=>rfl
 |n+1,i,w=>by unfold X5;rw[Rn n,a96]
def Ro(s:List Wsh):∀(n i:Nat) (w:List Wsh),(X6 s n i w).length=w.length
 |0,_,_=>rfl
 |n+1,i,w=>by unfold X6;rw[Ro s n,a96]
def LW(w:List Wsh):∀(n i:Nat) (s:List Wsh),s.length=8->(JA w n i s).length=8
 |0,_,_,h=>h
 |n+1,i,s,_=>by unfold JA;exact LW w n _ _ rfl
def Vu{st:List Wsh}(h:st.length=8)(part:LU):(ags st part).length=8:=by unfold ags;rw[Ro,h]
def aaj(n:Nat):∀l:List Wsh,ai n (l.map iw)=true
 |[]=>rfl
 |x::l=>by
  rw[av9];unfold ai;rw[aaj n l];rfl
def Ov(n:Nat):∀l r:LA,ai n (l++r)=(ai n l&&ai n r)
 |[],r=>by simp[ai]
 |x::l,r=>by simp[ai,Ov n l r,Bool.and_assoc]
def zO(n:Nat)(b st part sz):AO.below n (.cells (dU b st part sz) FZ)=true:=by
 unfold AO.below dU;simp[ai,below,Ov,aaj,kU]
def ap3 (hC:Has C sU sF) (hR:Has C bM bZ) (hg:C.gl uP=some (kR.map iw))
  (O:St) (hσ:Ok O) (p:Nat) (b:Bool) (st:List Wsh) (part:LU) (sz:Int) (hp:O[p]?=some (.cells (dU b st part sz) FZ)) (h8:st.length=8) (h64:part.length=64):
  aj C sU [.ref p 0] O=some (.tup [],O.set p (.cells (dU b (ags st part) part sz) FZ)):=by
 rw[hC.run];unfold DD;have hpl:p<O.length:=(a00.mp hp).1;obtain⟨w0,hw0⟩:∃w0,w0=X4 part 16 0 TN:=⟨_,rfl⟩;obtain⟨w,hw⟩:∃w,w=X5 48 16 w0:=⟨_,rfl⟩;obtain⟨s,hs⟩:∃s,s=JA w 64 0 st:=⟨_,rfl⟩;obtain⟨st',hst⟩:∃st',st'=X6 s 8 0 st:=⟨_,rfl⟩;have lw0:w0.length=64:=by rw[hw0,Rl];rfl
 have lw:w.length=64:=by rw[hw,Rn,lw0]
 have ls:s.length=8:=by rw[hs];exact LW w 64 0 st h8
 have hm:ags st part=st':=by unfold ags;rw[hst,hs,hw,hw0]
 rw[hm];have q0:=ab3 (C:=C) b st part sz O p hp h8 h64 16 0 TN (by omega) (by unfold TN;rw[List.length_replicate])
 have q1:=ab4 hR O p 48 16 w0 (by omega) (by omega) lw0
 have q2:=ab5 hR hg (O++[.cells (w.map iw) FZ]) p O.length w lw (by rw[lK]) 64 0 st (by omega) h8
 have q3:=ab6 (C:=C) b part sz h64 (O++[.cells (w.map iw) FZ]) p (by rw[a04];omega) s ls 8 0 st (by omega) h8
 rw[<-hw0]at q0;rw[<-hw]at q1;rw[<-hs]at q2;rw[<-hst]at q3;have e1:(O++[AO.cells (w.map iw) FZ]).set p (.cells (dU b st part sz) FZ)=O++[AO.cells (w.map iw) FZ]:=by
  rw[aA2 _ _ hpl,<-(a00.mp hp).2,List.set_getElem_self]
 rw[e1]at q3;rw[aA2 _ _ hpl]at q3;have z64:O++[AO.cells (List.replicate 64 (AV.int .u32 0)) FZ]=O++[.cells (TN.map iw) FZ]:=rfl;simp only[List.reduceReplicate]at z64;have g1:=GR hp [AO.cells (w.map iw) FZ];have tk:8<=((dU b st part sz).drop 1).length:=by rw[aD7,oL h8 h64];omega
 have tk2:((dU b st part sz).drop 1).take 8=st.map iw:=by
  unfold dU;rw[aB4,au7,av8 (by simp[h8]),a08 (by simp[h8])]
 have fl:(st.map iw).all AV.flat=true:=by
  rw[a94];intro x hx;obtain⟨y,_,rfl⟩:=ax7.mp hx;rfl
 have sp:splice [AV.int .u32 0,AV.int .u32 0,AV.int .u32 0,AV.int .u32 0,AV.int .u32 0,AV.int .u32 0,AV.int .u32 0,AV.int .u32 0] 0 (st.map iw)=st.map iw:=FW _ _ (by simp[h8])
 have ty:tidy O.length [] (O.set p (.cells (dU b st' part sz) FZ)++[.cells (w.map iw) FZ]++[.cells (s.map iw) FZ])=O.set p (.cells (dU b st' part sz) FZ):=by
  have:=DI (hσ.setW p (zO O.length b st' part sz)) (vs:=[]) rfl ([.cells (w.map iw) FZ]++[.cells (s.map iw) FZ]);rw[a96,<-au4]at this;exact this
 simp only[a97]at q0 q1 q2 q3;simp only[sF,z64,q0,q1,q2,q3,g1,tk,tk2,fl,sp,ty,h8,ax5,lK,qQ,EVQ,EVC,EVA,Nat.reduceEqDiff,wH,eqA,dm,aY,qG,iQ,pt,bK,Nat.reduceSub,Nat.reduceGT,Nat.reduceLT,Nat.reduceAdd,hand,dE,aV,bF,freeze,reduceIte,reduceCtorEq,jY,iV,isStr,BC,rep,Eb,Ef,Nat.reduceMul,Nat.reduceLeDiff]
def lay(part:LU)(used:Nat)(s:LU):LU:=part.take used++s++part.drop (used+s.length)
def ql:Nat->List Wsh->LU->Nat->LU->List Wsh×LU
 |0,st,part,_,_=>(st,part)
 |n+1,st,part,used,s=>
  if s=[]then(st,part)else
  if used+min s.length (64-used)=64 then
   ql n (ags st (lay part used (s.take (min s.length (64-used))))) (lay part used (s.take (min s.length (64-used)))) 0 (s.drop (min s.length (64-used)))
  else(st,lay part used (s.take (min s.length (64-used))))
def PP{part s:LU}{used:Nat}(h:used+s.length<=part.length):(lay part used s).length=part.length:=by
 simp[lay];omega
def ajj{b st part sz}(h8:st.length=8){used:Nat}{s:LU}(h:used+s.length<=part.length):splice (dU b st part sz) (9+used) (ofBytes s)=dU b st (lay part used s) sz:=by
 unfold dU splice lay;rw[show 9+used=(8+used)+1 by omega,ax4,show(8+used)+1+(ofBytes s).length=(8+used+s.length)+1 by rw[aK];omega,aB4]
 have e1:(st.map iw++(ofBytes part++[AV.int .i64 sz])).take (8+used)=st.map iw++ofBytes (part.take used):=by
  rw[List.take_append,a08 (by simp[h8])]
  simp only[ax5,h8,Nat.add_sub_cancel_left];rw[av8 (by rw[aK];omega)]
  unfold ofBytes;rw[List.map_take]
 have e2:(st.map iw++(ofBytes part++[AV.int .i64 sz])).drop (8+used+s.length)=ofBytes (part.drop (used+s.length))++[AV.int .i64 sz]:=by
  rw[List.drop_append,au5 (by simp[h8];omega)]
  simp only[ax5,h8,a99,show 8+used+s.length-8=used+s.length by omega]
  rw[List.drop_append_of_le_length (by rw[aK];omega)]
  unfold ofBytes;rw[List.map_drop]
 rw[e1,e2];simp[ofBytes]
def FV (hM:Has C sU sF) (hR:Has C bM bZ) (hg:C.gl uP=some (kR.map iw))
  (b:Bool) (sz:Int) (O:St) (hσ:Ok O) (p:Nat) (hp:p<O.length):
  ∀(n:Nat) (s:LU) (st:List Wsh) (part:LU) (used:Nat),s.length<n->used<64->s.length<=1099511627776->st.length=8->part.length=64->
  aH C (aj C) 55 [0,1,5] jJ [(0,.ref p 0),(1,.str s),(5,.int .i64 used)] (O.set p (.cells (dU b st part sz) FZ))=
   some (.exit 0,[],O.set p (.cells (dU b (ql n st part used s).1 (ql n st part used s).2 sz) FZ))
 |0,s,_,_,_,hn,_,_,_,_=>absurd hn (by omega)
 |n+1,s,st,part,used,hn,hu,hl,h8,h64=>by
  rw[jX (he:=rfl)];generalize hk:aH C (aj C) 55 [0,1,5] jJ=rest;by_cases hs:s=[]
  ·subst hs;simp only[jJ,ql,Int.reduceLT,EVY,seval]
  ·have hpos:0<s.length:=List.length_pos_iff.mpr hs;have h0:((s.length:Int)>0):=by omega
   obtain⟨k,hkd⟩:∃k,k=min s.length (64-used):=⟨_,rfl⟩;have k1:k<=s.length:=by omega
   have k2:used+k<=64:=by omega
   have k3:0<k:=by omega
   have hlen:=oL (b:=b) (sz:=sz) h8 h64;have g0:∀x,(O.set p x)[p]?=some x:=fun x=>aB5 hp;have c1:used<=64:=by omega
   have c2:¬used=64:=by omega
   have c3:(0:Int)<=(used:Int):=by omega
   have c4:9+used+k<=74:=by omega
   have tkk:(ofBytes s).take k=ofBytes (s.take k):=by unfold ofBytes;rw[List.map_take]
   have hlay:=ajj (b:=b) (sz:=sz) h8 (used:=used) (s:=s.take k) (part:=part) (by rw[az2,h64];omega)
   have c5:(0:Int)<=(k:Int):=by omega
   have w1:IntKind.i64.wrap ((used:Int)+(k:Int))=((used+k:Nat):Int):=wrE (by omega)
   have tks:s.take s.length=s:=aD9;have lp:(lay part used (s.take k)).length=64:=by rw[PP (by rw[az2,h64];omega),h64]
   have ok1:Ok (O.set p (.cells (dU b st (lay part used (s.take k)) sz) FZ)):=hσ.setW p (zO _ _ _ _ _);by_cases h64':used+k=64
   ·have b1:((((used+k:Nat):Int)==64))=true:=by rw[h64'];rfl
    have hmx:=ap3 hM hR hg (O.set p (.cells (dU b st (lay part used (s.take k)) sz) FZ)) ok1 p b st (lay part used (s.take k)) sz (g0 _) h8 lp;rw[ay3]at hmx;simp only[jJ,ql,hs,h0,g0,hlen,c1,c2,c3,c4,c5,<-hkd,tkk,hlay,w1,tks,h64',hmx,xC,ay3,a95,k1,EVY,seval];rw[<-hk];have:=FV hM hR hg b sz O hσ p hp n (s.drop k) (ags st (lay part used (s.take k))) (lay part used (s.take k)) 0 (by rw[aD7];omega) (by omega) (by rw[aD7];omega) (Vu h8 _) lp
    simp only[a97]at this;exact this
   ·have b1:((((used+k:Nat):Int)==64))=false:=by
     rw[beq_eq_false_iff_ne];omega
    have hnil:s.drop k=[]:=au5 (by omega)
    simp only[jJ,ql,hs,h0,g0,hlen,c1,c2,c3,c4,c5,<-hkd,tkk,hlay,w1,tks,b1,h64',xC,ay3,a95,k1,EVY,seval];rw[<-hk,hnil];have:=FV hM hR hg b sz O hσ p hp n [] st (lay part used (s.take k)) (used+k) (by simp;omega) (by omega) (by simp) h8 lp
    rw[this];cases n<;>rfl
def Yj{b st part sz}:(dU b st part sz).head? =some (.bool b):=rfl
def PN{b st part sz}(h8:st.length=8)(h64:part.length=64):((dU b st part sz).drop 73).head? =some (.int .i64 sz):=by
 unfold dU;rw[aD1,ax6,az3 (by simp[h8]),az3 (by simp[h8,h64,aK])]
 simp[h8,h64,aK]
def OD{b st part sz}(h8:st.length=8)(h64:part.length=64)(z:Int):splice (dU b st part sz) 73 [.int .i64 z]=dU b st part z:=by
 unfold dU splice;rw[ax4,show 73+[AV.int .i64 z].length=73+1 from rfl,aB4,<-au4,av8 (by simp[h8,h64,aK]),a08 (by simp[h8,h64,aK]),au5 (by simp[h8,h64,aK])]
 simp
def wR(b:Bool)(st:List Wsh):List Wsh:=if b then st else hI
def DT{b:Bool}{st:List Wsh}(h8:st.length=8):(wR b st).length=8:=by cases b<;>simp[wR,h8,hI]
def UI (hC:Has C xn sD) (hM:Has C sU sF) (hR:Has C bM bZ) (hg:C.gl uP=some (kR.map iw)) (hi:C.gl yB=some (hI.map iw))
  (O:St) (hσ:Ok O) (p:Nat) (b:Bool) (st:List Wsh) (part:LU) (sz:Nat) (hp:O[p]?=some (.cells (dU b st part sz) FZ)) (h8:st.length=8) (h64:part.length=64) (hsz:sz<=4398046511104)
  (s:LU) (hl:s.length<=1099511627776):
  aj C xn [.ref p 0,.str s] O=some (.int .i64 0,O.set p (.cells (dU true (ql (s.length+1) (wR b st) part (sz%64) s).1 (ql (s.length+1) (wR b st) part (sz%64) s).2 ((sz+s.length:Nat):Int)) FZ)):=by
 rw[hC.run];unfold DD;have hpl:p<O.length:=(a00.mp hp).1;have g0:∀x,(O.set p x)[p]?=some x:=fun x=>aB5 hpl;have w1:((sz:Int)).tmod 64=((sz%64:Nat):Int):=by rw[aD2 (by omega)];omega
 have w2:IntKind.i64.wrap ((sz:Int)+(s.length:Int))=((sz+s.length:Nat):Int):=wrE (by omega)
 have q:=FV hM hR hg true ((sz+s.length:Nat):Int) O hσ p hpl (s.length+1) s (wR b st) part (sz%64) (by omega) (by omega) hl (DT h8) h64
 have n64:¬((64:Int)=0):=by decide
 have ty:∀x,tidy O.length [.int .i64 0] (O.set p x)=O.set p x:=fun x=>by
  have:=BX (O.set p x) [.int .i64 0];rw[a96]at this;exact this
 cases b with
 |true=>
  have hl0:=oL (b:=true) (sz:=sz) h8 h64;have z1:=PN (b:=true) (sz:=sz) h8 h64;have z2:=OD (b:=true) (sz:=sz) h8 h64 ((sz+s.length:Nat):Int);have z0:=Yj (b:=true) (st:=st) (part:=part) (sz:=sz);have e:wR true st=st:=rfl;rw[e]at q⊢;simp only[sD,hp,z0,z1,z2,hl0,w1,w2,n64,q,ty,EVY,seval]
 |false=>
  have e:wR false st=hI:=rfl;have hl0:=oL (b:=false) (sz:=sz) h8 h64;have hl1:=oL (b:=true) (sz:=sz) h8 h64;have hl2:=oL (b:=true) (sz:=sz) (st:=hI) rfl h64;have z0:=Yj (b:=false) (st:=st) (part:=part) (sz:=sz);have z1:=PN (b:=true) (sz:=sz) (st:=hI) rfl h64;have z2:=OD (b:=true) (sz:=sz) (st:=hI) rfl h64 ((sz+s.length:Nat):Int);have z3:splice (dU false st part sz) 0 [.bool true]=dU true st part sz:=rfl;have z4:splice (dU true st part sz) 1 (hI.map iw)=dU true hI part sz:=by
   unfold dU splice;rw[ax4,show 1+(hI.map iw).length=8+1 from rfl,aB4,List.drop_append,au5 (by simp[h8])]
   simp[h8]
  have z5:8<=(hI.map iw).length:=by decide
  have z6:(hI.map iw).take 8=hI.map iw:=rfl;have z7:(hI.map iw).length=8:=rfl;have z8:(hI.map iw).all AV.flat=true:=rfl;rw[e]at q⊢;simp only[sD,hp,hi,az9,z0,z1,z2,z3,z4,z6,z7,z8,hl0,hl1,hl2,w1,w2,n64,q,g0,ty,ay3,EVY,seval]
def hexV(b:UInt8):Option Nat:=
 if 48<=b.toNat/\b.toNat<=57 then some (b.toNat-48)else if 97<=b.toNat/\b.toNat<=102 then some (b.toNat-87)else none
def RU(s:LU)(i:Int):Option Nat:=
 if i<0 then none else s[i.toNat]?.bind hexV
def LC(o:Option Nat):AV:=
 .tup [.int .i64 (o.getD 0:Nat),.bool o.isSome]
def NH (hC:Has C ny mP) (s:LU) (i:Int) (O:St):
  aj C ny [.str s,.int .i64 i] O=some (LC (RU s i),O):=by
 rw[hC.run];unfold DD;by_cases h0:i<0
 ·simp only[mP,h0,RU,LC,EVY,seval];rfl
 ·by_cases h1:(s.length:Int)<=i
  ·have h2:s[i.toNat]?=none:=aw8 (by omega)
   simp only[mP,h0,h1,h2,RU,LC,EVY,seval];rfl
  ·have h2:i.toNat<s.length:=by omega
   have h3:0<=i:=by omega
   obtain⟨b,hb⟩:∃b,s[i.toNat]?=some b:=⟨_,a01 h2⟩;have hlt:b.toNat<256:=b.toNat_lt;have hA:((48:Int)<=b.toNat)=(48<=b.toNat):=by simp;omega
   have hB:((b.toNat:Int)<=57)=(b.toNat<=57):=by simp;omega
   have hD:((97:Int)<=b.toNat)=(97<=b.toNat):=by simp;omega
   have hE:((b.toNat:Int)<=102)=(b.toNat<=102):=by simp;omega
   have hv:RU s i=hexV b:=by simp[RU,h0,hb]
   rw[hv];by_cases h4:48<=b.toNat
   ·by_cases h5:b.toNat<=57
    ·have e1:IntKind.u8.wrap ((b.toNat:Int)-48)=((b.toNat-48:Nat):Int):=by rw[wu8]<;>omega
     have e2:IntKind.i64.wrap ((b.toNat-48:Nat):Int)=((b.toNat-48:Nat):Int):=wrE (by omega)
     simp only[mP,h0,h1,h3,hb,h4,h5,hA,hB,e1,e2,EVY,seval];simp[LC,hexV,h4,h5]
    ·by_cases h6:97<=b.toNat
     ·by_cases h7:b.toNat<=102
      ·have e1:IntKind.u8.wrap ((b.toNat:Int)-97)=((b.toNat-97:Nat):Int):=by rw[wu8]<;>omega
       have e2:IntKind.i64.wrap ((b.toNat-97:Nat):Int)=((b.toNat-97:Nat):Int):=wrE (by omega)
       have e3:IntKind.i64.wrap (((b.toNat-97:Nat):Int)+10)=((b.toNat-87:Nat):Int):=wrE (by omega)
       simp only[mP,h0,h1,h3,hb,h4,h5,h6,h7,hA,hB,hD,hE,e1,e2,e3,EVY,seval];simp[LC,hexV,h4,h5,h6,h7]
      ·simp only[mP,h0,h1,h3,hb,h4,h5,h6,h7,hA,hB,hD,hE,EVY,seval];simp[LC,hexV,h4,h5,h6,h7]
     ·simp only[mP,h0,h1,h3,hb,h4,h5,h6,hA,hB,hD,EVY,seval];simp[LC,hexV,h4,h5,h6]
   ·have h6:¬97<=b.toNat:=by omega
    simp only[mP,h0,h1,h3,hb,h4,h6,hA,hD,EVY,seval];simp[LC,hexV,h4,h6]
def Ym(b:UInt8):Bool:=(hexV b).isSome
def alz{s:LU}{i:Nat}{b:UInt8}(h:s[i]?=some b):(RU s i).isSome=Ym b:=by
 have:¬((i:Int)<0):=by omega
 simp[RU,h,Ym,this]
def Vl (hd:Has C ny mP) (s:LU) (hs:s.length<=1099511627776) (O:St):∀(n i:Nat),i+n=s.length->
  aH C (aj C) 20 [0,7,8] y9 [(0,.str s),(7,.int .i64 s.length),(8,.int .i64 i)] O=
   if(s.drop i).all Ym then some (.exit 0,[],O)else some (.ret,[(2,.bool false)],O)
 |0,i,hi=>by
  rw[jX (he:=rfl)];have h:¬((i:Int)<(s.length:Int)):=by omega
  have h':s.drop i=[]:=au5 (by omega)
  simp only[y9,h,h',aw0,EVY,seval]
 |n+1,i,hi=>by
  rw[jX (he:=rfl)];generalize hk:aH C (aj C) 20 [0,7,8] y9=k;have h:((i:Int)<(s.length:Int)):=by omega
  have h2:i<s.length:=by omega
  have hb:s[i]?=some s[i]:=a01 h2;have h':s.drop i=s[i]::s.drop (i+1):=au1 h2;have hw:=wrS i (by omega)
  rw[h',a07,<-alz hb];cases hx:(RU s i).isSome
  ·simp only[y9,h,NH hd,LC,hx,aB0,EVY,seval]
  ·simp only[y9,h,NH hd,LC,hx,hw,ax2,EVY,seval];rw[<-hk,Vl hd s hs O n (i+1) (by omega)]
def aqF (hC:Has C KT Xb) (hd:Has C ny mP) (s:LU) (hs:s.length<=1099511627776) (O:St):
  aj C KT [.str s] O=some (.bool (s.all Ym),O):=by
 rw[hC.run];unfold DD;have:=Vl hd s hs O s.length 0 (by omega)
 simp only[a97,au7,EVY,seval]at this;cases hx:s.all Ym
 ·rw[hx]at this;simp only[Xb,this,EVY,seval]
 ·rw[hx]at this;simp only[Xb,this,EVY,seval]
def aeg(n:Nat):UInt8:=if n<10 then UInt8.ofNat (48+n)else UInt8.ofNat (87+n)
def hexDigits:LU:=[48,49,50,51,52,53,54,55,56,57,97,98,99,100,101,102]
def akU(b:UInt8):LU:=[aeg (b.toNat/16),aeg (b.toNat%16)]
def xY(s:LU):LU:=s.flatMap akU
def ahV(n:Nat)(h:n<16):((ofBytes hexDigits).drop n).head? =some (.int .u8 (aeg n).toNat):=by
 have:∀n:Fin 16,((hexDigits.drop n.1).head?).map (fun b=>(AV.int .u8 (b.toNat:Int)))=some (.int .u8 ((aeg n.1).toNat:Int)):=by
  intro n;obtain⟨n,hn⟩:=n;rcases(by omega:n=0\/n=1\/n=2\/n=3\/n=4\/n=5\/n=6\/n=7\/n=8\/n=9\/n=10\/n=11\/n=12\/n=13\/n=14\/n=15)with h|h|h|h|h|h|h|h|h|h|h|h|h|h|h|h<;>subst h<;>rfl
 have:=this ⟨n,h⟩;unfold ofBytes;rw[<-List.map_drop,List.head?_map];exact this
def aa8 {tg:Option (TypeId×Bool)} (O:St) (k:Nat) (acc cs:LU) (m:Nat) (hm:cs.length=m) (h0:0<m) (hl:acc.length+m<=70368744177664):
  tY (pile O k (.cells (ofBytes acc) FZ)) 1 1 tg (.msl (O.length+k) 0 acc.length 1) m (ofBytes cs)=some (.msl (O.length+(k+1)) 0 (acc++cs).length 1,pile O (k+1) (.cells (ofBytes (acc++cs)) FZ)):=by
 have hm0:¬m=0:=by omega
 have ht:(if none=tg then tg else none)=none:=by split<;>simp_all
 unfold tY;rw[if_neg hm0];simp only[LG];rw[if_pos ⟨trivial,by rw[aK];omega,by omega,hl⟩,aeM,VC,Lt,a04,hm,ht]
def JX (hg:C.gl Eu=some (ofBytes hexDigits)) (s:LU) (hs:s.length<=1099511627776) (O:St):∀(n i k:Nat) (acc:LU),i+n=s.length->acc.length=2*i->
  aH C (aj C) 32 [0,3,4] sJ [(0,.str s),(3,.msl (O.length+k) 0 acc.length 1),(4,.int .i64 i)] (pile O k (.cells (ofBytes acc) FZ))=
   some (.exit 0,[(3,.msl (O.length+(k+n)) 0 (acc++xY (s.drop i)).length 1)],pile O (k+n) (.cells (ofBytes (acc++xY (s.drop i))) FZ))
 |0,i,k,acc,hi,ha=>by
  rw[jX (he:=rfl)];have h:¬((i:Int)<(s.length:Int)):=by omega
  have h':s.drop i=[]:=au5 (by omega)
  simp only[sJ,h,h',xY,aD8,aD6,EVQ,EVC,EVA,Nat.reduceEqDiff,wH,eqA,dm,aY,qG,iQ,pt,bK,Nat.reduceSub,Nat.reduceGT,Nat.reduceLT,Nat.reduceAdd,hand,dE,aV,bF,freeze,reduceIte,reduceCtorEq,jY,iV,isStr,BC,rep,Eb,Ef,Nat.reduceMul,Nat.reduceLeDiff]
 |n+1,i,k,acc,hi,ha=>by
  rw[jX (he:=rfl)];generalize hk:aH C (aj C) 32 [0,3,4] sJ=rest;have h:((i:Int)<(s.length:Int)):=by omega
  have h2:i<s.length:=by omega
  have hb:s[i]?=some s[i]:=a01 h2;have h':s.drop i=s[i]::s.drop (i+1):=au1 h2;have hw:=wrS i (by omega)
  rw[h'];generalize s[i]=b at hb;have hlt:b.toNat<256:=b.toNat_lt;have h0:(0:Int)<=i:=by omega
  have e1:((b.toNat:Int)).fdiv (2^(min (4:Int).toNat IntKind.u8.bits))=((b.toNat/16:Nat):Int):=by
   show((b.toNat:Int)).fdiv 16=_;rw[aA3 _ (by omega)];omega
  have e2:IntKind.u8.wrap ((BitVec.ofInt IntKind.u8.bits (b.toNat:Int)&&&BitVec.ofInt IntKind.u8.bits 15).toNat:Int)=((b.toNat%16:Nat):Int):=by
   have:=aqd .u8 rfl b.toNat 15 hlt (by decide)
   rw[show((15:Nat):Int)=15 from rfl]at this;rw[this,show 15=2^4-1 from rfl,Nat.and_two_pow_sub_one_eq_mod]
  have e3:(0:Int)<=((b.toNat/16:Nat):Int):=by omega
  have e4:(0:Int)<=((b.toNat%16:Nat):Int):=by omega
  have e5:(((b.toNat/16:Nat):Int)).toNat<16/\(((b.toNat/16:Nat):Int)).toNat*1<=(ofBytes hexDigits).length:=by rw[aK];simp[hexDigits];omega
  have e6:(((b.toNat%16:Nat):Int)).toNat<16/\(((b.toNat%16:Nat):Int)).toNat*1<=(ofBytes hexDigits).length:=by rw[aK];simp[hexDigits];omega
  have d1:((ofBytes hexDigits).drop ((((b.toNat/16:Nat):Int)).toNat*1)).head? =some (.int .u8 (aeg (b.toNat/16)).toNat):=by
   rw[a95,av7];exact ahV _ (by omega)
  have d2:((ofBytes hexDigits).drop ((((b.toNat%16:Nat):Int)).toNat*1)).head? =some (.int .u8 (aeg (b.toNat%16)).toNat):=by
   rw[a95,av7];exact ahV _ (by omega)
  have n4:¬((4:Int)<0):=by decide
  have ti:((i:Int)).toNat=i:=a95 i;have happ:∀tg,tY (pile O k (.cells (ofBytes acc) FZ)) 1 1 tg (.msl (O.length+k) 0 acc.length 1) 2 [.int .u8 (aeg (b.toNat/16)).toNat,.int .u8 (aeg (b.toNat%16)).toNat]=_:=fun tg=>aa8 O k acc (akU b) 2 rfl (by omega) (by omega)
  simp only[a95,av7]at e5 e6 d1 d2;simp only[sJ,h,h0,hb,ti,hw,n4,e1,e2,e3,e4,e5,e6,d1,d2,hg,happ,a95,az9,EVQ,EVC,EVA,Nat.reduceEqDiff,wH,eqA,dm,aY,qG,iQ,pt,bK,Nat.reduceSub,Nat.reduceGT,Nat.reduceLT,Nat.reduceAdd,hand,dE,aV,bF,freeze,reduceIte,reduceCtorEq,jY,iV,isStr,BC,rep,Eb,Ef,Nat.reduceMul,Nat.reduceLeDiff];rw[<-hk,JX hg s hs O n (i+1) (k+1) (acc++akU b) (by omega) (by rw[a04,ha];simp[akU];omega)]
  simp[xY,aC4,aE2 1 n]
def hex_Encode (hC:Has C Ep IK) (hg:C.gl Eu=some (ofBytes hexDigits)) (s:LU) (hs:s.length<=1099511627776) (O:St) (hσ:Ok O):
  aj C Ep [.str s] O=some (.str (xY s),O):=by
 rw[hC.run];unfold DD;have hl:=JX hg s hs O s.length 0 0 [] (by omega) rfl
 have hw:IntKind.i64.wrap (2*(s.length:Int))=((2*s.length:Nat):Int):=wrE (by omega)
 have hp:O++[AO.cells [] FZ]=pile O 0 (.cells (ofBytes []) FZ):=rfl;have hc:(0:Int)<=0/\(0:Int)<=((2*s.length:Nat):Int)/\((2*s.length:Nat):Int)<=9223372036854775807/\(1:Int)*((2*s.length:Nat):Int)<=140737488355328:=by omega
 simp only[au7,a99,av5,a90,aD6,a97]at hl;have hb:=wF (xY s);have ht:(ofBytes (xY s)).take (xY s).length=ofBytes (xY s):=a08 (by rw[aK];omega)
 have hy:tidy O.length [.str (xY s)] (pile O s.length (.cells (ofBytes (xY s)) FZ))=O:=abA hσ rfl _ _;simp only[IK,hw,hc,hp,hl,hb,ht,hy,LG,aK,aB1,EVQ,EVC,EVA,Nat.reduceEqDiff,wH,eqA,dm,aY,qG,iQ,pt,bK,Nat.reduceSub,Nat.reduceGT,Nat.reduceLT,Nat.reduceAdd,hand,dE,aV,bF,freeze,reduceIte,reduceCtorEq,jY,iV,isStr,BC,rep,Eb,Ef,Nat.reduceMul,Nat.reduceLeDiff]
def aqk(len i:Nat):UInt8:=UInt8.ofNat (len/2^(56-8*i))
def X7(len:Nat):Nat->Nat->LU->LU
 |0,_,t=>t
 |n+1,i,t=>X7 len n (i+1) (t.set i (aqk len i))
def VO(l:LU)(i:Nat)(v:UInt8)(h:i<l.length):splice (ofBytes l) i [.int .u8 (v.toNat:Int)]=ofBytes (l.set i v):=JC (fun b:UInt8=>AV.int .u8 (b.toNat:Int)) l i v h
def apT(n:Nat):IntKind.u8.wrap (n:Int)=((UInt8.ofNat n).toNat:Int):=by
 rw[IntKind.wrap_u8,UInt8.toNat_ofNat'];omega
def OW (Y:St) (p len:Nat):
  ∀(n i:Nat) (t:LU),i+n=8->t.length=8->
  aH C (aj C) 69 [3,4,5,31] lW [(3,.ref p 0),(4,.int .u64 len),(5,.ref Y.length 0),(31,.int .i64 i)] (Y++[.cells (ofBytes t) FZ])=
   some (.exit 0,[(3,.ref p 0),(5,.ref Y.length 0)],Y++[.cells (ofBytes (X7 len n i t)) FZ])
 |0,i,t,hi,ht=>by
  rw[jX (he:=rfl)];have h:¬((i:Int)<8):=by omega
  simp only[lW,h,X7,EVY,seval]
 |n+1,i,t,hi,ht=>by
  rw[jX (he:=rfl)];generalize hk:aH C (aj C) 69 [3,4,5,31] lW=rest;have h:((i:Int)<8):=by omega
  have w1:IntKind.i64.wrap (8*(i:Int))=((8*i:Nat):Int):=wrE (by omega)
  have w2:IntKind.i64.wrap (56-((8*i:Nat):Int))=((56-8*i:Nat):Int):=wrE (by omega)
  have w5:=wrS i (by omega)
  have p1:∀j:Nat,(0:Int)<=(j:Int):=fun j=>by omega
  have p2:∀j:Nat,¬((j:Int)<0):=fun j=>by omega
  have m1:min (56-8*i) IntKind.u64.bits=56-8*i:=by show min (56-8*i) 64=_;omega
  have f1:(len:Int).fdiv (2^(56-8*i))=((len/2^(56-8*i):Nat):Int):=by
   rw[aA3 _ (Int.pow_nonneg (by decide)),Int.natCast_ediv,Int.natCast_pow];rfl
  have l5:i<8:=by omega
  have l6:i+1<=8:=by omega
  have s1:=VO t i (aqk len i) (by omega)
  unfold aqk at s1;simp only[lW,h,w1,w2,w5,p1,p2,m1,f1,apT,l5,l6,s1,ht,aK,lK,qQ,a95,EVY,seval];rw[<-hk];exact OW Y p len n (i+1) _ (by omega) (by rw[a96,ht])
def be32(x:Wsh):LU:=[UInt8.ofNat (x>>>24).toNat,UInt8.ofNat (x>>>16).toNat,UInt8.ofNat (x>>>8).toNat,UInt8.ofNat x.toNat]
def aqH(y:Wsh)(O:St):aqG .u8 (iw y) O=some (.val (.int .u8 ((UInt8.ofNat y.toNat).toNat:Int)) O):=by
 unfold iw;rw[RY,apT]
def OX (O:St) (st:List Wsh) (h8:st.length=8):
  ∀(n i k:Nat) (acc:LU),i+n=8->acc.length=4*i->
  aH C (aj C) 69 [7,48,49] oV [(7,.msl (O.length+k) 0 acc.length 1),(48,.agg (st.map iw)),(49,.int .i64 i)] (pile O k (.cells (ofBytes acc) FZ))=
   some (.exit 2,[(7,.msl (O.length+(k+n)) 0 (acc++(st.drop i).flatMap be32).length 1)],pile O (k+n) (.cells (ofBytes (acc++(st.drop i).flatMap be32)) FZ))
 |0,i,k,acc,hi,ha=>by
  rw[jX (he:=rfl)];have h:¬((i:Int)<8):=by omega
  have h':st.drop i=[]:=au5 (by omega)
  simp only[oV,h,h',aD8,au6,aD6,EVY,seval]
 |n+1,i,k,acc,hi,ha=>by
  rw[jX (he:=rfl)];generalize hk:aH C (aj C) 69 [7,48,49] oV=rest;have h:((i:Int)<8):=by omega
  have p1:∀j:Nat,(0:Int)<=(j:Int):=fun j=>by omega
  have w5:=wrS i (by omega)
  have l5:i<8:=by omega
  have a0:=xZ st i (by omega)
  have h':st.drop i=st.getD i 0::st.drop (i+1):=by
   rw[au1 (by omega),aw1,a01 (by omega)];rfl
  rw[h'];generalize st.getD i 0=x at a0;have happ:∀tg,tY (pile O k (.cells (ofBytes acc) FZ)) 1 1 tg (.msl (O.length+k) 0 acc.length 1) 4 [.int .u8 (UInt8.ofNat (x>>>24).toNat).toNat,.int .u8 (UInt8.ofNat (x>>>16).toNat).toNat,.int .u8 (UInt8.ofNat (x>>>8).toNat).toNat,.int .u8 (UInt8.ofNat x.toNat).toNat]=_:=fun tg=>aa8 O k acc (be32 x) 4 rfl (by omega) (by omega)
  simp only[oV,h,p1,w5,l5,a0,ai1,aqH,happ,a95,Int.reduceLE,Int.reduceToNat,aai,EVY,seval];rw[<-hk,OX O st h8 n (i+1) (k+1) (acc++be32 x) (by omega) (by rw[a04,ha];simp[be32];omega)]
  simp[aC4,aE2 1 n]
def rD:∀(n:Nat) (st:List Wsh) (part:LU) (used:Nat) (s:LU),st.length=8->part.length=64->used<=64->(ql n st part used s).1.length=8/\(ql n st part used s).2.length=64
 |0,_,_,_,_,h8,h64,_=>⟨h8,h64⟩
 |n+1,st,part,used,s,h8,h64,hu=>by
  have lp:(lay part used (s.take (min s.length (64-used)))).length=64:=by rw[PP (by rw[az2,h64];omega),h64]
  unfold ql;split
  ·exact⟨h8,h64⟩
  ·split
   ·exact rD n _ _ 0 _ (Vu h8 _) lp (by omega)
   ·exact⟨h8,lp⟩
def Rq(len:Nat):∀(n i:Nat) (t:LU),(X7 len n i t).length=t.length
 |0,_,_=>rfl
 |n+1,i,t=>by unfold X7;rw[Rq len n,a96]
def L8(sz:Nat):LU:=128::List.replicate ((119-sz%64)%64) 0
def N9(sz:Nat):LU:=X7 (sz*8) 8 0 (List.replicate 8 0)
def af9(b:Bool)(st:List Wsh)(part:LU)(sz:Nat):List Wsh×LU:=ql ((L8 sz).length+1) (wR b st) part (sz%64) (L8 sz)
def afa(b:Bool)(st:List Wsh)(part:LU)(sz:Nat):List Wsh×LU:=
 ql ((N9 sz).length+1) (af9 b st part sz).1 (af9 b st part sz).2 ((sz+(L8 sz).length)%64) (N9 sz)
def AQ(b:Bool)(st:List Wsh)(part:LU)(sz:Nat):LU:=(afa b st part sz).1.flatMap be32
def an3 (hC:Has C FB ET) (hW:Has C xn sD) (hM:Has C sU sF) (hR:Has C bM bZ) (hg:C.gl uP=some (kR.map iw)) (hi:C.gl yB=some (hI.map iw))
  (hRep:∀n:Nat,n<64->∀O,aj C o7 [.str [0],.int .i64 n] O=some (.str (List.replicate n 0),O))
  (O:St) (hσ:Ok O) (p:Nat) (b:Bool) (st:List Wsh) (part:LU) (sz:Nat) (hp:O[p]?=some (.cells (dU b st part sz) FZ)) (h8:st.length=8) (h64:part.length=64) (hsz:sz<=2199023255552):
  aj C FB [.ref p 0] O=some (.str (AQ b st part sz),O):=by
 rw[hC.run];unfold DD;have hl0:=oL (b:=b) (sz:=sz) h8 h64;have z1:=PN (b:=b) (sz:=sz) h8 h64;obtain⟨pad,hpad⟩:∃x,x=L8 sz:=⟨_,rfl⟩;obtain⟨tl,htl⟩:∃x,x=N9 sz:=⟨_,rfl⟩;obtain⟨r1,hr1⟩:∃x,x=af9 b st part sz:=⟨_,rfl⟩;obtain⟨r2,hr2⟩:∃x,x=afa b st part sz:=⟨_,rfl⟩;have lpad:pad.length<=64:=by rw[hpad];unfold L8;simp;omega
 have ltl:tl.length=8:=by rw[htl];unfold N9;rw[Rq];rfl
 have a1:r1.1.length=8/\r1.2.length=64:=by rw[hr1];exact rD _ _ _ _ _ (DT h8) h64 (by omega)
 have a2:r2.1.length=8/\r2.2.length=64:=by rw[hr2];unfold afa;rw[<-hr1];exact rD _ _ _ _ _ a1.1 a1.2 (by omega)
 have ok1:Ok (O++[.cells (dU b st part sz) FZ]):=hσ.app (by simp[zO])
 have q1:=UI hW hM hR hg hi (O++[.cells (dU b st part sz) FZ]) ok1 O.length b st part sz (lK _ _) h8 h64 (by omega) pad (by omega)
 rw[qQ,hpad]at q1;have e1:ql ((L8 sz).length+1) (wR b st) part (sz%64) (L8 sz)=r1:=hr1.symm;rw[e1,<-hpad]at q1;have ok2:Ok (O++[.cells (dU true r1.1 r1.2 ((sz+pad.length:Nat):Int)) FZ]++[.cells (ofBytes tl) FZ]):=by
  refine Ok.app (hσ.app (by simp[zO])) (by simp[AO.below,kU])
 have q2:=UI hW hM hR hg hi _ ok2 O.length true r1.1 r1.2 (sz+pad.length) (GR (lK _ _) _) a1.1 a1.2 (by omega) tl (by omega)
 have e2:ql (tl.length+1) (wR true r1.1) r1.2 ((sz+pad.length)%64) tl=r2:=by rw[hr2];unfold afa;rw[<-hr1,<-hpad,<-htl];rfl
 have e3:∀x y z:AO,(O++[x]++[y]).set O.length z=O++[z]++[y]:=fun x y z=>by
  rw[aA2 _ _ (by simp),qQ]
 rw[e2,e3]at q2;have q3:=OW (C:=C) (O++[.cells (dU true r1.1 r1.2 ((sz+pad.length:Nat):Int)) FZ]) O.length (sz*8) 8 0 (List.replicate 8 0) (by omega) (by simp)
 have e4:X7 (sz*8) 8 0 (List.replicate 8 0)=tl:=htl.symm;rw[e4]at q3;obtain⟨Y,hτ⟩:∃Y,Y=O++[.cells (dU true r2.1 r2.2 ((sz+pad.length+tl.length:Nat):Int)) FZ]++[.cells (ofBytes tl) FZ]:=⟨_,rfl⟩;rw[<-hτ]at q2;have q4:=OX (C:=C) Y r2.1 a2.1 8 0 0 [] (by omega) rfl
 simp only[au7,a99,av5,a90,aD6,a97]at q3 q4;have hout:r2.1.flatMap be32=AQ b st part sz:=by unfold AQ;rw[hr2]
 rw[hout]at q4;have m1:((sz:Int)).tmod 64=((sz%64:Nat):Int):=by rw[aD2 (by omega)];omega
 have w0:IntKind.u64.wrap (sz:Int)=(sz:Int):=by rw[wu64]<;>omega
 have w1:IntKind.u64.wrap ((sz:Int)*8)=((sz*8:Nat):Int):=by rw[wu64]<;>omega
 have w2:IntKind.i64.wrap (119-((sz%64:Nat):Int))=((119-sz%64:Nat):Int):=wrE (by omega)
 have m2:((119-sz%64:Nat):Int).tmod 64=(((119-sz%64)%64:Nat):Int):=by rw[aD2 (by omega)];omega
 have rp:=hRep ((119-sz%64)%64) (by omega)
 have fl:(dU b st part (sz:Int)).all AV.flat=true:=by
  rw[a94];intro x hx;unfold dU at hx;rcases av3.mp hx with h|h
  ·rw[h];rfl
  ·rcases aA4.mp h with h|h
   ·obtain⟨y,_,rfl⟩:=ax7.mp h;rfl
   ·rcases aA4.mp h with h|h
    ·unfold ofBytes at h;obtain⟨y,_,rfl⟩:=ax7.mp h;rfl
    ·rw[aB7.mp h];rfl
 have tk:(dU b st part (sz:Int)).take 74=dU b st part sz:=a08 (by omega)
 have sp:∀l:LA,l.length=74->splice l 0 (dU b st part (sz:Int))=dU b st part sz:=fun l hl=>FW _ _ (by rw[hl,hl0])
 have hpd:[(128:UInt8)]++List.replicate ((119-sz%64)%64) 0=pad:=hpad.symm;have bs:∀y,uD .add [(128:UInt8)] (List.replicate ((119-sz%64)%64) 0)=y->y=some (.str pad):=by
  intro y hy;rw[<-hy];unfold uD;dsimp only;rw[if_neg (by simp;omega),hpd]
 have bs:=bs _ rfl;have z8:∀Y:St,Y++[AO.cells [.int .u8 0,.int .u8 0,.int .u8 0,.int .u8 0,.int .u8 0,.int .u8 0,.int .u8 0,.int .u8 0] FZ]=Y++[AO.cells (ofBytes (List.replicate 8 0)) FZ]:=fun _=>rfl;have tk2:(ofBytes tl).take 8=ofBytes tl:=a08 (by rw[aK];omega)
 have tp:Y++[AO.cells [] FZ]=pile Y 0 (.cells (ofBytes []) FZ):=rfl;have g1:∀k x,(pile Y k x)[O.length]?=some (.cells (dU true r2.1 r2.2 ((sz+pad.length+tl.length:Nat):Int)) FZ):=fun k x=>by
  unfold pile;refine GR ?_ _;rw[hτ];exact GR (lK _ _) _
 have tk3:∀z:Int,((dU true r2.1 r2.2 z).drop 1).take 8=r2.1.map iw:=by
  intro z;unfold dU;rw[aB4,au7,av8 (by simp[a2.1]),a08 (by simp[a2.1])]
 have tk4:∀z:Int,8<=((dU true r2.1 r2.2 z).drop 1).length:=by intro z;rw[aD7,oL a2.1 a2.2];omega
 have bo:=wF (AQ b st part sz);have bt:=wF tl;have tk5:(ofBytes (AQ b st part sz)).take (AQ b st part sz).length=ofBytes (AQ b st part sz):=a08 (by rw[aK];omega)
 have pg:=fun x=>LG Y 8 x;have ty:∀x,tidy O.length [.str (AQ b st part sz)] (pile Y 8 x)=O:=fun x=>by
  unfold pile;rw[hτ,au4,au4];exact DI hσ rfl _
 have c32:(0:Int)<=0/\(0:Int)<=32/\(32:Int)<=9223372036854775807/\(1:Int)*32<=140737488355328:=by decide
 have n64:¬((64:Int)=0):=by decide
 have g2:=GR hp [AO.cells (dU b st part (sz:Int)) FZ];simp only[ET,hp,g2,hl0,z1,fl,tk,sp,m1,w0,w1,w2,m2,rp,bs,q1,z8,q3,lK,qQ,ltl,tk2,bt,q2,tp,q4,g1,tk3,tk4,bo,tk5,pg,ty,c32,n64,aK,aB1,Int.reduceMul,Int.reduceLE,EVY,Nat.reduceEqDiff,Nat.reduceSub,Nat.reduceGT,Nat.reduceLT,reduceIte,reduceCtorEq,Nat.reduceMul,Nat.reduceLeDiff,Int.reduceToNat,Int.reduceLE,Int.reduceLT,Int.reduceEq,Nat.reduceAdd,Int.reduceBNe,Int.reduceBEq,Int.reduceNeg]
def vM:LU:=List.replicate 64 0
def ap0 (hC:Has C Uj TQ) (hi:C.gl yB=some (hI.map iw)) (O:St) (hσ:Ok O):
  aj C Uj [] O=some (.ref O.length 0,O++[.cells (dU true hI vM 0) FZ]):=by
 rw[hC.run];unfold DD;have z6:(hI.map iw).take 8=hI.map iw:=rfl;have z7:(hI.map iw).length=8:=rfl;simp only[TQ,hi,az9,z6,z7,EVY,seval];rw[nO (by simp[ai,below])]
 rfl
def tN(s:LU):LU:=AQ true (ql (s.length+1) hI vM 0 s).1 (ql (s.length+1) hI vM 0 s).2 s.length
structure Pm(C:Ctx):Prop where
 new:Has C Uj TQ
 sum:Has C FB ET
 write:Has C xn sD
 mix:Has C sU sF
 rot:Has C bM bZ
 sumF:Has C Uk aa4
 digest:Has C qO Qj
 encode:Has C Ep IK
 gr:C.gl uP=some (kR.map iw)
 gi:C.gl yB=some (hI.map iw)
 gd:C.gl Eu=some (ofBytes hexDigits)
 rep:∀n:Nat,n<64->∀O,aj C o7 [.str [0],.int .i64 n] O=some (.str (List.replicate n 0),O)
def Tt(h:Pm C)(s:LU)(hs:s.length<=1099511627776)(O:St)(hσ:Ok O):aj C Uk [.str s] O=some (.str (tN s),O):=by
 rw[h.sumF.run];unfold DD;have q0:=ap0 h.new h.gi O hσ;have ok1:Ok (O++[.cells (dU true hI vM (0:Nat)) FZ]):=hσ.app (by simp[zO])
 have q1:=UI h.write h.mix h.rot h.gr h.gi _ ok1 O.length true hI vM 0 (lK _ _) rfl rfl (by omega) s hs
 rw[qQ]at q1;have e:wR true hI=hI:=rfl;rw[e]at q1;have la:=rD (s.length+1) hI vM (0%64) s rfl rfl (by omega)
 simp only[Nat.zero_mod,av5]at q1 la;obtain⟨r,hr⟩:∃r,r=ql (s.length+1) hI vM 0 s:=⟨_,rfl⟩;rw[<-hr]at q1 la;have ok2:Ok (O++[.cells (dU true r.1 r.2 (s.length:Int)) FZ]):=hσ.app (by simp[zO])
 have q2:=an3 h.sum h.write h.mix h.rot h.gr h.gi h.rep _ ok2 O.length true r.1 r.2 s.length (lK _ _) la.1 la.2 (by omega)
 have e2:AQ true r.1 r.2 s.length=tN s:=by unfold tN;rw[hr]
 rw[e2]at q2;have ty:∀x,tidy O.length [.str (tN s)] (O++[x])=O:=fun x=>DI hσ rfl _;simp only[a97]at q1;simp only[aa4,q0,q1,q2,ty,EVY,seval]
def rJ(s:LU):(tN s).length=32:=by
 have la:=rD (s.length+1) hI vM 0 s rfl rfl (by omega)
 unfold tN AQ;have l1:(af9 true (ql (s.length+1) hI vM 0 s).1 (ql (s.length+1) hI vM 0 s).2 s.length).1.length=8/\(af9 true (ql (s.length+1) hI vM 0 s).1 (ql (s.length+1) hI vM 0 s).2 s.length).2.length=64:=rD _ _ _ _ _ (DT la.1) la.2 (by omega)
 have l2:=(rD ((N9 s.length).length+1) _ _ ((s.length+(L8 s.length).length)%64) (N9 s.length) l1.1 l1.2 (by omega)).1
 have:∀l:List Wsh,(l.flatMap be32).length=4*l.length:=by
  intro l
  induction l with
  |nil=>rfl
  |cons x l ih=>rw[ay2,a04,ih,a09];simp[be32];omega
 rw[this];unfold afa;rw[l2]
def agS(s:LU):LU:=xY (tN s)
def agT(h:Pm C)(s:LU)(hs:s.length<=1099511627776)(O:St)(hσ:Ok O):aj C qO [.str s] O=some (.str (agS s),O):=by
 rw[h.digest.run];unfold DD;have q0:=Tt h s hs O hσ;have q1:=hex_Encode h.encode h.gd (tN s) (by rw[rJ];omega) O hσ
 simp only[Qj,q0,q1,agS,EVY,seval]
set_option maxRecDepth 1000000
noncomputable section
def Gg:KF:=(.mk ?k:KsA 185 []).1
def qw:KC:=(.mk ?k:LsA 186 [] 0).1
attribute [local irreducible] qw
def Ha:KF:=(.mk ?k:KsA 186 [qw]).1
def ads:KF:=(.mk ?k:KsA 117 []).1
def Pg:KF:=(.mk ?k:KsA 187 []).1
def Ph:KF:=(.mk ?k:KsA 188 []).1
end
end Go.Ev
