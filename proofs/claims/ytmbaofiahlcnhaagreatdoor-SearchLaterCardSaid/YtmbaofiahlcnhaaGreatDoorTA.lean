/- Contracts. No conditions. -/
import Derived.Test.YtmbaofiahlcnhaaGreatDoorCB
set_option linter.unusedVariables false
set_option linter.unusedSimpArgs false
set_option linter.defProp false
namespace Go.Ev
open Option renaming some→J, none→U
open Go.IntKind renaming i64→r
open Bool renaming true→eT, false→eF
open List renaming length→z
set_option maxRecDepth 1000000
noncomputable section
def nO:KF:=(.mk ?k:KsA 182 []).1
def Aa:KC:=(.mk ?k:LsA 181 [] 0).1
attribute [local irreducible] Aa
def YN:KF:=(.mk ?k:KsA 181 [Aa]).1
def uC:KC:=(.mk ?k:LsA 73 [] 0).1
attribute [local irreducible] uC
def JZ:KF:=(.mk ?k:KsA 73 [uC]).1
end
noncomputable section
def dA:KF:=(.mk ?k:KsA 260 []).1
def jy:KC:=(.mk ?k:LsA 190 [] 0).1
attribute [local irreducible] jy
def kD:KC:=(.mk ?k:LsA 190 [jy] 1).1
attribute [local irreducible] kD
def mW:KC:=(.mk ?k:LsA 190 [jy,kD] 2).1
attribute [local irreducible] mW
def qB:KC:=(.mk ?k:LsA 190 [jy,kD,mW] 3).1
attribute [local irreducible] qB
def uB:KF:=(.mk ?k:KsA 190 [jy,kD,mW,qB]).1
def jX:KC:=(.mk ?k:LsA 119 [] 0).1
attribute [local irreducible] jX
def uA:KF:=(.mk ?k:KsA 119 [jX]).1
def mV:KC:=(.mk ?k:LsA 120 [] 0).1
attribute [local irreducible] mV
def qy:KC:=(.mk ?k:LsA 120 [mV] 1).1
attribute [local irreducible] qy
def F7:KF:=(.mk ?k:KsA 120 [mV,qy]).1
def VA:KF:=(.mk ?k:KsA 118 []).1
def abC:KF:=(.mk ?k:KsA 74 []).1
def SA:KF:=(.mk ?k:KsA 37 []).1
end
set_option maxRecDepth 100000
variable{C:Ctx}
abbrev Wsh:=BitVec 32
def iw(x:Wsh):AV:=.cU .u32 (x.toNat:Int)
def abQ(np:Bool)(op:BinOp)(a:Nat)(c:Bool)(x:Wsh)(y:AV):Ac np op a c (iw x) y=binOp op a c (iw x) y:=by cases np<;>rfl
def ab7(x:Wsh):BitVec.ofInt 32 (x.toNat:Int)=x:=by apply BitVec.eq_of_toNat_eq;rw[an0 32 x.toNat x.isLt]
def YH(x:Wsh):IntKind.u32.wrap (x.toNat:Int)=(x.toNat:Int):=aqj .u32 rfl _ x.isLt
def aoa(b:Bool)(x y:Wsh):binOp .xor 0 b (iw x) (iw y)=J (iw (x^^^y)):=by show J (AV.cU .u32 (IntKind.u32.wrap ((BitVec.ofInt 32 (x.toNat:Int)^^^BitVec.ofInt 32 (y.toNat:Int)).toNat:Int)))=_;rw[ab7,ab7,YH];rfl
def aub(b:Bool)(x y:Wsh):binOp .and 0 b (iw x) (iw y)=J (iw (x&&&y)):=by show J (AV.cU .u32 (IntKind.u32.wrap ((BitVec.ofInt 32 (x.toNat:Int)&&&BitVec.ofInt 32 (y.toNat:Int)).toNat:Int)))=_;rw[ab7,ab7,YH];rfl
def asI(b:Bool)(x y:Wsh):binOp .or 0 b (iw x) (iw y)=J (iw (x|||y)):=by show J (AV.cU .u32 (IntKind.u32.wrap ((BitVec.ofInt 32 (x.toNat:Int)|||BitVec.ofInt 32 (y.toNat:Int)).toNat:Int)))=_;rw[ab7,ab7,YH];rfl
def ai8(b:Bool)(x y:Wsh):binOp .add 0 b (iw x) (iw y)=J (iw (x+y)):=by
 show J (AV.cU .u32 (IntKind.u32.wrap ((x.toNat:Int)+(y.toNat:Int))))=_;have:IntKind.u32.wrap ((x.toNat:Int)+(y.toNat:Int))=((x+y).toNat:Int):=by rw[IntKind.wrap_u32,BitVec.toNat_add];omega
 rw[this];rfl
def auc(x:Wsh):unOp .xor (iw x)=J (iw (~~~x)):=by
 show J (AV.cU .u32 (IntKind.u32.wrap ((BitVec.ofInt 32 4294967295^^^BitVec.ofInt 32 (x.toNat:Int)).toNat:Int)))=_;rw[ab7,YH];have:BitVec.ofInt 32 4294967295^^^x= ~~~x:=by rw[show BitVec.ofInt 32 4294967295=BitVec.allOnes 32 from rfl,BitVec.allOnes_xor]
 rw[this];rfl
def ao8(b:Bool)(x:Wsh)(k:IntKind)(n:Nat):binOp .shl 0 b (iw x) (.cU k (n:Int))=J (iw (x<<<(min n 32))):=by
 show Cf .shl .u32 (x.toNat:Int) (n:Int)=_;unfold Cf;rw[if_neg (by omega)];show J (AV.cU .u32 (IntKind.u32.wrap ((x.toNat:Int)*2^(min n 32))))=_;have:IntKind.u32.wrap ((x.toNat:Int)*2^(min n 32))=((x<<<(min n 32)).toNat:Int):=by rw[IntKind.wrap_u32,BitVec.toNat_shiftLeft,Nat.shiftLeft_eq,Int.natCast_emod,Int.natCast_mul,Int.natCast_pow];rfl
 rw[this];rfl
def ao9(b:Bool)(x:Wsh)(k:IntKind)(n:Nat):binOp .shr 0 b (iw x) (.cU k (n:Int))=J (iw (x>>>(min n 32))):=by
 show Cf .shr .u32 (x.toNat:Int) (n:Int)=_;unfold Cf;rw[if_neg (by omega)];show J (AV.cU .u32 ((x.toNat:Int).fdiv (2^(min n 32))))=_;have:(x.toNat:Int).fdiv (2^(min n 32))=((x>>>(min n 32)).toNat:Int):=by rw[BitVec.toNat_ushiftRight,Nat.shiftRight_eq_div_pow,aD5 _ (Int.pow_nonneg (by decide)),Int.natCast_ediv,Int.natCast_pow];rfl
 rw[this];rfl
def rotl(x:Wsh)(n:Nat):Wsh:=(x<<<n)|||(x>>>(32-n))
def adq (d:Has C bY dA) (x:Wsh) (k:Int) (n:Nat) (f:n<32)
  (e:IntKind.u64.wrap ((BitVec.ofInt IntKind.u64.bits (IntKind.u64.wrap k)&&&BitVec.ofInt IntKind.u64.bits 31).toNat:Int)=(n:Int)) (O:St):
  ai C bY [iw x,.cU r k] O=J (iw (rotl x n),O):=by
 rw[d.cm];unfold Ey;have c:IntKind.u64.wrap (32-(n:Int))=((32-n:Nat):Int):=by rw[wu64]<;>omega
 have h2:min n 32=n:=by omega
 have h3:min (32-n) 32=32-n:=by omega
 have a:∀O h,bI O h (iw x)=J (iw x,[]):=λ_ _=>by unfold iw bI;rfl
 have b:∀O h,bI O h (iw (x<<<n|||x>>>(32-n)))=J (iw (x<<<n|||x>>>(32-n)),[]):=λ_ _=>by unfold iw bI;rfl
 simp only[dA,e,c,ao8,ao9,asI,h2,h3,a,b,rotl,abQ,EVY,seval]
def UK(x:Wsh):(iw x).cH=[iw x]:=rfl
def Yw(x:Wsh):(iw x).C=eT:=rfl
def arf(b:Bool)(x:Wsh)(k:IntKind)(d:Int)(a:0<=d)(c:d<=32):binOp .shl 0 b (iw x) (.cU k d)=J (iw (x<<<d.toNat)):=by
 have:=ao8 b x k d.toNat
 rw[Int.toNat_of_nonneg a,aF7 (by omega)]at this;exact this
def ajW(b:Bool)(x:Wsh)(k:IntKind)(d:Int)(a:0<=d)(c:d<=32):binOp .shr 0 b (iw x) (.cU k d)=J (iw (x>>>d.toNat)):=by
 have:=ao9 b x k d.toNat
 rw[Int.toNat_of_nonneg a,aF7 (by omega)]at this;exact this
def wb(b:UInt8):Wsh:=BitVec.ofNat 32 b.toNat
def awN(b:UInt8):AV.cU .u32 (IntKind.u32.wrap (b.toNat:Int))=iw (wb b):=by have a:b.toNat<256:=b.toNat_lt;unfold iw wb;rw[axe (by omega) (by omega),BitVec.toNat_ofNat,Nat.mod_eq_of_lt (by omega)]
def yV(l:List Wsh)(i:Nat)(h:i<z l):((l.map iw).drop i).head? =J (iw (l.getD i 0)):=by rw[aE6,aC6,a02 h,az8,a02 h];rfl
def Lu{a:Type}(f:a->AV)(l:List a)(i:Nat)(v:a)(h:i<z l):splice (l.map f) i [f v]=(l.set i v).map f:=by unfold splice;rw[List.set_eq_take_append_cons_drop,if_pos h];simp
def eu(b:Bool)(st:List Wsh)(part:LU)(sz:Int):LA:=.cX b::(st.map iw++(ofBytes part++[.cU r sz]))
def pV{b st part sz}(h8:z st=8)(a:z part=64):z (eu b st part sz)=74:=by simp[eu,aI,h8,a]
def ai0{b st part sz}(h8:z st=8)(a:z part=64)(i:Nat)(hi:i<64):((eu b st part sz).drop (9+i)).head? =J (.cU .u8 ((part.getD i 0).toNat:Int)):=by unfold eu ofBytes;rw[aE6,show 9+i=(8+i)+1 by omega,aB7,aE3 (by simp[h8]),aA3 (by simp[h8,a];omega)];simp only[aB0,h8,aC6,show 8+i-8=i by omega];rw[a02 (by omega),az8,a02 (by omega)];rfl
def afO{b st part sz}(h8:z st=8)(i:Nat)(hi:i<8):((eu b st part sz).drop (1+i)).head? =J (iw (st.getD i 0)):=by unfold eu;rw[aE6,aI3 1 i,aB7,aA3 (by simp[h8];omega),aC6,a02 (by omega),az8,a02 (by omega)];rfl
def alk{b st part sz}(h8:z st=8)(i:Nat)(hi:i<8)(v:Wsh):splice (eu b st part sz) (1+i) [iw v]=eu b (st.set i v) part sz:=by unfold eu splice;rw[aI3 1 i,aG8,show i+1+[iw v].length=(i+1)+1 from rfl,aF8,aC4 (by simp[h8];omega),List.drop_append_of_le_length (by simp[h8];omega)];have:=Lu iw st i v (by omega);unfold splice at this;rw[<-this];simp
def mM(O:St)(x:AO):(O++[x])[z O]?=J x:=by simp
def sH(O:St)(x y:AO):(O++[x]).set (z O) y=O++[y]:=by simp
def II{O:St}{o:Nat}{x:AO}(h:O[o]?=J x)(l:St):(O++l)[o]?=J x:=by have:o<z O:=(a00.mp h).1;rw[aA3 this,h]
def wordAt(part:LU)(i:Nat):Wsh:=wb (part.getD (4*i) 0)<<<24|||wb (part.getD (4*i+1) 0)<<<16|||wb (part.getD (4*i+2) 0)<<<8|||wb (part.getD (4*i+3) 0)
def ZG(part:LU):Nat->Nat->List Wsh->List Wsh|0,_,w=>w|n+1,i,w=>ZG part n (i+1) (w.set i (wordAt part i))
def acz (b:Bool) (st:List Wsh) (part:LU) (sz:Int) (O:St) (p:Nat) (d:O[p]?=J (.cH (eu b st part sz) FZ)) (h8:z st=8) (a:z part=64):
  ∀(n i:Nat) (w:List Wsh),i+n=16->z w=64->
  aH C (ai C) 213 [0,2,21] jy [(0,.c8 p 0),(2,.c8 (z O) 0),(21,.cU r i)] (O++[.cH (w.map iw) FZ])=
   J (.dq 0,[(0,.c8 p 0),(2,.c8 (z O) 0)],O++[.cH ((ZG part n i w).map iw) FZ])
 |0,i,w,hi,c=>by rw[kF (he:=rfl)];have h:¬((i:Int)<16):=(by omega);simp only[jy,h,ZG,EVY,seval]
 |n+1,i,w,hi,c=>by
  rw[kF (he:=rfl)];generalize k:aH C (ai C) 213 [0,2,21] jy=e;have h:((i:Int)<16):=(by omega);have m:IntKind.i64.wrap (4*(i:Int))=((4*i:Nat):Int):=wrE (by omega);have o:IntKind.i64.wrap (((4*i:Nat):Int)+1)=((4*i+1:Nat):Int):=wrE (by omega);have q:IntKind.i64.wrap (((4*i:Nat):Int)+2)=((4*i+2:Nat):Int):=wrE (by omega);have s:IntKind.i64.wrap (((4*i:Nat):Int)+3)=((4*i+3:Nat):Int):=wrE (by omega);have t:=wrS i (by omega);have l:∀j:Nat,(0:Int)<=(j:Int):=λj=>by omega
  have l1:4*i<64:=(by omega);have l2:4*i+1<64:=(by omega);have l3:4*i+2<64:=(by omega);have l4:4*i+3<64:=(by omega);have l5:i<64:=(by omega);have l6:i+1<=64:=(by omega);have g:=II d [.cH (w.map iw) FZ];have s1:=Lu iw w i (wordAt part i) (by omega);unfold wordAt at s1;simp only[jy,h,m,o,q,s,t,l,l1,l2,l3,l4,l5,l6,g,c,aB0,ai0 h8 a,awN,arf,asI,UK,Yw,mM,sH,s1,a88,Int.reduceLE,Int.reduceToNat,abQ,EVY,seval];rw[<-k,acz b st part sz O p d h8 a n (i+1) _ (by omega) (by rw[a96,c])];rfl
def rot(a:Has C bY dA)(k:Int)(n:Nat)(c:n<32)
 (b:IntKind.u64.wrap ((BitVec.ofInt IntKind.u64.bits (IntKind.u64.wrap k)&&&BitVec.ofInt IntKind.u64.bits 31).toNat:Int)=(n:Int)):
 ∀(x:Wsh) (O:St),ai C bY [iw x,.cU r k] O=J (iw (rotl x n),O):=λx O=>adq a x k n c b O
def aw6(x:Wsh):Wsh:=rotl x 25^^^rotl x 14^^^x>>>3
def asC(x:Wsh):Wsh:=rotl x 15^^^rotl x 13^^^x>>>10
def aoM(w:List Wsh)(i:Nat):Wsh:=w.getD (i-16) 0+aw6 (w.getD (i-15) 0)+w.getD (i-7) 0+asC (w.getD (i-2) 0)
def ZH:Nat->Nat->List Wsh->List Wsh|0,_,w=>w|n+1,i,w=>ZH n (i+1) (w.set i (aoM w i))
def acA (a:Has C bY dA) (O:St) (p:Nat):
  ∀(n i:Nat) (w:List Wsh),16<=i->i+n=64->z w=64->
  aH C (ai C) 213 [0,2,4] kD [(0,.c8 p 0),(2,.c8 (z O) 0),(4,.cU r i)] (O++[.cH (w.map iw) FZ])=
   J (.dq 2,[(0,.c8 p 0),(2,.c8 (z O) 0)],O++[.cH ((ZH n i w).map iw) FZ])
 |0,i,w,b,hi,c=>by rw[kF (he:=rfl)];have h:¬((i:Int)<64):=(by omega);simp only[kD,h,ZH,EVY,Nat.reduceEqDiff,Nat.reduceSub,Nat.reduceGT,Nat.reduceLT,reduceIte,reduceCtorEq,Nat.reduceMul,Nat.reduceLeDiff,Int.reduceToNat,Int.reduceLE,Int.reduceLT,Int.reduceEq,Nat.reduceAdd,Int.reduceBNe,Int.reduceBEq,Int.reduceNeg]
 |n+1,i,w,b,hi,c=>by
  rw[kF (he:=rfl)];generalize f:aH C (ai C) 213 [0,2,4] kD=d;have h:((i:Int)<64):=(by omega);have k:IntKind.i64.wrap ((i:Int)-15)=((i-15:Nat):Int):=wrE (by omega);have l:IntKind.i64.wrap ((i:Int)-2)=((i-2:Nat):Int):=wrE (by omega);have m:IntKind.i64.wrap ((i:Int)-16)=((i-16:Nat):Int):=wrE (by omega);have o:IntKind.i64.wrap ((i:Int)-7)=((i-7:Nat):Int):=wrE (by omega);have q:=wrS i (by omega);have g:∀j:Nat,(0:Int)<=(j:Int):=λj=>by omega
  have l1:i-15<64:=(by omega);have l2:i-2<64:=(by omega);have l3:i-16<64:=(by omega);have l4:i-7<64:=(by omega);have l5:i<64:=(by omega);have l6:i+1<=64:=(by omega);have a1:=yV w (i-15) (by omega);have a2:=yV w (i-2) (by omega);have a3:=yV w (i-16) (by omega);have a4:=yV w (i-7) (by omega);have r1:=rot a (-7) 25 (by decide) (by decide);have r2:=rot a (-18) 14 (by decide) (by decide);have r3:=rot a (-17) 15 (by decide) (by decide);have r4:=rot a (-19) 13 (by decide) (by decide);have s1:=Lu iw w i (aoM w i) (by omega);unfold aoM aw6 asC at s1;simp only[kD,h,k,l,m,o,q,g,l1,l2,l3,l4,l5,l6,c,a1,a2,a3,a4,r1,r2,r3,r4,aB0,ajW,aoa,ai8,UK,Yw,mM,sH,s1,a88,Int.reduceLE,Int.reduceToNat,abQ,EVY,Nat.reduceEqDiff,Nat.reduceSub,Nat.reduceGT,Nat.reduceLT,reduceIte,reduceCtorEq,Nat.reduceMul,Nat.reduceLeDiff,Int.reduceToNat,Int.reduceLE,Int.reduceLT,Int.reduceEq,Nat.reduceAdd,Int.reduceBNe,Int.reduceBEq,Int.reduceNeg];rw[<-f,acA a O p n (i+1) _ (by omega) (by omega) (by rw[a96,c])];rfl
def kR:List Wsh:=[0x428a2f98,0x71374491,0xb5c0fbcf,0xe9b5dba5,0x3956c25b,0x59f111f1,0x923f82a4,0xab1c5ed5,
 0xd807aa98,0x12835b01,0x243185be,0x550c7dc3,0x72be5d74,0x80deb1fe,0x9bdc06a7,0xc19bf174,
 0xe49b69c1,0xefbe4786,0x0fc19dc6,0x240ca1cc,0x2de92c6f,0x4a7484aa,0x5cb0a9dc,0x76f988da,
 0x983e5152,0xa831c66d,0xb00327c8,0xbf597fc7,0xc6e00bf3,0xd5a79147,0x06ca6351,0x14292967,
 0x27b70a85,0x2e1b2138,0x4d2c6dfc,0x53380d13,0x650a7354,0x766a0abb,0x81c2c92e,0x92722c85,
 0xa2bfe8a1,0xa81a664b,0xc24b8b70,0xc76c51a3,0xd192e819,0xd6990624,0xf40e3585,0x106aa070,
 0x19a4c116,0x1e376c08,0x2748774c,0x34b0bcb5,0x391c0cb3,0x4ed8aa4a,0x5b9cca4f,0x682e6ff3,
 0x748f82ee,0x78a5636f,0x84c87814,0x8cc70208,0x90befffa,0xa4506ceb,0xbef9a3f7,0xc67178f2]
def hI:List Wsh:=[0x6a09e667,0xbb67ae85,0x3c6ef372,0xa54ff53a,0x510e527f,0x9b05688c,0x1f83d9ab,0x5be0cd19]
def ahP(w:List Wsh)(i:Nat)(e f g h:Wsh):Wsh:=h+(rotl e 26^^^rotl e 21^^^rotl e 7)+(e&&&f^^^ ~~~e&&&g)+kR.getD i 0+w.getD i 0
def asO(a b c:Wsh):Wsh:=(a&&&b^^^a&&&c^^^b&&&c)
def Wh(w:List Wsh)(i:Nat)(s:List Wsh):List Wsh:=
 [ahP w i (s.getD 4 0) (s.getD 5 0) (s.getD 6 0) (s.getD 7 0)+(rotl (s.getD 0 0) 30^^^rotl (s.getD 0 0) 19^^^rotl (s.getD 0 0) 10)+asO (s.getD 0 0) (s.getD 1 0) (s.getD 2 0),
  s.getD 0 0,s.getD 1 0,s.getD 2 0,s.getD 3 0+ahP w i (s.getD 4 0) (s.getD 5 0) (s.getD 6 0) (s.getD 7 0),s.getD 4 0,s.getD 5 0,s.getD 6 0]
def Lm(w:List Wsh):Nat->Nat->List Wsh->List Wsh|0,_,s=>s|n+1,i,s=>Lm w n (i+1) (Wh w i s)
def Hm(l v:LA)(h:z l=z v):splice l 0 v=v:=by unfold splice;rw[List.take_zero,a98,az5,az1 (by omega),ay5]
def acB (a:Has C bY dA) (b:C.gl vU=J (kR.map iw)) (Y:St) (p q:Nat) (w:List Wsh) (l:z w=64) (c:Y[q]?=J (.cH (w.map iw) FZ)):
  ∀(n i:Nat) (s:List Wsh),i+n=64->z s=8->
  aH C (ai C) 213 [0,2,9,115] mW [(0,.c8 p 0),(2,.c8 q 0),(9,.c8 (z Y) 0),(115,.cU r i)] (Y++[.cH (s.map iw) FZ])=
   J (.dq 4,[(0,.c8 p 0),(9,.c8 (z Y) 0)],Y++[.cH ((Lm w n i s).map iw) FZ])
 |0,i,s,hi,hs=>by rw[kF (he:=rfl)];have h:¬((i:Int)<64):=(by omega);simp only[mW,h,Lm,EVY,Nat.reduceEqDiff,Nat.reduceSub,Nat.reduceGT,Nat.reduceLT,reduceIte,reduceCtorEq,Nat.reduceMul,Nat.reduceLeDiff,Int.reduceToNat,Int.reduceLE,Int.reduceLT,Int.reduceEq,Nat.reduceAdd,Int.reduceBNe,Int.reduceBEq,Int.reduceNeg]
 |n+1,i,s,hi,hs=>by
  rw[kF (he:=rfl)];generalize k:aH C (ai C) 213 [0,2,9,115] mW=d;have h:((i:Int)<64):=(by omega);have t:=wrS i (by omega);have m:∀j:Nat,(0:Int)<=(j:Int):=λj=>by omega
  have l5:i<64:=(by omega);have l6:i<=z kR:=by show i<=64;omega
  have a0:(s.map iw).head? =J (iw (s.getD 0 0)):=yV s 0 (by omega);have a1:=yV s 1 (by omega);have a2:=yV s 2 (by omega);have a3:=yV s 3 (by omega);have a4:=yV s 4 (by omega);have a5:=yV s 5 (by omega);have a6:=yV s 6 (by omega);have a7:=yV s 7 (by omega);have b1:=yV w i (by omega);have e:=yV kR i (by show i<64;omega);have r1:=rot a (-6) 26 (by decide) (by decide);have r2:=rot a (-11) 21 (by decide) (by decide);have r3:=rot a (-25) 7 (by decide) (by decide);have r4:=rot a (-2) 30 (by decide) (by decide);have r5:=rot a (-13) 19 (by decide) (by decide);have o:=rot a (-22) 10 (by decide) (by decide);have g:=II c [.cH (s.map iw) FZ];have s1:splice (s.map iw) 0 ((Wh w i s).map iw)=(Wh w i s).map iw:=Hm _ _ (by simp[hs,Wh]);unfold Wh ahP asO at s1;simp only[az3,List.map_nil]at s1;simp only[mW,h,t,m,l5,l6,hs,g,b,aD7,a0,a1,a2,a3,a4,a5,a6,a7,b1,e,r1,r2,r3,r4,r5,o,aB0,aoa,ai8,aub,auc,UK,Yw,mM,sH,s1,a88,Int.reduceLE,Int.reduceToNat,abQ,EVY,Nat.reduceEqDiff,Nat.reduceSub,Nat.reduceGT,Nat.reduceLT,reduceIte,reduceCtorEq,Nat.reduceMul,Nat.reduceLeDiff,Int.reduceToNat,Int.reduceLE,Int.reduceLT,Int.reduceEq,Nat.reduceAdd,Int.reduceBNe,Int.reduceBEq,Int.reduceNeg];rw[<-k];exact acB a b Y p q w l c n (i+1) (Wh w i s) (by omega) rfl
def apI{O:St}{p:Nat}(a:p<z O)(x:AO)(l:St):(O.set p x++l)[p]?=J x:=by rw[aA3 (by rw[a96];exact a),aE5 a]
def set_set{O:St}{p:Nat}(a:p<z O)(x y:AO)(l:St):(O.set p x++l).set p y=O.set p y++l:=by rw[aD2 _ _ (by rw[a96];exact a),aB8]
def apJ(O:St)(p:Nat)(x y:AO):(O.set p x++[y])[z O]?=J y:=by rw[aE3 (by rw[a96];omega)];simp
def Ok.lO{O:St}(h:Ok O)(p:Nat){x:AO}(b:AO.below (z O) x=eT):Ok (O.set p x):=by
 unfold Ok;rw[a96,a97];intro y c;rcases List.mem_or_eq_of_mem_set c with a|a;·exact a97.mp h y a
 ·rw[a];exact b
def ZI(s:List Wsh):Nat->Nat->List Wsh->List Wsh|0,_,st=>st|n+1,i,st=>ZI s n (i+1) (st.set i (st.getD i 0+s.getD i 0))
def acC (b:Bool) (part:LU) (sz:Int) (c:z part=64) (Y:St) (p:Nat) (d:p<z Y) (s:List Wsh) (hs:z s=8):
  ∀(n i:Nat) (st:List Wsh),i+n=8->z st=8->
  aH C (ai C) 213 [0,9,196] qB [(0,.c8 p 0),(9,.c8 (z Y) 0),(196,.cU r i)] (Y.set p (.cH (eu b st part sz) FZ)++[.cH (s.map iw) FZ])=
   J (.dq 6,[],Y.set p (.cH (eu b (ZI s n i st) part sz) FZ)++[.cH (s.map iw) FZ])
 |0,i,st,hi,a=>by rw[kF (he:=rfl)];have h:¬((i:Int)<8):=(by omega);simp only[qB,h,ZI,EVQ,EVC,EVA,Nat.reduceEqDiff,xy,eqA,dI,bP,qK,iR,pt,bW,Nat.reduceSub,Nat.reduceGT,Nat.reduceLT,Nat.reduceAdd,hand,dS,aZ,bI,freeze,reduceIte,reduceCtorEq,jQ,iZ,isStr,CW,rep,Bq,BX,Nat.reduceMul,Nat.reduceLeDiff]
 |n+1,i,st,hi,a=>by
  rw[kF (he:=rfl)];generalize g:aH C (ai C) 213 [0,9,196] qB=e;have h:((i:Int)<8):=(by omega);have m:=wrS i (by omega);have l:∀j:Nat,(0:Int)<=(j:Int):=λj=>by omega
  have l5:i<8:=(by omega);have l6:1+i+1<=74:=(by omega);have k:=pV (b:=b) (sz:=sz) a c;have a0:=yV s i (by omega);have a1:=afO (b:=b) (part:=part) (sz:=sz) a i (by omega);have s1:=alk (b:=b) (part:=part) (sz:=sz) a i (by omega) (st.getD i 0+s.getD i 0);simp only[qB,h,m,l,l5,l6,k,a0,a1,s1,apI d,set_set d,apJ,ai8,UK,Yw,a88,abQ,EVQ,EVC,EVA,Nat.reduceEqDiff,xy,eqA,dI,bP,qK,iR,pt,bW,Nat.reduceSub,Nat.reduceGT,Nat.reduceLT,Nat.reduceAdd,hand,dS,aZ,bI,freeze,reduceIte,reduceCtorEq,jQ,iZ,isStr,CW,rep,Bq,BX,Nat.reduceMul,Nat.reduceLeDiff];rw[<-g];exact acC b part sz c Y p d s hs n (i+1) _ (by omega) (by rw[a96,a])
def Vy:List Wsh:=List.replicate 64 0
def aih(st:List Wsh)(part:LU):List Wsh:=ZI (Lm (ZH 48 16 (ZG part 16 0 Vy)) 64 0 st) 8 0 st
def Uk(part:LU):∀(n i:Nat) (w:List Wsh),z (ZG part n i w)=z w|0,_,_=>rfl|n+1,i,w=>by unfold ZG;rw[Uk part n,a96]
def Ul:∀(n i:Nat) (w:List Wsh),z (ZH n i w)=z w|0,_,_=>rfl|n+1,i,w=>by unfold ZH;rw[Ul n,a96]
def Um(s:List Wsh):∀(n i:Nat) (w:List Wsh),z (ZI s n i w)=z w|0,_,_=>rfl|n+1,i,w=>by unfold ZI;rw[Um s n,a96]
def Oa(w:List Wsh):∀(n i:Nat) (s:List Wsh),z s=8->z (Lm w n i s)=8|0,_,_,h=>h|n+1,i,s,_=>by unfold Lm;exact Oa w n _ _ rfl
def Xu{st:List Wsh}(h:z st=8)(part:LU):z (aih st part)=8:=by unfold aih;rw[Um,h]
def abR(n:Nat):∀l:List Wsh,ae n (l.map iw)=eT|[]=>rfl|x::l=>by rw[az3];unfold ae;rw[abR n l];rfl
def Qc(n:Nat):∀l d:LA,ae n (l++d)=(ae n l&&ae n d)
 |[],d=>by simp[ae]
 |x::l,d=>by simp[ae,Qc n l d,Bool.and_assoc]
def AL(n:Nat)(b st part sz):AO.below n (.cH (eu b st part sz) FZ)=eT:=by unfold AO.below eu;simp[ae,below,Qc,abR,kY]
def arY (q:Has C uI uB) (n:Has C bY dA) (t:C.gl vU=J (kR.map iw))
  (O:St) (l:Ok O) (p:Nat) (b:Bool) (st:List Wsh) (part:LU) (sz:Int) (j:O[p]?=J (.cH (eu b st part sz) FZ)) (h8:z st=8) (c:z part=64):
  ai C uI [.c8 p 0] O=J (.df [],O.set p (.cH (eu b (aih st part) part sz) FZ)):=by
 rw[q.cm];unfold Ey;have e:p<z O:=(a00.mp j).1;obtain⟨h,d⟩:∃h,h=ZG part 16 0 Vy:=⟨_,rfl⟩;obtain⟨w,k⟩:∃w,w=ZH 48 16 h:=⟨_,rfl⟩;obtain⟨s,hs⟩:∃s,s=Lm w 64 0 st:=⟨_,rfl⟩;obtain⟨a,f⟩:∃a,a=ZI s 8 0 st:=⟨_,rfl⟩;have g:z h=64:=by rw[d,Uk];rfl
 have A:z w=64:=by rw[k,Ul,g]
 have ls:z s=8:=by rw[hs];exact Oa w 64 0 st h8
 have u:aih st part=a:=by unfold aih;rw[f,hs,k,d]
 rw[u];have q0:=acz (C:=C) b st part sz O p j h8 c 16 0 Vy (by omega) (by unfold Vy;rw[List.length_replicate]);have q1:=acA n O p 48 16 h (by omega) (by omega) g;have q2:=acB n t (O++[.cH (w.map iw) FZ]) p (z O) w A (by rw[mM]) 64 0 st (by omega) h8;have q3:=acC (C:=C) b part sz c (O++[.cH (w.map iw) FZ]) p (by rw[a04];omega) s ls 8 0 st (by omega) h8;rw[<-d]at q0;rw[<-k]at q1;rw[<-hs]at q2;rw[<-f]at q3;have e1:(O++[AO.cH (w.map iw) FZ]).set p (.cH (eu b st part sz) FZ)=O++[AO.cH (w.map iw) FZ]:=by rw[aD2 _ _ e,<-(a00.mp j).2,List.set_getElem_self]
 rw[e1]at q3;rw[aD2 _ _ e]at q3;have i:O++[AO.cH (List.replicate 64 (AV.cU .u32 0)) FZ]=O++[.cH (Vy.map iw) FZ]:=rfl;simp only[List.reduceReplicate]at i;have o:=II j [AO.cH (w.map iw) FZ];have tk:8<=z ((eu b st part sz).drop 1):=by rw[aH7,pV h8 c];omega
 have m:((eu b st part sz).drop 1).take 8=st.map iw:=by unfold eu;rw[aF8,ay9,aC4 (by simp[h8]),a95 (by simp[h8])]
 have fl:(st.map iw).all AV.C=eT:=by rw[a97];intro x v;obtain⟨y,_,rfl⟩:=aC1.mp v;rfl
 have B:splice [AV.cU .u32 0,AV.cU .u32 0,AV.cU .u32 0,AV.cU .u32 0,AV.cU .u32 0,AV.cU .u32 0,AV.cU .u32 0,AV.cU .u32 0] 0 (st.map iw)=st.map iw:=Hm _ _ (by simp[h8]);have D:tidy (z O) [] (O.set p (.cH (eu b a part sz) FZ)++[.cH (w.map iw) FZ]++[.cH (s.map iw) FZ])=O.set p (.cH (eu b a part sz) FZ):=by have:=Cj (l.lO p (AL (z O) b a part sz)) (vs:=[]) rfl ([.cH (w.map iw) FZ]++[.cH (s.map iw) FZ]);rw[a96,<-ay2]at this;exact this
 simp only[ay1]at q0 q1 q2 q3;simp only[uB,i,q0,q1,q2,q3,o,tk,m,fl,B,D,h8,aB0,mM,sH,EVQ,EVC,EVA,Nat.reduceEqDiff,xy,eqA,dI,bP,qK,iR,pt,bW,Nat.reduceSub,Nat.reduceGT,Nat.reduceLT,Nat.reduceAdd,hand,dS,aZ,bI,freeze,reduceIte,reduceCtorEq,jQ,iZ,isStr,CW,rep,Bq,BX,Nat.reduceMul,Nat.reduceLeDiff]
def lay(part:LU)(used:Nat)(s:LU):LU:=part.take used++s++part.drop (used+z s)
def rf:Nat->List Wsh->LU->Nat->LU->List Wsh×LU
 |0,st,part,_,_=>(st,part)
 |n+1,st,part,a,s=>
  if s=[]then(st,part)else
  if a+min (z s) (64-a)=64 then
   rf n (aih st (lay part a (s.take (min (z s) (64-a))))) (lay part a (s.take (min (z s) (64-a)))) 0 (s.drop (min (z s) (64-a)))
  else(st,lay part a (s.take (min (z s) (64-a))))
def Rw{part s:LU}{used:Nat}(h:used+z s<=z part):z (lay part used s)=z part:=by simp[lay];omega
def alj{b st part sz}(h8:z st=8){used:Nat}{s:LU}(h:used+z s<=z part):splice (eu b st part sz) (9+used) (ofBytes s)=eu b st (lay part used s) sz:=by
 unfold eu splice lay;rw[show 9+used=(8+used)+1 by omega,aG8,show(8+used)+1+z (ofBytes s)=(8+used+z s)+1 by rw[aI];omega,aF8];have e1:(st.map iw++(ofBytes part++[AV.cU r sz])).take (8+used)=st.map iw++ofBytes (part.take used):=by rw[List.take_append,a95 (by simp[h8])];simp only[aB0,h8,Nat.add_sub_cancel_left];rw[aC4 (by rw[aI];omega)];unfold ofBytes;rw[List.map_take]
 have e2:(st.map iw++(ofBytes part++[AV.cU r sz])).drop (8+used+z s)=ofBytes (part.drop (used+z s))++[AV.cU r sz]:=by rw[List.drop_append,az1 (by simp[h8];omega)];simp only[aB0,h8,a98,show 8+used+z s-8=used+z s by omega];rw[List.drop_append_of_le_length (by rw[aI];omega)];unfold ofBytes;rw[List.map_drop]
 rw[e1,e2];simp[ofBytes]
def Hg (o:Has C uI uB) (q:Has C bY dA) (t:C.gl vU=J (kR.map iw))
  (b:Bool) (sz:Int) (O:St) (f:Ok O) (p:Nat) (u:p<z O):
  ∀(n:Nat) (s:LU) (st:List Wsh) (part:LU) (used:Nat),z s<n->used<64->z s<=1099511627776->z st=8->z part=64->
  aH C (ai C) 55 [0,1,5] jX [(0,.c8 p 0),(1,.cV s),(5,.cU r used)] (O.set p (.cH (eu b st part sz) FZ))=
   J (.dq 0,[],O.set p (.cH (eu b (rf n st part used s).1 (rf n st part used s).2 sz) FZ))
 |0,s,_,_,_,H,_,_,_,_=>absurd H (by omega)
 |n+1,s,st,part,used,H,Q,P,h8,c=>by
  rw[kF (he:=rfl)];generalize G:aH C (ai C) 55 [0,1,5] jX=L;by_cases hs:s=[];·subst hs;simp only[jX,rf,Int.reduceLT,EVY,seval]
  ·have I:0<z s:=List.length_pos_iff.mpr hs;have F:((z s:Int)>0):=(by omega);obtain⟨k,g⟩:∃k,k=min (z s) (64-used):=⟨_,rfl⟩;have K:k<=z s:=(by omega);have R:used+k<=64:=(by omega);have S:0<k:=(by omega);have e:=pV (b:=b) (sz:=sz) h8 c;have m:∀x,(O.set p x)[p]?=J x:=λx=>aE5 u;have y:used<=64:=(by omega);have A:¬used=64:=(by omega);have B:(0:Int)<=(used:Int):=(by omega);have D:9+used+k<=74:=(by omega);have j:(ofBytes s).take k=ofBytes (s.take k):=by unfold ofBytes;rw[List.map_take]
   have d:=alj (b:=b) (sz:=sz) h8 (used:=used) (s:=s.take k) (part:=part) (by rw[aB1,c];omega);have E:(0:Int)<=(k:Int):=(by omega);have M:IntKind.i64.wrap ((used:Int)+(k:Int))=((used+k:Nat):Int):=wrE (by omega);have l:s.take (z s)=s:=List.take_length;have v:z (lay part used (s.take k))=64:=(by rw[Rw (by rw[aB1,c];omega),c]);have w:Ok (O.set p (.cH (eu b st (lay part used (s.take k)) sz) FZ)):=f.lO p (AL _ _ _ _ _);by_cases a:used+k=64
   ·have b1:((((used+k:Nat):Int)==64))=eT:=by rw[a];rfl
    have h:=arY o q t (O.set p (.cH (eu b st (lay part used (s.take k)) sz) FZ)) w p b st (lay part used (s.take k)) sz (m _) h8 v;rw[aB8]at h;simp only[jX,rf,hs,F,m,e,y,A,B,D,E,<-g,j,d,M,l,a,h,yE,aB8,a88,K,EVY,seval];rw[<-G];have:=Hg o q t b sz O f p u n (s.drop k) (aih st (lay part used (s.take k))) (lay part used (s.take k)) 0 (by rw[aH7];omega) (by omega) (by rw[aH7];omega) (Xu h8 _) v;simp only[ay1]at this;exact this
   ·have b1:((((used+k:Nat):Int)==64))=eF:=by rw[beq_eq_false_iff_ne];omega
    have i:s.drop k=[]:=az1 (by omega);simp only[jX,rf,hs,F,m,e,y,A,B,D,E,<-g,j,d,M,l,b1,a,yE,aB8,a88,K,EVY,seval];rw[<-G,i];have:=Hg o q t b sz O f p u n [] st (lay part used (s.take k)) (used+k) (by simp;omega) (by omega) (by simp) h8 v;rw[this];cases n<;>rfl
def ZW{b st part sz}:(eu b st part sz).head? =J (.cX b):=rfl
def Rn{b st part sz}(h8:z st=8)(a:z part=64):((eu b st part sz).drop 73).head? =J (.cU r sz):=by unfold eu;rw[aE6,aB7,aE3 (by simp[h8]),aE3 (by simp[h8,a,aI])];simp[h8,a,aI]
def Qn{b st part sz}(h8:z st=8)(a:z part=64)(d:Int):splice (eu b st part sz) 73 [.cU r d]=eu b st part d:=by unfold eu splice;rw[aG8,show 73+[AV.cU r d].length=73+1 from rfl,aF8,<-ay2,aC4 (by simp[h8,a,aI]),a95 (by simp[h8,a,aI]),az1 (by simp[h8,a,aI])];simp
def xP(b:Bool)(st:List Wsh):List Wsh:=if b then st else hI
def EI{b:Bool}{st:List Wsh}(h8:z st=8):z (xP b st)=8:=by cases b<;>simp[xP,h8,hI]
def Ws (v:Has C yz uA) (w:Has C uI uB) (y:Has C bY dA) (A:C.gl vU=J (kR.map iw)) (hi:C.gl zt=J (hI.map iw))
  (O:St) (j:Ok O) (p:Nat) (b:Bool) (st:List Wsh) (part:LU) (sz:Nat) (i:O[p]?=J (.cH (eu b st part sz) FZ)) (h8:z st=8) (a:z part=64) (D:sz<=4398046511104)
  (s:LU) (B:z s<=1099511627776):
  ai C yz [.c8 p 0,.cV s] O=J (.cU r 0,O.set p (.cH (eu eT (rf (z s+1) (xP b st) part (sz%64) s).1 (rf (z s+1) (xP b st) part (sz%64) s).2 ((sz+z s:Nat):Int)) FZ)):=by
 rw[v.cm];unfold Ey;have d:p<z O:=(a00.mp i).1;have u:∀x,(O.set p x)[p]?=J x:=λx=>aE5 d;have o:((sz:Int)).tmod 64=((sz%64:Nat):Int):=by rw[aH6 (by omega)];omega
 have t:IntKind.i64.wrap ((sz:Int)+(z s:Int))=((sz+z s:Nat):Int):=wrE (by omega);have q:=Hg w y A eT ((sz+z s:Nat):Int) O j p d (z s+1) s (xP b st) part (sz%64) (by omega) (by omega) B (EI h8) a;have f:¬((64:Int)=0):=by decide
 have n:∀x,tidy (z O) [.cU r 0] (O.set p x)=O.set p x:=λx=>by have:=DD (O.set p x) [.cU r 0];rw[a96]at this;exact this
 cases b with
 |true=>have c:=pV (b:=eT) (sz:=sz) h8 a;have l:=Rn (b:=eT) (sz:=sz) h8 a;have m:=Qn (b:=eT) (sz:=sz) h8 a ((sz+z s:Nat):Int);have k:=ZW (b:=eT) (st:=st) (part:=part) (sz:=sz);have e:xP eT st=st:=rfl;rw[e]at q⊢;simp only[uA,i,k,l,m,c,o,t,f,q,n,EVY,seval]
 |false=>
  have e:xP eF st=hI:=rfl;have c:=pV (b:=eF) (sz:=sz) h8 a;have g:=pV (b:=eT) (sz:=sz) h8 a;have h:=pV (b:=eT) (sz:=sz) (st:=hI) rfl a;have k:=ZW (b:=eF) (st:=st) (part:=part) (sz:=sz);have l:=Rn (b:=eT) (sz:=sz) (st:=hI) rfl a;have m:=Qn (b:=eT) (sz:=sz) (st:=hI) rfl a ((sz+z s:Nat):Int);have E:splice (eu eF st part sz) 0 [.cX eT]=eu eT st part sz:=rfl;have F:splice (eu eT st part sz) 1 (hI.map iw)=eu eT hI part sz:=by unfold eu splice;rw[aG8,show 1+z (hI.map iw)=8+1 from rfl,aF8,List.drop_append,az1 (by simp[h8])];simp[h8]
  have z5:8<=z (hI.map iw):=(by decide);have G:(hI.map iw).take 8=hI.map iw:=rfl;have H:z (hI.map iw)=8:=rfl;have I:(hI.map iw).all AV.C=eT:=rfl;rw[e]at q⊢;simp only[uA,i,hi,aD7,k,l,m,E,F,G,H,I,c,g,h,o,t,f,q,u,n,aB8,EVY,seval]
def hexV(b:UInt8):Option Nat:=
 if 48<=b.toNat/\b.toNat<=57 then J (b.toNat-48)else if 97<=b.toNat/\b.toNat<=102 then J (b.toNat-87)else U
def Qo(s:LU)(i:Int):Option Nat:=
 if i<0 then U else s[i.toNat]?.bind hexV
def NQ(o:Option Nat):AV:=
 .df [.cU r (o.getD 0:Nat),.cX o.isSome]
def JA (g:Has C nY nO) (s:LU) (i:Int) (O:St):
  ai C nY [.cV s,.cU r i] O=J (NQ (Qo s i),O):=by
 rw[g.cm];unfold Ey;by_cases a:i<0;·simp only[nO,a,Qo,NQ,EVY,seval];rfl
 ·by_cases c:(z s:Int)<=i;·have h2:s[i.toNat]?=U:=aA1 (by omega);simp only[nO,a,c,h2,Qo,NQ,EVY,seval];rfl
  ·have h2:i.toNat<z s:=(by omega);have h3:0<=i:=(by omega);obtain⟨b,hb⟩:∃b,s[i.toNat]?=J b:=⟨_,a02 h2⟩;have h:b.toNat<256:=b.toNat_lt;have d:((48:Int)<=b.toNat)=(48<=b.toNat):=by simp;omega
   have hB:((b.toNat:Int)<=57)=(b.toNat<=57):=by simp;omega
   have e:((97:Int)<=b.toNat)=(97<=b.toNat):=by simp;omega
   have f:((b.toNat:Int)<=102)=(b.toNat<=102):=by simp;omega
   have hv:Qo s i=hexV b:=(by simp[Qo,a,hb]);rw[hv];by_cases h4:48<=b.toNat
   ·by_cases h5:b.toNat<=57;·have e1:IntKind.u8.wrap ((b.toNat:Int)-48)=((b.toNat-48:Nat):Int):=(by rw[wu8]<;>omega);have e2:IntKind.i64.wrap ((b.toNat-48:Nat):Int)=((b.toNat-48:Nat):Int):=wrE (by omega);simp only[nO,a,c,h3,hb,h4,h5,d,hB,e1,e2,EVY,seval];simp[NQ,hexV,h4,h5]
    ·by_cases h6:97<=b.toNat
     ·by_cases h7:b.toNat<=102;·have e1:IntKind.u8.wrap ((b.toNat:Int)-97)=((b.toNat-97:Nat):Int):=(by rw[wu8]<;>omega);have e2:IntKind.i64.wrap ((b.toNat-97:Nat):Int)=((b.toNat-97:Nat):Int):=wrE (by omega);have e3:IntKind.i64.wrap (((b.toNat-97:Nat):Int)+10)=((b.toNat-87:Nat):Int):=wrE (by omega);simp only[nO,a,c,h3,hb,h4,h5,h6,h7,d,hB,e,f,e1,e2,e3,EVY,seval];simp[NQ,hexV,h4,h5,h6,h7]
      ·simp only[nO,a,c,h3,hb,h4,h5,h6,h7,d,hB,e,f,EVY,seval];simp[NQ,hexV,h4,h5,h6,h7]
     ·simp only[nO,a,c,h3,hb,h4,h5,h6,d,hB,e,EVY,seval];simp[NQ,hexV,h4,h5,h6]
   ·have h6:¬97<=b.toNat:=(by omega);simp only[nO,a,c,h3,hb,h4,h6,d,e,EVY,seval];simp[NQ,hexV,h4,h6]
def ZZ(b:UInt8):Bool:=(hexV b).isSome
def ao6{s:LU}{i:Nat}{b:UInt8}(h:s[i]?=J b):(Qo s i).isSome=ZZ b:=by
 have:¬((i:Int)<0):=by omega
 simp[Qo,h,ZZ,this]
def Xj (b:Has C nY nO) (s:LU) (hs:z s<=1099511627776) (O:St):∀(n i:Nat),i+n=z s->
  aH C (ai C) 20 [0,7,8] Aa [(0,.cV s),(7,.cU r (z s)),(8,.cU r i)] O=
   if(s.drop i).all ZZ then J (.dq 0,[],O)else J (.ef,[(2,.cX eF)],O)
 |0,i,hi=>by rw[kF (he:=rfl)];have h:¬((i:Int)<(z s:Int)):=(by omega);have a:s.drop i=[]:=az1 (by omega);simp only[Aa,h,a,az6,EVY,seval]
 |n+1,i,hi=>by
  rw[kF (he:=rfl)];generalize e:aH C (ai C) 20 [0,7,8] Aa=k;have h:((i:Int)<(z s:Int)):=(by omega);have h2:i<z s:=(by omega);have hb:s[i]?=J s[i]:=a02 h2;have a:s.drop i=s[i]::s.drop (i+1):=ay6 h2;have f:=wrS i (by omega);rw[a,a07,<-ao6 hb];cases c:(Qo s i).isSome;·simp only[Aa,h,JA b,NQ,c,aF3,EVY,seval]
  ·simp only[Aa,h,JA b,NQ,c,f,aA6,EVY,seval];rw[<-e,Xj b s hs O n (i+1) (by omega)]
def au3 (b:Has C Np YN) (c:Has C nY nO) (s:LU) (hs:z s<=1099511627776) (O:St):
  ai C Np [.cV s] O=J (.cX (s.all ZZ),O):=by
 rw[b.cm];unfold Ey;have:=Xj c s hs O (z s) 0 (by omega);simp only[ay1,ay9,EVY,seval]at this;cases a:s.all ZZ;·rw[a]at this;simp only[YN,this,EVY,seval]
 ·rw[a]at this;simp only[YN,this,EVY,seval]
def afP(n:Nat):UInt8:=if n<10 then UInt8.ofNat (48+n)else UInt8.ofNat (87+n)
def hexDigits:LU:=[48,49,50,51,52,53,54,55,56,57,97,98,99,100,101,102]
def ank(b:UInt8):LU:=[afP (b.toNat/16),afP (b.toNat%16)]
def yU(s:LU):LU:=s.flatMap ank
def ajP(n:Nat)(h:n<16):((ofBytes hexDigits).drop n).head? =J (.cU .u8 (afP n).toNat):=by
 have:∀n:Fin 16,((hexDigits.drop n.1).head?).map (λb=>(AV.cU .u8 (b.toNat:Int)))=J (.cU .u8 ((afP n.1).toNat:Int)):=by intro n;obtain⟨n,c⟩:=n;rcases(by omega:n=0\/n=1\/n=2\/n=3\/n=4\/n=5\/n=6\/n=7\/n=8\/n=9\/n=10\/n=11\/n=12\/n=13\/n=14\/n=15)with h|h|h|h|h|h|h|h|h|h|h|h|h|h|h|h<;>subst h<;>rfl
 have:=this ⟨n,h⟩;unfold ofBytes;rw[<-List.map_drop,List.head?_map];exact this
def abJ {tg:Option (TypeId×Bool)} (O:St) (k:Nat) (acc cs:LU) (m:Nat) (c:z cs=m) (e:0<m) (b:z acc+m<=70368744177664):
  tX (pile O k (.cH (ofBytes acc) FZ)) 1 1 tg (.dj (z O+k) 0 (z acc) 1) m (ofBytes cs)=J (.dj (z O+(k+1)) 0 (z (acc++cs)) 1,pile O (k+1) (.cH (ofBytes (acc++cs)) FZ)):=by
 have a:¬m=0:=by omega
 have d:(if U=tg then tg else U)=U:=by split<;>simp_all
 unfold tX;rw[if_neg a];simp only[NS];rw[if_pos ⟨trivial,by rw[aI];omega,by omega,b⟩,agj,XB,NM,a04,c,d]
def L8 (g:C.gl Fv=J (ofBytes hexDigits)) (s:LU) (hs:z s<=1099511627776) (O:St):∀(n i k:Nat) (acc:LU),i+n=z s->z acc=2*i->
  aH C (ai C) 32 [0,3,4] uC [(0,.cV s),(3,.dj (z O+k) 0 (z acc) 1),(4,.cU r i)] (pile O k (.cH (ofBytes acc) FZ))=
   J (.dq 0,[(3,.dj (z O+(k+n)) 0 (z (acc++yU (s.drop i))) 1)],pile O (k+n) (.cH (ofBytes (acc++yU (s.drop i))) FZ))
 |0,i,k,acc,hi,f=>by rw[kF (he:=rfl)];have h:¬((i:Int)<(z s:Int)):=(by omega);have c:s.drop i=[]:=az1 (by omega);simp only[uC,h,c,yU,aH8,aH4,EVQ,EVC,EVA,Nat.reduceEqDiff,xy,eqA,dI,bP,qK,iR,pt,bW,Nat.reduceSub,Nat.reduceGT,Nat.reduceLT,Nat.reduceAdd,hand,dS,aZ,bI,freeze,reduceIte,reduceCtorEq,jQ,iZ,isStr,CW,rep,Bq,BX,Nat.reduceMul,Nat.reduceLeDiff]
 |n+1,i,k,acc,hi,f=>by
  rw[kF (he:=rfl)];generalize o:aH C (ai C) 32 [0,3,4] uC=j;have h:((i:Int)<(z s:Int)):=(by omega);have h2:i<z s:=(by omega);have hb:s[i]?=J s[i]:=a02 h2;have c:s.drop i=s[i]::s.drop (i+1):=ay6 h2;have p:=wrS i (by omega);rw[c];generalize s[i]=b at hb;have d:b.toNat<256:=b.toNat_lt;have l:(0:Int)<=i:=(by omega);have e1:((b.toNat:Int)).fdiv (2^(min (4:Int).toNat IntKind.u8.bits))=((b.toNat/16:Nat):Int):=by show((b.toNat:Int)).fdiv 16=_;rw[aD5 _ (by omega)];omega
  have e2:IntKind.u8.wrap ((BitVec.ofInt IntKind.u8.bits (b.toNat:Int)&&&BitVec.ofInt IntKind.u8.bits 15).toNat:Int)=((b.toNat%16:Nat):Int):=by have:=amK .u8 rfl b.toNat 15 d (by decide);rw[show((15:Nat):Int)=15 from rfl]at this;rw[this,show 15=2^4-1 from rfl,Nat.and_two_pow_sub_one_eq_mod]
  have e3:(0:Int)<=((b.toNat/16:Nat):Int):=(by omega);have e4:(0:Int)<=((b.toNat%16:Nat):Int):=(by omega);have e5:(((b.toNat/16:Nat):Int)).toNat<16/\(((b.toNat/16:Nat):Int)).toNat*1<=z (ofBytes hexDigits):=by rw[aI];simp[hexDigits];omega
  have e:(((b.toNat%16:Nat):Int)).toNat<16/\(((b.toNat%16:Nat):Int)).toNat*1<=z (ofBytes hexDigits):=by rw[aI];simp[hexDigits];omega
  have d1:((ofBytes hexDigits).drop ((((b.toNat/16:Nat):Int)).toNat*1)).head? =J (.cU .u8 (afP (b.toNat/16)).toNat):=by rw[a88,aB5];exact ajP _ (by omega)
  have d2:((ofBytes hexDigits).drop ((((b.toNat%16:Nat):Int)).toNat*1)).head? =J (.cU .u8 (afP (b.toNat%16)).toNat):=by rw[a88,aB5];exact ajP _ (by omega)
  have q:¬((4:Int)<0):=(by decide);have t:((i:Int)).toNat=i:=a88 i;have a:∀tg,tX (pile O k (.cH (ofBytes acc) FZ)) 1 1 tg (.dj (z O+k) 0 (z acc) 1) 2 [.cU .u8 (afP (b.toNat/16)).toNat,.cU .u8 (afP (b.toNat%16)).toNat]=_:=λtg=>abJ O k acc (ank b) 2 rfl (by omega) (by omega);simp only[a88,aB5]at e5 e d1 d2;simp only[uC,h,l,hb,t,p,q,e1,e2,e3,e4,e5,e,d1,d2,g,a,a88,aD7,EVQ,EVC,EVA,Nat.reduceEqDiff,xy,eqA,dI,bP,qK,iR,pt,bW,Nat.reduceSub,Nat.reduceGT,Nat.reduceLT,Nat.reduceAdd,hand,dS,aZ,bI,freeze,reduceIte,reduceCtorEq,jQ,iZ,isStr,CW,rep,Bq,BX,Nat.reduceMul,Nat.reduceLeDiff];rw[<-o,L8 g s hs O n (i+1) (k+1) (acc++ank b) (by omega) (by rw[a04,f];simp[ank];omega)];simp[yU,aF1,aI3 1 n]
def hex_Encode (c:Has C Fp JZ) (e:C.gl Fv=J (ofBytes hexDigits)) (s:LU) (hs:z s<=1099511627776) (O:St) (a:Ok O):
  ai C Fp [.cV s] O=J (.cV (yU s),O):=by
 rw[c.cm];unfold Ey;have b:=L8 e s hs O (z s) 0 0 [] (by omega) rfl;have h:IntKind.i64.wrap (2*(z s:Int))=((2*z s:Nat):Int):=wrE (by omega);have f:O++[AO.cH [] FZ]=pile O 0 (.cH (ofBytes []) FZ):=rfl;have d:(0:Int)<=0/\(0:Int)<=((2*z s:Nat):Int)/\((2*z s:Nat):Int)<=9223372036854775807/\(1:Int)*((2*z s:Nat):Int)<=140737488355328:=by omega
 simp only[ay9,a98,az5,a94,aH4,ay1]at b;have hb:=vN (yU s);have g:(ofBytes (yU s)).take (z (yU s))=ofBytes (yU s):=a95 (by rw[aI];omega);have i:tidy (z O) [.cV (yU s)] (pile O (z s) (.cH (ofBytes (yU s)) FZ))=O:=ad4 a rfl _ _;simp only[JZ,h,d,f,b,hb,g,i,NS,aI,aF4,EVQ,EVC,EVA,Nat.reduceEqDiff,xy,eqA,dI,bP,qK,iR,pt,bW,Nat.reduceSub,Nat.reduceGT,Nat.reduceLT,Nat.reduceAdd,hand,dS,aZ,bI,freeze,reduceIte,reduceCtorEq,jQ,iZ,isStr,CW,rep,Bq,BX,Nat.reduceMul,Nat.reduceLeDiff]
def atJ(len i:Nat):UInt8:=UInt8.ofNat (len/2^(56-8*i))
def ZJ(len:Nat):Nat->Nat->LU->LU|0,_,t=>t|n+1,i,t=>ZJ len n (i+1) (t.set i (atJ len i))
def XT(l:LU)(i:Nat)(v:UInt8)(h:i<z l):splice (ofBytes l) i [.cU .u8 (v.toNat:Int)]=ofBytes (l.set i v):=Lu (λb:UInt8=>AV.cU .u8 (b.toNat:Int)) l i v h
def ate(n:Nat):IntKind.u8.wrap (n:Int)=((UInt8.ofNat n).toNat:Int):=by rw[IntKind.wrap_u8,UInt8.toNat_ofNat'];omega
def QB (Y:St) (p len:Nat):
  ∀(n i:Nat) (t:LU),i+n=8->z t=8->
  aH C (ai C) 69 [3,4,5,31] mV [(3,.c8 p 0),(4,.cU .u64 len),(5,.c8 (z Y) 0),(31,.cU r i)] (Y++[.cH (ofBytes t) FZ])=
   J (.dq 0,[(3,.c8 p 0),(5,.c8 (z Y) 0)],Y++[.cH (ofBytes (ZJ len n i t)) FZ])
 |0,i,t,hi,a=>by rw[kF (he:=rfl)];have h:¬((i:Int)<8):=(by omega);simp only[mV,h,ZJ,EVY,seval]
 |n+1,i,t,hi,a=>by
  rw[kF (he:=rfl)];generalize d:aH C (ai C) 69 [3,4,5,31] mV=b;have h:((i:Int)<8):=(by omega);have k:IntKind.i64.wrap (8*(i:Int))=((8*i:Nat):Int):=wrE (by omega);have l:IntKind.i64.wrap (56-((8*i:Nat):Int))=((56-8*i:Nat):Int):=wrE (by omega);have m:=wrS i (by omega);have f:∀j:Nat,(0:Int)<=(j:Int):=λj=>by omega
  have g:∀j:Nat,¬((j:Int)<0):=λj=>by omega
  have e:min (56-8*i) IntKind.u64.bits=56-8*i:=by show min (56-8*i) 64=_;omega
  have f1:(len:Int).fdiv (2^(56-8*i))=((len/2^(56-8*i):Nat):Int):=by rw[aD5 _ (Int.pow_nonneg (by decide)),Int.natCast_ediv,Int.natCast_pow];rfl
  have l5:i<8:=(by omega);have l6:i+1<=8:=(by omega);have s1:=XT t i (atJ len i) (by omega);unfold atJ at s1;simp only[mV,h,k,l,m,f,g,e,f1,ate,l5,l6,s1,a,aI,mM,sH,a88,EVY,seval];rw[<-d];exact QB Y p len n (i+1) _ (by omega) (by rw[a96,a])
def be32(x:Wsh):LU:=[UInt8.ofNat (x>>>24).toNat,UInt8.ofNat (x>>>16).toNat,UInt8.ofNat (x>>>8).toNat,UInt8.ofNat x.toNat]
def au5(y:Wsh)(O:St):au4 .u8 (iw y) O=J (.ew (.cU .u8 ((UInt8.ofNat y.toNat).toNat:Int)) O):=by unfold iw;rw[UG,ate]
def QC (O:St) (st:List Wsh) (h8:z st=8):
  ∀(n i k:Nat) (acc:LU),i+n=8->z acc=4*i->
  aH C (ai C) 69 [7,48,49] qy [(7,.dj (z O+k) 0 (z acc) 1),(48,.da (st.map iw)),(49,.cU r i)] (pile O k (.cH (ofBytes acc) FZ))=
   J (.dq 2,[(7,.dj (z O+(k+n)) 0 (z (acc++(st.drop i).flatMap be32)) 1)],pile O (k+n) (.cH (ofBytes (acc++(st.drop i).flatMap be32)) FZ))
 |0,i,k,acc,hi,c=>by rw[kF (he:=rfl)];have h:¬((i:Int)<8):=(by omega);have b:st.drop i=[]:=az1 (by omega);simp only[qy,h,b,aH8,ay5,aH4,EVY,seval]
 |n+1,i,k,acc,hi,c=>by
  rw[kF (he:=rfl)];generalize f:aH C (ai C) 69 [7,48,49] qy=d;have h:((i:Int)<8):=(by omega);have g:∀j:Nat,(0:Int)<=(j:Int):=λj=>by omega
  have l:=wrS i (by omega);have l5:i<8:=(by omega);have a0:=yV st i (by omega);have b:st.drop i=st.getD i 0::st.drop (i+1):=by rw[ay6 (by omega),az8,a02 (by omega)];rfl
  rw[b];generalize st.getD i 0=x at a0;have a:∀tg,tX (pile O k (.cH (ofBytes acc) FZ)) 1 1 tg (.dj (z O+k) 0 (z acc) 1) 4 [.cU .u8 (UInt8.ofNat (x>>>24).toNat).toNat,.cU .u8 (UInt8.ofNat (x>>>16).toNat).toNat,.cU .u8 (UInt8.ofNat (x>>>8).toNat).toNat,.cU .u8 (UInt8.ofNat x.toNat).toNat]=_:=λtg=>abJ O k acc (be32 x) 4 rfl (by omega) (by omega);simp only[qy,h,g,l,l5,a0,ajW,au5,a,a88,Int.reduceLE,Int.reduceToNat,abQ,EVY,seval];rw[<-f,QC O st h8 n (i+1) (k+1) (acc++be32 x) (by omega) (by rw[a04,c];simp[be32];omega)];simp[aF1,aI3 1 n]
def sS:∀(n:Nat) (st:List Wsh) (part:LU) (used:Nat) (s:LU),z st=8->z part=64->used<=64->(rf n st part used s).1.length=8/\(rf n st part used s).2.length=64
 |0,_,_,_,_,h8,a,_=>⟨h8,a⟩
 |n+1,st,part,used,s,h8,a,c=>by
  have b:z (lay part used (s.take (min (z s) (64-used))))=64:=(by rw[Rw (by rw[aB1,a];omega),a]);unfold rf;split;·exact⟨h8,a⟩
  ·split;·exact sS n _ _ 0 _ (Xu h8 _) b (by omega)
   ·exact⟨h8,b⟩
def Un(len:Nat):∀(n i:Nat) (t:LU),z (ZJ len n i t)=z t|0,_,_=>rfl|n+1,i,t=>by unfold ZJ;rw[Un len n,a96]
def Oi(sz:Nat):LU:=128::List.replicate ((119-sz%64)%64) 0
def PM(sz:Nat):LU:=ZJ (sz*8) 8 0 (List.replicate 8 0)
def agM(b:Bool)(st:List Wsh)(part:LU)(sz:Nat):List Wsh×LU:=rf (z (Oi sz)+1) (xP b st) part (sz%64) (Oi sz)
def agN(b:Bool)(st:List Wsh)(part:LU)(sz:Nat):List Wsh×LU:=
 rf (z (PM sz)+1) (agM b st part sz).1 (agM b st part sz).2 ((sz+z (Oi sz))%64) (PM sz)
def BN(b:Bool)(st:List Wsh)(part:LU)(sz:Nat):LU:=(agN b st part sz).1.flatMap be32
def apK (R:Has C GM F7) (H:Has C yz uA) (F:Has C uI uB) (G:Has C bY dA) (I:C.gl vU=J (kR.map iw)) (hi:C.gl zt=J (hI.map iw))
  (j:∀n:Nat,n<64->∀O,ai C qE [.cV [0],.cU r n] O=J (.cV (List.replicate n 0),O))
  (O:St) (g:Ok O) (p:Nat) (b:Bool) (st:List Wsh) (part:LU) (sz:Nat) (K:O[p]?=J (.cH (eu b st part sz) FZ)) (h8:z st=8) (e:z part=64) (T:sz<=2199023255552):
  ai C GM [.c8 p 0] O=J (.cV (BN b st part sz),O):=by
 rw[R.cm];unfold Ey;have m:=pV (b:=b) (sz:=sz) h8 e;have z1:=Rn (b:=b) (sz:=sz) h8 e;obtain⟨a,c⟩:∃x,x=Oi sz:=⟨_,rfl⟩;obtain⟨d,f⟩:∃x,x=PM sz:=⟨_,rfl⟩;obtain⟨r1,hr1⟩:∃x,x=agM b st part sz:=⟨_,rfl⟩;obtain⟨r2,hr2⟩:∃x,x=agN b st part sz:=⟨_,rfl⟩;have M:z a<=64:=by rw[c];unfold Oi;simp;omega
 have t:z d=8:=by rw[f];unfold PM;rw[Un];rfl
 have a1:z r1.1=8/\z r1.2=64:=by rw[hr1];exact sS _ _ _ _ _ (EI h8) e (by omega)
 have a2:z r2.1=8/\z r2.2=64:=by rw[hr2];unfold agN;rw[<-hr1];exact sS _ _ _ _ _ a1.1 a1.2 (by omega)
 have v:Ok (O++[.cH (eu b st part sz) FZ]):=g.eG (by simp[AL]);have q1:=Ws H F G I hi (O++[.cH (eu b st part sz) FZ]) v (z O) b st part sz (mM _ _) h8 e (by omega) a (by omega);rw[sH,c]at q1;have e1:rf (z (Oi sz)+1) (xP b st) part (sz%64) (Oi sz)=r1:=hr1.symm;rw[e1,<-c]at q1;have w:Ok (O++[.cH (eu eT r1.1 r1.2 ((sz+z a:Nat):Int)) FZ]++[.cH (ofBytes d) FZ]):=by refine Ok.eG (g.eG (by simp[AL])) (by simp[AO.below,kY])
 have q2:=Ws H F G I hi _ w (z O) eT r1.1 r1.2 (sz+z a) (II (mM _ _) _) a1.1 a1.2 (by omega) d (by omega);have e2:rf (z d+1) (xP eT r1.1) r1.2 ((sz+z a)%64) d=r2:=by rw[hr2];unfold agN;rw[<-hr1,<-c,<-f];rfl
 have e3:∀x y co:AO,(O++[x]++[y]).set (z O) co=O++[co]++[y]:=λx y co=>by rw[aD2 _ _ (by simp),sH]
 rw[e2,e3]at q2;have q3:=QB (C:=C) (O++[.cH (eu eT r1.1 r1.2 ((sz+z a:Nat):Int)) FZ]) (z O) (sz*8) 8 0 (List.replicate 8 0) (by omega) (by simp);have e4:ZJ (sz*8) 8 0 (List.replicate 8 0)=d:=f.symm;rw[e4]at q3;obtain⟨Y,i⟩:∃Y,Y=O++[.cH (eu eT r2.1 r2.2 ((sz+z a+z d:Nat):Int)) FZ]++[.cH (ofBytes d) FZ]:=⟨_,rfl⟩;rw[<-i]at q2;have q4:=QC (C:=C) Y r2.1 a2.1 8 0 0 [] (by omega) rfl;simp only[ay9,a98,az5,a94,aH4,ay1]at q3 q4;have o:r2.1.flatMap be32=BN b st part sz:=by unfold BN;rw[hr2]
 rw[o]at q4;have W:((sz:Int)).tmod 64=((sz%64:Nat):Int):=by rw[aH6 (by omega)];omega
 have w0:IntKind.u64.wrap (sz:Int)=(sz:Int):=by rw[wu64]<;>omega
 have w1:IntKind.u64.wrap ((sz:Int)*8)=((sz*8:Nat):Int):=by rw[wu64]<;>omega
 have w2:IntKind.i64.wrap (119-((sz%64:Nat):Int))=((119-sz%64:Nat):Int):=wrE (by omega);have X:((119-sz%64:Nat):Int).tmod 64=(((119-sz%64)%64:Nat):Int):=by rw[aH6 (by omega)];omega
 have rp:=j ((119-sz%64)%64) (by omega);have fl:(eu b st part (sz:Int)).all AV.C=eT:=by
  rw[a97];intro x L;unfold eu at L;rcases az4.mp L with h|h;·rw[h];rfl
  ·rcases aD3.mp h with h|h;·obtain⟨y,_,rfl⟩:=aC1.mp h;rfl
   ·rcases aD3.mp h with h|h;·unfold ofBytes at h;obtain⟨y,_,rfl⟩:=aC1.mp h;rfl
    ·rw[aB2.mp h];rfl
 have tk:(eu b st part (sz:Int)).take 74=eu b st part sz:=a95 (by omega);have Z:∀l:LA,z l=74->splice l 0 (eu b st part (sz:Int))=eu b st part sz:=λl S=>Hm _ _ (by rw[S,m]);have s:[(128:UInt8)]++List.replicate ((119-sz%64)%64) 0=a:=c.symm;have bs:∀y,sV .add [(128:UInt8)] (List.replicate ((119-sz%64)%64) 0)=y->y=J (.cV a):=by intro y V;rw[<-V];unfold sV;dsimp only;rw[if_neg (by simp;omega),s]
 have bs:=bs _ rfl;have z8:∀Y:St,Y++[AO.cH [.cU .u8 0,.cU .u8 0,.cU .u8 0,.cU .u8 0,.cU .u8 0,.cU .u8 0,.cU .u8 0,.cU .u8 0] FZ]=Y++[AO.cH (ofBytes (List.replicate 8 0)) FZ]:=λ_=>rfl;have A:(ofBytes d).take 8=ofBytes d:=a95 (by rw[aI];omega);have tp:Y++[AO.cH [] FZ]=pile Y 0 (.cH (ofBytes []) FZ):=rfl;have P:∀k x,(pile Y k x)[z O]?=J (.cH (eu eT r2.1 r2.2 ((sz+z a+z d:Nat):Int)) FZ):=λk x=>by unfold pile;refine II ?_ _;rw[i];exact II (mM _ _) _
 have B:∀co:Int,((eu eT r2.1 r2.2 co).drop 1).take 8=r2.1.map iw:=by intro co;unfold eu;rw[aF8,ay9,aC4 (by simp[a2.1]),a95 (by simp[a2.1])]
 have D:∀co:Int,8<=z ((eu eT r2.1 r2.2 co).drop 1):=by intro co;rw[aH7,pV a2.1 a2.2];omega
 have N:=vN (BN b st part sz);have bt:=vN d;have E:(ofBytes (BN b st part sz)).take (z (BN b st part sz))=ofBytes (BN b st part sz):=a95 (by rw[aI];omega);have pg:=λx=>NS Y 8 x;have ty:∀x,tidy (z O) [.cV (BN b st part sz)] (pile Y 8 x)=O:=λx=>by unfold pile;rw[i,ay2,ay2];exact Cj g rfl _
 have q:(0:Int)<=0/\(0:Int)<=32/\(32:Int)<=9223372036854775807/\(1:Int)*32<=140737488355328:=by decide
 have u:¬((64:Int)=0):=by decide
 have Q:=II K [AO.cH (eu b st part (sz:Int)) FZ];simp only[F7,K,Q,m,z1,fl,tk,Z,W,w0,w1,w2,X,rp,bs,q1,z8,q3,mM,sH,t,A,bt,q2,tp,q4,P,B,D,N,E,pg,ty,q,u,aI,aF4,Int.reduceMul,Int.reduceLE,EVY,Nat.reduceEqDiff,Nat.reduceSub,Nat.reduceGT,Nat.reduceLT,reduceIte,reduceCtorEq,Nat.reduceMul,Nat.reduceLeDiff,Int.reduceToNat,Int.reduceLE,Int.reduceLT,Int.reduceEq,Nat.reduceAdd,Int.reduceBNe,Int.reduceBEq,Int.reduceNeg]
def wP:LU:=List.replicate 64 0
def arX (a:Has C VN VA) (hi:C.gl zt=J (hI.map iw)) (O:St) (b:Ok O):
  ai C VN [] O=J (.c8 (z O) 0,O++[.cH (eu eT hI wP 0) FZ]):=by
 rw[a.cm];unfold Ey;have c:(hI.map iw).take 8=hI.map iw:=rfl;have d:z (hI.map iw)=8:=rfl;simp only[VA,hi,aD7,c,d,EVY,seval];rw[wW (by simp[ae,below])];rfl
def tN(s:LU):LU:=BN eT (rf (z s+1) hI wP 0 s).1 (rf (z s+1) hI wP 0 s).2 (z s)
structure QR(C:Ctx):Prop where
 eN:Has C VN VA
 lr:Has C GM F7
 hR:Has C yz uA
 mf:Has C uI uB
 mr:Has C bY dA
 lP:Has C Du abC
 h0:Has C sD SA
 g5:Has C Fp JZ
 gr:C.gl vU=some (kR.map iw)
 gi:C.gl zt=some (hI.map iw)
 gd:C.gl Fv=some (ofBytes hexDigits)
 nj:∀n:Nat,n<64->∀O,ai C qE [.cV [0],.cU .i64 n] O=some (.cV (List.replicate n 0),O)
def PN(h:QR C)(s:LU)(hs:z s<=1099511627776)(O:St)(a:Ok O):ai C Du [.cV s] O=J (.cV (tN s),O):=by
 rw[h.lP.cm];unfold Ey;have q0:=arX h.eN h.gi O a;have b:Ok (O++[.cH (eu eT hI wP (0:Nat)) FZ]):=a.eG (by simp[AL]);have q1:=Ws h.hR h.mf h.mr h.gr h.gi _ b (z O) eT hI wP 0 (mM _ _) rfl rfl (by omega) s hs;rw[sH]at q1;have e:xP eT hI=hI:=rfl;rw[e]at q1;have la:=sS (z s+1) hI wP (0%64) s rfl rfl (by omega);simp only[Nat.zero_mod,az5]at q1 la;obtain⟨f,hr⟩:∃f,f=rf (z s+1) hI wP 0 s:=⟨_,rfl⟩;rw[<-hr]at q1 la;have c:Ok (O++[.cH (eu eT f.1 f.2 (z s:Int)) FZ]):=a.eG (by simp[AL]);have q2:=apK h.lr h.hR h.mf h.mr h.gr h.gi h.nj _ c (z O) eT f.1 f.2 (z s) (mM _ _) la.1 la.2 (by omega);have e2:BN eT f.1 f.2 (z s)=tN s:=by unfold tN;rw[hr]
 rw[e2]at q2;have d:∀x,tidy (z O) [.cV (tN s)] (O++[x])=O:=λx=>Cj a rfl _;simp only[ay1]at q1;simp only[abC,q0,q1,q2,d,EVY,seval]
def qm(s:LU):z (tN s)=32:=by
 have la:=sS (z s+1) hI wP 0 s rfl rfl (by omega);unfold tN BN;have l1:(agM eT (rf (z s+1) hI wP 0 s).1 (rf (z s+1) hI wP 0 s).2 (z s)).1.length=8/\(agM eT (rf (z s+1) hI wP 0 s).1 (rf (z s+1) hI wP 0 s).2 (z s)).2.length=64:=sS _ _ _ _ _ (EI la.1) la.2 (by omega);have l2:=(sS (z (PM (z s))+1) _ _ ((z s+z (Oi (z s)))%64) (PM (z s)) l1.1 l1.2 (by omega)).1;have:∀l:List Wsh,z (l.flatMap be32)=4*z l:=by
  intro l
  induction l with
  |nil=>rfl|cons x l a=>rw[aC7,a04,a,a90];simp[be32];omega
 rw[this];unfold agN;rw[l2]
def aiK(s:LU):LU:=yU (tN s)
def aiL(h:QR C)(s:LU)(hs:z s<=1099511627776)(O:St)(a:Ok O):ai C sD [.cV s] O=J (.cV (aiK s),O):=by rw[h.h0.cm];unfold Ey;have q0:=PN h s hs O a;have q1:=hex_Encode h.g5 h.gd (tN s) (by rw[qm];omega) O a;simp only[SA,q0,q1,aiK,EVY,seval]
set_option maxRecDepth 1000000
noncomputable section
def H5:KF:=(.mk ?k:KsA 183 []).1
def rE:KC:=(.mk ?k:LsA 184 [] 0).1
attribute [local irreducible] rE
def IY:KF:=(.mk ?k:KsA 184 [rE]).1
def af1:KF:=(.mk ?k:KsA 111 []).1
def QO:KF:=(.mk ?k:KsA 185 []).1
def QP:KF:=(.mk ?k:KsA 186 []).1
end
end Go.Ev
