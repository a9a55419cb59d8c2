/- Contracts. No conditions. -/
import Derived.Test.YtaaomenfchndjaaGreatDoorCB
set_option linter.unusedVariables false
set_option linter.unusedSimpArgs false
set_option linter.defProp false
set_option maxRecDepth 1000000
open _root_ renaming Int→N,Nat→T,List→V,rfl→j0,reduceCtorEq→E,reduceIte→I,Bool→W,UInt8→c,Option→h
open Go.Ev renaming ofBytes→w8,splice→K,EVY→X,pile→w,Has→Y,binOp→f,wrE→L,freeze→R,KsA→b,a99→B,a90→Q,isStr→x,a01→p,LsA→i
open BitVec renaming ofInt→v
open Nat renaming reduceLeDiff→w9,reduceEqDiff→k9,reduceSub→j7,reduceMul→j8,reduceAdd→j9,reduceLT→F,reduceGT→H
open List renaming replicate→j6,drop_append_of_le_length→a,drop_append→P,map_take→K0,map_drop→g
open UInt8 renaming ofNat→e
open Int renaming reduceToNat→X1,reduceLE→X2,reduceLT→Z0,reduceNeg→Z1,reduceBNe→Z2,reduceBEq→Z3,reduceEq→Z6,natCast_pow→q,toNat_of_nonneg→d,natCast_ediv→s,pow_nonneg→D
open Min renaming min→y
namespace Go.Ev
open Option renaming some→J, none→U
open Go.IntKind renaming i64→r
open Bool renaming true→eT, false→eF
open List renaming length→z
noncomputable section
def qA:KF:=(.mk ?k:b 194 []).1
def CE:KC:=(.mk ?k:i 193 [] 0).1
attribute [local irreducible] CE
def aaO:KF:=(.mk ?k:b 193 [CE]).1
def wX:KC:=(.mk ?k:i 90 [] 0).1
attribute [local irreducible] wX
def Np:KF:=(.mk ?k:b 90 [wX]).1
end
noncomputable section
def dK:KF:=(.mk ?k:b 271 []).1
def kE:KC:=(.mk ?k:i 202 [] 0).1
attribute [local irreducible] kE
def mW:KC:=(.mk ?k:i 202 [kE] 1).1
attribute [local irreducible] mW
def pR:KC:=(.mk ?k:i 202 [kE,mW] 2).1
attribute [local irreducible] pR
def tV:KC:=(.mk ?k:i 202 [kE,mW,pR] 3).1
attribute [local irreducible] tV
def wV:KF:=(.mk ?k:b 202 [kE,mW,pR,tV]).1
def mF:KC:=(.mk ?k:i 142 [] 0).1
attribute [local irreducible] mF
def wU:KF:=(.mk ?k:b 142 [mF]).1
def pO:KC:=(.mk ?k:i 143 [] 0).1
attribute [local irreducible] pO
def tN:KC:=(.mk ?k:i 143 [pO] 1).1
attribute [local irreducible] tN
def IM:KF:=(.mk ?k:b 143 [pO,tN]).1
def Yc:KF:=(.mk ?k:b 141 []).1
def adI:KF:=(.mk ?k:b 91 []).1
def Vz:KF:=(.mk ?k:b 52 []).1
end
variable{C:Ctx}
abbrev Wsh:=BitVec 32
def iw(x:Wsh):AV:=.cQ .u32 (x.toNat:N)
def adV(np:W)(op:BinOp)(a:T)(c:W)(x:Wsh)(y:AV):CG np op a c (iw x) y=f op a c (iw x) y:=by cases np<;>rfl
def adf(x:Wsh):v 32 (x.toNat:N)=x:=by apply BitVec.eq_of_toNat_eq;rw[apN 32 x.toNat x.isLt]
def aaJ(x:Wsh):IntKind.u32.wrap (x.toNat:N)=(x.toNat:N):=atx .u32 j0 _ x.isLt
def aqU(b:W)(x y:Wsh):f .xor 0 b (iw x) (iw y)=J (iw (x^^^y)):=by show J (AV.cQ .u32 (IntKind.u32.wrap ((v 32 (x.toNat:N)^^^v 32 (y.toNat:N)).toNat:N)))=_;rw[adf,adf,aaJ];rfl
def axu(b:W)(x y:Wsh):f .and 0 b (iw x) (iw y)=J (iw (x&&&y)):=by show J (AV.cQ .u32 (IntKind.u32.wrap ((v 32 (x.toNat:N)&&&v 32 (y.toNat:N)).toNat:N)))=_;rw[adf,adf,aaJ];rfl
def aw8(b:W)(x y:Wsh):f .or 0 b (iw x) (iw y)=J (iw (x|||y)):=by show J (AV.cQ .u32 (IntKind.u32.wrap ((v 32 (x.toNat:N)|||v 32 (y.toNat:N)).toNat:N)))=_;rw[adf,adf,aaJ];rfl
def akA(b:W)(x y:Wsh):f .add 0 b (iw x) (iw y)=J (iw (x+y)):=by
 show J (AV.cQ .u32 (IntKind.u32.wrap ((x.toNat:N)+(y.toNat:N))))=_;have:IntKind.u32.wrap ((x.toNat:N)+(y.toNat:N))=((x+y).toNat:N):=by rw[IntKind.wrap_u32,BitVec.toNat_add];omega
 rw[this];rfl
def axv(x:Wsh):unOp .xor (iw x)=J (iw (~~~x)):=by
 show J (AV.cQ .u32 (IntKind.u32.wrap ((v 32 4294967295^^^v 32 (x.toNat:N)).toNat:N)))=_;rw[adf,aaJ];have:v 32 4294967295^^^x= ~~~x:=by rw[show v 32 4294967295=BitVec.allOnes 32 from j0,BitVec.allOnes_xor]
 rw[this];rfl
def aqS(b:W)(x:Wsh)(k:IntKind)(n:T):f .shl 0 b (iw x) (.cQ k (n:N))=J (iw (x<<<(y n 32))):=by
 show Ez .shl .u32 (x.toNat:N) (n:N)=_;unfold Ez;rw[if_neg (by omega)];show J (AV.cQ .u32 (IntKind.u32.wrap ((x.toNat:N)*2^(y n 32))))=_;have:IntKind.u32.wrap ((x.toNat:N)*2^(y n 32))=((x<<<(y n 32)).toNat:N):=by rw[IntKind.wrap_u32,BitVec.toNat_shiftLeft,Nat.shiftLeft_eq,Int.natCast_emod,Int.natCast_mul,q];rfl
 rw[this];rfl
def aqT(b:W)(x:Wsh)(k:IntKind)(n:T):f .shr 0 b (iw x) (.cQ k (n:N))=J (iw (x>>>(y n 32))):=by
 show Ez .shr .u32 (x.toNat:N) (n:N)=_;unfold Ez;rw[if_neg (by omega)];show J (AV.cQ .u32 ((x.toNat:N).fdiv (2^(y n 32))))=_;have:(x.toNat:N).fdiv (2^(y n 32))=((x>>>(y n 32)).toNat:N):=by rw[BitVec.toNat_ushiftRight,Nat.shiftRight_eq_div_pow,aG7 _ (D (by decide)),s,q];rfl
 rw[this];rfl
def rotl(x:Wsh)(n:T):Wsh:=(x<<<n)|||(x>>>(32-n))
def afz (d:Y C dH dK) (x:Wsh) (k:N) (n:T) (f:n<32)
  (e:IntKind.u64.wrap ((v IntKind.u64.bits (IntKind.u64.wrap k)&&&v IntKind.u64.bits 31).toNat:N)=(n:N)) (O:St):
  ai C dH [iw x,.cQ r k] O=J (iw (rotl x n),O):=by
 rw[d.cG];unfold GK;have c:IntKind.u64.wrap (32-(n:N))=((32-n:T):N):=by rw[wu64]<;>omega
 have h2:y n 32=n:=by omega
 have h3:y (32-n) 32=32-n:=by omega
 have a:∀O h,cu O h (iw x)=J (iw x,[]):=λ_ _=>by unfold iw cu;rfl
 have b:∀O h,cu O h (iw (x<<<n|||x>>>(32-n)))=J (iw (x<<<n|||x>>>(32-n)),[]):=λ_ _=>by unfold iw cu;rfl
 simp only[dK,e,c,aqS,aqT,aw8,h2,h3,a,b,rotl,adV,X,seval]
def Xl(x:Wsh):(iw x).cP=[iw x]:=j0
def aav(x:Wsh):(iw x).Q=eT:=j0
def auE(b:W)(x:Wsh)(k:IntKind)(z:N)(a:0<=z)(c:z<=32):f .shl 0 b (iw x) (.cQ k z)=J (iw (x<<<z.toNat)):=by
 have:=aqS b x k z.toNat
 rw[d a,aJ3 (by omega)]at this;exact this
def amz(b:W)(x:Wsh)(k:IntKind)(z:N)(a:0<=z)(c:z<=32):f .shr 0 b (iw x) (.cQ k z)=J (iw (x>>>z.toNat)):=by
 have:=aqT b x k z.toNat
 rw[d a,aJ3 (by omega)]at this;exact this
def wb(b:c):Wsh:=BitVec.ofNat 32 b.toNat
def aA1(b:c):AV.cQ .u32 (IntKind.u32.wrap (b.toNat:N))=iw (wb b):=by have a:b.toNat<256:=b.toNat_lt;unfold iw wb;rw[aAq (by omega) (by omega),BitVec.toNat_ofNat,Nat.mod_eq_of_lt (by omega)]
def Bl(l:V Wsh)(i:T)(h:i<z l):((l.map iw).drop i).head? =J (iw (l.getD i 0)):=by rw[aI3,aF7,p h,aD4,p h];rfl
def OA{a:Type}(f:a->AV)(l:V a)(i:T)(v:a)(h:i<z l):K (l.map f) i [f v]=(l.set i v).map f:=by unfold K;rw[List.set_eq_take_append_cons_drop,if_pos h];simp
def fP(b:W)(st:V Wsh)(part:LU)(sz:N):LA:=.cW b::(st.map iw++(w8 part++[.cQ r sz]))
def sH{b st part sz}(h8:z st=8)(a:z part=64):z (fP b st part sz)=74:=by simp[fP,aJ,h8,a]
def aks{b st part sz}(h8:z st=8)(a:z part=64)(i:T)(hi:i<64):((fP b st part sz).drop (9+i)).head? =J (.cQ .u8 ((part.getD i 0).toNat:N)):=by unfold fP w8;rw[aI3,show 9+i=(8+i)+1 by omega,aF1,aH8 (by simp[h8]),aC1 (by simp[h8,a];omega)];simp only[aD8,h8,aF7,show 8+i-8=i by omega];rw[p (by omega),aD4,p (by omega)];rfl
def aie{b st part sz}(h8:z st=8)(i:T)(hi:i<8):((fP b st part sz).drop (1+i)).head? =J (iw (st.getD i 0)):=by unfold fP;rw[aI3,aM1 1 i,aF1,aC1 (by simp[h8];omega),aF7,p (by omega),aD4,p (by omega)];rfl
def ao2{b st part sz}(h8:z st=8)(i:T)(hi:i<8)(v:Wsh):K (fP b st part sz) (1+i) [iw v]=fP b (st.set i v) part sz:=by unfold fP K;rw[aM1 1 i,aI1,show i+1+[iw v].length=(i+1)+1 from j0,aJ4,aF8 (by simp[h8];omega),a (by simp[h8];omega)];have:=OA iw st i v (by omega);unfold K at this;rw[<-this];simp
def pF(O:St)(x:AO):(O++[x])[z O]?=J x:=by simp
def vM(O:St)(x y:AO):(O++[x]).set (z O) y=O++[y]:=by simp
def KR{O:St}{o:T}{x:AO}(h:O[o]?=J x)(l:St):(O++l)[o]?=J x:=by have:o<z O:=(a00.mp h).1;rw[aC1 this,h]
def wordAt(part:LU)(i:T):Wsh:=wb (part.getD (4*i) 0)<<<24|||wb (part.getD (4*i+1) 0)<<<16|||wb (part.getD (4*i+2) 0)<<<8|||wb (part.getD (4*i+3) 0)
def abE(part:LU):T->T->V Wsh->V Wsh|0,_,w=>w|n+1,i,w=>abE part n (i+1) (w.set i (wordAt part i))
def aeF (b:W) (st:V Wsh) (part:LU) (sz:N) (O:St) (p:T) (d:O[p]?=J (.cP (fP b st part sz) FZ)) (h8:z st=8) (a:z part=64):
  ∀(n i:T) (w:V Wsh),i+n=16->z w=64->
  aG C (ai C) 213 [0,2,21] kE [(0,.da p 0),(2,.da (z O) 0),(21,.cQ r i)] (O++[.cP (w.map iw) FZ])=
   J (.dq 0,[(0,.da p 0),(2,.da (z O) 0)],O++[.cP ((abE part n i w).map iw) FZ])
 |0,i,w,hi,c=>by rw[mX (he:=j0)];have h:¬((i:N)<16):=(by omega);simp only[kE,h,abE,X,seval]
 |n+1,i,w,hi,c=>by
  rw[mX (he:=j0)];generalize k:aG C (ai C) 213 [0,2,21] kE=e;have h:((i:N)<16):=(by omega);have m:IntKind.i64.wrap (4*(i:N))=((4*i:T):N):=L (by omega);have o:IntKind.i64.wrap (((4*i:T):N)+1)=((4*i+1:T):N):=L (by omega);have q:IntKind.i64.wrap (((4*i:T):N)+2)=((4*i+2:T):N):=L (by omega);have s:IntKind.i64.wrap (((4*i:T):N)+3)=((4*i+3:T):N):=L (by omega);have t:=wrS i (by omega);have l:∀j:T,(0:N)<=(j:N):=λj=>by omega
  have l1:4*i<64:=(by omega);have l2:4*i+1<64:=(by omega);have l3:4*i+2<64:=(by omega);have l4:4*i+3<64:=(by omega);have l5:i<64:=(by omega);have l6:i+1<=64:=(by omega);have g:=KR d [.cP (w.map iw) FZ];have s1:=OA iw w i (wordAt part i) (by omega);unfold wordAt at s1;simp only[kE,h,m,o,q,s,t,l,l1,l2,l3,l4,l5,l6,g,c,aD8,aks h8 a,aA1,auE,aw8,Xl,aav,pF,vM,s1,Q,X2,X1,adV,X,seval];rw[<-k,aeF b st part sz O p d h8 a n (i+1) _ (by omega) (by rw[B,c])];rfl
def rot(a:Y C dH dK)(k:N)(n:T)(c:n<32)
 (b:IntKind.u64.wrap ((v IntKind.u64.bits (IntKind.u64.wrap k)&&&v IntKind.u64.bits 31).toNat:N)=(n:N)):
 ∀(x:Wsh) (O:St),ai C dH [iw x,.cQ r k] O=J (iw (rotl x n),O):=λx O=>afz a x k n c b O
def azk(x:Wsh):Wsh:=rotl x 25^^^rotl x 14^^^x>>>3
def aw2(x:Wsh):Wsh:=rotl x 15^^^rotl x 13^^^x>>>10
def arA(w:V Wsh)(i:T):Wsh:=w.getD (i-16) 0+azk (w.getD (i-15) 0)+w.getD (i-7) 0+aw2 (w.getD (i-2) 0)
def abH:T->T->V Wsh->V Wsh|0,_,w=>w|n+1,i,w=>abH n (i+1) (w.set i (arA w i))
def aeG (a:Y C dH dK) (O:St) (p:T):
  ∀(n i:T) (w:V Wsh),16<=i->i+n=64->z w=64->
  aG C (ai C) 213 [0,2,4] mW [(0,.da p 0),(2,.da (z O) 0),(4,.cQ r i)] (O++[.cP (w.map iw) FZ])=
   J (.dq 2,[(0,.da p 0),(2,.da (z O) 0)],O++[.cP ((abH n i w).map iw) FZ])
 |0,i,w,b,hi,c=>by rw[mX (he:=j0)];have h:¬((i:N)<64):=(by omega);simp only[mW,h,abH,X,k9,j7,H,F,I,E,j8,w9,X1,X2,Z0,Z6,j9,Z2,Z3,Z1]
 |n+1,i,w,b,hi,c=>by
  rw[mX (he:=j0)];generalize f:aG C (ai C) 213 [0,2,4] mW=d;have h:((i:N)<64):=(by omega);have k:IntKind.i64.wrap ((i:N)-15)=((i-15:T):N):=L (by omega);have l:IntKind.i64.wrap ((i:N)-2)=((i-2:T):N):=L (by omega);have m:IntKind.i64.wrap ((i:N)-16)=((i-16:T):N):=L (by omega);have o:IntKind.i64.wrap ((i:N)-7)=((i-7:T):N):=L (by omega);have q:=wrS i (by omega);have g:∀j:T,(0:N)<=(j:N):=λj=>by omega
  have l1:i-15<64:=(by omega);have l2:i-2<64:=(by omega);have l3:i-16<64:=(by omega);have l4:i-7<64:=(by omega);have l5:i<64:=(by omega);have l6:i+1<=64:=(by omega);have a1:=Bl w (i-15) (by omega);have a2:=Bl w (i-2) (by omega);have a3:=Bl w (i-16) (by omega);have a4:=Bl w (i-7) (by omega);have r1:=rot a (-7) 25 (by decide) (by decide);have r2:=rot a (-18) 14 (by decide) (by decide);have r3:=rot a (-17) 15 (by decide) (by decide);have r4:=rot a (-19) 13 (by decide) (by decide);have s1:=OA iw w i (arA w i) (by omega);unfold arA azk aw2 at s1;simp only[mW,h,k,l,m,o,q,g,l1,l2,l3,l4,l5,l6,c,a1,a2,a3,a4,r1,r2,r3,r4,aD8,amz,aqU,akA,Xl,aav,pF,vM,s1,Q,X2,X1,adV,X,k9,j7,H,F,I,E,j8,w9,X1,X2,Z0,Z6,j9,Z2,Z3,Z1];rw[<-f,aeG a O p n (i+1) _ (by omega) (by omega) (by rw[B,c])];rfl
def kR:V Wsh:=[0x428a2f98,0x71374491,0xb5c0fbcf,0xe9b5dba5,0x3956c25b,0x59f111f1,0x923f82a4,0xab1c5ed5,
 0xd807aa98,0x12835b01,0x243185be,0x550c7dc3,0x72be5d74,0x80deb1fe,0x9bdc06a7,0xc19bf174,
 0xe49b69c1,0xefbe4786,0x0fc19dc6,0x240ca1cc,0x2de92c6f,0x4a7484aa,0x5cb0a9dc,0x76f988da,
 0x983e5152,0xa831c66d,0xb00327c8,0xbf597fc7,0xc6e00bf3,0xd5a79147,0x06ca6351,0x14292967,
 0x27b70a85,0x2e1b2138,0x4d2c6dfc,0x53380d13,0x650a7354,0x766a0abb,0x81c2c92e,0x92722c85,
 0xa2bfe8a1,0xa81a664b,0xc24b8b70,0xc76c51a3,0xd192e819,0xd6990624,0xf40e3585,0x106aa070,
 0x19a4c116,0x1e376c08,0x2748774c,0x34b0bcb5,0x391c0cb3,0x4ed8aa4a,0x5b9cca4f,0x682e6ff3,
 0x748f82ee,0x78a5636f,0x84c87814,0x8cc70208,0x90befffa,0xa4506ceb,0xbef9a3f7,0xc67178f2]
def hI:V Wsh:=[0x6a09e667,0xbb67ae85,0x3c6ef372,0xa54ff53a,0x510e527f,0x9b05688c,0x1f83d9ab,0x5be0cd19]
def akh(w:V Wsh)(i:T)(e f g h:Wsh):Wsh:=h+(rotl e 26^^^rotl e 21^^^rotl e 7)+(e&&&f^^^ ~~~e&&&g)+kR.getD i 0+w.getD i 0
def awg(a b c:Wsh):Wsh:=(a&&&b^^^a&&&c^^^b&&&c)
def YK(w:V Wsh)(i:T)(s:V Wsh):V Wsh:=
 [akh w i (s.getD 4 0) (s.getD 5 0) (s.getD 6 0) (s.getD 7 0)+(rotl (s.getD 0 0) 30^^^rotl (s.getD 0 0) 19^^^rotl (s.getD 0 0) 10)+awg (s.getD 0 0) (s.getD 1 0) (s.getD 2 0),
  s.getD 0 0,s.getD 1 0,s.getD 2 0,s.getD 3 0+akh w i (s.getD 4 0) (s.getD 5 0) (s.getD 6 0) (s.getD 7 0),s.getD 4 0,s.getD 5 0,s.getD 6 0]
def Ou(w:V Wsh):T->T->V Wsh->V Wsh|0,_,s=>s|n+1,i,s=>Ou w n (i+1) (YK w i s)
def JK(l v:LA)(h:z l=z v):K l 0 v=v:=by unfold K;rw[List.take_zero,a88,aC4,aC0 (by omega),aB3]
def aeH (a:Has C dH dK) (b:C.gl yC=J (kR.map iw)) (Y:St) (p q:T) (w:V Wsh) (l:z w=64) (c:Y[q]?=J (.cP (w.map iw) FZ)):
  ∀(n i:T) (s:V Wsh),i+n=64->z s=8->
  aG C (ai C) 213 [0,2,9,115] pR [(0,.da p 0),(2,.da q 0),(9,.da (z Y) 0),(115,.cQ r i)] (Y++[.cP (s.map iw) FZ])=
   J (.dq 4,[(0,.da p 0),(9,.da (z Y) 0)],Y++[.cP ((Ou w n i s).map iw) FZ])
 |0,i,s,hi,hs=>by rw[mX (he:=j0)];have h:¬((i:N)<64):=(by omega);simp only[pR,h,Ou,X,k9,j7,H,F,I,E,j8,w9,X1,X2,Z0,Z6,j9,Z2,Z3,Z1]
 |n+1,i,s,hi,hs=>by
  rw[mX (he:=j0)];generalize k:aG C (ai C) 213 [0,2,9,115] pR=d;have h:((i:N)<64):=(by omega);have t:=wrS i (by omega);have m:∀j:T,(0:N)<=(j:N):=λj=>by omega
  have l5:i<64:=(by omega);have l6:i<=z kR:=by show i<=64;omega
  have a0:(s.map iw).head? =J (iw (s.getD 0 0)):=Bl s 0 (by omega);have a1:=Bl s 1 (by omega);have a2:=Bl s 2 (by omega);have a3:=Bl s 3 (by omega);have a4:=Bl s 4 (by omega);have a5:=Bl s 5 (by omega);have a6:=Bl s 6 (by omega);have a7:=Bl s 7 (by omega);have b1:=Bl w i (by omega);have e:=Bl kR i (by show i<64;omega);have r1:=rot a (-6) 26 (by decide) (by decide);have r2:=rot a (-11) 21 (by decide) (by decide);have r3:=rot a (-25) 7 (by decide) (by decide);have r4:=rot a (-2) 30 (by decide) (by decide);have r5:=rot a (-13) 19 (by decide) (by decide);have o:=rot a (-22) 10 (by decide) (by decide);have g:=KR c [.cP (s.map iw) FZ];have s1:K (s.map iw) 0 ((YK w i s).map iw)=(YK w i s).map iw:=JK _ _ (by simp[hs,YK]);unfold YK akh awg at s1;simp only[aC9,List.map_nil]at s1;simp only[pR,h,t,m,l5,l6,hs,g,b,aG9,a0,a1,a2,a3,a4,a5,a6,a7,b1,e,r1,r2,r3,r4,r5,o,aD8,aqU,akA,axu,axv,Xl,aav,pF,vM,s1,Q,X2,X1,adV,X,k9,j7,H,F,I,E,j8,w9,X1,X2,Z0,Z6,j9,Z2,Z3,Z1];rw[<-k];exact aeH a b Y p q w l c n (i+1) (YK w i s) (by omega) j0
def asD{O:St}{p:T}(a:p<z O)(x:AO)(l:St):(O.set p x++l)[p]?=J x:=by rw[aC1 (by rw[B];exact a),aH0 a]
def set_set{O:St}{p:T}(a:p<z O)(x y:AO)(l:St):(O.set p x++l).set p y=O.set p y++l:=by rw[aH7 _ _ (by rw[B];exact a),aF5]
def asE(O:St)(p:T)(x y:AO):(O.set p x++[y])[z O]?=J y:=by rw[aH8 (by rw[B];omega)];simp
def Ok.nk{O:St}(h:Ok O)(p:T){x:AO}(b:AO.below (z O) x=eT):Ok (O.set p x):=by
 unfold Ok;rw[B,aB0];intro y c;rcases List.mem_or_eq_of_mem_set c with a|a;·exact aB0.mp h y a
 ·rw[a];exact b
def abJ(s:V Wsh):T->T->V Wsh->V Wsh|0,_,st=>st|n+1,i,st=>abJ s n (i+1) (st.set i (st.getD i 0+s.getD i 0))
def aeI (b:W) (part:LU) (sz:N) (c:z part=64) (Y:St) (p:T) (d:p<z Y) (s:V Wsh) (hs:z s=8):
  ∀(n i:T) (st:V Wsh),i+n=8->z st=8->
  aG C (ai C) 213 [0,9,196] tV [(0,.da p 0),(9,.da (z Y) 0),(196,.cQ r i)] (Y.set p (.cP (fP b st part sz) FZ)++[.cP (s.map iw) FZ])=
   J (.dq 6,[],Y.set p (.cP (fP b (abJ s n i st) part sz) FZ)++[.cP (s.map iw) FZ])
 |0,i,st,hi,a=>by rw[mX (he:=j0)];have h:¬((i:N)<8):=(by omega);simp only[tV,h,abJ,EVQ,EVC,EVA,k9,zQ,eqA,dW,bC,uq,jI,pt,dG,j7,H,F,j9,hand,eX,bI,cu,R,I,E,lJ,jU,x,EN,rep,DU,Es,j8,w9]
 |n+1,i,st,hi,a=>by
  rw[mX (he:=j0)];generalize g:aG C (ai C) 213 [0,9,196] tV=e;have h:((i:N)<8):=(by omega);have m:=wrS i (by omega);have l:∀j:T,(0:N)<=(j:N):=λj=>by omega
  have l5:i<8:=(by omega);have l6:1+i+1<=74:=(by omega);have k:=sH (b:=b) (sz:=sz) a c;have a0:=Bl s i (by omega);have a1:=aie (b:=b) (part:=part) (sz:=sz) a i (by omega);have s1:=ao2 (b:=b) (part:=part) (sz:=sz) a i (by omega) (st.getD i 0+s.getD i 0);simp only[tV,h,m,l,l5,l6,k,a0,a1,s1,asD d,set_set d,asE,akA,Xl,aav,Q,adV,EVQ,EVC,EVA,k9,zQ,eqA,dW,bC,uq,jI,pt,dG,j7,H,F,j9,hand,eX,bI,cu,R,I,E,lJ,jU,x,EN,rep,DU,Es,j8,w9];rw[<-g];exact aeI b part sz c Y p d s hs n (i+1) _ (by omega) (by rw[B,a])
def Ya:V Wsh:=j6 64 0
def akJ(st:V Wsh)(part:LU):V Wsh:=abJ (Ou (abH 48 16 (abE part 16 0 Ya)) 64 0 st) 8 0 st
def WM(part:LU):∀(n i:T) (w:V Wsh),z (abE part n i w)=z w|0,_,_=>j0|n+1,i,w=>by unfold abE;rw[WM part n,B]
def WN:∀(n i:T) (w:V Wsh),z (abH n i w)=z w|0,_,_=>j0|n+1,i,w=>by unfold abH;rw[WN n,B]
def WO(s:V Wsh):∀(n i:T) (w:V Wsh),z (abJ s n i w)=z w|0,_,_=>j0|n+1,i,w=>by unfold abJ;rw[WO s n,B]
def QB(w:V Wsh):∀(n i:T) (s:V Wsh),z s=8->z (Ou w n i s)=8|0,_,_,h=>h|n+1,i,s,_=>by unfold Ou;exact QB w n _ _ j0
def ZH{st:V Wsh}(h:z st=8)(part:LU):z (akJ st part)=8:=by unfold akJ;rw[WO,h]
def adW(n:T):∀l:V Wsh,ae n (l.map iw)=eT|[]=>j0|x::l=>by rw[aC9];unfold ae;rw[adW n l];rfl
def TN(n:T):∀l d:LA,ae n (l++d)=(ae n l&&ae n d)
 |[],d=>by simp[ae]
 |x::l,d=>by simp[ae,TN n l d,Bool.and_assoc]
def Dl(n:T)(b st part sz):AO.below n (.cP (fP b st part sz) FZ)=eT:=by unfold AO.below fP;simp[ae,below,TN,adW,nT]
def avo (q:Y C xn wV) (n:Y C dH dK) (t:C.gl yC=J (kR.map iw))
  (O:St) (l:Ok O) (p:T) (b:W) (st:V Wsh) (part:LU) (sz:N) (j:O[p]?=J (.cP (fP b st part sz) FZ)) (h8:z st=8) (c:z part=64):
  ai C xn [.da p 0] O=J (.de [],O.set p (.cP (fP b (akJ st part) part sz) FZ)):=by
 rw[q.cG];unfold GK;have e:p<z O:=(a00.mp j).1;obtain⟨h,d⟩:∃h,h=abE part 16 0 Ya:=⟨_,j0⟩;obtain⟨w,k⟩:∃w,w=abH 48 16 h:=⟨_,j0⟩;obtain⟨s,hs⟩:∃s,s=Ou w 64 0 st:=⟨_,j0⟩;obtain⟨a,f⟩:∃a,a=abJ s 8 0 st:=⟨_,j0⟩;have g:z h=64:=by rw[d,WM];rfl
 have A:z w=64:=by rw[k,WN,g]
 have ls:z s=8:=by rw[hs];exact QB w 64 0 st h8
 have u:akJ st part=a:=by unfold akJ;rw[f,hs,k,d]
 rw[u];have q0:=aeF (C:=C) b st part sz O p j h8 c 16 0 Ya (by omega) (by unfold Ya;rw[List.length_replicate]);have q1:=aeG n O p 48 16 h (by omega) (by omega) g;have q2:=aeH n t (O++[.cP (w.map iw) FZ]) p (z O) w A (by rw[pF]) 64 0 st (by omega) h8;have q3:=aeI (C:=C) b part sz c (O++[.cP (w.map iw) FZ]) p (by rw[a03];omega) s ls 8 0 st (by omega) h8;rw[<-d]at q0;rw[<-k]at q1;rw[<-hs]at q2;rw[<-f]at q3;have e1:(O++[AO.cP (w.map iw) FZ]).set p (.cP (fP b st part sz) FZ)=O++[AO.cP (w.map iw) FZ]:=by rw[aH7 _ _ e,<-(a00.mp j).2,List.set_getElem_self]
 rw[e1]at q3;rw[aH7 _ _ e]at q3;have i:O++[AO.cP (j6 64 (AV.cQ .u32 0)) FZ]=O++[.cP (Ya.map iw) FZ]:=j0;simp only[List.reduceReplicate]at i;have o:=KR j [AO.cP (w.map iw) FZ];have tk:8<=z ((fP b st part sz).drop 1):=by rw[aL7,sH h8 c];omega
 have m:((fP b st part sz).drop 1).take 8=st.map iw:=by unfold fP;rw[aJ4,aB8,aF8 (by simp[h8]),a98 (by simp[h8])]
 have fl:(st.map iw).all AV.Q=eT:=by rw[aB0];intro x v;obtain⟨y,_,rfl⟩:=aE8.mp v;rfl
 have B:K [AV.cQ .u32 0,AV.cQ .u32 0,AV.cQ .u32 0,AV.cQ .u32 0,AV.cQ .u32 0,AV.cQ .u32 0,AV.cQ .u32 0,AV.cQ .u32 0] 0 (st.map iw)=st.map iw:=JK _ _ (by simp[h8]);have D:tidy (z O) [] (O.set p (.cP (fP b a part sz) FZ)++[.cP (w.map iw) FZ]++[.cP (s.map iw) FZ])=O.set p (.cP (fP b a part sz) FZ):=by have:=ED (l.nk p (Dl (z O) b a part sz)) (vs:=[]) j0 ([.cP (w.map iw) FZ]++[.cP (s.map iw) FZ]);rw[a99,<-aB2]at this;exact this
 simp only[aB1]at q0 q1 q2 q3;simp only[wV,i,q0,q1,q2,q3,o,tk,m,fl,B,D,h8,aD8,pF,vM,EVQ,EVC,EVA,k9,zQ,eqA,dW,bC,uq,jI,pt,dG,j7,H,F,j9,hand,eX,bI,cu,R,I,E,lJ,jU,isStr,EN,rep,DU,Es,j8,w9]
def lay(part:LU)(used:T)(s:LU):LU:=part.take used++s++part.drop (used+z s)
def uI:T->V Wsh->LU->T->LU->V Wsh×LU
 |0,st,part,_,_=>(st,part)
 |n+1,st,part,a,s=>
  if s=[]then(st,part)else
  if a+y (z s) (64-a)=64 then
   uI n (akJ st (lay part a (s.take (y (z s) (64-a))))) (lay part a (s.take (y (z s) (64-a)))) 0 (s.drop (y (z s) (64-a)))
  else(st,lay part a (s.take (y (z s) (64-a))))
def U5{part s:LU}{used:T}(h:used+z s<=z part):z (lay part used s)=z part:=by simp[lay];omega
def ao1{b st part sz}(h8:z st=8){used:T}{s:LU}(h:used+z s<=z part):K (fP b st part sz) (9+used) (w8 s)=fP b st (lay part used s) sz:=by
 unfold fP K lay;rw[show 9+used=(8+used)+1 by omega,aI1,show(8+used)+1+z (w8 s)=(8+used+z s)+1 by rw[aJ];omega,aJ4];have e1:(st.map iw++(w8 part++[AV.cQ r sz])).take (8+used)=st.map iw++w8 (part.take used):=by rw[List.take_append,a98 (by simp[h8])];simp only[aD8,h8,Nat.add_sub_cancel_left];rw[aF8 (by rw[aJ];omega)];unfold w8;rw[K0]
 have e2:(st.map iw++(w8 part++[AV.cQ r sz])).drop (8+used+z s)=w8 (part.drop (used+z s))++[AV.cQ r sz]:=by rw[P,aC0 (by simp[h8];omega)];simp only[aD8,h8,a88,show 8+used+z s-8=used+z s by omega];rw[a (by rw[aJ];omega)];unfold w8;rw[g]
 rw[e1,e2];simp[w8]
def JJ (o:Y C xn wV) (q:Y C dH dK) (t:C.gl yC=J (kR.map iw))
  (b:W) (sz:N) (O:St) (f:Ok O) (p:T) (u:p<z O):
  ∀(n:T) (s:LU) (st:V Wsh) (part:LU) (used:T),z s<n->used<64->z s<=1099511627776->z st=8->z part=64->
  aG C (ai C) 55 [0,1,5] mF [(0,.da p 0),(1,.cU s),(5,.cQ r used)] (O.set p (.cP (fP b st part sz) FZ))=
   J (.dq 0,[],O.set p (.cP (fP b (uI n st part used s).1 (uI n st part used s).2 sz) FZ))
 |0,s,_,_,_,H,_,_,_,_=>absurd H (by omega)
 |n+1,s,st,part,used,H,Q,P,h8,c=>by
  rw[mX (he:=j0)];generalize G:aG C (ai C) 55 [0,1,5] mF=L;by_cases hs:s=[];·subst hs;simp only[mF,uI,Z0,X,seval]
  ·have I:0<z s:=List.length_pos_iff.mpr hs;have F:((z s:N)>0):=(by omega);obtain⟨k,g⟩:∃k,k=min (z s) (64-used):=⟨_,j0⟩;have K:k<=z s:=(by omega);have R:used+k<=64:=(by omega);have S:0<k:=(by omega);have e:=sH (b:=b) (sz:=sz) h8 c;have m:∀x,(O.set p x)[p]?=J x:=λx=>aH0 u;have y:used<=64:=(by omega);have A:¬used=64:=(by omega);have B:(0:N)<=(used:N):=(by omega);have D:9+used+k<=74:=(by omega);have j:(w8 s).take k=w8 (s.take k):=by unfold w8;rw[K0]
   have d:=ao1 (b:=b) (sz:=sz) h8 (used:=used) (s:=s.take k) (part:=part) (by rw[aD7,c];omega);have E:(0:N)<=(k:N):=(by omega);have M:IntKind.i64.wrap ((used:N)+(k:N))=((used+k:T):N):=wrE (by omega);have l:s.take (z s)=s:=aK8;have v:z (lay part used (s.take k))=64:=(by rw[U5 (by rw[aD7,c];omega),c]);have w:Ok (O.set p (.cP (fP b st (lay part used (s.take k)) sz) FZ)):=f.nk p (Dl _ _ _ _ _);by_cases a:used+k=64
   ·have b1:((((used+k:T):N)==64))=eT:=by rw[a];rfl
    have h:=avo o q t (O.set p (.cP (fP b st (lay part used (s.take k)) sz) FZ)) w p b st (lay part used (s.take k)) sz (m _) h8 v;rw[aF5]at h;simp only[mF,uI,hs,F,m,e,y,A,B,D,E,<-g,j,d,M,l,a,h,AQ,aF5,a90,K,X,seval];rw[<-G];have:=JJ o q t b sz O f p u n (s.drop k) (akJ st (lay part used (s.take k))) (lay part used (s.take k)) 0 (by rw[aL7];omega) (by omega) (by rw[aL7];omega) (ZH h8 _) v;simp only[aB1]at this;exact this
   ·have b1:((((used+k:T):N)==64))=eF:=by rw[beq_eq_false_iff_ne];omega
    have i:s.drop k=[]:=aC0 (by omega);simp only[mF,uI,hs,F,m,e,y,A,B,D,E,<-g,j,d,M,l,b1,a,AQ,aF5,a90,K,X,seval];rw[<-G,i];have:=JJ o q t b sz O f p u n [] st (lay part used (s.take k)) (used+k) (by simp;omega) (by omega) (by simp) h8 v;rw[this];cases n<;>rfl
def abY{b st part sz}:(fP b st part sz).head? =J (.cW b):=j0
def U1{b st part sz}(h8:z st=8)(a:z part=64):((fP b st part sz).drop 73).head? =J (.cQ r sz):=by unfold fP;rw[aI3,aF1,aH8 (by simp[h8]),aH8 (by simp[h8,a,aJ])];simp[h8,a,aJ]
def Ue{b st part sz}(h8:st.length=8)(a:part.length=64)(z:N):K (fP b st part sz) 73 [.cQ r z]=fP b st part z:=by unfold fP K;rw[aI1,show 73+[AV.cQ r z].length=73+1 from j0,aJ4,<-aB2,aF8 (by simp[h8,a,aJ]),a98 (by simp[h8,a,aJ]),aC0 (by simp[h8,a,aJ])];simp
def Af(b:W)(st:V Wsh):V Wsh:=if b then st else hI
def G7{b:W}{st:V Wsh}(h8:z st=8):z (Af b st)=8:=by cases b<;>simp[Af,h8,hI]
def YO (v:Y C AB wU) (w:Y C xn wV) (y:Y C dH dK) (A:C.gl yC=J (kR.map iw)) (hi:C.gl BH=J (hI.map iw))
  (O:St) (j:Ok O) (p:T) (b:W) (st:V Wsh) (part:LU) (sz:T) (i:O[p]?=J (.cP (fP b st part sz) FZ)) (h8:z st=8) (a:z part=64) (D:sz<=4398046511104)
  (s:LU) (B:z s<=1099511627776):
  ai C AB [.da p 0,.cU s] O=J (.cQ r 0,O.set p (.cP (fP eT (uI (z s+1) (Af b st) part (sz%64) s).1 (uI (z s+1) (Af b st) part (sz%64) s).2 ((sz+z s:T):N)) FZ)):=by
 rw[v.cG];unfold GK;have d:p<z O:=(a00.mp i).1;have u:∀x,(O.set p x)[p]?=J x:=λx=>aH0 d;have o:((sz:N)).tmod 64=((sz%64:T):N):=by rw[aL4 (by omega)];omega
 have t:IntKind.i64.wrap ((sz:N)+(z s:N))=((sz+z s:T):N):=L (by omega);have q:=JJ w y A eT ((sz+z s:T):N) O j p d (z s+1) s (Af b st) part (sz%64) (by omega) (by omega) B (G7 h8) a;have f:¬((64:N)=0):=by decide
 have n:∀x,tidy (z O) [.cQ r 0] (O.set p x)=O.set p x:=λx=>by have:=FI (O.set p x) [.cQ r 0];rw[a99]at this;exact this
 cases b with
 |true=>have c:=sH (b:=eT) (sz:=sz) h8 a;have l:=U1 (b:=eT) (sz:=sz) h8 a;have m:=Ue (b:=eT) (sz:=sz) h8 a ((sz+z s:T):N);have k:=abY (b:=eT) (st:=st) (part:=part) (sz:=sz);have e:Af eT st=st:=j0;rw[e]at q⊢;simp only[wU,i,k,l,m,c,o,t,f,q,n,X,seval]
 |false=>
  have e:Af eF st=hI:=j0;have c:=sH (b:=eF) (sz:=sz) h8 a;have g:=sH (b:=eT) (sz:=sz) h8 a;have h:=sH (b:=eT) (sz:=sz) (st:=hI) j0 a;have k:=abY (b:=eF) (st:=st) (part:=part) (sz:=sz);have l:=U1 (b:=eT) (sz:=sz) (st:=hI) j0 a;have m:=Ue (b:=eT) (sz:=sz) (st:=hI) j0 a ((sz+z s:T):N);have E:K (fP eF st part sz) 0 [.cW eT]=fP eT st part sz:=j0;have F:K (fP eT st part sz) 1 (hI.map iw)=fP eT hI part sz:=by unfold fP K;rw[aI1,show 1+z (hI.map iw)=8+1 from j0,aJ4,P,aC0 (by simp[h8])];simp[h8]
  have z5:8<=z (hI.map iw):=(by decide);have G:(hI.map iw).take 8=hI.map iw:=j0;have H:z (hI.map iw)=8:=j0;have I:(hI.map iw).all AV.Q=eT:=j0;rw[e]at q⊢;simp only[wU,i,hi,aG9,k,l,m,E,F,G,H,I,c,g,h,o,t,f,q,u,n,aF5,X,seval]
def hexV(b:c):h T:=
 if 48<=b.toNat/\b.toNat<=57 then J (b.toNat-48)else if 97<=b.toNat/\b.toNat<=102 then J (b.toNat-87)else U
def Uf(s:LU)(i:N):h T:=
 if i<0 then U else s[i.toNat]?.bind hexV
def Qp(o:h T):AV:=
 .de [.cQ r (o.getD 0:T),.cW o.isSome]
def MN (g:Y C qI qA) (s:LU) (i:N) (O:St):
  ai C qI [.cU s,.cQ r i] O=J (Qp (Uf s i),O):=by
 rw[g.cG];unfold GK;by_cases a:i<0;·simp only[qA,a,Uf,Qp,X,seval];rfl
 ·by_cases c:(z s:N)<=i;·have h2:s[i.toNat]?=U:=aB9 (by omega);simp only[qA,a,c,h2,Uf,Qp,X,seval];rfl
  ·have h2:i.toNat<z s:=(by omega);have h3:0<=i:=(by omega);obtain⟨b,hb⟩:∃b,s[i.toNat]?=J b:=⟨_,p h2⟩;have h:b.toNat<256:=b.toNat_lt;have d:((48:N)<=b.toNat)=(48<=b.toNat):=by simp;omega
   have hB:((b.toNat:N)<=57)=(b.toNat<=57):=by simp;omega
   have e:((97:N)<=b.toNat)=(97<=b.toNat):=by simp;omega
   have f:((b.toNat:N)<=102)=(b.toNat<=102):=by simp;omega
   have hv:Uf s i=hexV b:=(by simp[Uf,a,hb]);rw[hv];by_cases h4:48<=b.toNat
   ·by_cases h5:b.toNat<=57;·have e1:IntKind.u8.wrap ((b.toNat:N)-48)=((b.toNat-48:T):N):=(by rw[wu8]<;>omega);have e2:IntKind.i64.wrap ((b.toNat-48:T):N)=((b.toNat-48:T):N):=L (by omega);simp only[qA,a,c,h3,hb,h4,h5,d,hB,e1,e2,X,seval];simp[Qp,hexV,h4,h5]
    ·by_cases h6:97<=b.toNat
     ·by_cases h7:b.toNat<=102;·have e1:IntKind.u8.wrap ((b.toNat:N)-97)=((b.toNat-97:T):N):=(by rw[wu8]<;>omega);have e2:IntKind.i64.wrap ((b.toNat-97:T):N)=((b.toNat-97:T):N):=L (by omega);have e3:IntKind.i64.wrap (((b.toNat-97:T):N)+10)=((b.toNat-87:T):N):=L (by omega);simp only[qA,a,c,h3,hb,h4,h5,h6,h7,d,hB,e,f,e1,e2,e3,X,seval];simp[Qp,hexV,h4,h5,h6,h7]
      ·simp only[qA,a,c,h3,hb,h4,h5,h6,h7,d,hB,e,f,X,seval];simp[Qp,hexV,h4,h5,h6,h7]
     ·simp only[qA,a,c,h3,hb,h4,h5,h6,d,hB,e,X,seval];simp[Qp,hexV,h4,h5,h6]
   ·have h6:¬97<=b.toNat:=(by omega);simp only[qA,a,c,h3,hb,h4,h6,d,e,X,seval];simp[Qp,hexV,h4,h6]
def ac1(b:c):W:=(hexV b).isSome
def aqQ{s:LU}{i:T}{b:c}(h:s[i]?=J b):(Uf s i).isSome=ac1 b:=by
 have:¬((i:N)<0):=by omega
 simp[Uf,h,ac1,this]
def Zy (b:Y C qI qA) (s:LU) (hs:z s<=1099511627776) (O:St):∀(n i:T),i+n=z s->
  aG C (ai C) 20 [0,7,8] CE [(0,.cU s),(7,.cQ r (z s)),(8,.cQ r i)] O=
   if(s.drop i).all ac1 then J (.dq 0,[],O)else J (.ea,[(2,.cW eF)],O)
 |0,i,hi=>by rw[mX (he:=j0)];have h:¬((i:N)<(z s:N)):=(by omega);have a:s.drop i=[]:=aC0 (by omega);simp only[CE,h,a,aC6,X,seval]
 |n+1,i,hi=>by
  rw[mX (he:=j0)];generalize e:aG C (ai C) 20 [0,7,8] CE=k;have h:((i:N)<(z s:N)):=(by omega);have h2:i<z s:=(by omega);have hb:s[i]?=J s[i]:=p h2;have a:s.drop i=s[i]::s.drop (i+1):=aB6 h2;have f:=wrS i (by omega);rw[a,a08,<-aqQ hb];cases c:(Uf s i).isSome;·simp only[CE,h,MN b,Qp,c,aJ0,X,seval]
  ·simp only[CE,h,MN b,Qp,c,f,aE0,X,seval];rw[<-e,Zy b s hs O n (i+1) (by omega)]
def axl (b:Y C PY aaO) (c:Y C qI qA) (s:LU) (hs:z s<=1099511627776) (O:St):
  ai C PY [.cU s] O=J (.cW (s.all ac1),O):=by
 rw[b.cG];unfold GK;have:=Zy c s hs O (z s) 0 (by omega);simp only[aB1,aB8,X,seval]at this;cases a:s.all ac1;·rw[a]at this;simp only[aaO,this,X,seval]
 ·rw[a]at this;simp only[aaO,this,X,seval]
def aif(n:T):c:=if n<10 then e (48+n)else e (87+n)
def hexDigits:LU:=[48,49,50,51,52,53,54,55,56,57,97,98,99,100,101,102]
def aq7(b:c):LU:=[aif (b.toNat/16),aif (b.toNat%16)]
def Bj(s:LU):LU:=s.flatMap aq7
def ams(n:T)(h:n<16):((w8 hexDigits).drop n).head? =J (.cQ .u8 (aif n).toNat):=by
 have:∀n:Fin 16,((hexDigits.drop n.1).head?).map (λb=>(AV.cQ .u8 (b.toNat:Int)))=J (.cQ .u8 ((aif n.1).toNat:N)):=by intro n;obtain⟨n,c⟩:=n;rcases(by omega:n=0\/n=1\/n=2\/n=3\/n=4\/n=5\/n=6\/n=7\/n=8\/n=9\/n=10\/n=11\/n=12\/n=13\/n=14\/n=15)with h|h|h|h|h|h|h|h|h|h|h|h|h|h|h|h<;>subst h<;>rfl
 have:=this ⟨n,h⟩;unfold w8;rw[<-g,List.head?_map];exact this
def adO {tg:h (TypeId×W)} (O:St) (k:T) (acc cs:LU) (m:T) (c:z cs=m) (e:0<m) (b:z acc+m<=70368744177664):
  uD (w O k (.cP (w8 acc) FZ)) 1 1 tg (.dj (z O+k) 0 (z acc) 1) m (w8 cs)=J (.dj (z O+(k+1)) 0 (z (acc++cs)) 1,w O (k+1) (.cP (w8 (acc++cs)) FZ)):=by
 have a:¬m=0:=by omega
 have d:(if U=tg then tg else U)=U:=by split<;>simp_all
 unfold uD;rw[if_neg a];simp only[Qs];rw[if_pos ⟨trivial,by rw[aJ];omega,by omega,b⟩,aiJ,ZN,Qn,a03,c,d]
def OX (g:C.gl Ie=J (w8 hexDigits)) (s:LU) (hs:z s<=1099511627776) (O:St):∀(n i k:T) (acc:LU),i+n=z s->z acc=2*i->
  aG C (ai C) 32 [0,3,4] wX [(0,.cU s),(3,.dj (z O+k) 0 (z acc) 1),(4,.cQ r i)] (w O k (.cP (w8 acc) FZ))=
   J (.dq 0,[(3,.dj (z O+(k+n)) 0 (z (acc++Bj (s.drop i))) 1)],w O (k+n) (.cP (w8 (acc++Bj (s.drop i))) FZ))
 |0,i,k,acc,hi,f=>by rw[mX (he:=j0)];have h:¬((i:N)<(z s:N)):=(by omega);have c:s.drop i=[]:=aC0 (by omega);simp only[wX,h,c,Bj,aK7,aL1,EVQ,EVC,EVA,k9,zQ,eqA,dW,bC,uq,jI,pt,dG,j7,H,F,j9,hand,eX,bI,cu,R,I,E,lJ,jU,x,EN,rep,DU,Es,j8,w9]
 |n+1,i,k,acc,hi,f=>by
  rw[mX (he:=j0)];generalize o:aG C (ai C) 32 [0,3,4] wX=j;have h:((i:N)<(z s:N)):=(by omega);have h2:i<z s:=(by omega);have hb:s[i]?=J s[i]:=a01 h2;have c:s.drop i=s[i]::s.drop (i+1):=aB6 h2;have p:=wrS i (by omega);rw[c];generalize s[i]=b at hb;have d:b.toNat<256:=b.toNat_lt;have l:(0:N)<=i:=(by omega);have e1:((b.toNat:N)).fdiv (2^(y (4:N).toNat IntKind.u8.bits))=((b.toNat/16:T):N):=by show((b.toNat:N)).fdiv 16=_;rw[aG7 _ (by omega)];omega
  have e2:IntKind.u8.wrap ((v IntKind.u8.bits (b.toNat:N)&&&v IntKind.u8.bits 15).toNat:N)=((b.toNat%16:T):N):=by have:=apv .u8 j0 b.toNat 15 d (by decide);rw[show((15:T):N)=15 from j0]at this;rw[this,show 15=2^4-1 from j0,Nat.and_two_pow_sub_one_eq_mod]
  have e3:(0:N)<=((b.toNat/16:T):N):=(by omega);have e4:(0:N)<=((b.toNat%16:T):N):=(by omega);have e5:(((b.toNat/16:T):N)).toNat<16/\(((b.toNat/16:T):N)).toNat*1<=z (w8 hexDigits):=by rw[aJ];simp[hexDigits];omega
  have e:(((b.toNat%16:T):N)).toNat<16/\(((b.toNat%16:T):N)).toNat*1<=z (w8 hexDigits):=by rw[aJ];simp[hexDigits];omega
  have d1:((w8 hexDigits).drop ((((b.toNat/16:T):N)).toNat*1)).head? =J (.cQ .u8 (aif (b.toNat/16)).toNat):=by rw[Q,aD2];exact ams _ (by omega)
  have d2:((w8 hexDigits).drop ((((b.toNat%16:T):N)).toNat*1)).head? =J (.cQ .u8 (aif (b.toNat%16)).toNat):=by rw[Q,aD2];exact ams _ (by omega)
  have q:¬((4:N)<0):=(by decide);have t:((i:N)).toNat=i:=Q i;have a:∀tg,uD (w O k (.cP (w8 acc) FZ)) 1 1 tg (.dj (z O+k) 0 (z acc) 1) 2 [.cQ .u8 (aif (b.toNat/16)).toNat,.cQ .u8 (aif (b.toNat%16)).toNat]=_:=λtg=>adO O k acc (aq7 b) 2 j0 (by omega) (by omega);simp only[Q,aD2]at e5 e d1 d2;simp only[wX,h,l,hb,t,p,q,e1,e2,e3,e4,e5,e,d1,d2,g,a,Q,aG9,EVQ,EVC,EVA,k9,zQ,eqA,dW,bC,uq,jI,pt,dG,j7,H,F,j9,hand,eX,bI,cu,R,I,E,lJ,jU,x,EN,rep,DU,Es,j8,w9];rw[<-o,OX g s hs O n (i+1) (k+1) (acc++aq7 b) (by omega) (by rw[a03,f];simp[aq7];omega)];simp[Bj,aI8,aM1 1 n]
def hex_Encode (c:Y C Ib Np) (e:C.gl Ie=J (w8 hexDigits)) (s:LU) (hs:z s<=1099511627776) (O:St) (a:Ok O):
  ai C Ib [.cU s] O=J (.cU (Bj s),O):=by
 rw[c.cG];unfold GK;have b:=OX e s hs O (z s) 0 0 [] (by omega) j0;have h:IntKind.i64.wrap (2*(z s:N))=((2*z s:T):N):=L (by omega);have f:O++[AO.cP [] FZ]=w O 0 (.cP (w8 []) FZ):=j0;have d:(0:N)<=0/\(0:N)<=((2*z s:T):N)/\((2*z s:T):N)<=9223372036854775807/\(1:N)*((2*z s:T):N)<=140737488355328:=by omega
 simp only[aB8,a88,aC4,a96,aL1,aB1]at b;have hb:=yx (Bj s);have g:(w8 (Bj s)).take (z (Bj s))=w8 (Bj s):=a98 (by rw[aJ];omega);have i:tidy (z O) [.cU (Bj s)] (w O (z s) (.cP (w8 (Bj s)) FZ))=O:=aff a j0 _ _;simp only[Np,h,d,f,b,hb,g,i,Qs,aJ,aH2,EVQ,EVC,EVA,k9,zQ,eqA,dW,bC,uq,jI,pt,dG,j7,H,F,j9,hand,eX,bI,cu,R,I,E,lJ,jU,x,EN,rep,DU,Es,j8,w9]
def ax1(len i:T):c:=e (len/2^(56-8*i))
def abL(len:T):T->T->LU->LU|0,_,t=>t|n+1,i,t=>abL len n (i+1) (t.set i (ax1 len i))
def Z4(l:LU)(i:T)(v:c)(h:i<z l):K (w8 l) i [.cQ .u8 (v.toNat:N)]=w8 (l.set i v):=OA (λb:c=>AV.cQ .u8 (b.toNat:N)) l i v h
def awy(n:T):IntKind.u8.wrap (n:N)=((e n).toNat:N):=by rw[IntKind.wrap_u8,UInt8.toNat_ofNat'];omega
def Us (Y:St) (p len:T):
  ∀(n i:T) (t:LU),i+n=8->z t=8->
  aG C (ai C) 69 [3,4,5,31] pO [(3,.da p 0),(4,.cQ .u64 len),(5,.da (z Y) 0),(31,.cQ r i)] (Y++[.cP (w8 t) FZ])=
   J (.dq 0,[(3,.da p 0),(5,.da (z Y) 0)],Y++[.cP (w8 (abL len n i t)) FZ])
 |0,i,t,hi,a=>by rw[mX (he:=j0)];have h:¬((i:N)<8):=(by omega);simp only[pO,h,abL,X,seval]
 |n+1,i,t,hi,a=>by
  rw[mX (he:=j0)];generalize d:aG C (ai C) 69 [3,4,5,31] pO=b;have h:((i:N)<8):=(by omega);have k:IntKind.i64.wrap (8*(i:N))=((8*i:T):N):=L (by omega);have l:IntKind.i64.wrap (56-((8*i:T):N))=((56-8*i:T):N):=L (by omega);have m:=wrS i (by omega);have f:∀j:T,(0:N)<=(j:N):=λj=>by omega
  have g:∀j:T,¬((j:N)<0):=λj=>by omega
  have e:y (56-8*i) IntKind.u64.bits=56-8*i:=by show y (56-8*i) 64=_;omega
  have f1:(len:N).fdiv (2^(56-8*i))=((len/2^(56-8*i):T):N):=by rw[aG7 _ (D (by decide)),s,q];rfl
  have l5:i<8:=(by omega);have l6:i+1<=8:=(by omega);have s1:=Z4 t i (ax1 len i) (by omega);unfold ax1 at s1;simp only[pO,h,k,l,m,f,g,e,f1,awy,l5,l6,s1,a,aJ,pF,vM,Q,X,seval];rw[<-d];exact Us Y p len n (i+1) _ (by omega) (by rw[B,a])
def be32(x:Wsh):LU:=[e (x>>>24).toNat,e (x>>>16).toNat,e (x>>>8).toNat,e x.toNat]
def axn(y:Wsh)(O:St):axm .u8 (iw y) O=J (.ev (.cQ .u8 ((e y.toNat).toNat:N)) O):=by unfold iw;rw[Xg,awy]
def Ut (O:St) (st:V Wsh) (h8:z st=8):
  ∀(n i k:T) (acc:LU),i+n=8->z acc=4*i->
  aG C (ai C) 69 [7,48,49] tN [(7,.dj (z O+k) 0 (z acc) 1),(48,.cX (st.map iw)),(49,.cQ r i)] (w O k (.cP (w8 acc) FZ))=
   J (.dq 2,[(7,.dj (z O+(k+n)) 0 (z (acc++(st.drop i).flatMap be32)) 1)],w O (k+n) (.cP (w8 (acc++(st.drop i).flatMap be32)) FZ))
 |0,i,k,acc,hi,c=>by rw[mX (he:=j0)];have h:¬((i:N)<8):=(by omega);have b:st.drop i=[]:=aC0 (by omega);simp only[tN,h,b,aK7,aB3,aL1,X,seval]
 |n+1,i,k,acc,hi,c=>by
  rw[mX (he:=j0)];generalize f:aG C (ai C) 69 [7,48,49] tN=d;have h:((i:N)<8):=(by omega);have g:∀j:T,(0:N)<=(j:N):=λj=>by omega
  have l:=wrS i (by omega);have l5:i<8:=(by omega);have a0:=Bl st i (by omega);have b:st.drop i=st.getD i 0::st.drop (i+1):=by rw[aB6 (by omega),aD4,p (by omega)];rfl
  rw[b];generalize st.getD i 0=x at a0;have a:∀tg,uD (w O k (.cP (w8 acc) FZ)) 1 1 tg (.dj (z O+k) 0 (z acc) 1) 4 [.cQ .u8 (e (x>>>24).toNat).toNat,.cQ .u8 (e (x>>>16).toNat).toNat,.cQ .u8 (e (x>>>8).toNat).toNat,.cQ .u8 (e x.toNat).toNat]=_:=λtg=>adO O k acc (be32 x) 4 j0 (by omega) (by omega);simp only[tN,h,g,l,l5,a0,amz,axn,a,Q,X2,X1,adV,X,seval];rw[<-f,Ut O st h8 n (i+1) (k+1) (acc++be32 x) (by omega) (by rw[a03,c];simp[be32];omega)];simp[aI8,aM1 1 n]
def vV:∀(n:T) (st:V Wsh) (part:LU) (used:T) (s:LU),z st=8->z part=64->used<=64->(uI n st part used s).1.length=8/\(uI n st part used s).2.length=64
 |0,_,_,_,_,h8,a,_=>⟨h8,a⟩
 |n+1,st,part,used,s,h8,a,c=>by
  have b:z (lay part used (s.take (y (z s) (64-used))))=64:=(by rw[U5 (by rw[aD7,a];omega),a]);unfold uI;split;·exact⟨h8,a⟩
  ·split;·exact vV n _ _ 0 _ (ZH h8 _) b (by omega)
   ·exact⟨h8,b⟩
def WP(len:T):∀(n i:T) (t:LU),z (abL len n i t)=z t|0,_,_=>j0|n+1,i,t=>by unfold abL;rw[WP len n,B]
def QI(sz:T):LU:=128::j6 ((119-sz%64)%64) 0
def SY(sz:T):LU:=abL (sz*8) 8 0 (j6 8 0)
def aje(b:W)(st:V Wsh)(part:LU)(sz:T):V Wsh×LU:=uI (z (QI sz)+1) (Af b st) part (sz%64) (QI sz)
def ajf(b:W)(st:V Wsh)(part:LU)(sz:T):V Wsh×LU:=
 uI (z (SY sz)+1) (aje b st part sz).1 (aje b st part sz).2 ((sz+z (QI sz))%64) (SY sz)
def Eh(b:W)(st:V Wsh)(part:LU)(sz:T):LU:=(ajf b st part sz).1.flatMap be32
def asF (R:Has C Jr IM) (H:Has C AB wU) (F:Has C xn wV) (G:Has C dH dK) (I:C.gl yC=J (kR.map iw)) (hi:C.gl BH=J (hI.map iw))
  (j:∀n:Nat,n<64->∀O,ai C tZ [.cU [0],.cQ r n] O=J (.cU (j6 n 0),O))
  (O:St) (g:Ok O) (p:Nat) (b:Bool) (st:List Wsh) (part:LU) (sz:Nat) (K:O[p]?=J (.cP (fP b st part sz) FZ)) (h8:st.length=8) (e:part.length=64) (T:sz<=2199023255552):
  ai C Jr [.da p 0] O=J (.cU (Eh b st part sz),O):=by
 rw[R.cG];unfold GK;have m:=sH (b:=b) (sz:=sz) h8 e;have z1:=U1 (b:=b) (sz:=sz) h8 e;obtain⟨a,c⟩:∃x,x=QI sz:=⟨_,j0⟩;obtain⟨d,f⟩:∃x,x=SY sz:=⟨_,j0⟩;obtain⟨r1,hr1⟩:∃x,x=aje b st part sz:=⟨_,j0⟩;obtain⟨r2,hr2⟩:∃x,x=ajf b st part sz:=⟨_,j0⟩;have M:a.length<=64:=by rw[c];unfold QI;simp;omega
 have t:d.length=8:=by rw[f];unfold SY;rw[WP];rfl
 have a1:r1.1.length=8/\r1.2.length=64:=by rw[hr1];exact vV _ _ _ _ _ (G7 h8) e (by omega)
 have a2:r2.1.length=8/\r2.2.length=64:=by rw[hr2];unfold ajf;rw[<-hr1];exact vV _ _ _ _ _ a1.1 a1.2 (by omega)
 have v:Ok (O++[.cP (fP b st part sz) FZ]):=g.eD (by simp[Dl]);have q1:=YO H F G I hi (O++[.cP (fP b st part sz) FZ]) v O.length b st part sz (pF _ _) h8 e (by omega) a (by omega);rw[vM,c]at q1;have e1:uI ((QI sz).length+1) (Af b st) part (sz%64) (QI sz)=r1:=hr1.symm;rw[e1,<-c]at q1;have w:Ok (O++[.cP (fP eT r1.1 r1.2 ((sz+a.length:Nat):Int)) FZ]++[.cP (w8 d) FZ]):=by refine Ok.eD (g.eD (by simp[Dl])) (by simp[AO.below,nT])
 have q2:=YO H F G I hi _ w O.length eT r1.1 r1.2 (sz+a.length) (KR (pF _ _) _) a1.1 a1.2 (by omega) d (by omega);have e2:uI (d.length+1) (Af eT r1.1) r1.2 ((sz+a.length)%64) d=r2:=by rw[hr2];unfold ajf;rw[<-hr1,<-c,<-f];rfl
 have e3:∀x y z:AO,(O++[x]++[y]).set O.length z=O++[z]++[y]:=λx y z=>by rw[aH7 _ _ (by simp),vM]
 rw[e2,e3]at q2;have q3:=Us (C:=C) (O++[.cP (fP eT r1.1 r1.2 ((sz+a.length:Nat):Int)) FZ]) O.length (sz*8) 8 0 (j6 8 0) (by omega) (by simp);have e4:abL (sz*8) 8 0 (j6 8 0)=d:=f.symm;rw[e4]at q3;obtain⟨Y,i⟩:∃Y,Y=O++[.cP (fP eT r2.1 r2.2 ((sz+a.length+d.length:Nat):Int)) FZ]++[.cP (w8 d) FZ]:=⟨_,j0⟩;rw[<-i]at q2;have q4:=Ut (C:=C) Y r2.1 a2.1 8 0 0 [] (by omega) j0;simp only[aB8,a88,aC4,a96,aL1,aB1]at q3 q4;have o:r2.1.flatMap be32=Eh b st part sz:=by unfold Eh;rw[hr2]
 rw[o]at q4;have W:((sz:Int)).tmod 64=((sz%64:Nat):Int):=by rw[aL4 (by omega)];omega
 have w0:IntKind.u64.wrap (sz:Int)=(sz:Int):=by rw[wu64]<;>omega
 have w1:IntKind.u64.wrap ((sz:Int)*8)=((sz*8:Nat):Int):=by rw[wu64]<;>omega
 have w2:IntKind.i64.wrap (119-((sz%64:Nat):Int))=((119-sz%64:Nat):Int):=wrE (by omega);have X:((119-sz%64:Nat):Int).tmod 64=(((119-sz%64)%64:Nat):Int):=by rw[aL4 (by omega)];omega
 have rp:=j ((119-sz%64)%64) (by omega);have fl:(fP b st part (sz:Int)).all AV.Q=eT:=by
  rw[aB0];intro x L;unfold fP at L;rcases aC8.mp L with h|h;·rw[h];rfl
  ·rcases aE4.mp h with h|h;·obtain⟨y,_,rfl⟩:=aE8.mp h;rfl
   ·rcases aE4.mp h with h|h;·unfold w8 at h;obtain⟨y,_,rfl⟩:=aE8.mp h;rfl
    ·rw[aC7.mp h];rfl
 have tk:(fP b st part (sz:Int)).take 74=fP b st part sz:=a98 (by omega);have Z:∀l:LA,l.length=74->splice l 0 (fP b st part (sz:Int))=fP b st part sz:=λl S=>JK _ _ (by rw[S,m]);have s:[(128:UInt8)]++j6 ((119-sz%64)%64) 0=a:=c.symm;have bs:∀y,uJ .add [(128:UInt8)] (j6 ((119-sz%64)%64) 0)=y->y=J (.cU a):=by intro y V;rw[<-V];unfold uJ;dsimp only;rw[if_neg (by simp;omega),s]
 have bs:=bs _ j0;have z8:∀Y:St,Y++[AO.cP [.cQ .u8 0,.cQ .u8 0,.cQ .u8 0,.cQ .u8 0,.cQ .u8 0,.cQ .u8 0,.cQ .u8 0,.cQ .u8 0] FZ]=Y++[AO.cP (w8 (j6 8 0)) FZ]:=λ_=>j0;have A:(w8 d).take 8=w8 d:=a98 (by rw[aJ];omega);have tp:Y++[AO.cP [] FZ]=pile Y 0 (.cP (w8 []) FZ):=j0;have P:∀k x,(pile Y k x)[O.length]?=J (.cP (fP eT r2.1 r2.2 ((sz+a.length+d.length:Nat):Int)) FZ):=λk x=>by unfold pile;refine KR ?_ _;rw[i];exact KR (pF _ _) _
 have B:∀z:Int,((fP eT r2.1 r2.2 z).drop 1).take 8=r2.1.map iw:=by intro z;unfold fP;rw[aJ4,aB8,aF8 (by simp[a2.1]),a98 (by simp[a2.1])]
 have D:∀z:Int,8<=((fP eT r2.1 r2.2 z).drop 1).length:=by intro z;rw[aL7,sH a2.1 a2.2];omega
 have N:=yx (Eh b st part sz);have bt:=yx d;have E:(w8 (Eh b st part sz)).take (Eh b st part sz).length=w8 (Eh b st part sz):=a98 (by rw[aJ];omega);have pg:=λx=>Qs Y 8 x;have ty:∀x,tidy O.length [.cU (Eh b st part sz)] (pile Y 8 x)=O:=λx=>by unfold pile;rw[i,aB2,aB2];exact ED g j0 _
 have q:(0:Int)<=0/\(0:Int)<=32/\(32:Int)<=9223372036854775807/\(1:Int)*32<=140737488355328:=by decide
 have u:¬((64:Int)=0):=by decide
 have Q:=KR K [AO.cP (fP b st part (sz:Int)) FZ];simp only[IM,K,Q,m,z1,fl,tk,Z,W,w0,w1,w2,X,rp,bs,q1,z8,q3,pF,vM,t,A,bt,q2,tp,q4,P,B,D,N,E,pg,ty,q,u,aJ,aH2,Int.reduceMul,X2,EVY,k9,j7,Nat.reduceGT,Nat.reduceLT,reduceIte,reduceCtorEq,j8,w9,X1,X2,Z0,Z6,j9,Z2,Z3,Z1]
def y9:LU:=j6 64 0
def avn (a:Y C Yn Yc) (hi:C.gl BH=J (hI.map iw)) (O:St) (b:Ok O):
  ai C Yn [] O=J (.da (z O) 0,O++[.cP (fP eT hI y9 0) FZ]):=by
 rw[a.cG];unfold GK;have c:(hI.map iw).take 8=hI.map iw:=j0;have d:z (hI.map iw)=8:=j0;simp only[Yc,hi,aG9,c,d,X,seval];rw[qY (by simp[ae,below])];rfl
def wE(s:LU):LU:=Eh eT (uI (z s+1) hI y9 0 s).1 (uI (z s+1) hI y9 0 s).2 (z s)
structure UK(C:Ctx):Prop where
 eM:Has C Yn Yc
 mf:Has C Jr IM
 hL:Has C AB wU
 mB:Has C xn wV
 mK:Has C dH dK
 mh:Has C Fg adI
 g3:Has C vJ Vz
 g4:Has C Ib Np
 gr:C.gl yC=some (kR.map iw)
 gi:C.gl BH=some (hI.map iw)
 gd:C.gl Ie=some (ofBytes hexDigits)
 n5:∀n:Nat,n<64->∀O,ai C tZ [.cU [0],.cQ .i64 n] O=some (.cU (List.replicate n 0),O)
def Tc(h:UK C)(s:LU)(hs:z s<=1099511627776)(O:St)(a:Ok O):ai C Fg [.cU s] O=J (.cU (wE s),O):=by
 rw[h.mh.cG];unfold GK;have q0:=avn h.eM h.gi O a;have b:Ok (O++[.cP (fP eT hI y9 (0:T)) FZ]):=a.eD (by simp[Dl]);have q1:=YO h.hL h.mB h.mK h.gr h.gi _ b (z O) eT hI y9 0 (pF _ _) j0 j0 (by omega) s hs;rw[vM]at q1;have e:Af eT hI=hI:=j0;rw[e]at q1;have la:=vV (z s+1) hI y9 (0%64) s j0 j0 (by omega);simp only[Nat.zero_mod,aC4]at q1 la;obtain⟨f,hr⟩:∃f,f=uI (z s+1) hI y9 0 s:=⟨_,j0⟩;rw[<-hr]at q1 la;have c:Ok (O++[.cP (fP eT f.1 f.2 (z s:N)) FZ]):=a.eD (by simp[Dl]);have q2:=asF h.mf h.hL h.mB h.mK h.gr h.gi h.n5 _ c (z O) eT f.1 f.2 (z s) (pF _ _) la.1 la.2 (by omega);have e2:Eh eT f.1 f.2 (z s)=wE s:=by unfold wE;rw[hr]
 rw[e2]at q2;have d:∀x,tidy (z O) [.cU (wE s)] (O++[x])=O:=λx=>ED a j0 _;simp only[aB1]at q1;simp only[adI,q0,q1,q2,d,X,seval]
def sZ(s:LU):z (wE s)=32:=by
 have la:=vV (z s+1) hI y9 0 s j0 j0 (by omega);unfold wE Eh;have l1:(aje eT (uI (z s+1) hI y9 0 s).1 (uI (z s+1) hI y9 0 s).2 (z s)).1.length=8/\(aje eT (uI (z s+1) hI y9 0 s).1 (uI (z s+1) hI y9 0 s).2 (z s)).2.length=64:=vV _ _ _ _ _ (G7 la.1) la.2 (by omega);have l2:=(vV (z (SY (z s))+1) _ _ ((z s+z (QI (z s)))%64) (SY (z s)) l1.1 l1.2 (by omega)).1;have:∀l:V Wsh,z (l.flatMap be32)=4*z l:=by
  intro l
  induction l with
  |nil=>rfl|cons x l a=>rw[aF0,a03,a,a94];simp[be32];omega
 rw[this];unfold ajf;rw[l2]
def ald(s:LU):LU:=Bj (wE s)
def ale(h:UK C)(s:LU)(hs:z s<=1099511627776)(O:St)(a:Ok O):ai C vJ [.cU s] O=J (.cU (ald s),O):=by rw[h.g3.cG];unfold GK;have q0:=Tc h s hs O a;have q1:=hex_Encode h.g4 h.gd (wE s) (by rw[sZ];omega) O a;simp only[Vz,q0,q1,ald,X,seval]
noncomputable section
def J5:KF:=(.mk ?k:b 195 []).1
def uO:KC:=(.mk ?k:i 196 [] 0).1
attribute [local irreducible] uO
def Ll:KF:=(.mk ?k:b 196 [uO]).1
def ahm:KF:=(.mk ?k:b 134 []).1
def UG:KF:=(.mk ?k:b 197 []).1
def UH:KF:=(.mk ?k:b 198 []).1
end
end Go.Ev
