/- Contracts of functions over this translation. No conditions. -/
import Derived.Test.YtegpahkgmealkaaGreatDoorCB
set_option linter.unusedVariables false
set_option linter.unusedSimpArgs false
namespace Go.Ev
set_option maxRecDepth 1000000
noncomputable section
def jI:KF:=(.mk ?k:KsA 150 []).1
def tV:KC:=(.mk ?k:LsA 149 [] 0).1
attribute [local irreducible] tV
def QE:KF:=(.mk ?k:KsA 149 [tV]).1
def ou:KC:=(.mk ?k:LsA 90 [] 0).1
attribute [local irreducible] ou
def C9:KF:=(.mk ?k:KsA 90 [ou]).1
end
noncomputable section
def bz:KF:=(.mk ?k:KsA 285 []).1
def fE:KC:=(.mk ?k:LsA 248 [] 0).1
attribute [local irreducible] fE
def iD:KC:=(.mk ?k:LsA 248 [fE] 1).1
attribute [local irreducible] iD
def jy:KC:=(.mk ?k:LsA 248 [fE,iD] 2).1
attribute [local irreducible] jy
def kW:KC:=(.mk ?k:LsA 248 [fE,iD,jy] 3).1
attribute [local irreducible] kW
def nZ:KF:=(.mk ?k:KsA 248 [fE,iD,jy,kW]).1
def gQ:KC:=(.mk ?k:LsA 190 [] 0).1
attribute [local irreducible] gQ
def nY:KF:=(.mk ?k:KsA 190 [gQ]).1
def jw:KC:=(.mk ?k:LsA 191 [] 0).1
attribute [local irreducible] jw
def kV:KC:=(.mk ?k:LsA 191 [jw] 1).1
attribute [local irreducible] kV
def zL:KF:=(.mk ?k:KsA 191 [jw,kV]).1
def ND:KF:=(.mk ?k:KsA 189 []).1
def U2:KF:=(.mk ?k:KsA 132 []).1
def JY:KF:=(.mk ?k:KsA 79 []).1
end
set_option maxRecDepth 100000
variable{C:Ctx}
abbrev Wsh:=BitVec 32
def iw(x:Wsh):AV:=.int .u32 (x.toNat:Int)
theorem Ve(np:Bool)(op:BinOp)(ek:Nat)(c:Bool)(x:Wsh)(y:AV):tX np op ek c (iw x) y=binOp op ek c (iw x) y:=by cases np<;>rfl
theorem UE(x:Wsh):BitVec.ofInt 32 (x.toNat:Int)=x:=by
 apply BitVec.eq_of_toNat_eq;rw[afZ 32 x.toNat x.isLt]
theorem QB(x:Wsh):IntKind.u32.wrap (x.toNat:Int)=(x.toNat:Int):=aiP .u32 rfl _ x.isLt
theorem ah1(b:Bool)(x y:Wsh):binOp .xor 0 b (iw x) (iw y)=some (iw (x^^^y)):=by
 show some (AV.int .u32 (IntKind.u32.wrap ((BitVec.ofInt 32 (x.toNat:Int)^^^BitVec.ofInt 32 (y.toNat:Int)).toNat:Int)))=_;rw[UE,UE,QB];rfl
theorem am9(b:Bool)(x y:Wsh):binOp .and 0 b (iw x) (iw y)=some (iw (x&&&y)):=by
 show some (AV.int .u32 (IntKind.u32.wrap ((BitVec.ofInt 32 (x.toNat:Int)&&&BitVec.ofInt 32 (y.toNat:Int)).toNat:Int)))=_;rw[UE,UE,QB];rfl
theorem akP(b:Bool)(x y:Wsh):binOp .or 0 b (iw x) (iw y)=some (iw (x|||y)):=by
 show some (AV.int .u32 (IntKind.u32.wrap ((BitVec.ofInt 32 (x.toNat:Int)|||BitVec.ofInt 32 (y.toNat:Int)).toNat:Int)))=_;rw[UE,UE,QB];rfl
theorem abw(b:Bool)(x y:Wsh):binOp .add 0 b (iw x) (iw y)=some (iw (x+y)):=by
 show some (AV.int .u32 (IntKind.u32.wrap ((x.toNat:Int)+(y.toNat:Int))))=_;have:IntKind.u32.wrap ((x.toNat:Int)+(y.toNat:Int))=((x+y).toNat:Int):=by
  rw[IntKind.wrap_u32,BitVec.toNat_add];omega
 rw[this];rfl
theorem ama(x:Wsh):unOp .xor (iw x)=some (iw (~~~x)):=by
 show some (AV.int .u32 (IntKind.u32.wrap ((BitVec.ofInt 32 4294967295^^^BitVec.ofInt 32 (x.toNat:Int)).toNat:Int)))=_;rw[UE,QB];have:BitVec.ofInt 32 4294967295^^^x= ~~~x:=by
  rw[show BitVec.ofInt 32 4294967295=BitVec.allOnes 32 from rfl,BitVec.allOnes_xor]
 rw[this];rfl
theorem agZ(b:Bool)(x:Wsh)(k:IntKind)(n:Nat):binOp .shl 0 b (iw x) (.int k (n:Int))=some (iw (x<<<(min n 32))):=by
 show oM .shl .u32 (x.toNat:Int) (n:Int)=_;unfold oM;rw[if_neg (by omega)]
 show some (AV.int .u32 (IntKind.u32.wrap ((x.toNat:Int)*2^(min n 32))))=_;have:IntKind.u32.wrap ((x.toNat:Int)*2^(min n 32))=((x<<<(min n 32)).toNat:Int):=by
  rw[IntKind.wrap_u32,BitVec.toNat_shiftLeft,Nat.shiftLeft_eq,Int.natCast_emod,Int.natCast_mul,Int.natCast_pow];rfl
 rw[this];rfl
theorem ah0(b:Bool)(x:Wsh)(k:IntKind)(n:Nat):binOp .shr 0 b (iw x) (.int k (n:Int))=some (iw (x>>>(min n 32))):=by
 show oM .shr .u32 (x.toNat:Int) (n:Int)=_;unfold oM;rw[if_neg (by omega)]
 show some (AV.int .u32 ((x.toNat:Int).fdiv (2^(min n 32))))=_;have:(x.toNat:Int).fdiv (2^(min n 32))=((x>>>(min n 32)).toNat:Int):=by
  rw[BitVec.toNat_ushiftRight,Nat.shiftRight_eq_div_pow,Int.fdiv_eq_ediv_of_nonneg _ (Int.pow_nonneg (by decide)),Int.natCast_ediv,Int.natCast_pow]
  rfl
 rw[this];rfl
def rotl(x:Wsh)(n:Nat):Wsh:=(x<<<n)|||(x>>>(32-n))
theorem Xh (hC:Has C aW bz) (x:Wsh) (k:Int) (n:Nat) (hn:n<32)
  (hk:IntKind.u64.wrap ((BitVec.ofInt IntKind.u64.bits (IntKind.u64.wrap k)&&&BitVec.ofInt IntKind.u64.bits 31).toNat:Int)=(n:Int)) (O:St):
  ai C aW [iw x,.int .i64 k] O=some (iw (rotl x n),O):=by
 rw[hC.run];unfold yH;have h1:IntKind.u64.wrap (32-(n:Int))=((32-n:Nat):Int):=by rw[wu64]<;>omega
 have h2:min n 32=n:=by omega
 have h3:min (32-n) 32=32-n:=by omega
 have hn':∀O r,aU O r (iw x)=some (iw x,[]):=fun _ _=>by unfold iw aU;rfl
 have hn2:∀O r,aU O r (iw (x<<<n|||x>>>(32-n)))=some (iw (x<<<n|||x>>>(32-n)),[]):=fun _ _=>by unfold iw aU;rfl
 simp only[bz,hk,h1,agZ,ah0,akP,h2,h3,hn',hn2,rotl,Ve,EVY,seval]
theorem Mc(x:Wsh):(iw x).cells=[iw x]:=rfl
theorem Qq(x:Wsh):(iw x).flat=true:=rfl
theorem ajH(b:Bool)(x:Wsh)(k:IntKind)(z:Int)(h0:0<=z)(h1:z<=32):binOp .shl 0 b (iw x) (.int k z)=some (iw (x<<<z.toNat)):=by
 have:=agZ b x k z.toNat
 rw[Int.toNat_of_nonneg h0,Nat.min_eq_left (by omega)]at this
 exact this
theorem adi(b:Bool)(x:Wsh)(k:IntKind)(z:Int)(h0:0<=z)(h1:z<=32):binOp .shr 0 b (iw x) (.int k z)=some (iw (x>>>z.toNat)):=by
 have:=ah0 b x k z.toNat
 rw[Int.toNat_of_nonneg h0,Nat.min_eq_left (by omega)]at this
 exact this
def wb(b:UInt8):Wsh:=BitVec.ofNat 32 b.toNat
theorem ap0(b:UInt8):AV.int .u32 (IntKind.u32.wrap (b.toNat:Int))=iw (wb b):=by
 have hlt:b.toNat<256:=b.toNat_lt;unfold iw wb;rw[apz (by omega) (by omega),BitVec.toNat_ofNat,Nat.mod_eq_of_lt (by omega)]
theorem rU(l:List Wsh)(i:Nat)(h:i<l.length):((l.map iw).drop i).head? =some (iw (l.getD i 0)):=by
 rw[List.head?_drop,List.getElem?_map,List.getElem?_eq_getElem h,List.getD_eq_getElem?_getD,List.getElem?_eq_getElem h];rfl
theorem Ed{α:Type}(f:α->AV)(l:List α)(i:Nat)(v:α)(h:i<l.length):splice (l.map f) i [f v]=(l.set i v).map f:=by
 unfold splice;rw[List.set_eq_take_append_cons_drop,if_pos h];simp
def cO(b:Bool)(st:List Wsh)(part:LU)(sz:Int):LA:=.bool b::(st.map iw++(ofBytes part++[.int .i64 sz]))
theorem kM{b st part sz}(h8:st.length=8)(h64:part.length=64):(cO b st part sz).length=74:=by
 simp[cO,au,h8,h64]
theorem abp{b st part sz}(h8:st.length=8)(h64:part.length=64)(i:Nat)(hi:i<64):((cO b st part sz).drop (9+i)).head? =some (.int .u8 ((part.getD i 0).toNat:Int)):=by
 unfold cO ofBytes;rw[List.head?_drop,show 9+i=(8+i)+1 by omega,List.getElem?_cons_succ,List.getElem?_append_right (by simp[h8]),List.getElem?_append_left (by simp[h8,h64];omega)]
 simp only[List.length_map,h8,List.getElem?_map,show 8+i-8=i by omega]
 rw[List.getElem?_eq_getElem (by omega),List.getD_eq_getElem?_getD,List.getElem?_eq_getElem (by omega)]
 rfl
theorem ZA{b st part sz}(h8:st.length=8)(i:Nat)(hi:i<8):((cO b st part sz).drop (1+i)).head? =some (iw (st.getD i 0)):=by
 unfold cO;rw[List.head?_drop,Nat.add_comm 1 i,List.getElem?_cons_succ,List.getElem?_append_left (by simp[h8];omega),List.getElem?_map,List.getElem?_eq_getElem (by omega),List.getD_eq_getElem?_getD,List.getElem?_eq_getElem (by omega)]
 rfl
theorem aeC{b st part sz}(h8:st.length=8)(i:Nat)(hi:i<8)(v:Wsh):splice (cO b st part sz) (1+i) [iw v]=cO b (st.set i v) part sz:=by
 unfold cO splice;rw[Nat.add_comm 1 i,List.take_succ_cons,show i+1+[iw v].length=(i+1)+1 from rfl,List.drop_succ_cons,List.take_append_of_le_length (by simp[h8];omega),List.drop_append_of_le_length (by simp[h8];omega)]
 have:=Ed iw st i v (by omega)
 unfold splice at this;rw[<-this];simp
theorem jm(O:St)(x:AO):(O++[x])[O.length]?=some x:=by simp
theorem mY(O:St)(x y:AO):(O++[x]).set O.length y=O++[y]:=by simp
theorem Bz{O:St}{o:Nat}{x:AO}(h:O[o]?=some x)(l:St):(O++l)[o]?=some x:=by
 have:o<O.length:=(List.getElem?_eq_some_iff.mp h).1;rw[List.getElem?_append_left this,h]
def wordAt(part:LU)(i:Nat):Wsh:=wb (part.getD (4*i) 0)<<<24|||wb (part.getD (4*i+1) 0)<<<16|||wb (part.getD (4*i+2) 0)<<<8|||wb (part.getD (4*i+3) 0)
def RS(part:LU):Nat->Nat->List Wsh->List Wsh
 |0,_,w=>w
 |n+1,i,w=>RS part n (i+1) (w.set i (wordAt part i))
theorem VY (b:Bool) (st:List Wsh) (part:LU) (sz:Int) (O:St) (p:Nat) (hp:O[p]?=some (.cells (cO b st part sz) FZ)) (h8:st.length=8) (h64:part.length=64):
  ∀(n i:Nat) (w:List Wsh),i+n=16->w.length=64->
  aB C (ai C) 213 [0,2,21] fE [(0,.ref p 0),(2,.ref O.length 0),(21,.int .i64 i)] (O++[.cells (w.map iw) FZ])=
   some (.exit 0,[(0,.ref p 0),(2,.ref O.length 0)],O++[.cells ((RS part n i w).map iw) FZ])
 |0,i,w,hi,hw=>by
  rw[iE (he:=rfl)];have h:¬((i:Int)<16):=by omega
  simp only[fE,h,RS,EVY,seval]
 |n+1,i,w,hi,hw=>by
  rw[iE (he:=rfl)];generalize hk:aB C (ai C) 213 [0,2,21] fE=rest;have h:((i:Int)<16):=by omega
  have w1:IntKind.i64.wrap (4*(i:Int))=((4*i:Nat):Int):=wrE (by omega)
  have w2:IntKind.i64.wrap (((4*i:Nat):Int)+1)=((4*i+1:Nat):Int):=wrE (by omega)
  have w3:IntKind.i64.wrap (((4*i:Nat):Int)+2)=((4*i+2:Nat):Int):=wrE (by omega)
  have w4:IntKind.i64.wrap (((4*i:Nat):Int)+3)=((4*i+3:Nat):Int):=wrE (by omega)
  have w5:=wrS i (by omega)
  have p1:∀j:Nat,(0:Int)<=(j:Int):=fun j=>by omega
  have l1:4*i<64:=by omega
  have l2:4*i+1<64:=by omega
  have l3:4*i+2<64:=by omega
  have l4:4*i+3<64:=by omega
  have l5:i<64:=by omega
  have l6:i+1<=64:=by omega
  have g:=Bz hp [.cells (w.map iw) FZ];have s1:=Ed iw w i (wordAt part i) (by omega)
  unfold wordAt at s1;simp only[fE,h,w1,w2,w3,w4,w5,p1,l1,l2,l3,l4,l5,l6,g,hw,List.length_map,abp h8 h64,ap0,ajH,akP,Mc,Qq,jm,mY,s1,Int.toNat_natCast,Int.reduceLE,Int.reduceToNat,Ve,EVY,seval];rw[<-hk,VY b st part sz O p hp h8 h64 n (i+1) _ (by omega) (by rw[List.length_set,hw])]
  rfl
theorem rot(hC:Has C aW bz)(k:Int)(n:Nat)(hn:n<32)
 (hk:IntKind.u64.wrap ((BitVec.ofInt IntKind.u64.bits (IntKind.u64.wrap k)&&&BitVec.ofInt IntKind.u64.bits 31).toNat:Int)=(n:Int)):
 ∀(x:Wsh) (O:St),ai C aW [iw x,.int .i64 k] O=some (iw (rotl x n),O):=fun x O=>Xh hC x k n hn hk O
def aof(x:Wsh):Wsh:=rotl x 25^^^rotl x 14^^^x>>>3
def akI(x:Wsh):Wsh:=rotl x 15^^^rotl x 13^^^x>>>10
def ahF(w:List Wsh)(i:Nat):Wsh:=w.getD (i-16) 0+aof (w.getD (i-15) 0)+w.getD (i-7) 0+akI (w.getD (i-2) 0)
def RU:Nat->Nat->List Wsh->List Wsh
 |0,_,w=>w
 |n+1,i,w=>RU n (i+1) (w.set i (ahF w i))
theorem VZ (hR:Has C aW bz) (O:St) (p:Nat):
  ∀(n i:Nat) (w:List Wsh),16<=i->i+n=64->w.length=64->
  aB C (ai C) 213 [0,2,4] iD [(0,.ref p 0),(2,.ref O.length 0),(4,.int .i64 i)] (O++[.cells (w.map iw) FZ])=
   some (.exit 2,[(0,.ref p 0),(2,.ref O.length 0)],O++[.cells ((RU n i w).map iw) FZ])
 |0,i,w,h16,hi,hw=>by
  rw[iE (he:=rfl)];have h:¬((i:Int)<64):=by omega
  simp only[iD,h,RU,EVY,Nat.reduceEqDiff,Nat.reduceSub,Nat.reduceGT,Nat.reduceLT,reduceIte,reduceCtorEq,Nat.reduceMul,Nat.reduceLeDiff,Int.reduceToNat,Int.reduceLE,Int.reduceLT,Int.reduceEq,Nat.reduceAdd,Int.reduceBNe,Int.reduceBEq,Int.reduceNeg]
 |n+1,i,w,h16,hi,hw=>by
  rw[iE (he:=rfl)];generalize hk:aB C (ai C) 213 [0,2,4] iD=rest;have h:((i:Int)<64):=by omega
  have w1:IntKind.i64.wrap ((i:Int)-15)=((i-15:Nat):Int):=wrE (by omega)
  have w2:IntKind.i64.wrap ((i:Int)-2)=((i-2:Nat):Int):=wrE (by omega)
  have w3:IntKind.i64.wrap ((i:Int)-16)=((i-16:Nat):Int):=wrE (by omega)
  have w4:IntKind.i64.wrap ((i:Int)-7)=((i-7:Nat):Int):=wrE (by omega)
  have w5:=wrS i (by omega)
  have p1:∀j:Nat,(0:Int)<=(j:Int):=fun j=>by omega
  have l1:i-15<64:=by omega
  have l2:i-2<64:=by omega
  have l3:i-16<64:=by omega
  have l4:i-7<64:=by omega
  have l5:i<64:=by omega
  have l6:i+1<=64:=by omega
  have a1:=rU w (i-15) (by omega)
  have a2:=rU w (i-2) (by omega)
  have a3:=rU w (i-16) (by omega)
  have a4:=rU w (i-7) (by omega)
  have r1:=rot hR (-7) 25 (by decide) (by decide)
  have r2:=rot hR (-18) 14 (by decide) (by decide)
  have r3:=rot hR (-17) 15 (by decide) (by decide)
  have r4:=rot hR (-19) 13 (by decide) (by decide)
  have s1:=Ed iw w i (ahF w i) (by omega)
  unfold ahF aof akI at s1;simp only[iD,h,w1,w2,w3,w4,w5,p1,l1,l2,l3,l4,l5,l6,hw,a1,a2,a3,a4,r1,r2,r3,r4,List.length_map,adi,ah1,abw,Mc,Qq,jm,mY,s1,Int.toNat_natCast,Int.reduceLE,Int.reduceToNat,Ve,EVY,Nat.reduceEqDiff,Nat.reduceSub,Nat.reduceGT,Nat.reduceLT,reduceIte,reduceCtorEq,Nat.reduceMul,Nat.reduceLeDiff,Int.reduceToNat,Int.reduceLE,Int.reduceLT,Int.reduceEq,Nat.reduceAdd,Int.reduceBNe,Int.reduceBEq,Int.reduceNeg];rw[<-hk,VZ hR O p n (i+1) _ (by omega) (by omega) (by rw[List.length_set,hw])]
  rfl
def kR:List Wsh:=[0x428a2f98,0x71374491,0xb5c0fbcf,0xe9b5dba5,0x3956c25b,0x59f111f1,0x923f82a4,0xab1c5ed5,
 0xd807aa98,0x12835b01,0x243185be,0x550c7dc3,0x72be5d74,0x80deb1fe,0x9bdc06a7,0xc19bf174,
 0xe49b69c1,0xefbe4786,0x0fc19dc6,0x240ca1cc,0x2de92c6f,0x4a7484aa,0x5cb0a9dc,0x76f988da,
 0x983e5152,0xa831c66d,0xb00327c8,0xbf597fc7,0xc6e00bf3,0xd5a79147,0x06ca6351,0x14292967,
 0x27b70a85,0x2e1b2138,0x4d2c6dfc,0x53380d13,0x650a7354,0x766a0abb,0x81c2c92e,0x92722c85,
 0xa2bfe8a1,0xa81a664b,0xc24b8b70,0xc76c51a3,0xd192e819,0xd6990624,0xf40e3585,0x106aa070,
 0x19a4c116,0x1e376c08,0x2748774c,0x34b0bcb5,0x391c0cb3,0x4ed8aa4a,0x5b9cca4f,0x682e6ff3,
 0x748f82ee,0x78a5636f,0x84c87814,0x8cc70208,0x90befffa,0xa4506ceb,0xbef9a3f7,0xc67178f2]
def hI:List Wsh:=[0x6a09e667,0xbb67ae85,0x3c6ef372,0xa54ff53a,0x510e527f,0x9b05688c,0x1f83d9ab,0x5be0cd19]
def abj(w:List Wsh)(i:Nat)(e f g h:Wsh):Wsh:=h+(rotl e 26^^^rotl e 21^^^rotl e 7)+(e&&&f^^^ ~~~e&&&g)+kR.getD i 0+w.getD i 0
def akZ(a b c:Wsh):Wsh:=(a&&&b^^^a&&&c^^^b&&&c)
def Oe(w:List Wsh)(i:Nat)(s:List Wsh):List Wsh:=
 [abj w i (s.getD 4 0) (s.getD 5 0) (s.getD 6 0) (s.getD 7 0)+(rotl (s.getD 0 0) 30^^^rotl (s.getD 0 0) 19^^^rotl (s.getD 0 0) 10)+akZ (s.getD 0 0) (s.getD 1 0) (s.getD 2 0),
  s.getD 0 0,s.getD 1 0,s.getD 2 0,s.getD 3 0+abj w i (s.getD 4 0) (s.getD 5 0) (s.getD 6 0) (s.getD 7 0),s.getD 4 0,s.getD 5 0,s.getD 6 0]
def Eb(w:List Wsh):Nat->Nat->List Wsh->List Wsh
 |0,_,s=>s
 |n+1,i,s=>Eb w n (i+1) (Oe w i s)
theorem AB(l v:LA)(h:l.length=v.length):splice l 0 v=v:=by
 unfold splice;rw[List.take_zero,List.nil_append,Nat.zero_add,List.drop_eq_nil_of_le (by omega),List.append_nil]
theorem V4 (hR:Has C aW bz) (hg:C.gl pM=some (kR.map iw)) (Y:St) (p q:Nat) (w:List Wsh) (hw:w.length=64) (hq:Y[q]?=some (.cells (w.map iw) FZ)):
  ∀(n i:Nat) (s:List Wsh),i+n=64->s.length=8->
  aB C (ai C) 213 [0,2,9,115] jy [(0,.ref p 0),(2,.ref q 0),(9,.ref Y.length 0),(115,.int .i64 i)] (Y++[.cells (s.map iw) FZ])=
   some (.exit 4,[(0,.ref p 0),(9,.ref Y.length 0)],Y++[.cells ((Eb w n i s).map iw) FZ])
 |0,i,s,hi,hs=>by
  rw[iE (he:=rfl)];have h:¬((i:Int)<64):=by omega
  simp only[jy,h,Eb,EVY,Nat.reduceEqDiff,Nat.reduceSub,Nat.reduceGT,Nat.reduceLT,reduceIte,reduceCtorEq,Nat.reduceMul,Nat.reduceLeDiff,Int.reduceToNat,Int.reduceLE,Int.reduceLT,Int.reduceEq,Nat.reduceAdd,Int.reduceBNe,Int.reduceBEq,Int.reduceNeg]
 |n+1,i,s,hi,hs=>by
  rw[iE (he:=rfl)];generalize hk:aB C (ai C) 213 [0,2,9,115] jy=rest;have h:((i:Int)<64):=by omega
  have w5:=wrS i (by omega)
  have p1:∀j:Nat,(0:Int)<=(j:Int):=fun j=>by omega
  have l5:i<64:=by omega
  have l6:i<=kR.length:=by show i<=64;omega
  have a0:(s.map iw).head? =some (iw (s.getD 0 0)):=rU s 0 (by omega)
  have a1:=rU s 1 (by omega)
  have a2:=rU s 2 (by omega)
  have a3:=rU s 3 (by omega)
  have a4:=rU s 4 (by omega)
  have a5:=rU s 5 (by omega)
  have a6:=rU s 6 (by omega)
  have a7:=rU s 7 (by omega)
  have b1:=rU w i (by omega)
  have b2:=rU kR i (by show i<64;omega)
  have r1:=rot hR (-6) 26 (by decide) (by decide)
  have r2:=rot hR (-11) 21 (by decide) (by decide)
  have r3:=rot hR (-25) 7 (by decide) (by decide)
  have r4:=rot hR (-2) 30 (by decide) (by decide)
  have r5:=rot hR (-13) 19 (by decide) (by decide)
  have r6:=rot hR (-22) 10 (by decide) (by decide)
  have g:=Bz hq [.cells (s.map iw) FZ];have s1:splice (s.map iw) 0 ((Oe w i s).map iw)=(Oe w i s).map iw:=AB _ _ (by simp[hs,Oe])
  unfold Oe abj akZ at s1;simp only[List.map_cons,List.map_nil]at s1;simp only[jy,h,w5,p1,l5,l6,hs,g,hg,Option.getD_some,a0,a1,a2,a3,a4,a5,a6,a7,b1,b2,r1,r2,r3,r4,r5,r6,List.length_map,ah1,abw,am9,ama,Mc,Qq,jm,mY,s1,Int.toNat_natCast,Int.reduceLE,Int.reduceToNat,Ve,EVY,Nat.reduceEqDiff,Nat.reduceSub,Nat.reduceGT,Nat.reduceLT,reduceIte,reduceCtorEq,Nat.reduceMul,Nat.reduceLeDiff,Int.reduceToNat,Int.reduceLE,Int.reduceLT,Int.reduceEq,Nat.reduceAdd,Int.reduceBNe,Int.reduceBEq,Int.reduceNeg];rw[<-hk];exact V4 hR hg Y p q w hw hq n (i+1) (Oe w i s) (by omega) rfl
theorem aip{O:St}{p:Nat}(hp:p<O.length)(x:AO)(l:St):(O.set p x++l)[p]?=some x:=by
 rw[List.getElem?_append_left (by rw[List.length_set];exact hp),List.getElem?_set_self hp]
theorem set_set{O:St}{p:Nat}(hp:p<O.length)(x y:AO)(l:St):(O.set p x++l).set p y=O.set p y++l:=by
 rw[List.set_append_left _ _ (by rw[List.length_set];exact hp),List.set_set]
theorem aiq(O:St)(p:Nat)(x y:AO):(O.set p x++[y])[O.length]?=some y:=by
 rw[List.getElem?_append_right (by rw[List.length_set];omega)]
 simp
theorem Ok.setW{O:St}(h:Ok O)(p:Nat){x:AO}(hx:AO.below O.length x=true):Ok (O.set p x):=by
 unfold Ok;rw[List.length_set,List.all_eq_true];intro y hy;rcases List.mem_or_eq_of_mem_set hy with h'|h'
 ·exact List.all_eq_true.mp h y h'
 ·rw[h'];exact hx
def RY(s:List Wsh):Nat->Nat->List Wsh->List Wsh
 |0,_,st=>st
 |n+1,i,st=>RY s n (i+1) (st.set i (st.getD i 0+s.getD i 0))
theorem V5 (b:Bool) (part:LU) (sz:Int) (h64:part.length=64) (Y:St) (p:Nat) (hp:p<Y.length) (s:List Wsh) (hs:s.length=8):
  ∀(n i:Nat) (st:List Wsh),i+n=8->st.length=8->
  aB C (ai C) 213 [0,9,196] kW [(0,.ref p 0),(9,.ref Y.length 0),(196,.int .i64 i)] (Y.set p (.cells (cO b st part sz) FZ)++[.cells (s.map iw) FZ])=
   some (.exit 6,[],Y.set p (.cells (cO b (RY s n i st) part sz) FZ)++[.cells (s.map iw) FZ])
 |0,i,st,hi,hst=>by
  rw[iE (he:=rfl)];have h:¬((i:Int)<8):=by omega
  simp only[kW,h,RY,EVQ,EVC,EVA,Nat.reduceEqDiff,qK,eqA,bF,bH,jV,dV,pt,bi,Nat.reduceSub,Nat.reduceGT,Nat.reduceLT,Nat.reduceAdd,hand,bZ,aJ,aU,freeze,reduceIte,reduceCtorEq,iG,fG,isStr,vZ,rep,AX,Az,Nat.reduceMul,Nat.reduceLeDiff]
 |n+1,i,st,hi,hst=>by
  rw[iE (he:=rfl)];generalize hk:aB C (ai C) 213 [0,9,196] kW=rest;have h:((i:Int)<8):=by omega
  have w5:=wrS i (by omega)
  have p1:∀j:Nat,(0:Int)<=(j:Int):=fun j=>by omega
  have l5:i<8:=by omega
  have l6:1+i+1<=74:=by omega
  have hl:=kM (b:=b) (sz:=sz) hst h64;have a0:=rU s i (by omega)
  have a1:=ZA (b:=b) (part:=part) (sz:=sz) hst i (by omega)
  have s1:=aeC (b:=b) (part:=part) (sz:=sz) hst i (by omega) (st.getD i 0+s.getD i 0)
  simp only[kW,h,w5,p1,l5,l6,hl,a0,a1,s1,aip hp,set_set hp,aiq,abw,Mc,Qq,Int.toNat_natCast,Ve,EVQ,EVC,EVA,Nat.reduceEqDiff,qK,eqA,bF,bH,jV,dV,pt,bi,Nat.reduceSub,Nat.reduceGT,Nat.reduceLT,Nat.reduceAdd,hand,bZ,aJ,aU,freeze,reduceIte,reduceCtorEq,iG,fG,isStr,vZ,rep,AX,Az,Nat.reduceMul,Nat.reduceLeDiff];rw[<-hk];exact V5 b part sz h64 Y p hp s hs n (i+1) _ (by omega) (by rw[List.length_set,hst])
def Ny:List Wsh:=List.replicate 64 0
def abE(st:List Wsh)(part:LU):List Wsh:=RY (Eb (RU 48 16 (RS part 16 0 Ny)) 64 0 st) 8 0 st
theorem Lm(part:LU):∀(n i:Nat) (w:List Wsh),(RS part n i w).length=w.length
 |0,_,_=>rfl
 |n+1,i,w=>by unfold RS;rw[Lm part n,List.length_set]
theorem Lp:∀(n i:Nat) (w:List Wsh),(RU n i w).length=w.length
 |0,_,_=>rfl
 |n+1,i,w=>by unfold RU;rw[Lp n,List.length_set]
theorem Lr(s:List Wsh):∀(n i:Nat) (w:List Wsh),(RY s n i w).length=w.length
 |0,_,_=>rfl
 |n+1,i,w=>by unfold RY;rw[Lr s n,List.length_set]
theorem F5(w:List Wsh):∀(n i:Nat) (s:List Wsh),s.length=8->(Eb w n i s).length=8
 |0,_,_,h=>h
 |n+1,i,s,_=>by unfold Eb;exact F5 w n _ _ rfl
theorem Ph{st:List Wsh}(h:st.length=8)(part:LU):(abE st part).length=8:=by unfold abE;rw[Lr,h]
theorem Vf(n:Nat):∀l:List Wsh,ae n (l.map iw)=true
 |[]=>rfl
 |x::l=>by
  rw[List.map_cons];unfold ae;rw[Vf n l];rfl
theorem Ir(n:Nat):∀l r:LA,ae n (l++r)=(ae n l&&ae n r)
 |[],r=>by simp[ae]
 |x::l,r=>by simp[ae,Ir n l r,Bool.and_assoc]
theorem uF(n:Nat)(b st part sz):AO.below n (.cells (cO b st part sz) FZ)=true:=by
 unfold AO.below cO;simp[ae,below,Ir,Vf,iT]
theorem akk (hC:Has C oD nZ) (hR:Has C aW bz) (hg:C.gl pM=some (kR.map iw))
  (O:St) (hσ:Ok O) (p:Nat) (b:Bool) (st:List Wsh) (part:LU) (sz:Int) (hp:O[p]?=some (.cells (cO b st part sz) FZ)) (h8:st.length=8) (h64:part.length=64):
  ai C oD [.ref p 0] O=some (.tup [],O.set p (.cells (cO b (abE st part) part sz) FZ)):=by
 rw[hC.run];unfold yH;have hpl:p<O.length:=(List.getElem?_eq_some_iff.mp hp).1;obtain⟨w0,hw0⟩:∃w0,w0=RS part 16 0 Ny:=⟨_,rfl⟩;obtain⟨w,hw⟩:∃w,w=RU 48 16 w0:=⟨_,rfl⟩;obtain⟨s,hs⟩:∃s,s=Eb w 64 0 st:=⟨_,rfl⟩;obtain⟨st',hst⟩:∃st',st'=RY s 8 0 st:=⟨_,rfl⟩;have lw0:w0.length=64:=by rw[hw0,Lm];rfl
 have lw:w.length=64:=by rw[hw,Lp,lw0]
 have ls:s.length=8:=by rw[hs];exact F5 w 64 0 st h8
 have hm:abE st part=st':=by unfold abE;rw[hst,hs,hw,hw0]
 rw[hm];have q0:=VY (C:=C) b st part sz O p hp h8 h64 16 0 Ny (by omega) (by unfold Ny;rw[List.length_replicate])
 have q1:=VZ hR O p 48 16 w0 (by omega) (by omega) lw0
 have q2:=V4 hR hg (O++[.cells (w.map iw) FZ]) p O.length w lw (by rw[jm]) 64 0 st (by omega) h8
 have q3:=V5 (C:=C) b part sz h64 (O++[.cells (w.map iw) FZ]) p (by rw[List.length_append];omega) s ls 8 0 st (by omega) h8
 rw[<-hw0]at q0;rw[<-hw]at q1;rw[<-hs]at q2;rw[<-hst]at q3;have e1:(O++[AO.cells (w.map iw) FZ]).set p (.cells (cO b st part sz) FZ)=O++[AO.cells (w.map iw) FZ]:=by
  rw[List.set_append_left _ _ hpl,<-(List.getElem?_eq_some_iff.mp hp).2,List.set_getElem_self]
 rw[e1]at q3;rw[List.set_append_left _ _ hpl]at q3;have z64:O++[AO.cells [AV.int .u32 0,AV.int .u32 0,AV.int .u32 0,AV.int .u32 0,AV.int .u32 0,AV.int .u32 0,AV.int .u32 0,AV.int .u32 0,AV.int .u32 0,AV.int .u32 0,AV.int .u32 0,AV.int .u32 0,AV.int .u32 0,AV.int .u32 0,AV.int .u32 0,AV.int .u32 0,AV.int .u32 0,AV.int .u32 0,AV.int .u32 0,AV.int .u32 0,AV.int .u32 0,AV.int .u32 0,AV.int .u32 0,AV.int .u32 0,AV.int .u32 0,AV.int .u32 0,AV.int .u32 0,AV.int .u32 0,AV.int .u32 0,AV.int .u32 0,AV.int .u32 0,AV.int .u32 0,AV.int .u32 0,AV.int .u32 0,AV.int .u32 0,AV.int .u32 0,AV.int .u32 0,AV.int .u32 0,AV.int .u32 0,AV.int .u32 0,AV.int .u32 0,AV.int .u32 0,AV.int .u32 0,AV.int .u32 0,AV.int .u32 0,AV.int .u32 0,AV.int .u32 0,AV.int .u32 0,AV.int .u32 0,AV.int .u32 0,AV.int .u32 0,AV.int .u32 0,AV.int .u32 0,AV.int .u32 0,AV.int .u32 0,AV.int .u32 0,AV.int .u32 0,AV.int .u32 0,AV.int .u32 0,AV.int .u32 0,AV.int .u32 0,AV.int .u32 0,AV.int .u32 0,AV.int .u32 0] FZ]=O++[.cells (Ny.map iw) FZ]:=rfl;have g1:=Bz hp [AO.cells (w.map iw) FZ];have tk:8<=((cO b st part sz).drop 1).length:=by rw[List.length_drop,kM h8 h64];omega
 have tk2:((cO b st part sz).drop 1).take 8=st.map iw:=by
  unfold cO;rw[List.drop_succ_cons,List.drop_zero,List.take_append_of_le_length (by simp[h8]),List.take_of_length_le (by simp[h8])]
 have fl:(st.map iw).all AV.flat=true:=by
  rw[List.all_eq_true];intro x hx;obtain⟨y,_,rfl⟩:=List.mem_map.mp hx;rfl
 have sp:splice [AV.int .u32 0,AV.int .u32 0,AV.int .u32 0,AV.int .u32 0,AV.int .u32 0,AV.int .u32 0,AV.int .u32 0,AV.int .u32 0] 0 (st.map iw)=st.map iw:=AB _ _ (by simp[h8])
 have ty:tidy O.length [] (O.set p (.cells (cO b st' part sz) FZ)++[.cells (w.map iw) FZ]++[.cells (s.map iw) FZ])=O.set p (.cells (cO b st' part sz) FZ):=by
  have:=yz (hσ.setW p (uF O.length b st' part sz)) (vs:=[]) rfl ([.cells (w.map iw) FZ]++[.cells (s.map iw) FZ]);rw[List.length_set,<-List.append_assoc]at this;exact this
 simp only[Int.cast_ofNat_Int]at q0 q1 q2 q3;simp only[nZ,z64,q0,q1,q2,q3,g1,tk,tk2,fl,sp,ty,h8,List.length_map,jm,mY,EVQ,EVC,EVA,Nat.reduceEqDiff,qK,eqA,bF,bH,jV,dV,pt,bi,Nat.reduceSub,Nat.reduceGT,Nat.reduceLT,Nat.reduceAdd,hand,bZ,aJ,aU,freeze,reduceIte,reduceCtorEq,iG,fG,isStr,vZ,rep,AX,Az,Nat.reduceMul,Nat.reduceLeDiff]
def lay(part:LU)(used:Nat)(s:LU):LU:=part.take used++s++part.drop (used+s.length)
def lN:Nat->List Wsh->LU->Nat->LU->List Wsh×LU
 |0,st,part,_,_=>(st,part)
 |n+1,st,part,used,s=>
  if s=[]then(st,part)else
  if used+min s.length (64-used)=64 then
   lN n (abE st (lay part used (s.take (min s.length (64-used))))) (lay part used (s.take (min s.length (64-used)))) 0 (s.drop (min s.length (64-used)))
  else(st,lay part used (s.take (min s.length (64-used))))
theorem Jv{part s:LU}{used:Nat}(h:used+s.length<=part.length):(lay part used s).length=part.length:=by
 simp[lay];omega
theorem aeB{b st part sz}(h8:st.length=8){used:Nat}{s:LU}(h:used+s.length<=part.length):splice (cO b st part sz) (9+used) (ofBytes s)=cO b st (lay part used s) sz:=by
 unfold cO splice lay;rw[show 9+used=(8+used)+1 by omega,List.take_succ_cons,show(8+used)+1+(ofBytes s).length=(8+used+s.length)+1 by rw[au];omega,List.drop_succ_cons]
 have e1:(st.map iw++(ofBytes part++[AV.int .i64 sz])).take (8+used)=st.map iw++ofBytes (part.take used):=by
  rw[List.take_append,List.take_of_length_le (by simp[h8])]
  simp only[List.length_map,h8,Nat.add_sub_cancel_left];rw[List.take_append_of_le_length (by rw[au];omega)]
  unfold ofBytes;rw[List.map_take]
 have e2:(st.map iw++(ofBytes part++[AV.int .i64 sz])).drop (8+used+s.length)=ofBytes (part.drop (used+s.length))++[AV.int .i64 sz]:=by
  rw[List.drop_append,List.drop_eq_nil_of_le (by simp[h8];omega)]
  simp only[List.length_map,h8,List.nil_append,show 8+used+s.length-8=used+s.length by omega]
  rw[List.drop_append_of_le_length (by rw[au];omega)]
  unfold ofBytes;rw[List.map_drop]
 rw[e1,e2];simp[ofBytes]
theorem AA (hM:Has C oD nZ) (hR:Has C aW bz) (hg:C.gl pM=some (kR.map iw))
  (b:Bool) (sz:Int) (O:St) (hσ:Ok O) (p:Nat) (hp:p<O.length):
  ∀(n:Nat) (s:LU) (st:List Wsh) (part:LU) (used:Nat),s.length<n->used<64->s.length<=1099511627776->st.length=8->part.length=64->
  aB C (ai C) 55 [0,1,5] gQ [(0,.ref p 0),(1,.str s),(5,.int .i64 used)] (O.set p (.cells (cO b st part sz) FZ))=
   some (.exit 0,[],O.set p (.cells (cO b (lN n st part used s).1 (lN n st part used s).2 sz) FZ))
 |0,s,_,_,_,hn,_,_,_,_=>absurd hn (by omega)
 |n+1,s,st,part,used,hn,hu,hl,h8,h64=>by
  rw[iE (he:=rfl)];generalize hk:aB C (ai C) 55 [0,1,5] gQ=rest;by_cases hs:s=[]
  ·subst hs;simp only[gQ,lN,Int.reduceLT,EVY,seval]
  ·have hpos:0<s.length:=List.length_pos_iff.mpr hs;have h0:((s.length:Int)>0):=by omega
   obtain⟨k,hkd⟩:∃k,k=min s.length (64-used):=⟨_,rfl⟩;have k1:k<=s.length:=by omega
   have k2:used+k<=64:=by omega
   have k3:0<k:=by omega
   have hlen:=kM (b:=b) (sz:=sz) h8 h64;have g0:∀x,(O.set p x)[p]?=some x:=fun x=>List.getElem?_set_self hp;have c1:used<=64:=by omega
   have c2:¬used=64:=by omega
   have c3:(0:Int)<=(used:Int):=by omega
   have c4:9+used+k<=74:=by omega
   have tkk:(ofBytes s).take k=ofBytes (s.take k):=by unfold ofBytes;rw[List.map_take]
   have hlay:=aeB (b:=b) (sz:=sz) h8 (used:=used) (s:=s.take k) (part:=part) (by rw[List.length_take,h64];omega)
   have c5:(0:Int)<=(k:Int):=by omega
   have w1:IntKind.i64.wrap ((used:Int)+(k:Int))=((used+k:Nat):Int):=wrE (by omega)
   have tks:s.take s.length=s:=List.take_length;have lp:(lay part used (s.take k)).length=64:=by rw[Jv (by rw[List.length_take,h64];omega),h64]
   have ok1:Ok (O.set p (.cells (cO b st (lay part used (s.take k)) sz) FZ)):=hσ.setW p (uF _ _ _ _ _);by_cases h64':used+k=64
   ·have b1:((((used+k:Nat):Int)==64))=true:=by rw[h64'];rfl
    have hmx:=akk hM hR hg (O.set p (.cells (cO b st (lay part used (s.take k)) sz) FZ)) ok1 p b st (lay part used (s.take k)) sz (g0 _) h8 lp;rw[List.set_set]at hmx;simp only[gQ,lN,hs,h0,g0,hlen,c1,c2,c3,c4,c5,<-hkd,tkk,hlay,w1,tks,h64',hmx,rE,List.set_set,Int.toNat_natCast,k1,EVY,seval];rw[<-hk];have:=AA hM hR hg b sz O hσ p hp n (s.drop k) (abE st (lay part used (s.take k))) (lay part used (s.take k)) 0 (by rw[List.length_drop];omega) (by omega) (by rw[List.length_drop];omega) (Ph h8 _) lp
    simp only[Int.cast_ofNat_Int]at this;exact this
   ·have b1:((((used+k:Nat):Int)==64))=false:=by
     rw[beq_eq_false_iff_ne];omega
    have hnil:s.drop k=[]:=List.drop_eq_nil_of_le (by omega)
    simp only[gQ,lN,hs,h0,g0,hlen,c1,c2,c3,c4,c5,<-hkd,tkk,hlay,w1,tks,b1,h64',rE,List.set_set,Int.toNat_natCast,k1,EVY,seval];rw[<-hk,hnil];have:=AA hM hR hg b sz O hσ p hp n [] st (lay part used (s.take k)) (used+k) (by simp;omega) (by omega) (by simp) h8 lp
    rw[this];cases n<;>rfl
theorem SL{b st part sz}:(cO b st part sz).head? =some (.bool b):=rfl
theorem Js{b st part sz}(h8:st.length=8)(h64:part.length=64):((cO b st part sz).drop 73).head? =some (.int .i64 sz):=by
 unfold cO;rw[List.head?_drop,List.getElem?_cons_succ,List.getElem?_append_right (by simp[h8]),List.getElem?_append_right (by simp[h8,h64,au])]
 simp[h8,h64,au]
theorem IA{b st part sz}(h8:st.length=8)(h64:part.length=64)(z:Int):splice (cO b st part sz) 73 [.int .i64 z]=cO b st part z:=by
 unfold cO splice;rw[List.take_succ_cons,show 73+[AV.int .i64 z].length=73+1 from rfl,List.drop_succ_cons,<-List.append_assoc,List.take_append_of_le_length (by simp[h8,h64,au]),List.take_of_length_le (by simp[h8,h64,au]),List.drop_eq_nil_of_le (by simp[h8,h64,au])]
 simp
def qQ(b:Bool)(st:List Wsh):List Wsh:=if b then st else hI
theorem yJ{b:Bool}{st:List Wsh}(h8:st.length=8):(qQ b st).length=8:=by cases b<;>simp[qQ,h8,hI]
theorem Oj (hC:Has C rq nY) (hM:Has C oD nZ) (hR:Has C aW bz) (hg:C.gl pM=some (kR.map iw)) (hi:C.gl rY=some (hI.map iw))
  (O:St) (hσ:Ok O) (p:Nat) (b:Bool) (st:List Wsh) (part:LU) (sz:Nat) (hp:O[p]?=some (.cells (cO b st part sz) FZ)) (h8:st.length=8) (h64:part.length=64) (hsz:sz<=4398046511104)
  (s:LU) (hl:s.length<=1099511627776):
  ai C rq [.ref p 0,.str s] O=some (.int .i64 0,O.set p (.cells (cO true (lN (s.length+1) (qQ b st) part (sz%64) s).1 (lN (s.length+1) (qQ b st) part (sz%64) s).2 ((sz+s.length:Nat):Int)) FZ)):=by
 rw[hC.run];unfold yH;have hpl:p<O.length:=(List.getElem?_eq_some_iff.mp hp).1;have g0:∀x,(O.set p x)[p]?=some x:=fun x=>List.getElem?_set_self hpl;have w1:((sz:Int)).tmod 64=((sz%64:Nat):Int):=by rw[Int.tmod_eq_emod_of_nonneg (by omega)];omega
 have w2:IntKind.i64.wrap ((sz:Int)+(s.length:Int))=((sz+s.length:Nat):Int):=wrE (by omega)
 have q:=AA hM hR hg true ((sz+s.length:Nat):Int) O hσ p hpl (s.length+1) s (qQ b st) part (sz%64) (by omega) (by omega) hl (yJ h8) h64
 have n64:¬((64:Int)=0):=by decide
 have ty:∀x,tidy O.length [.int .i64 0] (O.set p x)=O.set p x:=fun x=>by
  have:=CY (O.set p x) [.int .i64 0];rw[List.length_set]at this;exact this
 cases b with
 |true=>
  have hl0:=kM (b:=true) (sz:=sz) h8 h64;have z1:=Js (b:=true) (sz:=sz) h8 h64;have z2:=IA (b:=true) (sz:=sz) h8 h64 ((sz+s.length:Nat):Int);have z0:=SL (b:=true) (st:=st) (part:=part) (sz:=sz);have e:qQ true st=st:=rfl;rw[e]at q⊢;simp only[nY,hp,z0,z1,z2,hl0,w1,w2,n64,q,ty,EVY,seval]
 |false=>
  have e:qQ false st=hI:=rfl;have hl0:=kM (b:=false) (sz:=sz) h8 h64;have hl1:=kM (b:=true) (sz:=sz) h8 h64;have hl2:=kM (b:=true) (sz:=sz) (st:=hI) rfl h64;have z0:=SL (b:=false) (st:=st) (part:=part) (sz:=sz);have z1:=Js (b:=true) (sz:=sz) (st:=hI) rfl h64;have z2:=IA (b:=true) (sz:=sz) (st:=hI) rfl h64 ((sz+s.length:Nat):Int);have z3:splice (cO false st part sz) 0 [.bool true]=cO true st part sz:=rfl;have z4:splice (cO true st part sz) 1 (hI.map iw)=cO true hI part sz:=by
   unfold cO splice;rw[List.take_succ_cons,show 1+(hI.map iw).length=8+1 from rfl,List.drop_succ_cons,List.drop_append,List.drop_eq_nil_of_le (by simp[h8])]
   simp[h8]
  have z5:8<=(hI.map iw).length:=by decide
  have z6:(hI.map iw).take 8=hI.map iw:=rfl;have z7:(hI.map iw).length=8:=rfl;have z8:(hI.map iw).all AV.flat=true:=rfl;rw[e]at q⊢;simp only[nY,hp,hi,Option.getD_some,z0,z1,z2,z3,z4,z6,z7,z8,hl0,hl1,hl2,w1,w2,n64,q,g0,ty,List.set_set,EVY,seval]
def hexV(b:UInt8):Option Nat:=
 if 48<=b.toNat/\b.toNat<=57 then some (b.toNat-48)else if 97<=b.toNat/\b.toNat<=102 then some (b.toNat-87)else none
def LY(s:LU)(i:Int):Option Nat:=
 if i<0 then none else s[i.toNat]?.bind hexV
def FN(o:Option Nat):AV:=
 .tup [.int .i64 (o.getD 0:Nat),.bool o.isSome]
theorem Hg (hC:Has C jS jI) (s:LU) (i:Int) (O:St):
  ai C jS [.str s,.int .i64 i] O=some (FN (LY s i),O):=by
 rw[hC.run];unfold yH;by_cases h0:i<0
 ·simp only[jI,h0,LY,FN,EVY,seval];rfl
 ·by_cases h1:(s.length:Int)<=i
  ·have h2:s[i.toNat]?=none:=List.getElem?_eq_none (by omega)
   simp only[jI,h0,h1,h2,LY,FN,EVY,seval];rfl
  ·have h2:i.toNat<s.length:=by omega
   have h3:0<=i:=by omega
   obtain⟨b,hb⟩:∃b,s[i.toNat]?=some b:=⟨_,List.getElem?_eq_getElem h2⟩;have hlt:b.toNat<256:=b.toNat_lt;have hA:((48:Int)<=b.toNat)=(48<=b.toNat):=by simp;omega
   have hB:((b.toNat:Int)<=57)=(b.toNat<=57):=by simp;omega
   have hD:((97:Int)<=b.toNat)=(97<=b.toNat):=by simp;omega
   have hE:((b.toNat:Int)<=102)=(b.toNat<=102):=by simp;omega
   have hv:LY s i=hexV b:=by simp[LY,h0,hb]
   rw[hv];by_cases h4:48<=b.toNat
   ·by_cases h5:b.toNat<=57
    ·have e1:IntKind.u8.wrap ((b.toNat:Int)-48)=((b.toNat-48:Nat):Int):=by rw[wu8]<;>omega
     have e2:IntKind.i64.wrap ((b.toNat-48:Nat):Int)=((b.toNat-48:Nat):Int):=wrE (by omega)
     simp only[jI,h0,h1,h3,hb,h4,h5,hA,hB,e1,e2,EVY,seval];simp[FN,hexV,h4,h5]
    ·by_cases h6:97<=b.toNat
     ·by_cases h7:b.toNat<=102
      ·have e1:IntKind.u8.wrap ((b.toNat:Int)-97)=((b.toNat-97:Nat):Int):=by rw[wu8]<;>omega
       have e2:IntKind.i64.wrap ((b.toNat-97:Nat):Int)=((b.toNat-97:Nat):Int):=wrE (by omega)
       have e3:IntKind.i64.wrap (((b.toNat-97:Nat):Int)+10)=((b.toNat-87:Nat):Int):=wrE (by omega)
       simp only[jI,h0,h1,h3,hb,h4,h5,h6,h7,hA,hB,hD,hE,e1,e2,e3,EVY,seval];simp[FN,hexV,h4,h5,h6,h7]
      ·simp only[jI,h0,h1,h3,hb,h4,h5,h6,h7,hA,hB,hD,hE,EVY,seval];simp[FN,hexV,h4,h5,h6,h7]
     ·simp only[jI,h0,h1,h3,hb,h4,h5,h6,hA,hB,hD,EVY,seval];simp[FN,hexV,h4,h5,h6]
   ·have h6:¬97<=b.toNat:=by omega
    simp only[jI,h0,h1,h3,hb,h4,h6,hA,hD,EVY,seval];simp[FN,hexV,h4,h6]
def SV(b:UInt8):Bool:=(hexV b).isSome
theorem agX{s:LU}{i:Nat}{b:UInt8}(h:s[i]?=some b):(LY s i).isSome=SV b:=by
 have:¬((i:Int)<0):=by omega
 simp[LY,h,SV,this]
theorem O5 (hd:Has C jS jI) (s:LU) (hs:s.length<=1099511627776) (O:St):∀(n i:Nat),i+n=s.length->
  aB C (ai C) 20 [0,7,8] tV [(0,.str s),(7,.int .i64 s.length),(8,.int .i64 i)] O=
   if(s.drop i).all SV then some (.exit 0,[],O)else some (.ret,[(2,.bool false)],O)
 |0,i,hi=>by
  rw[iE (he:=rfl)];have h:¬((i:Int)<(s.length:Int)):=by omega
  have h':s.drop i=[]:=List.drop_eq_nil_of_le (by omega)
  simp only[tV,h,h',List.all_nil,EVY,seval]
 |n+1,i,hi=>by
  rw[iE (he:=rfl)];generalize hk:aB C (ai C) 20 [0,7,8] tV=k;have h:((i:Int)<(s.length:Int)):=by omega
  have h2:i<s.length:=by omega
  have hb:s[i]?=some s[i]:=List.getElem?_eq_getElem h2;have h':s.drop i=s[i]::s.drop (i+1):=List.drop_eq_getElem_cons h2;have hw:=wrS i (by omega)
  rw[h',List.all_cons,<-agX hb];cases hx:(LY s i).isSome
  ·simp only[tV,h,Hg hd,FN,hx,Bool.false_and,EVY,seval]
  ·simp only[tV,h,Hg hd,FN,hx,hw,Bool.true_and,EVY,seval];rw[<-hk,O5 hd s hs O n (i+1) (by omega)]
theorem am1 (hC:Has C EZ QE) (hd:Has C jS jI) (s:LU) (hs:s.length<=1099511627776) (O:St):
  ai C EZ [.str s] O=some (.bool (s.all SV),O):=by
 rw[hC.run];unfold yH;have:=O5 hd s hs O s.length 0 (by omega)
 simp only[Int.cast_ofNat_Int,List.drop_zero,EVY,seval]at this;cases hx:s.all SV
 ·rw[hx]at this;simp only[QE,this,EVY,seval]
 ·rw[hx]at this;simp only[QE,this,EVY,seval]
def ZB(n:Nat):UInt8:=if n<10 then UInt8.ofNat (48+n)else UInt8.ofNat (87+n)
def hexDigits:LU:=[48,49,50,51,52,53,54,55,56,57,97,98,99,100,101,102]
def agk(b:UInt8):LU:=[ZB (b.toNat/16),ZB (b.toNat%16)]
def rQ(s:LU):LU:=s.flatMap agk
theorem ad8(n:Nat)(h:n<16):((ofBytes hexDigits).drop n).head? =some (.int .u8 (ZB n).toNat):=by
 have:∀n:Fin 16,((hexDigits.drop n.1).head?).map (fun b=>(AV.int .u8 (b.toNat:Int)))=some (.int .u8 ((ZB n.1).toNat:Int)):=by
  intro n;obtain⟨n,hn⟩:=n;rcases(by omega:n=0\/n=1\/n=2\/n=3\/n=4\/n=5\/n=6\/n=7\/n=8\/n=9\/n=10\/n=11\/n=12\/n=13\/n=14\/n=15)with h|h|h|h|h|h|h|h|h|h|h|h|h|h|h|h<;>subst h<;>rfl
 have:=this ⟨n,h⟩;unfold ofBytes;rw[<-List.map_drop,List.head?_map];exact this
theorem U6 {tg:Option (TypeId×Bool)} (O:St) (k:Nat) (acc cs:LU) (m:Nat) (hm:cs.length=m) (h0:0<m) (hl:acc.length+m<=70368744177664):
  qV (pile O k (.cells (ofBytes acc) FZ)) 1 1 tg (.msl (O.length+k) 0 acc.length 1) m (ofBytes cs)=some (.msl (O.length+(k+1)) 0 (acc++cs).length 1,pile O (k+1) (.cells (ofBytes (acc++cs)) FZ)):=by
 have hm0:¬m=0:=by omega
 have ht:(if none=tg then tg else none)=none:=by split<;>simp_all
 unfold qV;rw[if_neg hm0];simp only[FQ];rw[if_pos ⟨trivial,by rw[au];omega,by omega,hl⟩,aa8,Px,FK,List.length_append,hm,ht]
theorem Et (hg:C.gl zl=some (ofBytes hexDigits)) (s:LU) (hs:s.length<=1099511627776) (O:St):∀(n i k:Nat) (acc:LU),i+n=s.length->acc.length=2*i->
  aB C (ai C) 32 [0,3,4] ou [(0,.str s),(3,.msl (O.length+k) 0 acc.length 1),(4,.int .i64 i)] (pile O k (.cells (ofBytes acc) FZ))=
   some (.exit 0,[(3,.msl (O.length+(k+n)) 0 (acc++rQ (s.drop i)).length 1)],pile O (k+n) (.cells (ofBytes (acc++rQ (s.drop i))) FZ))
 |0,i,k,acc,hi,ha=>by
  rw[iE (he:=rfl)];have h:¬((i:Int)<(s.length:Int)):=by omega
  have h':s.drop i=[]:=List.drop_eq_nil_of_le (by omega)
  simp only[ou,h,h',rQ,List.flatMap_nil,Nat.add_zero,EVQ,EVC,EVA,Nat.reduceEqDiff,qK,eqA,bF,bH,jV,dV,pt,bi,Nat.reduceSub,Nat.reduceGT,Nat.reduceLT,Nat.reduceAdd,hand,bZ,aJ,aU,freeze,reduceIte,reduceCtorEq,iG,fG,isStr,vZ,rep,AX,Az,Nat.reduceMul,Nat.reduceLeDiff]
 |n+1,i,k,acc,hi,ha=>by
  rw[iE (he:=rfl)];generalize hk:aB C (ai C) 32 [0,3,4] ou=rest;have h:((i:Int)<(s.length:Int)):=by omega
  have h2:i<s.length:=by omega
  have hb:s[i]?=some s[i]:=List.getElem?_eq_getElem h2;have h':s.drop i=s[i]::s.drop (i+1):=List.drop_eq_getElem_cons h2;have hw:=wrS i (by omega)
  rw[h'];generalize s[i]=b at hb;have hlt:b.toNat<256:=b.toNat_lt;have h0:(0:Int)<=i:=by omega
  have e1:((b.toNat:Int)).fdiv (2^(min (4:Int).toNat IntKind.u8.bits))=((b.toNat/16:Nat):Int):=by
   show((b.toNat:Int)).fdiv 16=_;rw[Int.fdiv_eq_ediv_of_nonneg _ (by omega)];omega
  have e2:IntKind.u8.wrap ((BitVec.ofInt IntKind.u8.bits (b.toNat:Int)&&&BitVec.ofInt IntKind.u8.bits 15).toNat:Int)=((b.toNat%16:Nat):Int):=by
   have:=alA .u8 rfl b.toNat 15 hlt (by decide)
   rw[show((15:Nat):Int)=15 from rfl]at this;rw[this,show 15=2^4-1 from rfl,Nat.and_two_pow_sub_one_eq_mod]
  have e3:(0:Int)<=((b.toNat/16:Nat):Int):=by omega
  have e4:(0:Int)<=((b.toNat%16:Nat):Int):=by omega
  have e5:(((b.toNat/16:Nat):Int)).toNat<16/\(((b.toNat/16:Nat):Int)).toNat*1<=(ofBytes hexDigits).length:=by rw[au];simp[hexDigits];omega
  have e6:(((b.toNat%16:Nat):Int)).toNat<16/\(((b.toNat%16:Nat):Int)).toNat*1<=(ofBytes hexDigits).length:=by rw[au];simp[hexDigits];omega
  have d1:((ofBytes hexDigits).drop ((((b.toNat/16:Nat):Int)).toNat*1)).head? =some (.int .u8 (ZB (b.toNat/16)).toNat):=by
   rw[Int.toNat_natCast,Nat.mul_one];exact ad8 _ (by omega)
  have d2:((ofBytes hexDigits).drop ((((b.toNat%16:Nat):Int)).toNat*1)).head? =some (.int .u8 (ZB (b.toNat%16)).toNat):=by
   rw[Int.toNat_natCast,Nat.mul_one];exact ad8 _ (by omega)
  have n4:¬((4:Int)<0):=by decide
  have ti:((i:Int)).toNat=i:=Int.toNat_natCast i;have happ:∀tg,qV (pile O k (.cells (ofBytes acc) FZ)) 1 1 tg (.msl (O.length+k) 0 acc.length 1) 2 [.int .u8 (ZB (b.toNat/16)).toNat,.int .u8 (ZB (b.toNat%16)).toNat]=_:=fun tg=>U6 O k acc (agk b) 2 rfl (by omega) (by omega)
  simp only[Int.toNat_natCast,Nat.mul_one]at e5 e6 d1 d2;simp only[ou,h,h0,hb,ti,hw,n4,e1,e2,e3,e4,e5,e6,d1,d2,hg,happ,Int.toNat_natCast,Option.getD_some,EVQ,EVC,EVA,Nat.reduceEqDiff,qK,eqA,bF,bH,jV,dV,pt,bi,Nat.reduceSub,Nat.reduceGT,Nat.reduceLT,Nat.reduceAdd,hand,bZ,aJ,aU,freeze,reduceIte,reduceCtorEq,iG,fG,isStr,vZ,rep,AX,Az,Nat.reduceMul,Nat.reduceLeDiff];rw[<-hk,Et hg s hs O n (i+1) (k+1) (acc++agk b) (by omega) (by rw[List.length_append,ha];simp[agk];omega)]
  simp[rQ,Nat.add_assoc,Nat.add_comm 1 n]
theorem hex_Encode (hC:Has C zh C9) (hg:C.gl zl=some (ofBytes hexDigits)) (s:LU) (hs:s.length<=1099511627776) (O:St) (hσ:Ok O):
  ai C zh [.str s] O=some (.str (rQ s),O):=by
 rw[hC.run];unfold yH;have hl:=Et hg s hs O s.length 0 0 [] (by omega) rfl
 have hw:IntKind.i64.wrap (2*(s.length:Int))=((2*s.length:Nat):Int):=wrE (by omega)
 have hp:O++[AO.cells [] FZ]=pile O 0 (.cells (ofBytes []) FZ):=rfl;have hc:(0:Int)<=0/\(0:Int)<=((2*s.length:Nat):Int)/\((2*s.length:Nat):Int)<=9223372036854775807/\(1:Int)*((2*s.length:Nat):Int)<=140737488355328:=by omega
 simp only[List.drop_zero,List.nil_append,Nat.zero_add,List.length_nil,Nat.add_zero,Int.cast_ofNat_Int]at hl;have hb:=qI (rQ s);have ht:(ofBytes (rQ s)).take (rQ s).length=ofBytes (rQ s):=List.take_of_length_le (by rw[au];omega)
 have hy:tidy O.length [.str (rQ s)] (pile O s.length (.cells (ofBytes (rQ s)) FZ))=O:=WM hσ rfl _ _;simp only[C9,hw,hc,hp,hl,hb,ht,hy,FQ,au,Int.toNat_zero,EVQ,EVC,EVA,Nat.reduceEqDiff,qK,eqA,bF,bH,jV,dV,pt,bi,Nat.reduceSub,Nat.reduceGT,Nat.reduceLT,Nat.reduceAdd,hand,bZ,aJ,aU,freeze,reduceIte,reduceCtorEq,iG,fG,isStr,vZ,rep,AX,Az,Nat.reduceMul,Nat.reduceLeDiff]
def alK(len i:Nat):UInt8:=UInt8.ofNat (len/2^(56-8*i))
def RZ(len:Nat):Nat->Nat->LU->LU
 |0,_,t=>t
 |n+1,i,t=>RZ len n (i+1) (t.set i (alK len i))
theorem PP(l:LU)(i:Nat)(v:UInt8)(h:i<l.length):splice (ofBytes l) i [.int .u8 (v.toNat:Int)]=ofBytes (l.set i v):=Ed (fun b:UInt8=>AV.int .u8 (b.toNat:Int)) l i v h
theorem ae2(n:Nat):IntKind.u8.wrap (n:Int)=((UInt8.ofNat n).toNat:Int):=by
 rw[IntKind.wrap_u8,UInt8.toNat_ofNat'];omega
theorem IR (Y:St) (p len:Nat):
  ∀(n i:Nat) (t:LU),i+n=8->t.length=8->
  aB C (ai C) 69 [3,4,5,31] jw [(3,.ref p 0),(4,.int .u64 len),(5,.ref Y.length 0),(31,.int .i64 i)] (Y++[.cells (ofBytes t) FZ])=
   some (.exit 0,[(3,.ref p 0),(5,.ref Y.length 0)],Y++[.cells (ofBytes (RZ len n i t)) FZ])
 |0,i,t,hi,ht=>by
  rw[iE (he:=rfl)];have h:¬((i:Int)<8):=by omega
  simp only[jw,h,RZ,EVY,seval]
 |n+1,i,t,hi,ht=>by
  rw[iE (he:=rfl)];generalize hk:aB C (ai C) 69 [3,4,5,31] jw=rest;have h:((i:Int)<8):=by omega
  have w1:IntKind.i64.wrap (8*(i:Int))=((8*i:Nat):Int):=wrE (by omega)
  have w2:IntKind.i64.wrap (56-((8*i:Nat):Int))=((56-8*i:Nat):Int):=wrE (by omega)
  have w5:=wrS i (by omega)
  have p1:∀j:Nat,(0:Int)<=(j:Int):=fun j=>by omega
  have p2:∀j:Nat,¬((j:Int)<0):=fun j=>by omega
  have m1:min (56-8*i) IntKind.u64.bits=56-8*i:=by show min (56-8*i) 64=_;omega
  have f1:(len:Int).fdiv (2^(56-8*i))=((len/2^(56-8*i):Nat):Int):=by
   rw[Int.fdiv_eq_ediv_of_nonneg _ (Int.pow_nonneg (by decide)),Int.natCast_ediv,Int.natCast_pow];rfl
  have l5:i<8:=by omega
  have l6:i+1<=8:=by omega
  have s1:=PP t i (alK len i) (by omega)
  unfold alK at s1;simp only[jw,h,w1,w2,w5,p1,p2,m1,f1,ae2,l5,l6,s1,ht,au,jm,mY,Int.toNat_natCast,EVY,seval];rw[<-hk];exact IR Y p len n (i+1) _ (by omega) (by rw[List.length_set,ht])
def be32(x:Wsh):LU:=[UInt8.ofNat (x>>>24).toNat,UInt8.ofNat (x>>>16).toNat,UInt8.ofNat (x>>>8).toNat,UInt8.ofNat x.toNat]
theorem am3(y:Wsh)(O:St):am2 .u8 (iw y) O=some (.val (.int .u8 ((UInt8.ofNat y.toNat).toNat:Int)) O):=by
 unfold iw;rw[LZ,ae2]
theorem IU (O:St) (st:List Wsh) (h8:st.length=8):
  ∀(n i k:Nat) (acc:LU),i+n=8->acc.length=4*i->
  aB C (ai C) 69 [7,48,49] kV [(7,.msl (O.length+k) 0 acc.length 1),(48,.agg (st.map iw)),(49,.int .i64 i)] (pile O k (.cells (ofBytes acc) FZ))=
   some (.exit 2,[(7,.msl (O.length+(k+n)) 0 (acc++(st.drop i).flatMap be32).length 1)],pile O (k+n) (.cells (ofBytes (acc++(st.drop i).flatMap be32)) FZ))
 |0,i,k,acc,hi,ha=>by
  rw[iE (he:=rfl)];have h:¬((i:Int)<8):=by omega
  have h':st.drop i=[]:=List.drop_eq_nil_of_le (by omega)
  simp only[kV,h,h',List.flatMap_nil,List.append_nil,Nat.add_zero,EVY,seval]
 |n+1,i,k,acc,hi,ha=>by
  rw[iE (he:=rfl)];generalize hk:aB C (ai C) 69 [7,48,49] kV=rest;have h:((i:Int)<8):=by omega
  have p1:∀j:Nat,(0:Int)<=(j:Int):=fun j=>by omega
  have w5:=wrS i (by omega)
  have l5:i<8:=by omega
  have a0:=rU st i (by omega)
  have h':st.drop i=st.getD i 0::st.drop (i+1):=by
   rw[List.drop_eq_getElem_cons (by omega),List.getD_eq_getElem?_getD,List.getElem?_eq_getElem (by omega)];rfl
  rw[h'];generalize st.getD i 0=x at a0;have happ:∀tg,qV (pile O k (.cells (ofBytes acc) FZ)) 1 1 tg (.msl (O.length+k) 0 acc.length 1) 4 [.int .u8 (UInt8.ofNat (x>>>24).toNat).toNat,.int .u8 (UInt8.ofNat (x>>>16).toNat).toNat,.int .u8 (UInt8.ofNat (x>>>8).toNat).toNat,.int .u8 (UInt8.ofNat x.toNat).toNat]=_:=fun tg=>U6 O k acc (be32 x) 4 rfl (by omega) (by omega)
  simp only[kV,h,p1,w5,l5,a0,adi,am3,happ,Int.toNat_natCast,Int.reduceLE,Int.reduceToNat,Ve,EVY,seval];rw[<-hk,IU O st h8 n (i+1) (k+1) (acc++be32 x) (by omega) (by rw[List.length_append,ha];simp[be32];omega)]
  simp[Nat.add_assoc,Nat.add_comm 1 n]
theorem nH:∀(n:Nat) (st:List Wsh) (part:LU) (used:Nat) (s:LU),st.length=8->part.length=64->used<=64->(lN n st part used s).1.length=8/\(lN n st part used s).2.length=64
 |0,_,_,_,_,h8,h64,_=>⟨h8,h64⟩
 |n+1,st,part,used,s,h8,h64,hu=>by
  have lp:(lay part used (s.take (min s.length (64-used)))).length=64:=by rw[Jv (by rw[List.length_take,h64];omega),h64]
  unfold lN;split
  ·exact⟨h8,h64⟩
  ·split
   ·exact nH n _ _ 0 _ (Ph h8 _) lp (by omega)
   ·exact⟨h8,lp⟩
theorem Ls(len:Nat):∀(n i:Nat) (t:LU),(RZ len n i t).length=t.length
 |0,_,_=>rfl
 |n+1,i,t=>by unfold RZ;rw[Ls len n,List.length_set]
def F8(sz:Nat):LU:=128::List.replicate ((119-sz%64)%64) 0
def H9(sz:Nat):LU:=RZ (sz*8) 8 0 (List.replicate 8 0)
def aap(b:Bool)(st:List Wsh)(part:LU)(sz:Nat):List Wsh×LU:=lN ((F8 sz).length+1) (qQ b st) part (sz%64) (F8 sz)
def aaq(b:Bool)(st:List Wsh)(part:LU)(sz:Nat):List Wsh×LU:=
 lN ((H9 sz).length+1) (aap b st part sz).1 (aap b st part sz).2 ((sz+(F8 sz).length)%64) (H9 sz)
def vH(b:Bool)(st:List Wsh)(part:LU)(sz:Nat):LU:=(aaq b st part sz).1.flatMap be32
theorem ais (hC:Has C Ae zL) (hW:Has C rq nY) (hM:Has C oD nZ) (hR:Has C aW bz) (hg:C.gl pM=some (kR.map iw)) (hi:C.gl rY=some (hI.map iw))
  (hRep:∀n:Nat,n<64->∀O,ai C kX [.str [0],.int .i64 n] O=some (.str (List.replicate n 0),O))
  (O:St) (hσ:Ok O) (p:Nat) (b:Bool) (st:List Wsh) (part:LU) (sz:Nat) (hp:O[p]?=some (.cells (cO b st part sz) FZ)) (h8:st.length=8) (h64:part.length=64) (hsz:sz<=2199023255552):
  ai C Ae [.ref p 0] O=some (.str (vH b st part sz),O):=by
 rw[hC.run];unfold yH;have hl0:=kM (b:=b) (sz:=sz) h8 h64;have z1:=Js (b:=b) (sz:=sz) h8 h64;obtain⟨pad,hpad⟩:∃x,x=F8 sz:=⟨_,rfl⟩;obtain⟨tl,htl⟩:∃x,x=H9 sz:=⟨_,rfl⟩;obtain⟨r1,hr1⟩:∃x,x=aap b st part sz:=⟨_,rfl⟩;obtain⟨r2,hr2⟩:∃x,x=aaq b st part sz:=⟨_,rfl⟩;have lpad:pad.length<=64:=by rw[hpad];unfold F8;simp;omega
 have ltl:tl.length=8:=by rw[htl];unfold H9;rw[Ls];rfl
 have a1:r1.1.length=8/\r1.2.length=64:=by rw[hr1];exact nH _ _ _ _ _ (yJ h8) h64 (by omega)
 have a2:r2.1.length=8/\r2.2.length=64:=by rw[hr2];unfold aaq;rw[<-hr1];exact nH _ _ _ _ _ a1.1 a1.2 (by omega)
 have ok1:Ok (O++[.cells (cO b st part sz) FZ]):=hσ.app (by simp[uF])
 have q1:=Oj hW hM hR hg hi (O++[.cells (cO b st part sz) FZ]) ok1 O.length b st part sz (jm _ _) h8 h64 (by omega) pad (by omega)
 rw[mY,hpad]at q1;have e1:lN ((F8 sz).length+1) (qQ b st) part (sz%64) (F8 sz)=r1:=hr1.symm;rw[e1,<-hpad]at q1;have ok2:Ok (O++[.cells (cO true r1.1 r1.2 ((sz+pad.length:Nat):Int)) FZ]++[.cells (ofBytes tl) FZ]):=by
  refine Ok.app (hσ.app (by simp[uF])) (by simp[AO.below,iT])
 have q2:=Oj hW hM hR hg hi _ ok2 O.length true r1.1 r1.2 (sz+pad.length) (Bz (jm _ _) _) a1.1 a1.2 (by omega) tl (by omega)
 have e2:lN (tl.length+1) (qQ true r1.1) r1.2 ((sz+pad.length)%64) tl=r2:=by rw[hr2];unfold aaq;rw[<-hr1,<-hpad,<-htl];rfl
 have e3:∀x y z:AO,(O++[x]++[y]).set O.length z=O++[z]++[y]:=fun x y z=>by
  rw[List.set_append_left _ _ (by simp),mY]
 rw[e2,e3]at q2;have q3:=IR (C:=C) (O++[.cells (cO true r1.1 r1.2 ((sz+pad.length:Nat):Int)) FZ]) O.length (sz*8) 8 0 (List.replicate 8 0) (by omega) (by simp)
 have e4:RZ (sz*8) 8 0 (List.replicate 8 0)=tl:=htl.symm;rw[e4]at q3;obtain⟨Y,hτ⟩:∃Y,Y=O++[.cells (cO true r2.1 r2.2 ((sz+pad.length+tl.length:Nat):Int)) FZ]++[.cells (ofBytes tl) FZ]:=⟨_,rfl⟩;rw[<-hτ]at q2;have q4:=IU (C:=C) Y r2.1 a2.1 8 0 0 [] (by omega) rfl
 simp only[List.drop_zero,List.nil_append,Nat.zero_add,List.length_nil,Nat.add_zero,Int.cast_ofNat_Int]at q3 q4;have hout:r2.1.flatMap be32=vH b st part sz:=by unfold vH;rw[hr2]
 rw[hout]at q4;have m1:((sz:Int)).tmod 64=((sz%64:Nat):Int):=by rw[Int.tmod_eq_emod_of_nonneg (by omega)];omega
 have w0:IntKind.u64.wrap (sz:Int)=(sz:Int):=by rw[wu64]<;>omega
 have w1:IntKind.u64.wrap ((sz:Int)*8)=((sz*8:Nat):Int):=by rw[wu64]<;>omega
 have w2:IntKind.i64.wrap (119-((sz%64:Nat):Int))=((119-sz%64:Nat):Int):=wrE (by omega)
 have m2:((119-sz%64:Nat):Int).tmod 64=(((119-sz%64)%64:Nat):Int):=by rw[Int.tmod_eq_emod_of_nonneg (by omega)];omega
 have rp:=hRep ((119-sz%64)%64) (by omega)
 have fl:(cO b st part (sz:Int)).all AV.flat=true:=by
  rw[List.all_eq_true];intro x hx;unfold cO at hx;rcases List.mem_cons.mp hx with h|h
  ·rw[h];rfl
  ·rcases List.mem_append.mp h with h|h
   ·obtain⟨y,_,rfl⟩:=List.mem_map.mp h;rfl
   ·rcases List.mem_append.mp h with h|h
    ·unfold ofBytes at h;obtain⟨y,_,rfl⟩:=List.mem_map.mp h;rfl
    ·rw[List.mem_singleton.mp h];rfl
 have tk:(cO b st part (sz:Int)).take 74=cO b st part sz:=List.take_of_length_le (by omega)
 have sp:∀l:LA,l.length=74->splice l 0 (cO b st part (sz:Int))=cO b st part sz:=fun l hl=>AB _ _ (by rw[hl,hl0])
 have hpd:[(128:UInt8)]++List.replicate ((119-sz%64)%64) 0=pad:=hpad.symm;have bs:∀y,pF .add [(128:UInt8)] (List.replicate ((119-sz%64)%64) 0)=y->y=some (.str pad):=by
  intro y hy;rw[<-hy];unfold pF;dsimp only;rw[if_neg (by simp;omega),hpd]
 have bs:=bs _ rfl;have z8:∀Y:St,Y++[AO.cells [.int .u8 0,.int .u8 0,.int .u8 0,.int .u8 0,.int .u8 0,.int .u8 0,.int .u8 0,.int .u8 0] FZ]=Y++[AO.cells (ofBytes (List.replicate 8 0)) FZ]:=fun _=>rfl;have tk2:(ofBytes tl).take 8=ofBytes tl:=List.take_of_length_le (by rw[au];omega)
 have tp:Y++[AO.cells [] FZ]=pile Y 0 (.cells (ofBytes []) FZ):=rfl;have g1:∀k x,(pile Y k x)[O.length]?=some (.cells (cO true r2.1 r2.2 ((sz+pad.length+tl.length:Nat):Int)) FZ):=fun k x=>by
  unfold pile;refine Bz ?_ _;rw[hτ];exact Bz (jm _ _) _
 have tk3:∀z:Int,((cO true r2.1 r2.2 z).drop 1).take 8=r2.1.map iw:=by
  intro z;unfold cO;rw[List.drop_succ_cons,List.drop_zero,List.take_append_of_le_length (by simp[a2.1]),List.take_of_length_le (by simp[a2.1])]
 have tk4:∀z:Int,8<=((cO true r2.1 r2.2 z).drop 1).length:=by intro z;rw[List.length_drop,kM a2.1 a2.2];omega
 have bo:=qI (vH b st part sz);have bt:=qI tl;have tk5:(ofBytes (vH b st part sz)).take (vH b st part sz).length=ofBytes (vH b st part sz):=List.take_of_length_le (by rw[au];omega)
 have pg:=fun x=>FQ Y 8 x;have ty:∀x,tidy O.length [.str (vH b st part sz)] (pile Y 8 x)=O:=fun x=>by
  unfold pile;rw[hτ,List.append_assoc,List.append_assoc];exact yz hσ rfl _
 have c32:(0:Int)<=0/\(0:Int)<=32/\(32:Int)<=9223372036854775807/\(1:Int)*32<=140737488355328:=by decide
 have n64:¬((64:Int)=0):=by decide
 have g2:=Bz hp [AO.cells (cO b st part (sz:Int)) FZ];simp only[zL,hp,g2,hl0,z1,fl,tk,sp,m1,w0,w1,w2,m2,rp,bs,q1,z8,q3,jm,mY,ltl,tk2,bt,q2,tp,q4,g1,tk3,tk4,bo,tk5,pg,ty,c32,n64,au,Int.toNat_zero,Int.reduceMul,Int.reduceLE,EVY,Nat.reduceEqDiff,Nat.reduceSub,Nat.reduceGT,Nat.reduceLT,reduceIte,reduceCtorEq,Nat.reduceMul,Nat.reduceLeDiff,Int.reduceToNat,Int.reduceLE,Int.reduceLT,Int.reduceEq,Nat.reduceAdd,Int.reduceBNe,Int.reduceBEq,Int.reduceNeg]
def qi:LU:=List.replicate 64 0
theorem akj (hC:Has C NL ND) (hi:C.gl rY=some (hI.map iw)) (O:St) (hσ:Ok O):
  ai C NL [] O=some (.ref O.length 0,O++[.cells (cO true hI qi 0) FZ]):=by
 rw[hC.run];unfold yH;have z6:(hI.map iw).take 8=hI.map iw:=rfl;have z7:(hI.map iw).length=8:=rfl;simp only[ND,hi,Option.getD_some,z6,z7,EVY,seval];rw[wX (by simp[ae,below])]
 rfl
def oL(s:LU):LU:=vH true (lN (s.length+1) hI qi 0 s).1 (lN (s.length+1) hI qi 0 s).2 s.length
structure Je(C:Ctx):Prop where
 new:Has C NL ND
 sum:Has C Ae zL
 write:Has C rq nY
 mix:Has C oD nZ
 rot:Has C aW bz
 sumF:Has C NM U2
 digest:Has C mP JY
 encode:Has C zh C9
 gr:C.gl pM=some (kR.map iw)
 gi:C.gl rY=some (hI.map iw)
 gd:C.gl zl=some (ofBytes hexDigits)
 rep:∀n:Nat,n<64->∀O,ai C kX [.str [0],.int .i64 n] O=some (.str (List.replicate n 0),O)
theorem Nc(h:Je C)(s:LU)(hs:s.length<=1099511627776)(O:St)(hσ:Ok O):ai C NM [.str s] O=some (.str (oL s),O):=by
 rw[h.sumF.run];unfold yH;have q0:=akj h.new h.gi O hσ;have ok1:Ok (O++[.cells (cO true hI qi (0:Nat)) FZ]):=hσ.app (by simp[uF])
 have q1:=Oj h.write h.mix h.rot h.gr h.gi _ ok1 O.length true hI qi 0 (jm _ _) rfl rfl (by omega) s hs
 rw[mY]at q1;have e:qQ true hI=hI:=rfl;rw[e]at q1;have la:=nH (s.length+1) hI qi (0%64) s rfl rfl (by omega)
 simp only[Nat.zero_mod,Nat.zero_add]at q1 la;obtain⟨r,hr⟩:∃r,r=lN (s.length+1) hI qi 0 s:=⟨_,rfl⟩;rw[<-hr]at q1 la;have ok2:Ok (O++[.cells (cO true r.1 r.2 (s.length:Int)) FZ]):=hσ.app (by simp[uF])
 have q2:=ais h.sum h.write h.mix h.rot h.gr h.gi h.rep _ ok2 O.length true r.1 r.2 s.length (jm _ _) la.1 la.2 (by omega)
 have e2:vH true r.1 r.2 s.length=oL s:=by unfold oL;rw[hr]
 rw[e2]at q2;have ty:∀x,tidy O.length [.str (oL s)] (O++[x])=O:=fun x=>yz hσ rfl _;simp only[Int.cast_ofNat_Int]at q1;simp only[U2,q0,q1,q2,ty,EVY,seval]
theorem nP(s:LU):(oL s).length=32:=by
 have la:=nH (s.length+1) hI qi 0 s rfl rfl (by omega)
 unfold oL vH;have l1:(aap true (lN (s.length+1) hI qi 0 s).1 (lN (s.length+1) hI qi 0 s).2 s.length).1.length=8/\(aap true (lN (s.length+1) hI qi 0 s).1 (lN (s.length+1) hI qi 0 s).2 s.length).2.length=64:=nH _ _ _ _ _ (yJ la.1) la.2 (by omega)
 have l2:=(nH ((H9 s.length).length+1) _ _ ((s.length+(F8 s.length).length)%64) (H9 s.length) l1.1 l1.2 (by omega)).1
 have:∀l:List Wsh,(l.flatMap be32).length=4*l.length:=by
  intro l
  induction l with
  |nil=>rfl
  |cons x l ih=>rw[List.flatMap_cons,List.length_append,ih,List.length_cons];simp[be32];omega
 rw[this];unfold aaq;rw[l2]
def ac3(s:LU):LU:=rQ (oL s)
theorem ac4(h:Je C)(s:LU)(hs:s.length<=1099511627776)(O:St)(hσ:Ok O):ai C mP [.str s] O=some (.str (ac3 s),O):=by
 rw[h.digest.run];unfold yH;have q0:=Nc h s hs O hσ;have q1:=hex_Encode h.encode h.gd (oL s) (by rw[nP];omega) O hσ
 simp only[JY,q0,q1,ac3,EVY,seval]
set_option maxRecDepth 1000000
noncomputable section
def AP:KF:=(.mk ?k:KsA 151 []).1
def lU:KC:=(.mk ?k:LsA 152 [] 0).1
attribute [local irreducible] lU
def BJ:KF:=(.mk ?k:KsA 152 [lU]).1
def YL:KF:=(.mk ?k:KsA 91 []).1
def Jb:KF:=(.mk ?k:KsA 153 []).1
def Jc:KF:=(.mk ?k:KsA 154 []).1
end
end Go.Ev
