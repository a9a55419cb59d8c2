/- Code of functions as the evaluator has it, and what some of them compute. No conditions. -/
import Derived.Test.YtegpahkgmealkaaGreatDoorCD
import Derived.Test.YtegpahkgmealkaaGreatDoorCC
import Derived.Test.YtegpahkgmealkaaGreatDoorEC
import Derived.Test.YtegpahkgmealkaaGreatDoorCB
import Derived.Lib.Bytealg
import Derived.Test.YtegpahkgmealkaaGreatDoorED
import Derived.Shelf.SlSortCmp.WholeK
set_option linter.unusedVariables false
set_option linter.unusedSimpArgs false
namespace Go.Ev
set_option maxRecDepth 100000
variable{C:Ctx}{PK:PkI}
def TI(v:AV):Prop:=∃n e:Int,v=.tup [.int .i64 n,.int .i64 e]
set_option maxHeartbeats 4000000 in
theorem afq(H:Qe C PK)(s:LU)(O:St)(hσ:Ok O):∃v,ai C xW [.str s] O=some (v,O)/\TI v:=by
 rw[H.read.go (NVs.hand (.cons (.str _) .nil) _)];cases hl:((s.length:Int) !=20)with
 |true=>
  refine⟨.tup [.int .i64 0,.int .i64 3],?_,⟨_,_,rfl⟩⟩;simp only[eu,hl,aX,EVX,seval]
 |false=>
 have hn:s.length=20:=by simp at hl;omega
 have at':∀i,i<20->s[i]?=some (s[i]?.getD 0):=fun i hi=>by rw[List.getElem?_eq_getElem (by omega)];rfl
 have a4:=at' 4 (by omega)
 have a7:=at' 7 (by omega)
 have a10:=at' 10 (by omega)
 have a13:=at' 13 (by omega)
 have a16:=at' 16 (by omega)
 have a19:=at' 19 (by omega)
 generalize s[4]?.getD 0=c4 at a4;generalize s[7]?.getD 0=c7 at a7;generalize s[10]?.getD 0=c10 at a10;generalize s[13]?.getD 0=c13 at a13;generalize s[16]?.getD 0=c16 at a16;generalize s[19]?.getD 0=c19 at a19;have bad:∀{r:Option (AV×St)},r=some (.tup [.int .i64 0,.int .i64 3],O)->∃v,r=some (v,O)/\TI v:=fun h=>⟨_,h,⟨_,_,rfl⟩⟩;cases h4:((c4.toNat:Int) !=45)with
 |true=>exact bad (by simp only[eu,hl,a4,h4,aX,EVX,seval])
 |false=>
 cases h7:((c7.toNat:Int) !=45)with
 |true=>exact bad (by simp only[eu,hl,a4,h4,a7,h7,aX,EVX,seval])
 |false=>
 cases h10:((c10.toNat:Int) !=84)with
 |true=>exact bad (by simp only[eu,hl,a4,h4,a7,h7,a10,h10,aX,EVX,seval])
 |false=>
 cases h13:((c13.toNat:Int) !=58)with
 |true=>exact bad (by simp only[eu,hl,a4,h4,a7,h7,a10,h10,a13,h13,aX,EVX,seval])
 |false=>
 cases h16:((c16.toNat:Int) !=58)with
 |true=>exact bad (by simp only[eu,hl,a4,h4,a7,h7,a10,h10,a13,h13,a16,h16,aX,EVX,seval])
 |false=>
 cases h19:((c19.toNat:Int) !=90)with
 |true=>exact bad (by simp only[eu,hl,a4,h4,a7,h7,a10,h10,a13,h13,a16,h16,a19,h19,aX,EVX,seval])
 |false=>
 have dig:∀(a b:Nat),b<=20->∃d,ai C BV [.str ((s.take b).drop a)] O=some (.int .i64 d,O):=fun a b hb=>by
  obtain⟨v,h1,h2⟩:=yK H.digits (.cons (.str ((s.take b).drop a)) .nil) (.cons _ _ _ _ (.strb _ (by simp[LB];omega)) .nil) hσ
  obtain⟨d,rfl⟩:=II h2;exact⟨d,h1⟩
 obtain⟨year,e1⟩:=dig 0 4 (by omega)
 obtain⟨month,e2⟩:=dig 5 7 (by omega)
 obtain⟨day,e3⟩:=dig 8 10 (by omega)
 obtain⟨hour,e4⟩:=dig 11 13 (by omega)
 obtain⟨minute,e5⟩:=dig 14 16 (by omega)
 obtain⟨second,e6⟩:=dig 17 19 (by omega)
 simp only[List.drop_zero]at e1;obtain⟨dd,e7,hdd⟩:=afp H year month O hσ;have n4:4<=s.length:=by omega
 have n7:7<=s.length:=by omega
 have n10:10<=s.length:=by omega
 have n13:13<=s.length:=by omega
 have n16:16<=s.length:=by omega
 have n19:19<=s.length:=by omega
 by_cases hd:day<1
 ·exact bad (by simp only[eu,hl,a4,h4,a7,h7,a10,h10,a13,h13,a16,h16,a19,h19,e1,e2,e3,n4,n7,n10,hd,List.drop_zero,Option.map_some,and_self,aX,EVX,seval])
 by_cases hd2:day>dd
 ·exact bad (by simp only[eu,hl,a4,h4,a7,h7,a10,h10,a13,h13,a16,h16,a19,h19,e1,e2,e3,e7,n4,n7,n10,hd,hd2,List.drop_zero,Option.map_some,and_self,aX,EVX,seval])
 have hmon:=hdd (by omega)
 have ut:∀(a b:Int),∃q,ai C Fe [.int .i64 a,.int .i64 b] O=some (.bool q,O):=fun a b=>by
  obtain⟨v,h1,h2⟩:=yK H.upTo (.cons (.int .i64 a) (.cons (.int .i64 b) .nil)) (.cons _ _ _ _ (.int _ _) (.cons _ _ _ _ (.int _ _) .nil)) hσ;obtain⟨d,rfl⟩:=FC h2;exact⟨d,h1⟩
 obtain⟨u1,e8⟩:=ut hour 23;obtain⟨u2,e9⟩:=ut minute 59;obtain⟨u3,e10⟩:=ut second 59;cases u1 with
 |false=>exact bad (by simp only[eu,hl,a4,h4,a7,h7,a10,h10,a13,h13,a16,h16,a19,h19,e1,e2,e3,e4,e5,e6,e7,e8,n4,n7,n10,n13,n16,n19,hd,hd2,List.drop_zero,Option.map_some,and_self,aX,EVX,seval])
 |true=>
 cases u2 with
 |false=>exact bad (by simp only[eu,hl,a4,h4,a7,h7,a10,h10,a13,h13,a16,h16,a19,h19,e1,e2,e3,e4,e5,e6,e7,e8,e9,n4,n7,n10,n13,n16,n19,hd,hd2,List.drop_zero,Option.map_some,and_self,aX,EVX,seval])
 |true=>
 cases u3 with
 |false=>exact bad (by simp only[eu,hl,a4,h4,a7,h7,a10,h10,a13,h13,a16,h16,a19,h19,e1,e2,e3,e4,e5,e6,e7,e8,e9,e10,n4,n7,n10,n13,n16,n19,hd,hd2,List.drop_zero,Option.map_some,and_self,aX,EVX,seval])
 |true=>
 obtain⟨vs,e11,hs⟩:=yK H.start (.cons (.int .i64 year) .nil) (.cons _ _ _ _ (.int _ _) .nil) hσ;obtain⟨st,rfl⟩:=II hs;obtain⟨vl,e12,hl2⟩:=yK H.leap (.cons (.int .i64 year) .nil) (.cons _ _ _ _ (.int _ _) .nil) hσ;obtain⟨lp,rfl⟩:=FC hl2;have hb:=H.bef;have gv:∀E,avA C E (.g qm)=.eptr bef:=fun E=>by show AV.eptr ((C.gl qm).getD [])=_;rw[hb];rfl
 have w1:IntKind.i64.wrap (month-1)=month-1:=wrE (by omega)
 have g2:0<=month-1:=by omega
 have bl:bef.length=13:=rfl;have l2:(month-1).toNat<13:=by omega
 have l4:(month-1).toNat<=bef.length:=by omega
 obtain⟨z,hz⟩:=aaX (month-1).toNat l2;have good:∀{r:Option (AV×St)} (n e:Int),r=some (.tup [.int .i64 n,.int .i64 e],O)->∃v,r=some (v,O)/\TI v:=fun n e h=>⟨_,h,⟨_,_,rfl⟩⟩;by_cases hm2:month>2
 ·cases lp with
  |true=>
   refine good (IntKind.i64.wrap (IntKind.i64.wrap (IntKind.i64.wrap (IntKind.i64.wrap (IntKind.i64.wrap (IntKind.i64.wrap (st+z)+day)-1)+1)*86400)+IntKind.i64.wrap (IntKind.i64.wrap (IntKind.i64.wrap (hour*3600)+IntKind.i64.wrap (minute*60))+second))) 0 ?_;simp only[eu,hl,a4,h4,a7,h7,a10,h10,a13,h13,a16,h16,a19,h19,e1,e2,e3,e4,e5,e6,e7,e8,e9,e10,e11,e12,n4,n7,n10,n13,n16,n19,hd,hd2,hm2,w1,g2,l2,l4,hz,gv,List.drop_zero,Option.map_some,and_self,aX,EVX,seval]
  |false=>
   refine good (IntKind.i64.wrap (IntKind.i64.wrap (IntKind.i64.wrap (IntKind.i64.wrap (IntKind.i64.wrap (st+z)+day)-1)*86400)+IntKind.i64.wrap (IntKind.i64.wrap (IntKind.i64.wrap (hour*3600)+IntKind.i64.wrap (minute*60))+second))) 0 ?_;simp only[eu,hl,a4,h4,a7,h7,a10,h10,a13,h13,a16,h16,a19,h19,e1,e2,e3,e4,e5,e6,e7,e8,e9,e10,e11,e12,n4,n7,n10,n13,n16,n19,hd,hd2,hm2,w1,g2,l2,l4,hz,gv,List.drop_zero,Option.map_some,and_self,aX,EVX,seval]
 ·refine good (IntKind.i64.wrap (IntKind.i64.wrap (IntKind.i64.wrap (IntKind.i64.wrap (IntKind.i64.wrap (st+z)+day)-1)*86400)+IntKind.i64.wrap (IntKind.i64.wrap (IntKind.i64.wrap (hour*3600)+IntKind.i64.wrap (minute*60))+second))) 0 ?_;simp only[eu,hl,a4,h4,a7,h7,a10,h10,a13,h13,a16,h16,a19,h19,e1,e2,e3,e4,e5,e6,e7,e8,e9,e10,e11,n4,n7,n10,n13,n16,n19,hd,hd2,hm2,w1,g2,l2,l4,hz,gv,List.drop_zero,Option.map_some,and_self,aX,EVX,seval]
theorem Yv(H:Qe C PK):fC C PK xW (.pure [.strb] (.tup [.int .i64,.int .i64])):=
 sQ H.read rfl fun azs hm=>by
  obtain⟨x,rfl,h1⟩:=SQ hm;obtain⟨a,rfl,ha⟩:=wO h1;intro O hσ;obtain⟨v,h,n,e,rfl⟩:=afq H a O hσ;exact⟨_,h,.tup _ _ (.cons _ _ _ _ (.int _ _) (.cons _ _ _ _ (.int _ _) .nil))⟩
end Go.Ev
namespace Go.Ev
set_option maxRecDepth 100000
variable{C:Ctx}
theorem ab6(hC:Has C dS gy)(ns:List LU)(h0:0<ns.length)(hn:ns.length<=8192)(O:St)(hσ:Ok O):ai C dS [.sl ns.length (ns.map .str)] O=some (.sl ns.length (ns.map .str),O):=by
 have hb:ae 0 (ns.map AV.str)=true:=by
  clear h0 hn
  induction ns with
  |nil=>rfl
  |cons a l ih=>rw[List.map_cons,ae,ih];rfl
 have hnv:NVs (ns.map AV.str):=fun v hv=>by
  obtain⟨s,_,rfl⟩:=List.mem_map.mp hv;exact .str s
 rw[hC.go (NVs.hand (.cons (.sl _ hb) .nil) _)];have fa:(ns.map AV.str).all AV.flat=true:=by
  rw[List.all_eq_true];intro v hv;obtain⟨s,_,rfl⟩:=List.mem_map.mp hv;rfl
 have h1:¬ns.length=0:=by omega
 have sn:(ns.map AV.str).length=ns.length:=by simp
 have ap:=fun Y:St=>aaT Y none (sz:=1) (bytes:=16) (n:=0) (m:=ns.length) (l:=[]) (ns.map .str) h1 rfl (by omega) (by omega)
 simp only[Nat.zero_add,List.nil_append]at ap;have nm:=N8 (Y:=O++[.cells (ns.map .str) FZ]) (q:=O.length) (n:=ns.length) (sz:=1) (l:=ns.map .str) (fz:=FZ) (by rw[cu];rfl) (by simp) hnv
 have fz:=Ah (Y:=O++[.cells (ns.map .str) FZ]) (q:=O.length) (l:=ns.map .str) (by rw[cu];rfl)
 have hd:hand false [.msl O.length 0 ns.length 1] (O++[.cells (ns.map .str) FZ])=some ([.sl ns.length (ns.map .str)],O++[.cells (ns.map .str) ⟨true,none⟩]):=by
  show(match(match aU _ (bZ _ 11) (.msl O.length 0 ns.length 1),aJ _ (bZ _ 11) []with|some (v,fs),some (l,gs)=>some (v::l,fs++gs)|_,_=>none)with|some (l,fs)=>some (l,freeze _ fs)|none=>none)=_
  rw[nm];show some ([AV.sl ns.length (ns.map .str)],freeze (O++[.cells (ns.map .str) FZ]) [O.length])=_;rw[fz,Ee];rfl
 have ty:=df hσ (vs:=[.sl ns.length (ns.map .str)]) (by rw[ae,below,hb];rfl) [.cells (ns.map .str) ⟨true,none⟩]
 have body:dI C (ai C) gy.ntmps gy.body (mg 0 [.sl ns.length (ns.map .str)]) O=some (.ret,[(2,.msl O.length 0 ns.length 1)],O++[.cells (ns.map .str) FZ]):=by
  simp only[gy,fa,h0,sn,ap,EVX,seval]
 rw[body,Xy (vs:=[.msl O.length 0 ns.length 1]) rfl hd];exact congrArg (fun t=>some (_,t)) ty
theorem UQ(hC:W9 C dw jL)(xs:List EL)(h0:xs≠[])(hn:xs.length<=8192)(O:St)(hσ:Ok O):ai C dw [.sl xs.length (jE xs)] O=some (.msl O.length 0 xs.length 6,O++[.cells (jE xs) FZ]):=by
 have hl:0<xs.length:=List.length_pos_iff.mpr h0;rw[hC.go];have fa:(jE xs).all AV.flat=true:=by
  rw[List.all_eq_true];intro v hv;obtain⟨x,_,hx⟩:=List.mem_flatMap.mp hv;exact List.all_eq_true.mp (vk x) v hx
 have h1:¬xs.length=0:=by omega
 have sn:=Zf xs;have ap:=fun Y:St=>aaT Y none (sz:=6) (bytes:=96) (n:=0) (m:=xs.length) (l:=[]) (jE xs) h1 rfl (by omega) (by omega)
 simp only[Nat.zero_add,List.nil_append]at ap;have ty:tidy O.length [.msl O.length 0 xs.length 6] (O++[.cells (jE xs) FZ])=O++[.cells (jE xs) FZ]:=by
  unfold tidy;have:ae O.length [.msl O.length 0 xs.length 6]=false:=by simp[ae,below]
  split
  ·rfl
  ·rw[this];simp
 simp only[jL,fa,hl,sn,ap,ty,Zi,bI,EVX,seval]
theorem aiK(n:Nat)(h:n<18446744073709551616):IntKind.u64.wrap (n:Int)=n:=by
 simp[IntKind.wrap,IntKind.bits,IntKind.signed];omega
theorem qh(n:Nat)(h:n<4294967296):IntKind.u32.wrap (n:Int)=n:=by
 simp[IntKind.wrap,IntKind.bits,IntKind.signed];omega
theorem ao9:(List.range 256).all (fun b=>match NZ[b]? with|some c=>decide (b<2^c.toNat)&&decide (c.toNat<=8)|none=>false)=true:=by decide+kernel
theorem aoa(hC:Has C mM dJ)(x:Nat)(hx:x<18446744073709551616):∃L:Nat,x<2^L/\L<=64/\∀O,ai C mM [.int .u64 x] O=some (.int .i64 L,O):=by
 have go:=fun O=>hC.go (O:=O) (NVs.hand (.cons (.int .u64 (x:Int)) .nil) _);have f:∀(k y:Nat),(y:Int).fdiv ((2^k:Nat):Int)=((y/2^k:Nat):Int):=fun k y=>by
  rw[Int.fdiv_eq_ediv_of_nonneg _ (Int.natCast_nonneg _)];rfl
 have f32:∀y:Nat,(y:Int).fdiv (2^min 32 IntKind.u64.bits)=((y/4294967296:Nat):Int):=f 32;have f16:∀y:Nat,(y:Int).fdiv (2^min 16 IntKind.u64.bits)=((y/65536:Nat):Int):=f 16;have f8:∀y:Nat,(y:Int).fdiv (2^min 8 IntKind.u64.bits)=((y/256:Nat):Int):=f 8;have fin:∀(n y:Nat),y=x/2^n->y<256->n<=56->(∀c:UInt8,NZ[y]?=some c->IntKind.i64.wrap (c.toNat:Int)=c.toNat->IntKind.i64.wrap ((n:Int)+c.toNat)=((n+c.toNat:Nat):Int)->IntKind.u8.wrap (y:Int)=y->(0:Int)<=y->∀O,ai C mM [.int .u64 x] O=some (.int .i64 (n+c.toNat:Nat),O))->∃L:Nat,x<2^L/\L<=64/\∀O,ai C mM [.int .u64 x] O=some (.int .i64 L,O):=fun n y hy h1 h2 h=>by
  have t:=List.all_eq_true.mp ao9 y (List.mem_range.mpr h1);split at t
  ·rename_i c hc;simp only[Bool.and_eq_true,decide_eq_true_eq]at t;refine⟨n+c.toNat,?_,by omega,h c hc (by rw[w64]<;>omega) (by rw[w64]<;>omega) (by rw[IntKind.wrap_u8];omega) (by omega)⟩
   rw[hy,Nat.div_lt_iff_lt_mul (Nat.pow_pos (by decide)),Nat.mul_comm,<-Nat.pow_add]at t
   exact t.1
  ·cases t
 by_cases c1:(4294967296:Int)<=(x:Int)
 ·by_cases c2:(65536:Int)<=((x/4294967296:Nat):Int)
  ·by_cases c3:(256:Int)<=((x/4294967296/65536:Nat):Int)
   ·refine fin 56 (x/4294967296/65536/256) (by omega) (by omega) (by omega) fun c hc g1 g2 g3 g4 O=>?_
    rw[go];simp only[dJ,c1,c2,c3,f32,f16,f8,hc,g1,g3,g4,Int.toNat_natCast,EVX,seval];exact congrArg (fun v=>some (AV.int IntKind.i64 v,O)) g2
   ·refine fin 48 (x/4294967296/65536) (by omega) (by omega) (by omega) fun c hc g1 g2 g3 g4 O=>?_
    rw[go];simp only[dJ,c1,c2,c3,f32,f16,hc,g1,g3,g4,Int.toNat_natCast,EVX,seval];exact congrArg (fun v=>some (AV.int IntKind.i64 v,O)) g2
  ·by_cases c3:(256:Int)<=((x/4294967296:Nat):Int)
   ·refine fin 40 (x/4294967296/256) (by omega) (by omega) (by omega) fun c hc g1 g2 g3 g4 O=>?_
    rw[go];simp only[dJ,c1,c2,c3,f32,f8,hc,g1,g3,g4,Int.toNat_natCast,EVX,seval];exact congrArg (fun v=>some (AV.int IntKind.i64 v,O)) g2
   ·refine fin 32 (x/4294967296) (by omega) (by omega) (by omega) fun c hc g1 g2 g3 g4 O=>?_
    rw[go];simp only[dJ,c1,c2,c3,f32,hc,g1,g3,g4,Int.toNat_natCast,EVX,seval];exact congrArg (fun v=>some (AV.int IntKind.i64 v,O)) g2
 ·by_cases c2:(65536:Int)<=((x:Nat):Int)
  ·by_cases c3:(256:Int)<=((x/65536:Nat):Int)
   ·refine fin 24 (x/65536/256) (by omega) (by omega) (by omega) fun c hc g1 g2 g3 g4 O=>?_
    rw[go];simp only[dJ,c1,c2,c3,f16,f8,hc,g1,g3,g4,Int.toNat_natCast,EVX,seval];exact congrArg (fun v=>some (AV.int IntKind.i64 v,O)) g2
   ·refine fin 16 (x/65536) (by omega) (by omega) (by omega) fun c hc g1 g2 g3 g4 O=>?_
    rw[go];simp only[dJ,c1,c2,c3,f16,hc,g1,g3,g4,Int.toNat_natCast,EVX,seval];exact congrArg (fun v=>some (AV.int IntKind.i64 v,O)) g2
  ·by_cases c3:(256:Int)<=((x:Nat):Int)
   ·refine fin 8 (x/256) (by omega) (by omega) (by omega) fun c hc g1 g2 g3 g4 O=>?_
    rw[go];simp only[dJ,c1,c2,c3,f8,hc,g1,g3,g4,Int.toNat_natCast,EVX,seval];exact congrArg (fun v=>some (AV.int IntKind.i64 v,O)) g2
   ·refine fin 0 (x) (by omega) (by omega) (by omega) fun c hc g1 g2 g3 g4 O=>?_
    rw[go];simp only[dJ,c1,c2,c3,hc,g1,g3,g4,Int.toNat_natCast,EVX,seval];exact congrArg (fun v=>some (AV.int IntKind.i64 v,O)) (by simpa using g2)
def p10:LA:=(List.range 20).map fun i=>AV.int .u64 ((10^i:Nat):Int)
theorem aoX:(List.range 65).all (fun L=>decide (2^L<=10^(L*78913/262144+1))&&decide (L*78913/262144<20))=true:=by decide+kernel
structure NdHas(C:Ctx):Prop where
 len:Has C mM dJ
 log:Has C kw jY
 b2i:Has C ku jX
 nd:Has C gI pW
 gl:C.gl oG=some p10
theorem aoe(hC:Has C kw jY)(L:Nat)(hL:L<=64)(O:St):ai C kw [.int .i64 L] O=some (.int .i64 (L*78913/262144:Nat),O):=by
 rw[hC.go (NVs.hand (.cons (.int _ _) .nil) _)];have w:IntKind.i64.wrap ((L:Int)*78913)=((L*78913:Nat):Int):=wrE (by omega)
 have f:∀y:Nat,(y:Int).fdiv (2^min 18 IntKind.i64.bits)=((y/262144:Nat):Int):=fun y=>by
  rw[Int.fdiv_eq_ediv_of_nonneg _ (by decide)];rfl
 simp only[jY,w,f,EVX,seval]
theorem b2i(hC:Has C ku jX)(b:Bool)(O:St):ai C ku [.bool b] O=some (.int .i64 (if b then 1 else 0),O):=by
 rw[hC.go (NVs.hand (.cons (.bool _) .nil) _)];cases b<;>simp only[jX,Bool.false_eq_true,EVX,seval]
theorem numDigits(H:NdHas C)(u:Nat)(hu:u<18446744073709551616):∃d:Nat,u<10^d/\d<=20/\∀O,ai C gI [.int .u64 u] O=some (.int .i64 d,O):=by
 obtain⟨L,l1,l3,q1⟩:=aoa H.len u hu;have t:=List.all_eq_true.mp aoX L (List.mem_range.mpr (by omega))
 simp only[Bool.and_eq_true,decide_eq_true_eq]at t;obtain⟨t1,t2⟩:=t;have q2:=aoe H.log L l3;generalize L*78913/262144=n at*;have hg:p10[n]?=some (.int .u64 ((10^n:Nat):Int)):=by
  unfold p10;rw[List.getElem?_map,List.getElem?_range t2];rfl
 have hgl:=H.gl;refine⟨n+(if 10^n<=u then 1 else 0),?_,?_,fun O=>?_⟩
 ·split
  ·omega
  ·rename_i h;simpa using Nat.lt_of_not_le h
 ·split<;>omega
 ·rw[H.nd.go (NVs.hand (.cons (.int _ _) .nil) _)];have b:=b2i H.b2i (decide (10^n<=u)) O;have dn:p10.drop n=.int .u64 ((10^n:Nat):Int)::p10.drop (n+1):=by
   rw[List.drop_eq_getElem_cons (by simp[p10];omega)]
   congr 1
   exact Option.some.inj ((List.getElem?_eq_getElem (by simp[p10];omega)).symm.trans hg)
  have hn0:(0:Int)<=(n:Int):=by omega
  have hn20:n<20:=t2;have hd:decide (((10^n:Nat):Int)<=(u:Int))=decide (10^n<=u):=by
   rw[Bool.eq_iff_iff];simp only[decide_eq_true_eq];omega
  have hl:p10.length=20:=rfl;have hle:n<=20:=by omega
  simp only[pW,q1,q2,hgl,dn,hl,hle,hn0,hn20,hd,b,Int.toNat_natCast,Option.getD_some,decide_eq_true_eq,EVX,seval];refine congrArg (fun v=>some (AV.int IntKind.i64 v,O)) ?_;split<;>(rw[w64]<;>omega)
theorem sm_at(a:Nat)(h:a<100):dM[a*2]?=some (dM.getD (a*2) 0)/\dM[a*2+1]?=some (dM.getD (a*2+1) 0):=by
 have e:∀x,x<200->dM[x]?=some (dM.getD x 0):=fun x hx=>by
  rw[List.getD_eq_getElem?_getD,List.getElem?_eq_getElem (by omega)];rfl
 exact⟨e _ (by omega),e _ (by omega)⟩
theorem an7(l:LU)(i:Nat)(b:UInt8)(h:i<l.length):splice (ofBytes l) i [.int .u8 (b.toNat:Int)]=ofBytes (l.set i b):=by
 unfold splice ofBytes;rw[List.map_set,List.set_eq_take_append_cons_drop,if_pos (by simpa using h)]
 simp
theorem Pe(a:Nat)(ha:a<100):IntKind.u32.wrap ((a:Int)*2)=((a*2:Nat):Int)/\IntKind.u32.wrap (((a*2:Nat):Int)+1)=((a*2+1:Nat):Int)/\(0:Int)<=((a*2:Nat):Int)/\(0:Int)<=((a*2+1:Nat):Int):=⟨by have:=qh (a*2) (by omega);rw[<-this];rfl,by have:=qh (a*2+1) (by omega);rw[<-this];rfl,by omega,by omega⟩
theorem ad3 (d:Nat) (hd:d<=20) (O:St) (q:Nat) {x0:AO} (hq:O[q]?=some x0):∀(n i u:Nat) (l:LU),i<=d->i/8=n->u<10^i->u<18446744073709551616->l.length=24->∃(u':Nat) (l':LU),u'<10^(i%8)/\l'.length=24/\
  aB C (ai C) 167 [0,1,4] aN [(0,.msl q 1 d 1),(1,.int .u64 u),(4,.int .i64 i)] (O.set q (.cells (ofBytes l) FZ))=
   some (.exit 0,[(0,.msl q 1 d 1),(1,.int .u64 u'),(4,.int .i64 (i%8:Nat))],O.set q (.cells (ofBytes l') FZ))
 |0,i,u,l,hi,hn,hu,hu2,hl=>by
  have e:i%8=i:=Nat.mod_eq_of_lt (by omega)
  refine⟨u,l,by rw[e];exact hu,hl,?_⟩
  rw[aA (he:=rfl)];have h:¬(8:Int)<=(i:Int):=by omega
  simp only[aN,h,e,EVX,seval]
 |n+1,i,U,l,hi,hn,hu,hu2,hl=>by
  have h:(8:Int)<=(i:Int):=by omega
  obtain⟨j,rfl⟩:∃j,i=j+8:=⟨i-8,by omega⟩
  have step:∃l2:LU,l2.length=24/\aB C (ai C) 167 [0,1,4] aN [(0,.msl q 1 d 1),(1,.int .u64 U),(4,.int .i64 (j+8:Nat))] (O.set q (.cells (ofBytes l) FZ))=aB C (ai C) 167 [0,1,4] aN [(0,.msl q 1 d 1),(1,.int .u64 (U/100000000:Nat)),(4,.int .i64 j)] (O.set q (.cells (ofBytes l2) FZ)):=by
   have gs:∀(x:AO),(O.set q x)[q]?=some x:=fun x=>bM hq x;obtain⟨us,hus⟩:∃x,U%100000000=x:=⟨_,rfl⟩;obtain⟨hh,hhh⟩:∃x,us/10000=x:=⟨_,rfl⟩;obtain⟨ll,hll⟩:∃x,us%10000=x:=⟨_,rfl⟩;obtain⟨a1,ha1⟩:∃x,hh/100=x:=⟨_,rfl⟩;obtain⟨a2,ha2⟩:∃x,hh%100=x:=⟨_,rfl⟩;obtain⟨a3,ha3⟩:∃x,ll/100=x:=⟨_,rfl⟩;obtain⟨a4,ha4⟩:∃x,ll%100=x:=⟨_,rfl⟩;have t1:(U:Int).tmod 100000000=(us:Int):=by rw[<-hus];rfl
   have t2:(U:Int).tdiv 100000000=((U/100000000:Nat):Int):=rfl;have t3:(us:Int).tdiv 10000=(hh:Int):=by rw[<-hhh];rfl
   have t4:(us:Int).tmod 10000=(ll:Int):=by rw[<-hll];rfl
   have t5:(hh:Int).tdiv 100=(a1:Int):=by rw[<-ha1];rfl
   have t6:(hh:Int).tmod 100=(a2:Int):=by rw[<-ha2];rfl
   have t7:(ll:Int).tdiv 100=(a3:Int):=by rw[<-ha3];rfl
   have t8:(ll:Int).tmod 100=(a4:Int):=by rw[<-ha4];rfl
   have w0:=aiK (U/100000000) (by omega)
   have w1:=qh us (by omega)
   have w2:=qh hh (by omega)
   have w3:=qh a1 (by omega)
   have w4:=qh a3 (by omega)
   obtain⟨x1,y1,z1,v1⟩:=Pe a1 (by omega)
   obtain⟨s1,r1⟩:=sm_at a1 (by omega)
   obtain⟨x2,y2,z2,v2⟩:=Pe a2 (by omega)
   obtain⟨s2,r2⟩:=sm_at a2 (by omega)
   obtain⟨x3,y3,z3,v3⟩:=Pe a3 (by omega)
   obtain⟨s3,r3⟩:=sm_at a3 (by omega)
   obtain⟨x4,y4,z4,v4⟩:=Pe a4 (by omega)
   obtain⟨s4,r4⟩:=sm_at a4 (by omega)
   have iw:∀(k:Int) (r:Nat),k+r=8->0<=k->IntKind.i64.wrap (((j+8:Nat):Int)-k)=((j+r:Nat):Int):=fun k r h h0=>by rw[w64]<;>omega
   have i1:=iw 1 7 rfl (by decide)
   have i2:=iw 2 6 rfl (by decide)
   have i3:=iw 3 5 rfl (by decide)
   have i4:=iw 4 4 rfl (by decide)
   have i5:=iw 5 3 rfl (by decide)
   have i6:=iw 6 2 rfl (by decide)
   have i7:=iw 7 1 rfl (by decide)
   have i8:IntKind.i64.wrap (((j+8:Nat):Int)-8)=(j:Int):=iw 8 0 rfl (by decide)
   have n8:(0:Int)<=(j:Int):=by omega
   have l8:j<d:=by omega
   have c8:1+j+1<=24:=by omega
   have d8:1+j<24:=by omega
   have ng:∀r:Nat,(0:Int)<=((j+r:Nat):Int):=fun r=>Int.natCast_nonneg _;have lg:∀r:Nat,r<8->j+r<d:=fun r h=>by omega
   have cg:∀r:Nat,r<8->1+(j+r)+1<=24:=fun r h=>by omega
   have c2:∀r:Nat,r<8->1+(j+r)<24:=fun r h=>by omega
   refine⟨?_,?_,?_⟩
   rotate_left 2
   ·rw[aA (he:=rfl)];generalize hk:aB C (ai C) 167 [0,1,4] aN=k;simp only[aN,h,gs,t1,t2,t3,t4,t5,t6,t7,t8,w0,w1,w2,w3,w4,x1,y1,z1,v1,s1,r1,x2,y2,z2,v2,s2,r2,x3,y3,z3,v3,s3,r3,x4,y4,z4,v4,s4,r4,i1,i2,i3,i4,i5,i6,i7,i8,n8,l8,c8,d8,ng,lg,cg,c2,an7,hl,List.length_set,au,Int.toNat_natCast,List.set_set,AV.cells,AV.flat,EVX,seval];rfl
   ·simp only[List.length_set,hl]
  obtain⟨l2,hl2,e2⟩:=step;obtain⟨u',l',a,b,c⟩:=ad3 d hd O q hq n j (U/100000000) l2 (by omega) (by omega) (by rw[Nat.div_lt_iff_lt_mul (by decide)];rw[Nat.pow_add]at hu;exact hu) (by omega) hl2
  rw[Nat.add_mod_right];exact⟨u',l',a,b,e2.trans c⟩
theorem ae2(n:Nat):IntKind.u8.wrap (n:Int)=((UInt8.ofNat n).toNat:Int):=by
 rw[IntKind.wrap_u8,UInt8.toNat_ofNat'];omega
theorem ape (hC:W9 C bQ dC) (d u:Nat) (l:LU) (hl:l.length=24) (hd:u<10^d) (hd20:d<=20) (hu:u<18446744073709551616) (O:St) (q:Nat) (hq:O[q]?=some (.cells (ofBytes l) FZ)):
  ∃l':LU,l'.length=24/\ai C bQ [.msl q 1 d 1,.int .u64 u] O=some (.tup [],O.set q (.cells (ofBytes l') FZ)):=by
 obtain⟨x,l2,hx,hl2,lp⟩:=ad3 (C:=C) d hd20 O q hq (d/8) d u l (Nat.le_refl _) rfl hd hu hl;rw[set_self hq]at lp;have gs:∀(x:AO),(O.set q x)[q]?=some x:=fun x=>bM hq x;have ty:∀x:AO,tidy O.length [] (O.set q x)=O.set q x:=fun x=>by
  have:=aX (O.set q x) [];rwa[List.length_set]at this
 have hr:d%8<8:=Nat.mod_lt _ (by decide)
 have hrd:d%8<=d:=Nat.mod_le _ _;generalize d%8=r at*;have hx7:x<10000000:=Nat.lt_of_lt_of_le hx (Nat.pow_le_pow_right (j:=7) (by decide) (by omega))
 have wx:=qh x (by omega)
 have t1:∀y:Nat,(y:Int).tmod 10000=((y%10000:Nat):Int):=fun y=>rfl;have t2:∀y:Nat,(y:Int).tdiv 10000=((y/10000:Nat):Int):=fun y=>rfl;have t3:∀y:Nat,(y:Int).tmod 100=((y%100:Nat):Int):=fun y=>rfl;have t4:∀y:Nat,(y:Int).tdiv 100=((y/100:Nat):Int):=fun y=>rfl;have w1:=qh (x/10000) (by omega)
 have w2:=qh (x/100) (by omega)
 have w3:=qh (x/10000/100) (by omega)
 have w4:=qh (x%10000/100) (by omega)
 obtain⟨xa,ya,za,va⟩:=Pe (x%10000/100) (by omega)
 obtain⟨sa,ra⟩:=sm_at (x%10000/100) (by omega)
 obtain⟨xb,yb,zb,vb⟩:=Pe (x%10000%100) (by omega)
 obtain⟨sb,rb⟩:=sm_at (x%10000%100) (by omega)
 obtain⟨xc,yc,zc,vc⟩:=Pe (x/10000%100) (by omega)
 obtain⟨sc,rc⟩:=sm_at (x/10000%100) (by omega)
 obtain⟨xd,yd,zd,vd⟩:=Pe (x%100) (by omega)
 obtain⟨sd,rd⟩:=sm_at (x%100) (by omega)
 have q1:∀y:Nat,y<10000000->IntKind.u32.wrap (48+(y:Int))=((48+y:Nat):Int):=fun y hy=>by have:=qh (48+y) (by omega);rw[<-this];rfl
 have q2:=q1 x hx7;have q3:=q1 (x/100) (by omega)
 have q4:=q1 (x/10000) (by omega)
 have q5:=q1 (x/10000/100) (by omega)
 have lg:∀k,k<r->k<d:=fun k h=>by omega
 have h8:r=0\/r=1\/r=2\/r=3\/r=4\/r=5\/r=6\/r=7:=by omega
 rcases h8 with rfl|rfl|rfl|rfl|rfl|rfl|rfl|rfl;all_goals
  simp only[Int.cast_ofNat_Int,Int.natCast_zero,Int.natCast_one]at lp;refine⟨?_,?_,?_⟩
  rotate_left 2
  ·rw[hC.go];simp only[dC,lp,gs,ty,wx,t1,t2,t3,t4,w1,w2,w3,w4,xa,ya,za,va,sa,ra,xb,yb,zb,vb,sb,rb,xc,yc,zc,vc,sc,rc,xd,yd,zd,vd,sd,rd,q2,q3,q4,q5,ae2,w64,lg,hl2,an7,au,List.length_set,OQ,bI,bi,Int.toNat_natCast,List.set_set,AV.cells,AV.flat,EVX,seval];rfl
  ·simp only[List.length_set,hl2]
structure Nz(C:Ctx):Prop extends NdHas C where
 fb:W9 C bQ dC
 small:Has C rV nz
 int:Has C gG dh
 fmt:Has C yQ yP
 show_:Has C Jn QI
theorem aiy(H:Nz C)(y:Nat)(hy:y<100)(O:St):∃s:LU,s.length<=64/\ai C rV [.int .i64 y] O=some (.str s,O):=by
 have h0:(0:Int)<=(y:Int):=by omega
 have w1:=wrS y (by omega)
 have w2:IntKind.i64.wrap ((y:Int)*2)=((y*2:Nat):Int):=wrE (by omega)
 have w3:IntKind.i64.wrap (((y*2:Nat):Int)+2)=((y*2+2:Nat):Int):=wrE (by omega)
 have ng:∀k:Nat,(0:Int)<=(k:Int):=Int.natCast_nonneg;have l2:y<=y+1:=by omega
 have l3:y*2<=y*2+2:=by omega
 have l4:y*2+2<=200:=by omega
 have ll:dM.length=200:=rfl;have go:=H.small.go (O:=O) (NVs.hand (.cons (.int .i64 (y:Int)) .nil) _);by_cases c:(y:Int)<10
 ·have l5:y+1<=36:=by omega
  refine⟨?_,?_,?_⟩
  rotate_left 2
  ·rw[go];simp only[nz,c,h0,w1,ng,l2,l5,Int.toNat_natCast,EVX,seval];rfl
  ·simp;omega
 ·refine⟨?_,?_,?_⟩
  rotate_left 2
  ·rw[go];simp only[nz,c,w2,w3,ng,l3,l4,ll,Int.toNat_natCast,EVX,seval];rfl
  ·simp only[List.length_drop,List.length_cons,List.length_take];omega
theorem adx(l:LU)(k:Nat):(ofBytes l).take k=ofBytes (l.take k):=by simp[ofBytes,List.map_take]
theorem ajR(l:LU)(k:Nat):(ofBytes l).drop k=ofBytes (l.drop k):=by simp[ofBytes,List.map_drop]
def z24:LU:=List.replicate 24 0
set_option maxHeartbeats 2000000 in
theorem ajv (H:Nz C) (n:Int) (u:Nat) (c:¬(0<=n/\n<100)) (hu1:u<18446744073709551616) (b1:n<0->IntKind.u64.wrap (0-IntKind.u64.wrap n)=(u:Int)) (b2:¬n<0->IntKind.u64.wrap n=(u:Int)) (d:Nat) (d0:d≠0) (d1:u<10^d) (d2:d<=20) (q1:∀O,ai C gI [.int .u64 u] O=some (.int .i64 d,O)) (O:St) (hσ:Ok O):
  ∃s:LU,ai C gG [.int .i64 n,.int .i64 10] O=some (.str s,O)/\s.length<=64:=by
 have go:=H.int.go (O:=O) (NVs.hand (.cons (.int .i64 n) (.cons (.int .i64 10) .nil)) _);obtain⟨l,hl,q2⟩:=ape H.fb d u z24 rfl d1 d2 hu1 (O++[.cells (ofBytes z24) FZ]) O.length (by rw[cu];rfl)
 rw[Ee]at q2;have zz:ofBytes z24=[.int .u8 0,.int .u8 0,.int .u8 0,.int .u8 0,.int .u8 0,.int .u8 0,.int .u8 0,.int .u8 0,.int .u8 0,.int .u8 0,.int .u8 0,.int .u8 0,.int .u8 0,.int .u8 0,.int .u8 0,.int .u8 0,.int .u8 0,.int .u8 0,.int .u8 0,.int .u8 0,.int .u8 0,.int .u8 0,.int .u8 0,.int .u8 0]:=rfl;rw[zz]at q2;have hw:IntKind.i64.wrap (1+(d:Int))=((1+d:Nat):Int):=wrE (by omega)
 have l1:(0:Int)<=((1+d:Nat):Int):=by omega
 have l2:1<=1+d:=by omega
 have l3:1+d<=24:=by omega
 have l4:1+d-1=d:=by omega
 have l5:¬1=1+d:=by omega
 have l6:¬0=1+d:=by omega
 have l7:1+d-0=1+d:=by omega
 have ty:=fun(s:LU) L=>df hσ (vs:=[.str s]) rfl L;have sp:splice (ofBytes l) 0 [.int .u8 45]=ofBytes (l.set 0 45):=an7 l 0 45 (by omega)
 by_cases s:n<0
 ·have c1:¬(0:Int)<=n:=by omega
  have hb:=b1 s;refine⟨?_,?_,?_⟩
  rotate_left 1
  ·rw[go];simp only[dh,c1,s,hb,q1,q2,hw,l1,l2,l3,l4,l5,l6,l7,hl,sp,adx,qI,au,List.length_set,Option.map_some,Nat.mul_one,ty,Int.toNat_natCast,Nat.zero_le,EVX,seval];rfl
  ·rw[List.length_take];omega
 ·have hb:=b2 s;have c2:(0:Int)<=n:=by omega
  have c3:¬n<100:=by omega
  refine⟨?_,?_,?_⟩
  rotate_left 1
  ·rw[go];simp only[dh,c2,c3,s,hb,q1,q2,hw,l1,l2,l3,l4,l5,hl,adx,ajR,qI,au,Option.map_some,Nat.mul_one,ty,Int.toNat_natCast,EVX,seval];rfl
  ·rw[List.length_take];omega
theorem agq (hC:W9 C bQ dC) (O:St):
  ai C bQ [.emp,.int .u64 0] O=some (.tup [],O):=by
 rw[hC.go];have ty:=aX O [];have lp:aB C (ai C) 167 [0,1,4] aN [(0,.emp),(1,.int .u64 0),(4,.int .i64 0)] O=some (.exit 0,[(0,.emp),(1,.int .u64 0),(4,.int .i64 0)],O):=by
  rw[aA (he:=rfl)];simp only[aN,EVX,seval]
 simp only[dC,lp,ty,OQ,bI,bi,EVX,seval]
set_option maxHeartbeats 2000000 in
theorem ajw(H:Nz C)(n:Int)(c:¬(0<=n/\n<100))(b1:n<0->IntKind.u64.wrap (0-IntKind.u64.wrap n)=0)(b2:¬n<0->IntKind.u64.wrap n=0)(q1:∀O,ai C gI [.int .u64 0] O=some (.int .i64 0,O))(O:St)(hσ:Ok O):∃s:LU,ai C gG [.int .i64 n,.int .i64 10] O=some (.str s,O)/\s.length<=64:=by
 rw[H.int.go (NVs.hand (.cons (.int _ _) (.cons (.int _ _) .nil)) _)];have q2:=agq H.fb;have ty:=fun(s:LU) L=>df hσ (vs:=[.str s]) rfl L;have hw:IntKind.i64.wrap 1=1:=rfl;have l1:bytesOf [.int .u8 45]=some [45]:=rfl;have l2:bytesOf []=some []:=rfl;have o1:(0:Int)<=1:=by decide
 have o2:(1:Int).toNat=1:=rfl;by_cases s:n<0
 ·have c1:¬(0:Int)<=n:=by omega
  have hb:=b1 s;refine⟨[45],?_,by simp⟩
  simp only[dh,c1,s,hb,q1,q2,hw,o1,o2,l1,Option.map_some,Nat.mul_one,ty,splice,EVX,seval]
 ·have hb:=b2 s;have c2:(0:Int)<=n:=by omega
  have c3:¬n<100:=by omega
  refine⟨[],?_,by simp⟩
  simp only[dh,c2,c3,s,hb,q1,q2,hw,o1,o2,l2,Option.map_some,Nat.mul_one,ty,EVX,seval]
theorem aev(H:Nz C)(n:Int)(O:St)(hσ:Ok O):∃s:LU,ai C gG [.int .i64 n,.int .i64 10] O=some (.str s,O)/\s.length<=64:=by
 by_cases c:0<=n/\n<100
 ·obtain⟨y,rfl⟩:∃y:Nat,n=y:=⟨n.toNat,by omega⟩
  have c1:(0:Int)<=(y:Int):=by omega
  have c2:(y:Int)<100:=c.2;obtain⟨s,hs,q⟩:=aiy H y (by omega) O
  refine⟨s,?_,hs⟩;rw[H.int.go (NVs.hand (.cons (.int _ _) (.cons (.int _ _) .nil)) _)];simp only[dh,c1,c2,q,EVX,seval]
 ·have rg:∀m:Int,∃u:Nat,u<18446744073709551616/\IntKind.u64.wrap m=(u:Int):=fun m=>by
   refine⟨(m%18446744073709551616).toNat,by omega,?_⟩
   simp[IntKind.wrap,IntKind.bits,IntKind.signed];omega
  obtain⟨u,hu1,b1,b2⟩:∃u:Nat,u<18446744073709551616/\(n<0->IntKind.u64.wrap (0-IntKind.u64.wrap n)=(u:Int))/\(¬n<0->IntKind.u64.wrap n=(u:Int)):=by
   by_cases s:n<0
   ·obtain⟨u,h1,h2⟩:=rg (0-IntKind.u64.wrap n);exact⟨u,h1,fun _=>h2,fun h=>absurd s h⟩
   ·obtain⟨u,h1,h2⟩:=rg n;exact⟨u,h1,fun h=>absurd h s,fun _=>h2⟩
  obtain⟨d,d1,d2,q1⟩:=numDigits H.toNdHas u hu1;by_cases h0:d=0
  ·subst h0;obtain rfl:u=0:=by simpa using d1
   exact ajw H n c b1 b2 q1 O hσ
  ·exact ajv H n u c hu1 b1 b2 d h0 d1 d2 q1 O hσ
theorem Z9(H:Nz C)(n:Int)(O:St)(hσ:Ok O):∃s:LU,ai C Jn [.int .i64 n] O=some (.str s,O)/\s.length<=64:=by
 obtain⟨s,q,hl⟩:=aev H n O hσ;have q:ai C yQ [.int .i64 n,.int .i64 10] O=some (.str s,O):=by
  rw[H.fmt.go (NVs.hand (.cons (.int _ _) (.cons (.int _ _) .nil)) _)];simp only[yP,q,EVX,seval]
 refine⟨s,?_,hl⟩;rw[H.show_.go (NVs.hand (.cons (.int _ _) .nil) _)];simp only[QI,q,EVX,seval]
set_option maxRecDepth 1000000
noncomputable section
def jr:KF:=(.mk ?k:KsA 342 []).1
def kL:KC:=(.mk ?k:LsA 332 [] 0).1
attribute [local irreducible] kL
def Dh:KF:=(.mk ?k:KsA 332 [kL]).1
def wF:KF:=(.mk ?k:KsA 319 []).1
def OA:KF:=(.mk ?k:KsA 178 []).1
def jc:KC:=(.mk ?k:LsA 142 [] 0).1
attribute [local irreducible] jc
def xh:KF:=(.mk ?k:KsA 142 [jc]).1
def eX:KC:=(.mk ?k:LsA 309 [] 0).1
attribute [local irreducible] eX
def uQ:KF:=(.mk ?k:KsA 309 [eX]).1
def lW:KF:=(.mk ?k:KsA 318 []).1
def dO:KF:=(.mk ?k:KsA 333 []).1
def AQ:KF:=(.mk ?k:KsA 343 []).1
def yM:KF:=(.mk ?k:KsA 344 []).1
def jh:KC:=(.mk ?k:LsA 345 [] 0).1
attribute [local irreducible] jh
def iL:KF:=(.mk ?k:KsA 345 [jh]).1
def jP:KC:=(.mk ?k:LsA 351 [] 0).1
attribute [local irreducible] jP
def yV:KF:=(.mk ?k:KsA 351 [jP]).1
def nG:KF:=(.mk ?k:KsA 352 []).1
def kU:KC:=(.mk ?k:LsA 353 [] 0).1
attribute [local irreducible] kU
def uS:KF:=(.mk ?k:KsA 353 [kU]).1
def qp:KF:=(.mk ?k:KsA 211 []).1
end
set_option maxRecDepth 100000
theorem bq(a b:Int):(a==b)=true\/(a==b)=false:=by cases a==b<;>simp
theorem aaB(h:Has C DL jr)(c:Int)(O:St):∃z l u:Int,0<=z/\z<=4/\ai C DL [.int .u8 c] O=some (.tup [.int .i64 z,.int .u8 l,.int .u8 u],O):=by
 rw[h.go (NVs.hand (.cons (.int _ _) .nil) _)];by_cases c1:c<128
 ·exact⟨1,0,0,by omega,by omega,by simp only[jr,c1,EVX,seval]⟩
 by_cases c2:c<194
 ·exact⟨0,0,0,by omega,by omega,by simp only[jr,c1,c2,EVX,seval]⟩
 by_cases c3:c<224
 ·exact⟨2,128,191,by omega,by omega,by simp only[jr,c1,c2,c3,EVX,seval]⟩
 rcases bq c 224 with c4|c4
 ·exact⟨3,160,191,by omega,by omega,by simp only[jr,c1,c2,c3,c4,EVX,seval]⟩
 rcases bq c 237 with c5|c5
 ·exact⟨3,128,159,by omega,by omega,by simp only[jr,c1,c2,c3,c4,c5,EVX,seval]⟩
 by_cases c6:c<240
 ·exact⟨3,128,191,by omega,by omega,by simp only[jr,c1,c2,c3,c4,c5,c6,EVX,seval]⟩
 rcases bq c 240 with c7|c7
 ·exact⟨4,144,191,by omega,by omega,by simp only[jr,c1,c2,c3,c4,c5,c6,c7,EVX,seval]⟩
 by_cases c8:c<244
 ·exact⟨4,128,191,by omega,by omega,by simp only[jr,c1,c2,c3,c4,c5,c6,c7,c8,EVX,seval]⟩
 rcases bq c 244 with c9|c9
 ·exact⟨4,128,143,by omega,by omega,by simp only[jr,c1,c2,c3,c4,c5,c6,c7,c8,c9,EVX,seval]⟩
 exact⟨0,0,0,by omega,by omega,by simp only[jr,c1,c2,c3,c4,c5,c6,c7,c8,c9,EVX,seval]⟩
theorem IX(s:LU)(hs:s.length<1099511627777)(i:Nat)(z:Int)(hz:z<=4)(hi:i<s.length)(O:St):∀(n k:Nat),(k:Int)+n=i+z->k<=s.length->∀r l u:Int,∃o,aB C (ai C) 78 [0,1,4,5,7,8,9] kL [(0,.str s),(1,.int .i64 i),(4,.int .i64 r),(5,.int .i64 z),(7,.int .u8 l),(8,.int .u8 u),(9,.int .i64 k)] O=some o/\((∃r',o=(.exit 0,[(4,.int .i64 r'),(5,.int .i64 z)],O))\/∃e:Int,e≠0/\o=(.ret,[(4,.int .i64 0),(5,.int .i64 0),(6,.int .i64 e)],O))
 |0,k,hk,hl,r,l,u=>by
  rw[aA (he:=rfl)];have w:IntKind.i64.wrap ((i:Int)+z)=k:=wrE (by omega)
  have h:¬((k:Int)<k):=by omega
  exact⟨_,by simp only[kL,w,h,EVX,seval],.inl ⟨r,rfl⟩⟩
 |n+1,k,hk,hl,r,l,u=>by
  rw[aA (he:=rfl)];have ih:=IX s hs i z hz hi O n (k+1) (by omega)
  generalize hK:aB C (ai C) 78 [0,1,4,5,7,8,9] kL=K at*;have w:IntKind.i64.wrap ((i:Int)+z)=i+z:=wrE (by omega)
  have w1:=wrS k (by omega)
  have h:(k:Int)<i+z:=by omega
  have h3:(0:Int)<=k:=by omega
  by_cases c:k=s.length
  ·have c':((k:Int)==(s.length:Int))=true:=by simp[c]
   exact⟨_,by simp only[kL,w,h,c',EVX,seval],.inr ⟨4,by decide,rfl⟩⟩
  have c':((k:Int)==(s.length:Int))=false:=by simp;omega
  have hb:s[k]?=some s[k]:=List.getElem?_eq_getElem (by omega)
  by_cases c1:(s[k].toNat:Int)<l
  ·exact⟨_,by simp only[kL,w,h,c',h3,hb,c1,EVX,seval],.inr ⟨12,by decide,rfl⟩⟩
  by_cases c2:u<(s[k].toNat:Int)
  ·exact⟨_,by simp only[kL,w,h,c',h3,hb,c1,c2,EVX,seval],.inr ⟨12,by decide,rfl⟩⟩
  simp only[kL,w,w1,h,c',h3,hb,c1,c2,EVX,seval];exact ih (by omega) _ _ _
theorem aaA(h:Has C Jo Dh)(hl:Has C DL jr)(s:LU)(hs:s.length<1099511627777)(i:Nat)(hi:i<s.length)(O:St):∃r z e:Int,ai C Jo [.str s,.int .i64 i] O=some (.tup [.int .i64 r,.int .i64 z,.int .i64 e],O)/\0<=z/\z<=4/\(e=0->1<=z):=by
 rw[h.go (NVs.hand (.cons (.str _) (.cons (.int _ _) .nil)) _)];have h1:¬((i:Int)<0):=by omega
 have h2:¬((s.length:Int)<i):=by omega
 have h4:((i:Int)==(s.length:Int))=false:=by simp;omega
 have h3:(0:Int)<=i:=by omega
 have hb:s[i]?=some s[i]:=List.getElem?_eq_getElem hi;obtain⟨z,l,u,z0,z4,hq⟩:=aaB hl (s[i].toNat:Int) O;have w1:=wrS i (by omega)
 rcases bq z 0 with c|c
 ·have:z=0:=by simpa using c
  subst this;exact⟨0,0,12,by simp only[Dh,h1,h2,h3,h4,hb,hq,EVX,seval],by omega,by omega,fun e=>by cases e⟩
 have c':z≠0:=by simpa using c
 by_cases c1:1<z;all_goals
  have lp:=fun r=>IX (C:=C) s hs i z z4 hi O (z-1).toNat (i+1) (by omega) (by omega) r l u
  have sh:¬(IntKind.i64.wrap (z+1)<0):=by rw[w64]<;>omega
  obtain⟨o,e⟩:=Classical.axiomOfChoice lp;have e1:=fun x=>(e x).1;have e2:=fun x=>(e x).2;simp only[Dh,h1,h2,h3,h4,hb,hq,c,c1,w1,sh,e1,EVX,seval];apply Or.elim (e2 _)
  ·rintro⟨r',h⟩;rw[h];exact⟨r',z,0,by simp only[EVX,seval],z0,z4,fun _=>by omega⟩
  ·rintro⟨e,e0,h⟩;rw[h];exact⟨0,0,e,by simp only[EVX,seval],by omega,by omega,fun h=>absurd h e0⟩
theorem agl(r:Int):(Utf8.encode r).data.toList.length<=4:=by
 unfold Utf8.encode;simp only;repeat' split
 all_goals simp
theorem acd(h:Has C NP wF)(r:Int)(O:St):∃(t:LU) (e:Int),ai C NP [.int .i64 r] O=some (.tup [.str t,.int .i64 e],O)/\t.length<=4:=by
 rw[h.go (NVs.hand (.cons (.int _ _) .nil) _)];by_cases c1:r<0
 ·exact⟨[],1,by simp only[wF,c1,EVX,seval],by simp⟩
 by_cases c2:1114111<r
 ·exact⟨[],1,by simp only[wF,c1,c2,EVX,seval],by simp⟩
 by_cases c3:55296<=r
 ·by_cases c4:r<=57343
  ·exact⟨[],1,by simp only[wF,c1,c2,c3,c4,EVX,seval],by simp⟩
  ·exact⟨_,0,by simp only[wF,c1,c2,c3,c4,EVX,seval],agl (IntKind.i32.wrap r)⟩
 ·exact⟨_,0,by simp only[wF,c1,c2,c3,EVX,seval],agl (IntKind.i32.wrap r)⟩
def WW(C:Ctx):Prop:=∀(s:LU) (i:Int) (O:St),∃(n:Int) (b:Bool),ai C jS [.str s,.int .i64 i] O=some (.tup [.int .i64 n,.bool b],O)
theorem TR(h:Has C rW nG)(hd:WW C)(s:LU)(i:Nat)(hi:i<s.length)(O:St):∃(n:Int) (b:Bool),ai C rW [.str s,.int .i64 i] O=some (.tup [.int .i64 n,.bool b],O):=by
 rw[h.go (NVs.hand (.cons (.str _) (.cons (.int _ _) .nil)) _)];have h3:(0:Int)<=i:=by omega
 have hb:s[i]?=some s[i]:=List.getElem?_eq_getElem hi;obtain⟨n,b,q⟩:=hd s i O;by_cases c1:(65:Int)<=(s[i].toNat:Int)
 ·by_cases c2:(s[i].toNat:Int)<=70
  ·exact⟨_,_,by simp only[nG,h3,hb,c1,c2,EVX,seval];rfl⟩
  ·exact⟨n,b,by simp only[nG,h3,hb,c1,c2,q,EVX,seval]⟩
 ·exact⟨n,b,by simp only[nG,h3,hb,c1,q,EVX,seval]⟩
theorem BC(a b c d:Int)(O:St):∀(k i:Nat),i+k=4->∀n:Int,∃n':Int,aB C (ai C) 18 [3,6,7,8] kU [(3,.int .i64 n),(6,.sl 4 [.int .i64 a,.int .i64 b,.int .i64 c,.int .i64 d]),(7,.int .i64 4),(8,.int .i64 i)] O=some (.exit 0,[(3,.int .i64 n')],O)
 |0,i,hi,n=>by
  have:i=4:=by omega
  subst this;rw[aA (he:=rfl)];exact⟨n,by simp only[kU,EVX,seval]⟩
 |k+1,i,hi,n=>by
  have ih:=BC a b c d O k (i+1) (by omega)
  rw[aA (he:=rfl)];generalize hK:aB C (ai C) 18 [3,6,7,8] kU=K at*;have:i=0\/i=1\/i=2\/i=3:=by omega
  rcases this with rfl|rfl|rfl|rfl<;>simp only[kU,AV.cells,EVX,seval]<;>exact ih _
theorem P6(h:Has C vG uS)(a b c d:Int)(O:St):∃n:Int,ai C vG [.xsl 4 [.int .i64 a,.int .i64 b,.int .i64 c,.int .i64 d]] O=some (.int .i64 n,O):=by
 have hn:hand false [.xsl 4 [.int .i64 a,.int .i64 b,.int .i64 c,.int .i64 d]] O=some ([.sl 4 [.int .i64 a,.int .i64 b,.int .i64 c,.int .i64 d]],O):=rfl;rw[h.go hn];obtain⟨n,q⟩:=BC (C:=C) a b c d O 4 0 rfl 0;rw[show((0:Nat):Int)=0 from rfl]at q;exact⟨n,by simp only[uS,q,EVX,seval]⟩
theorem nc:((0:Nat):Int)=0/\((1:Nat):Int)=1/\((2:Nat):Int)=2/\((3:Nat):Int)=3/\((4:Nat):Int)=4:=⟨rfl,rfl,rfl,rfl,rfl⟩
theorem Ey(h:Has C rW nG)(hd:WW C)(s:LU)(hs:s.length<1099511627777)(at_:Nat)(hat:at_<=s.length)(O:St)(hσ:Ok O):∀(k i:Nat),i+k=4->(i=0\/at_+i<=s.length)->∀a b c d:Int,∃x,aB C (ai C) 43 [0,1,6,10] jP [(0,.str s),(1,.int .i64 at_),(6,.ref O.length 0),(10,.int .i64 i)] (O++[.cells [.int .i64 a,.int .i64 b,.int .i64 c,.int .i64 d] FZ])=some x/\((∃a b c d:Int,at_+4<=s.length/\x=(.exit 0,[(6,.ref O.length 0)],O++[.cells [.int .i64 a,.int .i64 b,.int .i64 c,.int .i64 d] FZ]))\/∃(e:Int) (L:St),e≠0/\x=(.ret,[(4,.int .i64 0),(5,.int .i64 e)],O++L))
 |0,i,hi,hl,a,b,c,d=>by
  have:i=4:=by omega
  subst this;rw[aA (he:=rfl)];exact⟨_,by simp only[jP,EVX,seval],.inl ⟨a,b,c,d,by omega,rfl⟩⟩
 |k+1,i,hi,hl,a,b,c,d=>by
  have ih:=Ey h hd s hs at_ hat O hσ k (i+1) (by omega)
  rw[aA (he:=rfl)];generalize hK:aB C (ai C) 43 [0,1,6,10] jP=K at*;have w:IntKind.i64.wrap ((at_:Int)+i)=((at_+i:Nat):Int):=wrE (by omega)
  have w1:=wrS i (by omega)
  have c0:(i:Int)<4:=by omega
  have i0:(0:Int)<=i:=by omega
  by_cases c1:s.length<=at_+i
  ·have c1:(s.length:Int)<=((at_+i:Nat):Int):=by omega
   exact⟨_,by simp only[jP,c0,w,c1,EVX,seval];rfl,.inr ⟨4,_,by decide,rfl⟩⟩
  have c1':¬(s.length:Int)<=((at_+i:Nat):Int):=by omega
  obtain⟨n,b',q⟩:=TR h hd s (at_+i) (by omega) (O++[.cells [.int .i64 a,.int .i64 b,.int .i64 c,.int .i64 d] FZ])
  cases b' with
  |false=>exact⟨_,by simp only[jP,c0,w,c1',q,EVX,seval];rfl,.inr ⟨3,_,by decide,rfl⟩⟩
  |true=>
   have ih:=ih (.inr (by omega))
   have:i=0\/i=1\/i=2\/i=3:=by omega
   rcases this with rfl|rfl|rfl|rfl<;>simp only[Nat.reduceAdd,Nat.add_zero,nc]at w w1 ih c1' q<;>simp only[jP,c0,i0,w,w1,c1',q,AV.cells,AV.flat,splice,EVX,seval]<;>exact ih _ _ _ _
theorem IM(h:Has C rW nG)(hn:Has C vG uS)(hf:Has C DJ yV)(hd:WW C)(s:LU)(hs:s.length<1099511627777)(i:Nat)(hi:i<=s.length)(O:St)(hσ:Ok O):∃n e:Int,ai C DJ [.str s,.int .i64 i] O=some (.tup [.int .i64 n,.int .i64 e],O)/\(e=0->i+4<=s.length):=by
 rw[hf.go (NVs.hand (.cons (.str _) (.cons (.int _ _) .nil)) _)];have ty:=fun n e:Int=>df hσ (vs:=[.int .i64 n,.int .i64 e]) rfl;obtain⟨x,q,hx⟩:=Ey h hd s hs i hi O hσ 4 0 rfl (.inl rfl) 0 0 0 0;rw[show((0:Nat):Int)=0 from rfl]at q;rcases hx with⟨a,b,c,d,h4,rfl⟩|⟨e,L,e0,rfl⟩
 ·obtain⟨n,qn⟩:=P6 hn a b c d (O++[.cells [.int .i64 a,.int .i64 b,.int .i64 c,.int .i64 d] FZ]);exact⟨n,0,by simp only[yV,q,qn,ty,AV.cells,AV.flat,splice,EVX,seval],fun _=>h4⟩
 ·exact⟨0,e,by simp only[yV,q,ty,EVX,seval],fun h=>absurd h e0⟩
structure yE(C:Ctx):Prop extends BldHas C where
 lead:Has C DL jr
 next:Has C Jo Dh
 put:Has C NP wF
 digit:Has C rW nG
 number:Has C vG uS
 four:Has C DJ yV
 coded:Has C xu iL
 dec:Has C Eo dO
 dec1:Has C Bi AQ
 dec11:Has C kG yM
 item:Has C Lc lW
 blen:Has C vY qp
 read:Has C bg uQ
 quote:Has C BR xh
 valid:Has C xR OA
 dig:WW C
 len:∀(s:LU) (O:St),s.length<=1099511627776->∃(n:Int) (b:Bool),ai C Vy [.str s] O=some (.tup [.int .i64 n,.bool b],O)
theorem bn(a b:Int):(a !=b)=false\/(a !=b)=true:=by cases a !=b<;>simp
theorem ww:IntKind.i64.wrap 1=1/\IntKind.i64.wrap 2=2:=⟨rfl,rfl⟩
theorem CS(s:LU)(hs:s.length<1099511627777)(f:Int)(O:St):∀(k i:Nat),i+k=2->∀p:Nat,p<=s.length->∃x,aB C (ai C) 75 [0,1,7,33,34,35] jh [(0,.str s),(1,.int .i64 p),(7,.int .i64 f),(33,.xsl 2 [.int .u8 92,.int .u8 117]),(34,.int .i64 2),(35,.int .i64 i)] O=some x/\((∃p':Nat,p<=p'/\p'<=p+k/\p'<=s.length/\x=(.exit 0,[(0,.str s),(1,.int .i64 p'),(7,.int .i64 f)],O))\/∃e:Int,e≠0/\x=(.ret,[(4,.int .i64 0),(5,.int .i64 0),(6,.int .i64 e)],O))
 |0,i,hi,p,hp=>by
  have:i=2:=by omega
  subst this;rw[aA (he:=rfl)];exact⟨_,by simp only[jh,EVX,seval],.inl ⟨p,by omega,by omega,hp,rfl⟩⟩
 |k+1,i,hi,p,hp=>by
  have ih:=CS s hs f O k (i+1) (by omega) (p+1)
  rw[aA (he:=rfl)];generalize hK:aB C (ai C) 75 [0,1,7,33,34,35] jh=K at*;have w1:=wrS p (by omega)
  have p0:(0:Int)<=p:=by omega
  have i2:i=0\/i=1:=by omega
  rcases bq p s.length with c|c
  ·exact⟨_,by rcases i2 with rfl|rfl<;>simp only[jh,c,AV.cells,EVX,seval]<;>rfl,.inr ⟨4,by decide,rfl⟩⟩
  have c':(p:Int)≠s.length:=by simpa using c
  have hb:s[p]?=some s[p]:=List.getElem?_eq_getElem (by omega)
  rcases bn s[p].toNat (if i=0 then 92 else 117)with d|d
  case inr=>exact⟨_,by rcases i2 with rfl|rfl<;>simp only[if_true,Nat.succ_ne_zero,Nat.one_ne_zero,if_false]at d<;>simp only[jh,c,d,hb,p0,AV.cells,EVX,seval]<;>rfl,.inr ⟨12,by decide,rfl⟩⟩
  ·obtain⟨x,h1,h2⟩:=ih (by omega)
   refine⟨x,?_,?_⟩
   ·rcases i2 with rfl|rfl<;>simp only[Nat.reduceAdd,nc]at h1<;>simp only[if_true,Nat.succ_ne_zero,Nat.one_ne_zero,if_false]at d<;>simp only[jh,c,d,hb,p0,w1,h1,ww,AV.cells,EVX,seval]
   ·rcases h2 with⟨p',a,b,e,r⟩|h2
    ·exact .inl ⟨p',by omega,by omega,e,r⟩
    ·exact .inr h2
theorem TP(H:yE C)(s:LU)(hs:s.length<1099511627777)(i:Nat)(hi:i<=s.length)(O:St)(hσ:Ok O):∃n z e:Int,ai C xu [.str s,.int .i64 i] O=some (.tup [.int .i64 n,.int .i64 z,.int .i64 e],O)/\(e=0->i<=z/\z<=i+10):=by
 rw[H.coded.go (NVs.hand (.cons (.str _) (.cons (.int _ _) .nil)) _)];obtain⟨n,e,q1,b1⟩:=IM H.digit H.number H.four H.dig s hs i hi O hσ;rcases bn e 0 with c|c
 case inr=>exact⟨0,0,e,by simp only[iL,q1,c,EVX,seval],fun h=>by subst h;simp at c⟩
 have e0:e=0:=by simpa using c
 subst e0;have b1:=b1 rfl;have w4:IntKind.i64.wrap ((i:Int)+4)=((i+4:Nat):Int):=wrE (by omega)
 by_cases c1:n<55296
 ·exact⟨n,_,0,by simp only[iL,q1,c1,w4,EVX,seval];rfl,fun _=>by omega⟩
 by_cases c2:57343<n
 ·exact⟨n,_,0,by simp only[iL,q1,c1,c2,w4,EVX,seval];rfl,fun _=>by omega⟩
 by_cases c3:56320<=n
 ·exact⟨0,0,12,by simp only[iL,q1,c1,c2,c3,w4,EVX,seval],fun h=>by cases h⟩
 obtain⟨x,l1,l2⟩:=CS (C:=C) s hs n O 2 0 rfl (i+4) b1;rw[nc.1]at l1;rcases l2 with⟨p,p1,p2,p3,rfl⟩|⟨e,e0,rfl⟩
 case inr=>exact⟨0,0,e,by simp only[iL,q1,c1,c2,c3,w4,l1,EVX,seval],fun h=>absurd h e0⟩
 obtain⟨n2,e,q2,b2⟩:=IM H.digit H.number H.four H.dig s hs p p3 O hσ;rcases bn e 0 with c|c
 case inr=>exact⟨0,0,e,by simp only[iL,q1,c1,c2,c3,w4,l1,q2,c,EVX,seval],fun h=>by subst h;simp at c⟩
 have e0:e=0:=by simpa using c
 subst e0;have w5:IntKind.i64.wrap ((p:Int)+4)=((p+4:Nat):Int):=wrE (by omega)
 by_cases c4:n2<56320
 ·exact⟨0,0,12,by simp only[iL,q1,c1,c2,c3,c4,w4,l1,q2,EVX,seval],fun h=>by cases h⟩
 by_cases c5:57343<n2
 ·exact⟨0,0,12,by simp only[iL,q1,c1,c2,c3,c4,c5,w4,l1,q2,EVX,seval],fun h=>by cases h⟩
 exact⟨_,_,0,by simp only[iL,q1,c1,c2,c3,c4,c5,w4,w5,l1,q2,EVX,seval];rfl,fun _=>by omega⟩
def ant(Y:St)(v:AV):Prop:=v=.nilFunc\/v=.func (.func xu) [] []\/∃(r:Int) (o:Nat),v=.func (.func kG) [] [.ref o 0]/\Y[o]?=some (.cells [.int .i64 r] FZ)
theorem rF(O L:St)(f:Fn):tidy O.length [.func f [] [.ref O.length 0]] (O++L)=O++L:=by
 unfold tidy;split
 ·rfl
 ·simp[ae,below]
theorem JE(H:yE C)(r:Int)(O:St):ai C Bi [.int .i64 r] O=some (.func (.func kG) [] [.ref O.length 0],O++[.cells [.int .i64 r] FZ]):=by
 rw[H.dec1.go (NVs.hand (.cons (.int _ _) .nil) _)];simp only[AQ,rF,EVX,seval]
theorem Oc(H:yE C)(c:Int)(O:St)(hσ:Ok O):∃v L,ai C Eo [.int .u8 c] O=some (v,O++L)/\Ok (O++L)/\ant (O++L) v:=by
 rw[H.dec.go (NVs.hand (.cons (.int _ _) .nil) _)];have q:=fun r=>JE H r O;have fin:∀r,Ok (O++[.cells [.int .i64 r] FZ])/\ant (O++[.cells [.int .i64 r] FZ]) (.func (.func kG) [] [.ref O.length 0]):=fun r=>⟨hσ.plus rfl,.inr (.inr ⟨r,_,rfl,by rw[fH rfl];rfl⟩)⟩
 rcases bq c 34 with c1|c1
 ·exact⟨_,_,by simp only[dO,c1,q,jk,rF,EVX,seval];rfl,fin _⟩
 rcases bq c 92 with c2|c2
 ·exact⟨_,_,by simp only[dO,c1,c2,q,jk,rF,EVX,seval];rfl,fin _⟩
 rcases bq c 47 with c3|c3
 ·exact⟨_,_,by simp only[dO,c1,c2,c3,q,jk,rF,EVX,seval];rfl,fin _⟩
 rcases bq c 98 with c4|c4
 ·exact⟨_,_,by simp only[dO,c1,c2,c3,c4,q,jk,rF,EVX,seval];rfl,fin _⟩
 rcases bq c 102 with c5|c5
 ·exact⟨_,_,by simp only[dO,c1,c2,c3,c4,c5,q,jk,rF,EVX,seval];rfl,fin _⟩
 rcases bq c 110 with c6|c6
 ·exact⟨_,_,by simp only[dO,c1,c2,c3,c4,c5,c6,q,jk,rF,EVX,seval];rfl,fin _⟩
 rcases bq c 114 with c7|c7
 ·exact⟨_,_,by simp only[dO,c1,c2,c3,c4,c5,c6,c7,q,jk,rF,EVX,seval];rfl,fin _⟩
 rcases bq c 116 with c8|c8
 ·exact⟨_,_,by simp only[dO,c1,c2,c3,c4,c5,c6,c7,c8,q,jk,rF,EVX,seval];rfl,fin _⟩
 rcases bq c 117 with c9|c9
 ·exact⟨.func (.func xu) [] [],[],by simp only[dO,c1,c2,c3,c4,c5,c6,c7,c8,c9,List.append_nil,EVX,seval],by rwa[List.append_nil],.inr (.inl rfl)⟩
 exact⟨.nilFunc,[],by simp only[dO,c1,c2,c3,c4,c5,c6,c7,c8,c9,List.append_nil,EVX,seval],by rwa[List.append_nil],.inl rfl⟩
theorem TQ(H:yE C)(s:LU)(z:Int)(o:Nat)(r:Int)(Y:St)(ho:Y[o]?=some (.cells [.int .i64 r] FZ)):ai C kG [.str s,.int .i64 z,.ref o 0] Y=some (.tup [.int .i64 r,.int .i64 z,.int .i64 0],Y):=by
 have hn:hand false [.str s,.int .i64 z,.ref o 0] Y=some ([.str s,.int .i64 z,.ref o 0],Y):=rfl;rw[H.dec11.go hn];simp only[yM,ho,EVX,seval]
theorem UU(H:yE C)(s:LU)(hs:s.length<1099511627777)(i:Nat)(hi:i<s.length)(O:St)(hσ:Ok O):∃n z e:Int,ai C Lc [.str s,.int .i64 i] O=some (.tup [.int .i64 n,.int .i64 z,.int .i64 e],O)/\(e=0->i<z/\z<=i+12):=by
 rw[H.item.go (NVs.hand (.cons (.str _) (.cons (.int _ _) .nil)) _)];have ty:=fun a b c:Int=>df hσ (vs:=[.int .i64 a,.int .i64 b,.int .i64 c]) rfl;have h3:(0:Int)<=i:=by omega
 have hb:s[i]?=some s[i]:=List.getElem?_eq_getElem hi;by_cases c1:(s[i].toNat:Int)<32
 ·exact⟨0,0,3,by simp only[lW,h3,hb,c1,EVX,seval],fun h=>by cases h⟩
 rcases bn s[i].toNat 92 with c2|c2
 case inr=>
  obtain⟨r,z,e,q,z0,z4,z1⟩:=aaA H.next H.lead s hs i hi O;rcases bn e 0 with c3|c3
  case inr=>exact⟨0,0,e,by simp only[lW,h3,hb,c1,c2,q,c3,EVX,seval],fun h=>by subst h;simp at c3⟩
  have e0:e=0:=by simpa using c3
  have z1:=z1 e0;obtain⟨m,rfl⟩:=Int.eq_ofNat_of_zero_le z0;have w:IntKind.i64.wrap ((i:Int)+(m:Int))=((i+m:Nat):Int):=wrE (by omega)
  exact⟨r,((i+m:Nat):Int),0,by simp only[lW,h3,hb,c1,c2,q,c3,w,EVX,seval],fun _=>by omega⟩
 have w1:=wrS i (by omega)
 have w2:IntKind.i64.wrap ((i:Int)+2)=((i+2:Nat):Int):=wrE (by omega)
 rcases bq ((i+1:Nat):Int) s.length with c3|c3
 ·exact⟨0,0,4,by simp only[lW,h3,hb,c1,c2,w1,c3,EVX,seval],fun h=>by cases h⟩
 have c3':((i+1:Nat):Int)≠s.length:=by simpa using c3
 have hb1:s[i+1]?=some s[i+1]:=List.getElem?_eq_getElem (by omega)
 have h4:(0:Int)<=((i+1:Nat):Int):=by omega
 obtain⟨v,L,q,okL,hv⟩:=Oc H s[i+1].toNat O hσ;rcases hv with rfl|rfl|⟨r,o,rfl,ho⟩
 ·exact⟨0,0,3,by simp only[lW,h3,h4,hb,hb1,c1,c2,w1,c3,q,ty,EVX,seval],fun h=>by cases h⟩
 ·obtain⟨n,z,e,q2,b2⟩:=TP H s hs (i+2) (by omega) (O++L) okL
  refine⟨n,z,e,by simp only[lW,h3,h4,hb,hb1,c1,c2,w1,w2,c3,q,q2,jk,ty,List.nil_append,List.append_nil,EVX,seval],fun h=>?_⟩
  have:=b2 h;omega
 ·have q2:=TQ H s ((i+2:Nat):Int) o r (O++L) ho;exact⟨r,((i+2:Nat):Int),0,by simp only[lW,h3,h4,hb,hb1,c1,c2,w1,w2,c3,q,q2,jk,ty,List.nil_append,List.cons_append,EVX,seval],fun _=>by omega⟩
theorem acI(H:BldHas C){o n:Nat}{O Y S:St}{w:LU}{q':Option Nat}(b:Bk S o w q')(t:TrB o Y none S q')(hn:n=O.length)(ht:Y.take n=O)(ho:n<=o)(hl:n<=Y.length)(hw:w.length<=1099511627776):∃S',ai C fV [.ref o 0] S=some (.str w,S')/\S'.take n=O:=by
 have tk:S.take n=O:=t.take hn ht ho;obtain⟨p,c,x1,x2,x3⟩:=b;rcases x3 with⟨_,rfl,rfl⟩|⟨q,x3,x4,x5,rfl,x6⟩
 ·exact⟨S,H.str0 _ _ _ x1,tk⟩
 ·refine⟨_,H.str1 _ _ _ _ _ x1 x6 x5 hw,?_⟩;rcases t.q q x3 with h|h
  ·cases h
  ·rw[cZ _ _ _ (by omega),tk]
theorem alL(H:yE C){o:Nat}{Y:St}{w:LU}{qo:Option Nat}(b:Bk Y o w qo):ai C vY [.ref o 0] Y=some (.int .i64 w.length,Y):=by
 have hn:hand false [.ref o 0] Y=some ([.ref o 0],Y):=rfl;rw[H.blen.go hn];obtain⟨p,c,x1,x2,x3⟩:=b;dsimp only[bT]at x1;rcases x3 with⟨_,rfl,rfl⟩|⟨q,x3,x4,x5,rfl,x6⟩
 ·simp only[qp,x1,AV.cells,EVX,seval]
 ·simp only[qp,x1,AV.cells,EVX,seval]
theorem P5 (H:yE C) (s:LU) (hs:s.length<1099511627777) (O:St) (o:Nat) (ho:O.length<=o) (Y0:St) (h0:Y0.take O.length=O) (h1:O.length<=Y0.length):∀(k p:Nat),s.length<=p+k->p<=s.length+12->∀(Y:St) (w:LU) (qo:Option Nat),Ok Y->Bk Y o w qo->TrB o Y0 none Y qo->w.length<=4096->
  ∃x,aB C (ai C) 67 [0,1,7] eX [(0,.str s),(1,.int .i64 p),(7,.ref o 0)] Y=some x/\((∃Y',x=(.exit 0,[],Y')/\Y'.take O.length=O)\/∃(t:LU) (z e:Int) (Y':St),x=(.ret,[(4,.str t),(5,.int .i64 z),(6,.int .i64 e)],Y')/\Y'.take O.length=O/\0<=z/\t.length<=4096):=by
 intro k
 induction k with
 |zero=>
  intro p hp hp2 Y w qo hτ hb ht hw;rw[aA (he:=rfl)];have c0:¬((p:Int)<s.length):=by omega
  exact⟨_,by simp only[eX,c0,EVX,seval],.inl ⟨_,rfl,ht.take rfl h0 ho⟩⟩
 |succ k ih=>
  intro p hp hp2 Y w qo hτ hb ht hw;rw[aA (he:=rfl)];generalize hK:aB C (ai C) 67 [0,1,7] eX=K at*;have tk:Y.take O.length=O:=ht.take rfl h0 ho;by_cases c0:(p:Int)<s.length
  case neg=>exact⟨_,by simp only[eX,c0,EVX,seval],.inl ⟨_,rfl,tk⟩⟩
  have hb1:s[p]?=some s[p]:=List.getElem?_eq_getElem (by omega)
  have p0:(0:Int)<=p:=by omega
  rcases bq s[p].toNat 34 with c1|c1
  ·obtain⟨S',s1,s2⟩:=acI H.toBldHas hb ht rfl h0 ho h1 (by omega)
   have w1:IntKind.i64.wrap ((p:Int)+1)=p+1:=wrE (by omega)
   exact⟨_,by simp only[eX,c0,c1,hb1,p0,s1,w1,EVX,seval],.inr ⟨w,p+1,0,S',rfl,s2,by omega,hw⟩⟩
  obtain⟨n,z,e,q,b⟩:=UU H s hs p (by omega) Y hτ
  rcases bn e 0 with c2|c2
  case inr=>exact⟨_,by simp only[eX,c0,c1,c2,hb1,p0,q,EVX,seval],.inr ⟨[],0,e,Y,rfl,tk,by omega,by simp⟩⟩
  have e0:e=0:=by simpa using c2
  have b:=b e0;obtain⟨t,e',q2,tl⟩:=acd H.put n Y;rcases bn e' 0 with c3|c3
  case inr=>exact⟨_,by simp only[eX,c0,c1,c2,c3,hb1,p0,q,q2,EVX,seval],.inr ⟨[],0,e',Y,rfl,tk,by omega,by simp⟩⟩
  have q3:=alL H hb;have w2:IntKind.i64.wrap ((w.length:Int)+(t.length:Int))=w.length+t.length:=wrE (by omega)
  by_cases c4:(4096:Int)<(w.length:Int)+(t.length:Int)
  ·exact⟨_,by simp only[eX,c0,c1,c2,c3,c4,hb1,p0,q,q2,q3,w2,EVX,seval],.inr ⟨[],0,5,Y,rfl,tk,by omega,by simp⟩⟩
  obtain⟨Y',qo',q4,b4,t4⟩:=CZ H.toBldHas t hτ hb (by omega)
  obtain⟨m,rfl⟩:=Int.eq_ofNat_of_zero_le (show 0<=z by omega)
  obtain⟨x,x1,x2⟩:=ih m (by omega) (by omega) Y' (w++t) qo' t4.ok b4 (ht.trans t4) (by rw[List.length_append];omega)
  exact⟨x,by simp only[eX,c0,c1,c2,c3,c4,hb1,p0,q,q2,q3,q4,w2,x1,EVX,seval],x2⟩
theorem ak3(H:yE C):Xg C:=fun s i O hs hi hσ=>by
 rw[H.read.go (NVs.hand (.cons (.str _) (.cons (.int _ _) .nil)) _)];have h1:¬((i:Int)<0):=by omega
 have h2:¬((s.length:Int)<i):=by omega
 have h3:(0:Int)<=i:=by omega
 have ty:=fun(t:LU) (z e:Int)=>df hσ (vs:=[.str t,.int .i64 z,.int .i64 e]) rfl;rcases bq i s.length with c|c
 ·exact⟨[],0,4,by simp only[uQ,h1,h2,c,EVX,seval],by omega,lb0⟩
 have c':(i:Int)≠s.length:=by simpa using c
 have hb:s[i]?=some s[i]:=List.getElem?_eq_getElem (by omega)
 rcases bn s[i].toNat 34 with c1|c1
 case inr=>exact⟨[],0,3,by simp only[uQ,h1,h2,h3,hb,c,c1,EVX,seval],by omega,lb0⟩
 have w1:=wrS i (by omega)
 have okB:Ok (O++[.cells [.nilp,.nils] bT]):=hσ.plus rfl;obtain⟨x,x1,x2⟩:=P5 H s hs O O.length (Nat.le_refl _) (O++[.cells [.nilp,.nils] bT]) (by simp) (by simp) s.length (i+1) (by omega) (by omega) _ [] none okB ⟨.nilp,.nils,by rw[fH rfl];rfl,.inl rfl,.inl ⟨rfl,rfl,rfl⟩⟩ (.refl okB) (by simp)
 dsimp only[bT]at x1;rcases x2 with⟨Y',rfl,tk⟩|⟨t,z,e,Y',rfl,tk,z0,tl⟩
 ·have tq:=fun(t:LU) (z e:Int)=>yA (vs:=[.str t,.int .i64 z,.int .i64 e]) hσ rfl tk;exact⟨[],0,4,by simp only[uQ,h1,h2,h3,hb,c,c1,w1,x1,tq,EVX,seval],by omega,lb0⟩
 ·have tq:=fun(t:LU) (z e:Int)=>yA (vs:=[.str t,.int .i64 z,.int .i64 e]) hσ rfl tk;exact⟨t,z,e,by simp only[uQ,h1,h2,h3,hb,c,c1,w1,x1,tq,EVX,seval],z0,by simp only[LB];omega⟩
theorem Nq(H:yE C)(s:LU)(hs:s.length<=1099511627776)(O:St):∃b:Bool,ai C xR [.str s] O=some (.bool b,O):=by
 rw[H.valid.go (NVs.hand (.cons (.str _) .nil) _)];obtain⟨n,b,q⟩:=H.len s O hs;exact⟨b,by simp only[OA,q,EVX,seval]⟩
theorem Ob (H:yE C) (s:LU) (hs:s.length<=4096) (O:St) (o:Nat) (Y0:St):∀(k p:Nat),p+k=s.length->∀(Y:St) (w:LU) (qo:Option Nat),Ok Y->Bk Y o w qo->TrB o Y0 none Y qo->w.length<=1+2*p->
  ∃(Y':St) (w':LU) (q':Option Nat),aB C (ai C) 36 [0,4,14,15] jc [(0,.str s),(4,.ref o 0),(14,.int .i64 s.length),(15,.int .i64 p)] Y=some (.exit 0,[(4,.ref o 0)],Y')/\Ok Y'/\Bk Y' o w' q'/\TrB o Y0 none Y' q'/\w'.length<=1+2*s.length:=by
 intro k
 induction k with
 |zero=>
  intro p hp Y w qo hτ hb ht hw;rw[aA (he:=rfl)];have c0:¬((p:Int)<s.length):=by omega
  exact⟨Y,w,qo,by simp only[jc,c0,EVX,seval],hτ,hb,ht,by omega⟩
 |succ k ih=>
  intro p hp Y w qo hτ hb ht hw;rw[aA (he:=rfl)];generalize hK:aB C (ai C) 36 [0,4,14,15] jc=K at*;have c0:(p:Int)<s.length:=by omega
  have hb1:s[p]?=some s[p]:=List.getElem?_eq_getElem (by omega)
  have p0:(0:Int)<=p:=by omega
  have w1:=wrS p (by omega)
  have bsl:((92:UInt8).toNat:Int)=92:=rfl;have esc:((s[p].toNat:Int)==34)=true\/((s[p].toNat:Int)==34)=false/\((s[p].toNat:Int)==92)=true->∃(Y':St) (w':LU) (q':Option Nat),ai C eH [.ref o 0,.int .u8 92] Y=some (.nilIface,Y')/\Ok Y'/\Bk Y' o w' q'/\TrB o Y0 none Y' q'/\w'.length<=2+2*p:=fun _=>by
   obtain⟨Y1,q1,e1,b1,t1⟩:=rG H.toBldHas 92 hτ hb (by omega)
   rw[bsl]at e1;exact⟨Y1,_,q1,e1,t1.ok,b1,ht.trans t1,by rw[List.length_append,List.length_singleton];omega⟩
  rcases bq s[p].toNat 34 with c1|c1
  ·obtain⟨Y1,w1',q1,e1,ok1,b1,t1,l1⟩:=esc (.inl c1);obtain⟨Y2,q2,e2,b2,t2⟩:=rG H.toBldHas s[p] ok1 b1 (by omega)
   obtain⟨Y',w',q',x,h⟩:=ih (p+1) (by omega) Y2 _ q2 t2.ok b2 (t1.trans t2) (by rw[List.length_append,List.length_singleton];omega)
   exact⟨Y',w',q',by simp only[jc,c0,c1,hb1,p0,e1,e2,w1,x,EVX,seval],h⟩
  ·rcases bq s[p].toNat 92 with c2|c2
   ·obtain⟨Y1,w1',q1,e1,ok1,b1,t1,l1⟩:=esc (.inr ⟨c1,c2⟩);obtain⟨Y2,q2,e2,b2,t2⟩:=rG H.toBldHas s[p] ok1 b1 (by omega)
    obtain⟨Y',w',q',x,h⟩:=ih (p+1) (by omega) Y2 _ q2 t2.ok b2 (t1.trans t2) (by rw[List.length_append,List.length_singleton];omega)
    exact⟨Y',w',q',by simp only[jc,c0,c1,c2,hb1,p0,e1,e2,w1,x,EVX,seval],h⟩
   ·obtain⟨Y2,q2,e2,b2,t2⟩:=rG H.toBldHas s[p] hτ hb (by omega)
    obtain⟨Y',w',q',x,h⟩:=ih (p+1) (by omega) Y2 _ q2 t2.ok b2 (ht.trans t2) (by rw[List.length_append,List.length_singleton];omega)
    exact⟨Y',w',q',by simp only[jc,c0,c1,c2,hb1,p0,e2,w1,x,EVX,seval],h⟩
theorem TN(H:yE C)(s:LU)(O:St)(hσ:Ok O):∃(q:LU) (e:Int),ai C BR [.str s] O=some (.tup [.str q,.int .i64 e],O)/\q.length<=8194:=by
 rw[H.quote.go (NVs.hand (.cons (.str _) .nil) _)];by_cases c0:(4096:Int)<(s.length:Int)
 ·exact⟨[],5,by simp only[xh,c0,EVX,seval],by simp⟩
 obtain⟨b,hv⟩:=Nq H s (by omega) O
 cases b with
 |false=>exact⟨[],12,by simp only[xh,c0,hv,EVX,seval],by simp⟩
 |true=>
  have okB:Ok (O++[.cells [.nilp,.nils] bT]):=hσ.plus rfl;have bk:Bk (O++[.cells [.nilp,.nils] bT]) O.length [] none:=⟨.nilp,.nils,by rw[fH rfl];rfl,.inl rfl,.inl ⟨rfl,rfl,rfl⟩⟩
  obtain⟨Y1,q1,e1,b1,t1⟩:=rG H.toBldHas 34 okB bk (by simp)
  obtain⟨Y2,w2,q2,e2,ok2,b2,t2,l2⟩:=Ob H s (by omega) O O.length _ s.length 0 (by omega) Y1 _ q1 t1.ok b1 t1 (by simp)
  obtain⟨Y3,q3,e3,b3,t3⟩:=rG H.toBldHas 34 ok2 b2 (by omega)
  obtain⟨S',s1,s2⟩:=acI H.toBldHas b3 (t2.trans t3) (n:=O.length) rfl (by simp) (Nat.le_refl _) (by simp) (by rw[List.length_append,List.length_singleton];omega)
  have tq:=fun t:LU=>yA (vs:=[.str t,.int .i64 0]) hσ rfl s2;have bsl:((34:UInt8).toNat:Int)=34:=rfl;rw[bsl]at e1 e3;rw[nc.1]at e2;dsimp only[bT]at e1;exact⟨w2++[34],0,by simp only[xh,c0,hv,e1,e2,e3,s1,tq,EVX,seval],by rw[List.length_append,List.length_singleton];omega⟩
open Go.Lib
theorem Xt(x y:UInt8)(a b:LU):compareBytes (x::a) (y::b)=if x.toNat<y.toNat then-1 else if y.toNat<x.toNat then 1 else compareBytes a b:=by
 rw[compareBytes];simp only[UInt8.lt_iff_toNat_lt]
theorem acL:∀a:LU,compareBytes a a=0
 |[]=>rfl
 |x::a=>by rw[Xt,if_neg (by omega),if_neg (by omega),acL a]
theorem YV:∀a b c:LU,compareBytes a b<0->compareBytes b c<0->compareBytes a c<0
 |[],[],c,h,_=>absurd h (by decide)
 |[],_::_,[],_,h=>absurd h (by simp[compareBytes])
 |[],_::_,_::_,_,_=>by simp[compareBytes]
 |_::_,[],c,h,_=>absurd h (by simp[compareBytes])
 |_::_,_::_,[],_,h=>absurd h (by simp[compareBytes])
 |x::a,y::b,z::c,h,k=>by
  rw[Xt]at h k⊢;have ih:=YV a b c;generalize compareBytes a b=p at*;generalize compareBytes b c=q at*;generalize compareBytes a c=r at*;split at h
  ·split at k
   ·rw[if_pos (by omega)];decide
   ·split at k
    ·exact absurd k (by decide)
    ·rw[if_pos (by omega)];decide
  ·split at h
   ·exact absurd h (by decide)
   ·split at k
    ·rw[if_pos (by omega)];decide
    ·split at k
     ·exact absurd k (by decide)
     ·rw[if_neg (by omega),if_neg (by omega)];exact ih h k
theorem Vj:∀a b c:LU,¬compareBytes a b<0->¬compareBytes b c<0->¬compareBytes a c<0
 |a,[],[],h,_=>h
 |[],_::_,c,h,_=>absurd (by simp[compareBytes]) h
 |_,[],_::_,_,h=>absurd (by simp[compareBytes]) h
 |_::_,_::_,[],_,_=>by simp[compareBytes]
 |x::a,y::b,z::c,h,k=>by
  rw[Xt]at h k⊢;have ih:=Vj a b c;generalize compareBytes a b=p at*;generalize compareBytes b c=q at*;generalize compareBytes a c=r at*;split at h
  ·exact absurd (by decide) h
  ·split at h
   ·split at k
    ·exact absurd (by decide) k
    ·split at k
     ·rw[if_neg (by omega),if_pos (by omega)];decide
     ·rw[if_neg (by omega),if_pos (by omega)];decide
   ·split at k
    ·exact absurd (by decide) k
    ·split at k
     ·rw[if_neg (by omega),if_pos (by omega)];decide
     ·rw[if_neg (by omega),if_neg (by omega)];exact ih h k
open Go.RowKit Go.Shelf Go.Lib Go.Sort Go.Proofs
set_option maxRecDepth 10000
def X5(xs:List EL)(i:Nat):LU:=match xs[i]? with|some x=>x.1.1|none=>[]
def ab4(xs:List EL)(i j:Nat):Int:=compareBytes (X5 xs i) (X5 xs j)
theorem ag4(xs:List EL):SWO (ltOf (ab4 xs))where
 irrefl x:=by simp[ltOf,ab4,acL]
 trans x y z h1 h2:=decide_eq_true (YV _ _ _ (of_decide_eq_true h1) (of_decide_eq_true h2))
 ntrans x y z h1 h2:=decide_eq_false (Vj _ _ _ (of_decide_eq_false h1) (of_decide_eq_false h2))
def Aw(xs:List EL):Array Nat:=pdq (ltOf (ab4 xs)) (Array.range xs.length) 0 (Array.range xs.length).size (Lib.bitLen (Array.range xs.length).size) true true
theorem amy(xs:List EL):(Aw xs).size=xs.length/\∀i,i<xs.length->(Aw xs)[i]! <xs.length:=by
 have h:=(pdq_sorts (ltOf (ab4 xs)) (ag4 xs) (Array.range xs.length) 0 (Array.range xs.length).size (Lib.bitLen (Array.range xs.length).size) true true (Nat.zero_le _) (Nat.le_refl _) (Or.inl rfl)).1;refine⟨by have:=h.1;unfold Aw;rw[this];simp,fun i hi=>?_⟩
 exact permIn_all (Array.range xs.length) (Aw xs) 0 (Array.range xs.length).size (fun j=>j<xs.length) (Nat.le_refl _) h (fun j _ hj=>by
  have hj':j<xs.length:=by simpa using hj
  rw[getElem!_pos _ j hj];simpa using hj') i (Nat.zero_le _) (by simpa using hi)
def aok:EL:=(⟨[],by decide⟩,JV.zero)
instance:Inhabited EL:=⟨aok⟩
def Ul(xs:List EL):List EL:=(List.range xs.length).map fun t=>xs.getD ((Aw xs)[t]!) aok
theorem Ia(xs:List EL):(Ul xs).length=xs.length:=by simp[Ul]
open Classical in
noncomputable def Pv(fc:FuncId)(args:LA)(O:St):Option (AV×St):=
 match args with
 |[.msl o 0 n 6,.func (.func g) [] []]=>match O[o]? with
  |some (.cells l ⟨false,t⟩)=>if h:g=fc/\n<4611686018427387904/\∃xs:List EL,l=jE xs/\xs.length=n then some (.tup [],O.set o (.cells (jE (Ul h.2.2.choose)) ⟨false,t⟩))else none
  |_=>none
 |_=>none
theorem KX(xs:List EL):(jE xs).length=xs.length*6:=dA lI xs
theorem agj(xs:List EL)(i r:Nat)(hi:i<xs.length)(hr:r<6):(jE xs)[i*6+r]?=(elC xs[i])[r]?:=by
 have h:=lL lI (List.getElem?_eq_getElem hi);have e:(jE xs)[i*6+r]?=((jE xs).drop (i*6))[r]?:=by rw[List.getElem?_drop]
 rw[e];unfold jE;rw[h,List.getElem?_append_left (by rw[lI];exact hr)]
def uB(c:Array Value)(n i:Nat):List Value:=if i<n then(List.range 6).map fun r=>c[i*6+r]! else[.string ⟨⟨[]⟩⟩,.int .i64 0,.int .i64 0,.int .i64 0,.int .i64 0,.int .i64 0]
theorem acU(c:Array Value)(n i:Nat):(uB c n i).length=6:=by
 unfold uB;split<;>simp
theorem abd(c:Array Value)(n i r:Nat)(hi:i<n)(hr:r<6):(uB c n i)[r]! =c[i*6+r]!:=by
 unfold uB;rw[if_pos hi,getElem!_pos _ r (by simpa using hr)]
 simp
section
variable{ρ:Ren}{fs fc:FuncId}
theorem adE (L:SlLaysF0.n6 C.P ρ) (hfs:ρ.f 6=fs) (hfn:EG C.P fs) (aE:∀w,(isAgg (ρ.t 24)).run C.P w=.ok true w) (zE:∀w,(Go.sizeOf (ρ.t 24)).run C.P w=.ok 6 w)
  (eg:∀args w,(callFunc fc args).run C.P w=.ok (.enter fc args) w)
  (ag9:∀(x y:LU) (u v:List Value) (W:World),u.length=5->v.length=5->Calls C.P fc #[.agg (.string ⟨⟨x⟩⟩::u).toArray,.agg (.string ⟨⟨y⟩⟩::v).toArray] W fun e w'=>e=.returned (.int .i64 (compareBytes x y))/\∃q os',w'=grow (W.drewN q) os'):
  POK C fs (Pv fc):=by
 intro args O v O' h g w args' ha hw hg;unfold Pv at h;split at h
 ·rename_i o n gf;split at h
  ·rename_i l t ho;split at h
   ·rename_i hx;simp only[Option.some.injEq,Prod.mk.injEq]at h;obtain⟨rfl,rfl⟩:=h;have hxs:=hx.2.2.choose_spec;generalize hx.2.2.choose=xs at hxs;obtain⟨rfl,hn,_⟩:=hx;obtain⟨rfl,hlen⟩:=hxs;have hlen6:=KX xs;obtain⟨c,e,fr,h1,h2',h3,h4,h5,h6⟩:=hw.obj o _ ho;have hfr:fr=(0,0):=h5.1;subst hfr;cases ha with
    |cons _ v1 _ l1 x1 y1=>
    cases y1 with
    |cons _ v2 _ l2 x2 y2=>
    cases y2;cases x1 with
    |msl _ _ _ _ cap hog hncap hcap=>
    cases x2 with
    |func _ _ _ x' y' k1 k2=>
    cases k1;cases k2;have cell:∀i,i<n->∀r,r<6->∃x,(elC xs[i]!)[r]?=some x/\VR g x c[i*6+r]!:=fun i hi r hr=>by
     have hi':i<xs.length:=by omega
     have e1:=agj xs i r hi' hr;have hl6:=lI xs[i];have e2:(elC xs[i])[r]?=some (elC xs[i])[r]:=List.getElem?_eq_getElem (by omega)
     rw[e2]at e1;obtain⟨u,hu,hv⟩:=h4 _ _ e1;have e3:xs[i]! =xs[i]:=getElem!_pos xs i hi';refine⟨_,by rw[e3];exact e2,?_⟩
     obtain⟨hb,hu2⟩:=Array.getElem?_eq_some_iff.mp hu;rw[getElem!_pos c _ hb,hu2];exact hv
    have fst:∀i,∃u,uB c n i=.string ⟨⟨X5 xs i⟩⟩::u/\u.length=5:=fun i=>by
     have hl:=acU c n i;by_cases hi:i<n
     ·obtain⟨x,hx1,hx2⟩:=cell i hi 0 (by decide)
      have hi':i<xs.length:=by omega
      have e3:xs[i]! =xs[i]:=getElem!_pos xs i hi';have hx3:x=.str (X5 xs i):=by
       have:X5 xs i=(xs[i]).1.1:=by unfold X5;rw[List.getElem?_eq_getElem hi']
       rw[this];rw[e3]at hx1;exact(Option.some.inj hx1).symm
      rw[hx3]at hx2;have e0:=abd c n i 0 hi (by decide)
      cases hE:uB c n i with
      |nil=>rw[hE]at hl;cases hl
      |cons a u=>
       rw[hE]at e0 hl;refine⟨u,?_,by simpa using hl⟩
       have:a=c[i*6+0]!:=e0;rw[this];generalize c[i*6+0]! =q at hx2;cases hx2;rfl
     ·refine⟨[.int .i64 0,.int .i64 0,.int .i64 0,.int .i64 0,.int .i64 0],?_,rfl⟩;unfold uB X5;rw[if_neg hi,List.getElem?_eq_none (by omega)]
    have oneC:∀i,∀v∈uB c n i,v.oneCell'=true:=fun i v hv=>by
     by_cases hi:i<n
     ·unfold uB at hv;rw[if_pos hi]at hv;obtain⟨r,hr,rfl⟩:=List.mem_map.mp hv;obtain⟨x,hx1,hx2⟩:=cell i hi r (List.mem_range.mp hr);exact hx2.one (List.all_eq_true.mp (vk _) x (List.mem_of_getElem? hx1))
     ·unfold uB at hv;rw[if_neg hi]at hv;simp only[List.mem_cons,List.not_mem_nil,or_false]at hv;rcases hv with rfl|rfl|rfl|rfl|rfl|rfl<;>rfl
    have hsz0:(Array.range xs.length).size=n:=by simp[hlen]
    have rg:∀j,j<n->(Array.range xs.length)[j]! =j:=fun j hj=>by
     rw[getElem!_pos _ j (by rw[hsz0];exact hj)];simp
    have fk:∀t,t<n*6->(flatK (uB c n) 6 (Array.range xs.length))[t]! =c[t]!:=fun t ht=>by
     have hq:t/6<n:=by omega
     rw[get_flatK _ _ _ _ (by rw[hsz0];exact ht),rg _ hq,abd _ _ _ _ hq (Nat.mod_lt _ (by decide))]
     congr 1
     omega
    have hH:HoldsK (uB c n) 6 w (g.ob o) 0 (Array.range xs.length):=by
     intro t ht;have ht':t<n*6:=by rw[size_flatK,hsz0]at ht;exact ht
     refine⟨?_,?_⟩
     ·rw[fk t ht',Nat.zero_add];show w.cell? ⟨g.ob o,t,none⟩=some c[t]!;rw[cell_of_heap h1,getElem!_pos c t (by omega)]
      exact Array.getElem?_eq_getElem (by omega)
     ·rw[World.frozen?,h1];rfl
    have hb:g.ob o<w.heap.size:=(Array.getElem?_eq_some_iff.mp h1).1;have hcmp:CmpLays C.P gf #[] (uB c n) 6 (ab4 xs) (g.ob o) 0 (Array.range xs.length).size w:=fun m os dk _ i j=>by
     obtain⟨u,hu,lu⟩:=fst i;obtain⟨u',hu',lu'⟩:=fst j;rw[hu,hu'];exact ag9 (X5 xs i) (X5 xs j) u u' _ lu lu'
    have run:=AnyQ.slices_SortFunc_eq L 6 aE zE (uB c n) (acU c n) oneC (ab4 xs) (ag4 xs) gf #[] (g.ob o) 0 cap (Array.range xs.length) w eg hcmp hH hb (by omega)
    rw[hfs,hsz0]at run;refine Bd hfn (run.mono fun e' w2 ⟨he,q,os,hw2⟩=>⟨_,he,g,?_,.tup _ _ .nil⟩);have hd:=amy xs;have hd0:pdq (ltOf (ab4 xs)) (Array.range xs.length) 0 n (Lib.bitLen n) true true=Aw xs:=by unfold Aw;rw[hsz0]
    rw[hd0]at hw2;have hF:(flatK (uB c n) 6 (Aw xs)).size=n*6:=by rw[size_flatK,hd.1,hlen]
    have heap:w2.heap=(w.heap.modify (g.ob o) (onCells (putCells id 0 (flatK (uB c n) 6 (Aw xs)))))++os:=by rw[hw2];rfl
    have hms:(w.heap.modify (g.ob o) (onCells (putCells id 0 (flatK (uB c n) 6 (Aw xs))))).size=w.heap.size:=by simp
    have h2:w2.heap[g.ob o]?=some (.cells (putCells id 0 (flatK (uB c n) 6 (Aw xs)) c) e (0,0)):=by
     rw[heap,Array.getElem?_append_left (by rw[hms];exact hb),Array.getElem?_modify,if_pos rfl,h1]
     rfl
    have psz:(putCells id 0 (flatK (uB c n) 6 (Aw xs)) c).size=c.size:=by simp[putCells]
    refine agB hw ho (by rw[hw2];rfl) (by rw[hw2];rfl) (by rw[hw2];rfl) (by rw[heap];simp) (fun k hk hne=>?_) ⟨_,e,(0,0),h2,by rw[psz];exact h2',by rw[psz,KX,Ia];omega,fun i x hx=>?_,?_,?_⟩
    ·rw[heap,Array.getElem?_append_left (by rw[hms];exact hk),Array.getElem?_modify,if_neg (fun h=>hne h.symm)]
    ·have hi:i<n*6:=by
      have:=(List.getElem?_eq_some_iff.mp hx).1;rw[KX,Ia]at this;omega
     have hq:i/6<n:=by omega
     have hr:i%6<6:=Nat.mod_lt _ (by decide)
     have hoi:=hd.2 (i/6) (by omega)
     have ei:i=i/6*6+i%6:=by omega
     have es:(Ul xs)[i/6]'(by rw[Ia];omega)=xs[(Aw xs)[i/6]!]!:=by
      unfold Ul;rw[List.getElem_map,List.getElem_range,List.getD_eq_getElem?_getD,List.getElem?_eq_getElem hoi,getElem!_pos xs _ hoi];rfl
     have hx':=hx;rw[ei,agj (Ul xs) (i/6) (i%6) (by rw[Ia];omega) hr,es]at hx'
     obtain⟨y,hy1,hy2⟩:=cell ((Aw xs)[i/6]!) (by omega) (i%6) hr
     rw[hy1]at hx';cases hx';refine⟨(flatK (uB c n) 6 (Aw xs))[i]!,?_,?_⟩
     ·unfold putCells;rw[Array.getElem?_mapIdx,Array.getElem?_eq_getElem (by omega),Option.map_some,if_pos ⟨Nat.zero_le _,by rw[hF];omega⟩]
      rfl
     ·rw[get_flatK _ _ _ _ (by rw[hd.1,hlen];exact hi),abd _ _ _ _ (by omega) hr]
      exact hy2
    ·refine⟨rfl,fun t' x' ht=>?_⟩;obtain⟨q1,q2⟩:=h5.2 t' x' ht;refine⟨q1,fun hx=>?_⟩;rw[psz,KX,Ia,<-KX];exact q2 hx
    ·intro i v hv;exact absurd (h6 i v hv).1 (by simp)
   ·cases h
  ·cases h
 ·cases h
theorem adU{D:Ctx}(hq:∀args O,ai D fs args O=Pv fc args O):Qd D fs fc:=by
 intro O hσ o ho t N hN xs hxs;have hex:fc=fc/\N<4611686018427387904/\∃ys:List EL,jE xs=jE ys/\ys.length=N:=⟨rfl,by omega,xs,rfl,hxs⟩
 refine⟨Ul hex.2.2.choose,by rw[Ia];exact hex.2.2.choose_spec.2,?_⟩
 rw[hq];unfold Pv ajk;simp only[adL ho t xs];rw[dif_pos hex,akb]
end
end Go.Ev
