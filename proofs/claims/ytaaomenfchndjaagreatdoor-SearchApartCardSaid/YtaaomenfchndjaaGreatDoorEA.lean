/- An evaluator. No conditions. -/
import Derived.Calls
import Derived.Below
import Derived.Laws.IdiomCopy
import Derived.Laws.Cells
import Derived.Deep.AppendSrc
import Derived.Deep.Upon
import Derived.LaidEql
import Derived.Laws.StructEq
import Derived.Laws.Cover3
import Derived.Laws.Pointers
import Derived.Lib.Bytes
import Derived.Lib.Bytealg
import Derived.Laws.MakeOwn
import Derived.Laws.BytesArg
import Derived.Laws.IdiomStrings
import Derived.Lib.IndexBytes
set_option linter.unusedVariables false
set_option linter.unusedSimpArgs false
set_option linter.defProp false
open Go renaming run_underlying→w8,Value→W,TypeId→j0,World→Q,execOp→j8,Operand→j9,Program→D,run_append_nothing→X2,grownCap→Z6,run_append_grow_src→K3,binOp→F,MapEntry→K8,TypeInfo→K9,invoke→J0,run_firstCells_some→J1,Oper→H,run_convert_bytes_string→K,BinOp→I,TypeDesc→n,IntKind→j,typeInfo→k,sizeOf→s,FuncId→x
open _root_ renaming Option→X,Nat→Y,rfl→k9,List→T,Bool→V,Array→j7,ByteArray→X1,if_neg→Z1,if_pos→K4,String→K6,absurd→L
open Go.Result renaming andThen_ok→w9
open Go.Sem renaming run_bind→j6,run_pure→K0
open Pure renaming pure→B
open Go.Instr renaming findNow→R,sliceBounds→N,sliceBound→l,checkKey→q,findKey→v
open Go.Builtin renaming zeroCells→Z0,len_→K1,nextslicecap→d,firstCells→K5,growBy→a
open Go.Value renaming int→Z2
open Go.Op renaming equalIn→Z3,eqFields→J2,bytesLess→h
open BitVec renaming ofInt→c
open Go.Conv renaming runesFrom→E
open Go.Deferred renaming ofValue→K2
open List renaming replicate→K7,range→f
open Go.World renaming cell?→p,setCells→i,setCell→t
open Go.Utf8 renaming decode→b
namespace Go.Ev
open Bool renaming false→eF, true→eT
open Option renaming none→U, some→J
open List renaming length→z
open Go.IntKind renaming i64→r
abbrev LU:=T UInt8
def a00:=@List.getElem?_eq_some_iff.{0}
def a01:=@List.getElem?_eq_getElem.{0}
def a02:=@Bool.and_eq_true
def a03:=@List.length_append.{0}
theorem a04:type_of%@Option.bind_eq_some_iff.{0,0}:=@Option.bind_eq_some_iff.{0,0}
def a05:=@List.cons_append.{0}
def a06:=@List.mem_of_getElem?.{0}
def a07:=@Option.some.injEq.{0}
def a08:=@List.all_cons.{0}
def a09:=@Nat.le_refl
def a88:=@List.nil_append.{0}
def a90:=@Int.toNat_natCast
def a94:=@List.length_cons.{0}
theorem a95:type_of%@Nat.eq_of_beq_eq_true:=@Nat.eq_of_beq_eq_true
def a96:=@List.length_nil.{0}
def a97:=@Nat.zero_le
def a98:=@List.take_of_length_le.{0}
theorem a99:type_of%@List.length_set.{0}:=@List.length_set.{0}
def aB0:=@List.all_eq_true.{0}
def aB1:=@Int.cast_ofNat_Int
def aB2:=@List.append_assoc.{0}
def aB3:=@List.append_nil.{0}
def aB4:=@Option.bind_eq_bind.{0}
theorem aB5:type_of%@Option.map_eq_some_iff.{0,0}:=@Option.map_eq_some_iff.{0,0}
theorem aB6:type_of%@List.drop_eq_getElem_cons.{0}:=@List.drop_eq_getElem_cons.{0}
def aB7:=@List.eq_nil_of_length_eq_zero.{0}
def aB8:=@List.drop_zero.{0}
def aB9:=@List.getElem?_eq_none.{0}
def aC0:=@List.drop_eq_nil_of_le.{0}
def aC1:=@List.getElem?_append_left.{0}
def aC2:=@Prod.mk.injEq.{0,0}
def aC3:=@Option.pure_def.{0}
def aC4:=@Nat.zero_add
def aC5:=@Option.map_some.{0,0}
def aC6:=@List.all_nil.{0}
def aC7:=@List.mem_singleton.{0}
def aC8:=@List.mem_cons.{0}
def aC9:=@List.map_cons.{0,0}
def aD0:=@Bool.and_self
def aD1:=@Array.getElem?_eq_getElem.{0}
def aD2:=@Nat.mul_one
def aD3:=@Nat.le_of_ble_eq_true
def aD4:=@List.getD_eq_getElem?_getD.{0}
def aD5:=@List.getElem_mem.{0}
def aD6:=@List.ext_getElem?.{0}
def aD7:=@List.length_take.{0}
def aD8:=@List.length_map.{0,0}
def aD9:=@Bool.not_false
def aE0:=@Bool.true_and
def aE1:=@Bool.and_true
def aE2:=@List.getElem?_set_ne.{0}
def aE3:=@List.getElem?_take.{0}
def aE4:=@List.mem_append.{0}
theorem aE5:type_of%@Option.isSome_iff_exists.{0}:=@Option.isSome_iff_exists.{0}
def aE6:=@Bool.not_true
def aE7:=@Bool.or_eq_true
def aE8:=@List.mem_map.{0,0}
def aE9:=@List.forall_mem_cons.{0}
def aF0:=@List.flatMap_cons.{0,0}
def aF1:=@List.getElem?_cons_succ.{0}
def aF2:=@Nat.le_trans
def aF3:=@Bool.false_eq_true
def aF4:=@List.getElem?_append.{0}
def aF5:=@List.set_set.{0}
def aF6:=@List.flatten_cons.{0}
def aF7:=@List.getElem?_map.{0,0}
def aF8:=@List.take_append_of_le_length.{0}
def aF9:=@Option.some.inj.{0}
def aG0:=@List.take_succ_eq_append_getElem.{0}
def aG1:=@List.mem_append_left.{0}
def aG2:=@Nat.lt_of_lt_of_le
def aG3:=@Array.getElem?_eq_some_iff.{0}
def aG4:=@Nat.mul_le_mul_right
def aG5:=@Nat.ble_eq_true_of_le
def aG6:=@List.mem_range
def aG7:=@Int.fdiv_eq_ediv_of_nonneg
def aG8:=@Array.ext'.{0}
def aG9:=@Option.getD_some.{0}
def aH0:=@List.getElem?_set_self.{0}
def aH1:=@List.mem_append_right.{0}
def aH2:=@Int.toNat_zero
def aH3:=@List.length_singleton.{0}
def aH4:=@List.set_cons_zero.{0}
def aH5:=@Bool.or_eq_false_iff
def aH6:=@List.mem_flatMap.{0,0}
def aH7:=@List.set_append_left.{0}
def aH8:=@List.getElem?_append_right.{0}
def aH9:=@Bool.or_true
def aI0:=@Array.getElem?_eq_none.{0}
def aI1:=@List.take_succ_cons.{0}
def aI2:=@Classical.byContradiction
def aI3:=@List.head?_drop.{0}
def aI4:=@List.mem_of_find?_eq_some.{0}
def aI5:=@List.not_mem_nil.{0}
def aI6:=@List.set_cons_succ.{0}
def aI7:=@Int.le_refl
def aI8:=@Nat.add_assoc
def aI9:=@List.mem_cons_of_mem.{0}
def aJ0:=@Bool.false_and
def aJ1:=@List.getElem?_cons_zero.{0}
def aJ2:type_of%@Bool.not_eq_true':= @Bool.not_eq_true'
def aJ3:=@Nat.min_eq_left
def aJ4:=@List.drop_succ_cons.{0}
def aJ5:=@Nat.add_mul
def aJ6:=@Bool.true_or
def aJ7:=@List.any_eq_true.{0}
def aJ8:=@Nat.le_add_right
def aJ9:=@Array.getElem?_modify.{0}
def aK1:=@List.drop_drop.{0}
def aK2:=@List.all_append.{0}
def aK3:=@List.head?_cons.{0}
def aK4:=@List.length_eq_zero_iff.{0}
def aK5:=@Array.length_toList.{0}
def aK6:=@Nat.lt_succ_self
def aK7:=@List.flatMap_nil.{0,0}
def aK8:=@List.take_length.{0}
def aK9:=@List.drop_of_length_le.{0}
def aL0:=@Nat.lt_or_ge
def aL1:=@Nat.add_zero
def aL2:=@List.find?_some.{0}
def aL3:=@Bool.eq_iff_iff
def aL4:=@Int.tmod_eq_emod_of_nonneg
def aL5:=@List.mem_iff_getElem.{0}
theorem aL6:type_of%@Nat.beq_refl:=@Nat.beq_refl
def aL7:=@List.length_drop.{0}
def aL8:=@UInt8.toNat_inj
def aL9:=@Nat.not_lt_zero
def aM0:=@Nat.le_succ
def aM1:=@Nat.add_comm
inductive AV where
 |cW (b:Bool)|cQ (k:IntKind) (n:Int)|cU (s:List UInt8)|ep|da (o off:Nat)|ec (l:List AV)|cY|fS|sl (n:Nat) (l:List AV)|eB (n:Nat) (l:List AV)|dj (o off n sz:Nat)|dz (m:Nat)|eE|dv (fn:Fn) (first captured:List AV)|eo|dx (t:TypeId) (v:AV)|eb|cX (l:List AV)|de (l:List AV)
 deriving Inhabited
abbrev LA:=T AV
def AV.dT:AV:=.de []
def AV.cP:AV->LA|.cX l=>l|v=>[v]
def AV.Q:AV->V|.cX _|.de _=>eF|_=>eT
structure Fz where
 b:Bool
 t:Option (TypeId×Bool)
 deriving Inhabited
abbrev FZ:Fz:=⟨eF,U⟩
inductive AO where
 |cP (l:LA) (fz:Fz)|dz (es:List (AV×AV))|em
 deriving Inhabited
abbrev St:=T AO
abbrev Env:=LA
inductive XA where
 |t (n:Nat)|c (v:AV)|g (n:Nat)
 deriving Inhabited
inductive XI where
 |mv (x:XA)|fe (c a b:XA)|eM (z:LA) (ty:Option (TypeId×Bool))|jp (x:XA)|hZ (z:LA) (parts:List (Nat×Nat×XA))|gL (z:LA) (n sz:Nat) (parts:List (Nat×Nat×XA))|iv (agg:Bool) (sz:Nat) (x:XA)|fR (sz:Nat) (a x:XA)|iP (x:XA)|e9 (op:BinOp) (ek:Nat) (cst:Bool) (x y:XA)|un (op:UnOp) (x:XA)|jc (k:IntKind) (x:XA)|ma (x:XA)|mz (x:XA)|k9 (x:XA)|mL (x:XA)|mN (x:XA)|gT (t:TypeId) (x:XA)|it (fn:Fn) (first captured:List XA)|iA|gj (z:LA) (sz bytes:Nat) (len cap:XA)|gH (x:XA) (lo hi:Option XA)|ii (sz:Nat) (x:XA) (lo hi mx:Option XA)|gF (len sz:Nat) (x:XA) (lo hi mx:Option XA)|ga (off:Nat) (x:XA)|iX (agg:Bool) (off sz:Nat) (x:XA)|gb (len sz:Nat) (x i:XA)|ey (sz:Nat) (x i:XA)|io (len:Nat) (agg:Bool) (sz:Nat) (x i:XA)|ft (x i:XA)|hG (z:AV) (m k:XA) (ok:Bool)|hQ (m k v:XA)|ip (z:AV) (m k:XA)|g9 (m s v:XA)|ib (x:XA) (i:Nat)|eD (str:Bool) (sz bytes:Nat) (ty:Option (TypeId×Bool)) (s x:XA)|dt (k:Nat) (x:XA)|jd (n:Nat)|ld (sz:Nat) (d s:XA)|ir (mx:Bool) (x y:XA)|gR (f:FuncId) (args:List XA)|iz (f:XA) (args:List XA)|hD (x:XA) (m:String) (args:List XA)|gP|gD (k d sz:Nat) (x:XA)|eC
 deriving Inhabited
structure XOp where
 ba:Option Nat
 i:XI
 bm:Option (Nat×Bool)
 bo:List Nat:=[]
 deriving Inhabited
inductive XC where
 |eI|fu (l:List XOp)|eO (l:List XOp)|eA (a b:XC)|eJ (c:XA) (a b:XC)|eG (id:Nat) (b:XC)|fL (b:XC)|dq (id:Nat)|ea|fg (b:XC)|eC
 deriving Inhabited
inductive XR where
 |fT (t:Nat)|eN (t:Nat) (agg:Bool) (sz:Nat)
 deriving Inhabited
structure XF where
 hd:Nat
 W:Nat
 an:List XR
 ap:XC
 deriving Inhabited
def toList{b:Type}(a:j7 b):T b:=a.toList
mutual
def iR:W->X AV|.bool b=>J (.cW b)|.int k n=>J (.cQ k n)|.string s=>J (.cU s.data.toList)|.pointer U=>J .ep|.slice U 0 0=>J .cY|.map U=>J .eE|.func (.func f) ⟨[]⟩ ⟨[]⟩=>J (.dv (.func f) [] [])|.nilFunc=>J .eo|.nilIface=>J .eb|.agg ⟨l⟩=>(Qo l).map .cX|.tuple ⟨[]⟩=>J (.de [])|_=>U
def Qo:T W->X LA|[]=>J []|v::l=>match iR v,Qo l with|J a,J b=>J (a::b)|_,_=>U
end
def cA:j9->X XA|.tmp t=>J (.t t)|.const v=>(iR v).map .c|.global g=>J (.g g)|.func f=>J (.c (.dv (.func f) [] []))
def cAs:T j9->X (T XA)|[]=>J []|x::l=>match cA x,cAs l with|J a,J b=>J (a::b)|_,_=>U
def Fh:n->V|.struct _|.array ..=>eT|_=>eF
def We:X j9->X (X XA)|U=>J U|J x=>(cA x).map J
def JP(P:D)(t:j0):X AV:=do iR (<-(<-P.info? t).zero)
def UM(place:Y->X (Y×Y)):T (Y×j9)->X (T (Y×Y×XA))|[]=>J []|(i,x)::l=>match place i,cA x,UM place l with|J (off,c),J a,J b=>J ((off,c,a)::b)|_,_,_=>U
def aeg(P:D):Y->T Field->X Y|_,[]=>J 0|i,f::fs=>if f.name != "_"&&f.offset==i then(match P.underlying f.type,aeg P (i+1) fs with|J .string,J c=>J (3*c)|J .bool,J c=>J (3*c+1)|J (.int _),J c=>J (3*c+2)|_,_=>U)else U
def LC(P:D)(t:j0):Y:=
 match P.underlying t with
 |J .bool=>1|J (.struct fs)=>match aeg P 0 fs.toList with|J c=>if !P.stoodInHeld t&& !P.eqGuardType P.depth t&&fs.size<1024 then fs.size+1024*c+8 else 0|U=>0
 |J (.pointer e)=>match P.info? e with|J i=>if i.size=0 then 2 else 3|U=>2
 |J (.func ..)=>4|J (.interface _)=>5|J (.map ..)=>6|J (.slice _)=>7|_=>0
def isC:j9->V|.const _=>eT|_=>eF
def ad4(P:D)(e:j0)(x:V):X (j0×V):=
 match P.info? e with
 |J i=>match i.desc with|.int .u8=>J (e,x)|.named n _=>if n== "strings.Builder" then J (e,x)else U|_=>U
 |U=>U
def cI(P:D)(o:H):X XI:=
 match o.op with
 |.move x|.assign x=>do B (.mv (<-cA x))
 |.pick c a b=>do B (.fe (<-cA c) (<-cA a) (<-cA b))
 |.alloc e=>do B (.eM (<-JP P e).cP (ad4 P e eT))
 |.box _ x=>do B (.jp (<-cA x))
 |.build t p=>do
  let z<-JP P t
  match<-P.underlying t with
  |.struct fs=>if !(fs.toList.all λf=>(P.info? f.type).isSome)then U else B (.hZ z.cP (<-UM (λi=>do let f<-fs[i]?;B (f.offset,(<-P.info? f.type).size)) p.toList))
  |.array _ e=>do
   let h:=(<-P.info? e).size
   B (.hZ z.cP (<-UM (λi=>J (i*h,h)) p.toList))
  |_=>U
 |.buildSlice t n p=>do
  let .slice e<-P.underlying t|U
  let h:=(<-P.info? e).size
  if n*h>16777216 then U else do
  let z<-JP P e
  if z.cP.length=h then B (.gL z.cP n h (<-UM (λi=>J (i*h,h)) p.toList))else U
 |.load t x=>do
  let u<-P.underlying t
  B (.iv (Fh u) (<-P.info? t).size (<-cA x))
 |.store t a x=>do B (.fR (<-P.info? t).size (<-cA a) (<-cA x))
 |.nilCheck x=>do B (.iP (<-cA x))
 |.binOp op t x y _=>do
  B (.e9 op (LC P t) (isC x||isC y) (<-cA x) (<-cA y))
 |.unOp op _ x=>do B (.un op (<-cA x))
 |.convert s d x=>do
  match<-P.underlying s,<-P.underlying d with
  |.int _,.int k=>B (.jc k (<-cA x))|.string,.string=>B (.ma (<-cA x))|.int _,.string=>B (.mz (<-cA x))|.slice e,.string=>match<-P.underlying e with|.int .u8=>B (.k9 (<-cA x))|_=>U
  |.string,.slice e=>match<-P.underlying e with|.int .u8=>B (.mL (<-cA x))|.int .i32=>B (.mN (<-cA x))|_=>U
  |_,_=>U
 |.makeInterface t x=>do
  match<-P.underlying t with
  |.interface _=>U|_=>B (.gT t (<-cA x))
 |.makeFunc fn first g=>do B (.it fn (<-cAs first.toList) (<-cAs g.toList))
 |.makeMap _ U=>J .iA
 |.makeSlice t l c=>do
  let .slice e<-P.underlying t|U
  let i<-P.info? e
  let z<-JP P e
  if z.cP.length=i.size then B (.gj z.cP i.size i.bytes (<-cA l) (<-cA c))else U
 |.slice t x lo hi j=>do
  match<-P.underlying t with
  |.string=>match j with|U=>B (.gH (<-cA x) (<-We lo) (<-We hi))|J _=>U
  |.slice e=>B (.ii (<-P.info? e).size (<-cA x) (<-We lo) (<-We hi) (<-We j))|.array n e=>B (.gF n (<-P.info? e).size (<-cA x) (<-We lo) (<-We hi) (<-We j))|.pointer a=>match<-P.underlying a with|.array n e=>B (.gF n (<-P.info? e).size (<-cA x) (<-We lo) (<-We hi) (<-We j))|_=>U
  |_=>U
 |.fieldAddr t x i=>do
  let .struct fs<-P.underlying t|U
  let f<-fs[i]?
  if(<-P.info? f.type).size=0 then U else B (.ga f.offset (<-cA x))
 |.field t x i=>do
  let .struct fs<-P.underlying t|U
  let f<-fs[i]?
  B (.iX (Fh (<-P.underlying f.type)) f.offset (<-P.info? f.type).size (<-cA x))
 |.indexAddr t x i=>do
  match<-P.underlying t with
  |.array n e=>B (.gb n (<-P.info? e).size (<-cA x) (<-cA i))|.slice e=>B (.ey (<-P.info? e).size (<-cA x) (<-cA i))|_=>U
 |.index t x i=>do
  match<-P.underlying t with
  |.array n e=>B (.io n (Fh (<-P.underlying e)) (<-P.info? e).size (<-cA x) (<-cA i))|.string=>B (.ft (<-cA x) (<-cA i))|_=>U
 |.lookup t m k ok=>do
  let .map q e<-P.underlying t|U
  match<-P.underlying q with
  |.string=>B (.hG (<-JP P e) (<-cA m) (<-cA k) ok)|_=>U
 |.mapUpdate t m k v|.insert t m k v=>do
  let .map q _<-P.underlying t|U
  match<-P.underlying q with
  |.string=>B (.hQ (<-cA m) (<-cA k) (<-cA v))|_=>U
 |.extract x i=>do B (.ib (<-cA x) i)
 |.call c=>
  match c.callee with
  |.value (.func f)=>do B (.gR f (<-cAs c.args.toList))
  |.value f=>do B (.iz (<-cA f) (<-cAs c.args.toList))
  |.invoke N m=>do B (.hD (<-cA N) m (<-cAs c.args.toList))
  |.builtin .append=>do
   match c.argTypes.toList,c.args.toList with
   |[t,u],[s,x]=>do
    let .slice e<-P.underlying t|U
    let z<-JP P e
    match<-P.underlying u with
    |.string=>if z.cP.length=(<-P.info? e).size/\(<-P.info? e).bytes<=1048576 then B (.eD eT (<-P.info? e).size (<-P.info? e).bytes (ad4 P e eF) (<-cA s) (<-cA x))else U|.slice _=>if z.cP.length=(<-P.info? e).size/\(<-P.info? e).bytes<=1048576 then B (.eD eF (<-P.info? e).size (<-P.info? e).bytes (ad4 P e eF) (<-cA s) (<-cA x))else U|_=>U
   |_,_=>U
  |.builtin .len=>do
   match c.argTypes.toList,c.args.toList with
   |t::_,x::_=>do
    match<-P.underlying t with
    |.array n _=>B (.jd n)|.pointer a=>match<-P.underlying a with|.array n _=>B (.jd n)|_=>U
    |.string=>B (.dt 0 (<-cA x))|.slice _=>B (.dt 1 (<-cA x))|.map _ _=>B (.dt 2 (<-cA x))|_=>U
   |_,_=>U
  |.builtin .copy=>do
   match c.argTypes.toList,c.args.toList with
   |t::_,[d,s]=>do
    let .slice e<-P.underlying t|U
    B (.ld (<-P.info? e).size (<-cA d) (<-cA s))
   |_,_=>U
  |.builtin .min=>match c.args.toList with
   |[x,y]=>do B (.ir eF (<-cA x) (<-cA y))
   |_=>U
  |.builtin .max=>match c.args.toList with
   |[x,y]=>do B (.ir eT (<-cA x) (<-cA y))
   |_=>U
  |_=>U
 |_=>U
def XA.aE:XA->T Y|.t n=>[n]|_=>[]
def Ae:T XA->T Y|[]=>[]|x::l=>x.aE++Ae l
def Vf:X XA->T Y|U=>[]|J x=>x.aE
def Qz:T (Y×Y×XA)->T Y|[]=>[]|(_,_,x)::l=>x.aE++Qz l
def XI.aE:XI->T Y|.mv x|.jp x|.iv _ _ x|.iP x|.un _ x|.jc _ x|.ma x|.mz x|.k9 x|.mL x|.mN x|.gT _ x|.ga _ x|.iX _ _ _ x|.ib x _|.dt _ x|.gD _ _ _ x=>x.aE|.fe a b c|.hQ a b c|.g9 a b c=>a.aE++b.aE++c.aE|.hZ _ d|.gL _ _ _ d=>Qz d|.fR _ a b|.e9 _ _ _ a b|.gj _ _ _ a b|.gb _ _ a b|.ey _ a b|.io _ _ _ a b|.ft a b|.hG _ a b _|.ip _ a b|.eD _ _ _ _ a b|.ld _ a b|.ir _ a b=>a.aE++b.aE|.it _ x y=>Ae x++Ae y|.gH x a b=>x.aE++Vf a++Vf b|.ii _ x a b c|.gF _ _ x a b c=>x.aE++Vf a++Vf b++Vf c|.gR _ l=>Ae l|.iz f l|.hD f _ l=>f.aE++Ae l|.eM _ _|.iA|.jd _|.gP|.eC=>[]
def XOp.aE(o:XOp):T Y:=
 o.i.aE++(match o.bm with|J (t,_)=>[t]|U=>[])
def DU:LA->V|[.cU _,.cQ _ _,.eo]=>eT|_=>eF
def XI.aD:XI->V|.gL z _ _ _=>DU z|.eM _ _|.jp _|.fR .. |.iA|.gj .. |.hQ .. |.ip .. |.g9 .. |.eD .. |.ld .. |.gR .. |.iz .. |.hD .. |.gD ..=>eT|_=>eF
def XI.eq:XI->V|.iv .. |.k9 _|.hG .. |.dt .. |.gF ..=>eT|_=>eF
def anz:T (T Y)->T H->X (T (T Y))
 |acc,[]=>J acc
 |acc,o::l=>
  let a:=(o.after.toList.filter (Region.binds .any)).map (·.on)
  if a.all (· <z acc)then anz (acc++[(a++a.flatMap λj=>acc.getD j []).eraseDups]) l else U
def clash(x y:XOp):V:=
 (match x.ba with|J d=>y.aE.contains d||y.ba==J d|U=>eF)||
 (match y.ba with|J d=>x.aE.contains d|U=>eF)
def akR(a:T (T Y))(l:T XOp)(i j:Y):V:=
 match l[i]?,l[j]? with
 |J x,J y=>
  (!(clash x y||(x.i.aD&&y.i.aD))||(a.getD j []).contains i)
 |_,_=>eF
def akf(a:T (T Y))(l:T XOp)(j:Y):V:=
 match l[j]? with
 |J {i:=.gD k _ _ _,.. }=>(a.getD j []).contains k|_=>eT
def Ky(a:T (T Y))(l:T XOp):V:=
 (f (z l)).all λj=>akf a l j&&(f j).all λi=>akR a l i j
def aay(a:T (T Y))(l:T XOp)(i:Y):T Y:=
 (f (z l)).filter λc=>(match l[c]? with|J x=>x.i.aD|U=>eF)&&c !=i&& !(a.getD i []).contains c&& !(a.getD c []).contains i
def uA(a:T (T Y))(l:T XOp):T XOp:=
 l.zipIdx.map λ(o,i)=>if o.i.eq then{o with bo:=aay a l i}else o
def Lu(ops:j7 H)(o:H):X (X (Y×V)):=
 match o.guard with
 |U=>J U|J (j,a)=>match(ops[j]?).bind (·.dst)with|J d=>J (J (d,a))|U=>U
def QX(o:H):X (Y×j0):=
 match o.dst,o.op,o.guard with
 |J d,.alloc e,U=>J (d,e)|_,_,_=>U
def Tf(o:H):X (j0×Y×j9):=
 match o.dst,o.op,o.guard with
 |U,.store t (.tmp d) x,U=>J (t,d,x)|_,_,_=>U
def amy(d:Y):j9->V|.tmp t=>t==d|_=>eF
def aiv(ops:j7 H)(d j:Y):V:=
 match ops[j]? with
 |J o=>o.dst==J d||o.op.operands.toList.any (amy d)|U=>eF
def aeq(k:Y)(o:H):V:=
 match o.guard with
 |J (q,_)=>q !=k|U=>eT
def uN(ops:j7 H)(k:Y):X Y:=
 match(ops[k]?).bind QX with
 |J (d,e)=>
  if !(ops.toList.all (aeq k))then U else
  match(f ops.size).filter (λj=>j !=k&&aiv ops d j)with
  |[j]=>match(ops[j]?).bind Tf with|J (t,a,x)=>if k<j&&a==d&&t==e&& !(amy d x)then J j else U|U=>U
  |_=>U
 |U=>U
def cOp(P:D)(b:V)(ops:j7 H)(i:Y)(o:H):X XOp:=do
 let guard<-Lu ops o
 if b&&(uN ops i).isSome then(match o.op with
  |.alloc e=>match JP P e with|J _=>J {ba:=U,i:=.gP,bm:=guard}|U=>U
  |_=>U)else
 match(if b then(f i).find? (λk=>uN ops k==J i)else U)with
 |J k=>match(ops[k]?).bind QX,Tf o with
  |J (d,e),J (_,_,x)=>match JP P e,P.info? e,cA x with|J z,J inf,J a=>if z.cP.length=inf.size then J {ba:=J d,i:=.gD k d inf.size a,bm:=guard}else U|_,_,_=>U
  |_,_=>U
 |U=>J {ba:=o.dst,i:=(cI P o).getD .eC,bm:=guard}
def adp(P:D)(b:V)(ops:j7 H):Y->T H->X (T XOp)|_,[]=>J []|i,o::l=>match cOp P b ops i o,adp P b ops (i+1) l with|J a,J c=>J (a::c)|_,_=>U
def afS(P:D)(ops:j7 H):X (T XOp):=do
 let l<-adp P eT ops 0 ops.toList
 let a<-anz [] ops.toList
 if Ky a l then J (uA a l)else U
def zZ(l:Y):Y:=1000001+2*l
def NK(l:Y):Y:=1000000+2*l
def KP:Code->X Y|.goto l=>J l|.seq a b=>(KP a).or (KP b)|.cond _ a b=>(KP a).or (KP b)|.block _ b|.loop b=>KP b|_=>U
def BX(p:Y->V):Code->V|.goto l=>p l|.seq a b=>BX p a&&BX p b|.cond _ a b=>BX p a&&BX p b|.block _ b|.loop b|.scope b=>BX p b|.rangeFunc ..=>eF|_=>eT
mutual
def cC(P:D):Code->XC
 |.skip=>.eI|.label _=>.eI|.region _ ops d=>match(if d then afS P ops else adp P eF ops 0 ops.toList)with|J l=>if d then .eO l else .fu l|U=>.eC
 |.seq a b=>.eA (cC P a) (cC P b)|.cond c a b=>match cA c with|J c=>.eJ c (cC P a) (cC P b)|U=>.eC
 |.block id b=>if id<1000000 then .eG id (cC P b)else .eC|.loop b=>.fL (cC P b)|.scope b=>match KP b with|U=>if BX (λ_=>eF) b then .fg (cC P b)else .eC|J l=>match BX (· ==l) b,cL P b l with|eT,J c=>.eG (NK l) (.eA (.eG (zZ l) (.eA (cC P b) (.dq (NK l)))) (.fL (.eG (zZ l) (.eA c (.dq (NK l))))))|_,_=>.eC
 |.exit id=>if id<1000000 then .dq id else .eC|.goto l=>.dq (zZ l)|.ret=>.ea|_=>.eC
def cL(P:D):Code->Y->X XC
 |.seq a b,l=>match cL P a l with|J d=>J (.eA d (cC P b))|U=>cL P b l
 |.label c,l=>if c==l then J .eI else U|_,_=>U
end
def cR(P:D):T ResultVar->X (T XR)|[]=>J []|.tmp t::l=>(cR P l).map (.fT t:: ·)|.cell t a::l=>do B (.eN t (Fh (<-P.underlying a)) (<-P.info? a).size::(<-cR P l))
def cF(P:D)(f:x):X XF:=do
 let fn<-P.funcs[f]?
 let b<-fn.body
 B {hd:=fn.params.size+fn.nfree,W:=fn.ntmps,an:=<-cR P fn.results.toList,ap:=cC P b}
structure Ctx where
 P:Program
 np:Bool:=false
 gl:Nat->Option LA
 eL:FuncId->Bool
 fs:FuncId->Option XF
 eV:FuncId->Option (LA->St->Option (AV×St))
def av(C:Ctx)(e:Env):XA->AV|.t n=>e.getD n .dT|.c v=>v|.g n=>.ec ((C.gl n).getD [])
def vW(op:I)(k:j)(a b:Int):X AV:=
 match op with
 |.add=>J (.cQ k (k.wrap (a+b)))|.sub=>J (.cQ k (k.wrap (a-b)))|.mul=>J (.cQ k (k.wrap (a*b)))|.quo=>if b=0 then U else J (.cQ k (k.wrap (a.tdiv b)))|.rem=>if b=0 then U else J (.cQ k (a.tmod b))|.and=>J (.cQ k (k.wrap (c k.bits a&&&c k.bits b).toNat))|.or=>J (.cQ k (k.wrap (c k.bits a|||c k.bits b).toNat))|.xor=>J (.cQ k (k.wrap (c k.bits a^^^c k.bits b).toNat))|.andNot=>J (.cQ k (k.wrap (c k.bits a&&& ~~~(c k.bits b)).toNat))|.eql=>J (.cW (a==b))|.neq=>J (.cW (a !=b))|.lss=>J (.cW (a<b))|.leq=>J (.cW (a<=b))|.gtr=>J (.cW (a>b))|.geq=>J (.cW (a>=b))|_=>U
def Ez(op:I)(k:j)(a b:Int):X AV:=
 if b<0 then U else
 let n:=min b.toNat k.bits
 match op with
 |.shl=>J (.cQ k (k.wrap (a*2^n)))|.shr=>J (.cQ k (a.fdiv (2^n)))|_=>U
def oU:LU->LU->V|[],[]=>eT|a::x,b::y=>a==b&&oU x y|_,_=>eF
def uJ(op:I)(x y:LU):X AV:=
 match op with
 |.add=>if((z x+z y:Y):Int)>9223372036854775807 then U else J (.cU (x++y))|.eql=>J (.cW (oU x y))|.neq=>J (.cW !(oU x y))|.lss=>J (.cW (h x y))|.leq=>J (.cW (h x y||oU x y))|.gtr=>J (.cW !(h x y||oU x y))|.geq=>J (.cW !(h x y))|_=>U
def ny:Y->LA->LA->X V|_,[],[]=>J eT|c,.cU a::x,.cU b::y=>if c%3=0 then(ny (c/3) x y).map (oU a b&& ·)else U|c,.cW a::x,.cW b::y=>if c%3=1 then(ny (c/3) x y).map ((a==b)&& ·)else U|c,.cQ k a::x,.cQ d b::y=>if c%3=2/\k=d then(ny (c/3) x y).map ((a==b)&& ·)else U|_,_,_=>U
mutual
def diff:AV->AV->V|.cW a,.cW b=>a !=b|.cQ k a,.cQ d b=>!(k==d&&a==b)|.cU a,.cU b=>!oU a b|.sl n l,.sl m c=>n !=m||yM l c|.sl n _,.cY=>n !=0|.cY,.sl n _=>n !=0|.cX l,.cX c=>yM l c|_,_=>eF
def yM:LA->LA->V|a::l,b::m=>diff a b||yM l m|_,_=>eF
end
def isByte:AV->V|.cQ .u8 _=>eT|_=>eF
def QP(l:LA):V:=l.any λa=>!isByte a
def dW(b:Y)(a:V)(x y:AV):X V:=
 match b with
 |3=>match x,y with|.ep,.ep=>J eT|.ep,.da .. |.ep,.ec _|.da ..,.ep|.ec _,.ep=>J eF|.ec l,.ec m=>if yM l m&&(QP l&&QP m)then J eF else U|_,_=>U
 |4=>match x,y with|.eo,.eo=>J eT|.eo,.dv .. |.dv ..,.eo=>J eF|_,_=>U
 |5=>match x,y with|.eb,.eb=>if a then J eT else U|.eb,.dx .. |.dx ..,.eb=>J eF|_,_=>U
 |6=>match x,y with|.eE,.eE=>J eT|.eE,.dz _|.dz _,.eE=>J eF|_,_=>U
 |7=>match x,y with|.cY,.cY=>J eT|.fS,.cY|.dj ..,.cY|.eB ..,.cY=>J eF|.sl n _,.cY=>if 0<n then J eF else U|_,_=>U
 |_=>U
def eqA(d:Y)(c:V)(x y:AV):X V:=
 match d with
 |1=>match x,y with|.cW a,.cW b=>J (a==b)|_,_=>U
 |n+8=>match x,y with|.cX a,.cX b=>if z a=n%1024 then ny (n/1024) a b else U|_,_=>U
 |_=>dW d c x y
def zQ(op:I)(d:X V):X AV:=
 match op with
 |.eql=>d.map .cW|.neq=>d.map λd=>.cW !d|_=>U
def binOp(op:I)(d:Y)(c:V)(x y:AV):X AV:=
 match x,y with
 |.cQ k a,.cQ e b=>match op with|.shl|.shr=>Ez op k a b|_=>if k=e then vW op k a b else U
 |.cU a,.cU b=>uJ op a b|x,y=>zQ op (eqA d c x y)
def headB:LA->V|.cQ .u8 _::.cQ r _::_=>eT|_=>eF
def akW(x y:AV):V:=match x,y with|.ec l,.ec m=>!(headB l&&headB m)|_,_=>eF
def CG(np:V)(op:I)(b:Y)(a:V)(x y:AV):X AV:=match np with|eF=>binOp op b a x y|eT=>match akW x y with|eT=>U|eF=>binOp op b a x y
def unOp(op:UnOp)(x:AV):X AV:=
 match op,x with
 |.neg,.cQ k n=>J (.cQ k (k.wrap (0-n)))|.xor,.cQ k n=>vW .xor k (if k.signed then-1 else k.max) n|.not,.cW b=>J (.cW !b)|_,_=>U
def splice(l:LA)(off:Y)(v:LA):LA:=l.take off++v++l.drop (off+z v)
def EN:LA->T (Y×Y×AV)->X LA
 |l,[]=>J l
 |l,(off,b,v)::a=>
  if z v.cP=b/\off+b<=z l then EN (splice l off v.cP) a else U
def rep(z:LA):Y->LA|0=>[]|n+1=>z++rep z n
def uq:AV->X Y|.cQ _ n=>if 0<=n then J n.toNat else U|_=>U
def jI(d:Y):X AV->X Y|U=>J d|J v=>uq v
def pt(agg:V)(sz:Y)(l:LA):X AV:=
 if agg then(if sz<=z l then J (.cX (l.take sz))else U)else l.head?
def jU(O:St)(sz:Y):AV->X (Y×LA)
 |.cY=>J (0,[])|.fS=>J (0,[])|.sl n l=>if z l=n*sz then J (n,l)else U|.eB n l=>if z l=n*sz then J (n,l)else U|.dj o off n s=>match O[o]? with|J (.cP l _)=>if s=sz/\off+n*sz<=z l then J (n,(l.drop off).take (n*sz))else U|_=>U
 |_=>U
def afQ:AV->X UInt8|.cQ .u8 n=>J (UInt8.ofNat n.toNat)|_=>U
def bytesOf:LA->X LU|[]=>J []|v::l=>match afQ v,bytesOf l with|J b,J bs=>J (b::bs)|_,_=>U
def ofBytes(l:LU):LA:=l.map λb=>.cQ .u8 b.toNat
def runesL(s:X1):Y->Y->T Y|0,_=>[]|n+1,i=>if i<s.size then(b s i).1::runesL s n (i+(b s i).2)else[]
def runesOf(s:LU):T Y:=runesL ⟨⟨s⟩⟩ (z s) 0
def zF(l:T Y):LA:=l.map λn=>.cQ .i32 (Int.ofNat n)
def lJ(O:St)(sz:Y)(a:AV):X (Y×LA):=
 match a with
 |.cU s=>if sz=1 then J (z s,ofBytes s)else U|v=>jU O sz v
def isStr:AV->V|.cU _=>eT|_=>eF
def ac5:AV->AV->X V|.cU a,.cU b=>J (oU a b)|_,_=>U
def oM(k:AV):T (AV×AV)->Y->X (X (Y×AV))|[],_=>J U|(b,v)::a,i=>match ac5 k b with|J eT=>J (J (i,v))|J eF=>oM k a (i+1)|U=>U
def uD(O:St)(sz bytes:Y)(a:X (j0×V))(s:AV)(m:Y)(cs:LA):X (AV×St):=
 if m=0 then(match s with|.cY|.fS|.sl .. |.eB .. |.dj ..=>J (s,O)|_=>U)else
 match s with
 |.cY=>if m*bytes<=70368744177664/\m<=70368744177664 then J (.dj (z O) 0 m sz,O++[.cP cs ⟨eF,a⟩])else U|.eB n l=>if z l=n*sz/\(n+m)*bytes<=70368744177664/\n+m<=70368744177664 then J (.dj (z O) 0 (n+m) sz,O++[.cP (l++cs) ⟨eF,a⟩])else U
 |.dj o 0 n s=>match O[o]? with
  |J (.cP l b)=>
   if s=sz/\z l=n*sz/\(n+m)*bytes<=70368744177664/\n+m<=70368744177664 then
    J (.dj (z O) 0 (n+m) sz,O.set o .em++[.cP (l++cs) ⟨b.b,if b.t=a then a else U⟩])
   else if s=sz/\b.b=eF/\n*sz<=z l/\(n+m)*bytes<=70368744177664/\n+m<=70368744177664 then
    J (.dj (z O) 0 (n+m) sz,O.set o .em++[.cP (l.take (n*sz)++cs) ⟨eF,if b.t=a then a else U⟩])
   else U
  |_=>U
 |_=>U
def bC(O:St)(k:Y)(x:AV):X Y:=
 match k with
 |0=>match x with|.cU s=>J (z s)|_=>U
 |1=>match x with|.cY|.fS=>J 0|.sl n _|.eB n _|.dj _ _ n _=>J n|_=>U
 |_=>match x with
  |.eE=>J 0|.dz d=>match O[d]? with|J (.dz a)=>J (z a)|_=>U
  |_=>U
def mapOf(O:St):AV->X (T (AV×AV))
 |.eE=>J []|.dz d=>match O[d]? with|J (.dz a)=>J a|_=>U
 |_=>U
def Sz(c:V):AV->AV->X AV|.cQ k a,.cQ _ b=>J (.cQ k (if c then(if b>a then b else a)else(if b<a then b else a)))|_,_=>U
inductive Out where
 |ev (v:AV) (O:St)|fI (f:FuncId) (args:LA) (O:St)
def Es(o:V)(n sz:Y)(l:LA)(O:St):Out:=match o with
 |eT=>match n with|0=>.ev (.eB 0 l) O|m+1=>.ev (.dj (z O) 0 (m+1) sz) (O++[.cP l FZ])
 |eF=>.ev (.eB n l) O
def ajA(P:D)(t:j0)(ptr:V):V:=
 match P.underlying t with
 |J (.pointer _)=>ptr|J _=>!ptr|U=>eF
def methodOf(P:D)(t:j0)(v:AV)(name:K6):X (x×AV):=
 match P.info? t with
 |J i=>match i.methods.find? (·.name==name)with
  |J m=>if !m.path.isEmpty then U else match m.func with|J (f,p)=>if ajA P t p then J (f,v)else U|U=>U
  |U=>U
 |U=>U
def Ku(C:Ctx)(f:AV)(args:LA)(O:St):X Out:=
 match f with
 |.dv (.func f) first b=>J (.fI f (first++args++b) O)
 |.dv (.method name) first _=>match first++args with
  |.dx t v::a=>match methodOf C.P t v name with|J (f,d)=>J (.fI f (d::a) O)|U=>U
  |_=>U
 |.dv (.methodOf t name) first _=>match first++args with
  |v::a=>match C.P.underlying t with|J (.interface _)=>U|_=>match methodOf C.P t v name with|J (f,d)=>J (.fI f (d::a) O)|U=>U
  |_=>U
 |.dv (.via t path f ptr) first _=>match first++args with
  |v::a=>if !path.isEmpty then U else match ajA C.P t ptr with|eT=>J (.fI f (v::a) O)|eF=>U
  |_=>U
 |_=>U
def aF(C:Ctx)(a:XA->AV)(n0:Y)(O:St)(i:XI):X Out:=
 match i with
 |.mv x=>J (.ev (a x) O)|.fe c x y=>match a c with|.cW b=>J (.ev (if b then a x else a y) O)|_=>U
 |.eM z A=>J (.ev (.da O.length 0) (O++[.cP z ⟨eF,A⟩]))|.jp x=>J (.ev (.da O.length 0) (O++[.cP (a x).cP FZ]))|.hZ z w=>match EN z (w.map λ(o,s,x)=>(o,s,a x))with|J l=>J (.ev (.cX l) O)|U=>U
 |.gL z n e w=>match EN (rep z n) (w.map λ(o,s,x)=>(o,s,a x))with|J l=>if l.length=n*e then J (Es (DU z) n e l O)else U|U=>U
 |.iv ag e x=>match a x with
  |.ec l=>(pt ag e l).map (.ev · O)|.da o off=>match O[o]? with|J (.cP l _)=>(pt ag e (l.drop off)).map (.ev · O)|_=>U
  |_=>U
 |.fR e p x=>match a p with
  |.da o off=>match O[o]? with
   |J (.cP l ⟨eF,t⟩)=>
    let cs:=(a x).cP
    if cs.length=e/\off+e<=l.length/\cs.all AV.Q then J (.ev .dT (O.set o (.cP (splice l off cs) ⟨eF,t⟩)))else U
   |_=>U
  |_=>U
 |.iP x=>match a x with|.da o f=>J (.ev (.da o f) O)|.ec l=>J (.ev (.ec l) O)|.dx t v=>J (.ev (.dx t v) O)|.dv (.func f) x y=>J (.ev (.dv (.func f) x y) O)|_=>U
 |.e9 op D u x y=>(CG C.np op D u (a x) (a y)).map (.ev · O)|.un op x=>(unOp op (a x)).map (.ev · O)|.jc k x=>match a x with|.cQ _ n=>J (.ev (.cQ k (k.wrap n)) O)|_=>U
 |.ma x=>match a x with|.cU s=>J (.ev (.cU s) O)|_=>U
 |.mz x=>match a x with|.cQ _ n=>J (.ev (.cU (Utf8.encode n).data.toList) O)|_=>U
 |.k9 x=>match jU O 1 (a x)with|J (_,l)=>(bytesOf l).map λs=>.ev (.cU s) O|U=>U
 |.mL x=>match a x with|.cU s=>J (.ev (.sl s.length (ofBytes s)) O)|_=>U
 |.mN x=>match a x with|.cU s=>if s.length<=70368744177664 then J (.ev (.sl (runesOf s).length (zF (runesOf s))) O)else U|_=>U
 |.gT t x=>J (.ev (.dx t (a x)) O)|.it fn first g=>J (.ev (.dv fn (first.map a) (g.map a)) O)
 |.iA=>J (.ev (.dz O.length) (O++[.dz []]))
 |.gj z e bytes l c=>match a l,a c with
  |.cQ _ l,.cQ _ c=>
   if 0<=l/\l<=c/\c<=9223372036854775807/\bytes*c<=140737488355328 then
    J (.ev (.dj O.length 0 l.toNat e) (O++[.cP (rep z l.toNat) FZ]))
   else U
  |_,_=>U
 |.gH x lo hi=>match a x with
  |.cU s=>match jI 0 (lo.map a),jI s.length (hi.map a)with|J l,J h=>if l<=h/\h<=s.length then J (.ev (.cU ((s.take h).drop l)) O)else U|_,_=>U
  |_=>U
 |.ii e x lo hi q=>
  match a x with
  |.cY=>match jI 0 (lo.map a),jI 0 (hi.map a),q with|J 0,J 0,U=>J (.ev .cY O)|_,_,_=>U
  |.eB n l=>match jI 0 (lo.map a),jI n (hi.map a),q with
   |J lo,J hi,U=>
    if lo<=hi/\hi<=n/\l.length=n*e then J (.ev (.sl (hi-lo) ((l.take (hi*e)).drop (lo*e))) O)else U
   |_,_,_=>U
  |.sl n l=>match jI 0 (lo.map a),jI n (hi.map a),q with
   |J lo,J hi,U=>
    if lo<=hi/\hi<=n/\l.length=n*e then
     J (.ev (.sl (hi-lo) ((l.take (hi*e)).drop (lo*e))) O)
    else U
   |_,_,_=>U
  |.dj o off n s=>match jI 0 (lo.map a),jI n (hi.map a),q with
   |J lo,J hi,U=>
    if lo<=hi/\hi<=n/\s=e then
     J (.ev (if lo=hi/\lo≠0 then .fS else .dj o (off+lo*e) (hi-lo) e) O)
    else U
   |_,_,_=>U
  |_=>U
 |.gF len e x lo hi q=>match a x with
  |.da o off=>match O[o]? with
   |J (.cP l _)=>match jI 0 (lo.map a),jI len (hi.map a),q with|J lo,J hi,U=>if lo<=hi/\hi<=len/\off+len*e<=l.length then J (.ev (if lo=hi then .fS else .dj o (off+lo*e) (hi-lo) e) O)else U|_,_,_=>U
   |_=>U
  |_=>U
 |.ga off x=>match a x with|.da o f=>J (.ev (.da o (f+off)) O)|.ec l=>if off<=l.length then J (.ev (.ec (l.drop off)) O)else U|_=>U
 |.iX ag off e x=>match a x with|.cX l=>(pt ag e (l.drop off)).map (.ev · O)|_=>U
 |.gb len e x i=>match uq (a i),a x with|J i,.da o f=>if i<len then J (.ev (.da o (f+i*e)) O)else U|J i,.ec l=>if i<len/\i*e<=l.length then J (.ev (.ec (l.drop (i*e))) O)else U|_,_=>U
 |.ey e x i=>match uq (a i),a x with|J i,.sl n l=>if i<n/\l.length=n*e then J (.ev (.ec (l.drop (i*e))) O)else U|J i,.eB n l=>if i<n/\l.length=n*e then J (.ev (.ec (l.drop (i*e))) O)else U|J i,.dj o off n s=>if i<n/\s=e then J (.ev (.da o (off+i*e)) O)else U|_,_=>U
 |.io len ag e x i=>match uq (a i),a x with|J i,.cX l=>if i<len then(pt ag e (l.drop (i*e))).map (.ev · O)else U|_,_=>U
 |.ft x i=>match uq (a i),a x with
  |J i,.cU s=>match s[i]? with|J b=>J (.ev (.cQ .u8 b.toNat) O)|U=>U
  |_,_=>U
 |.hG z m k ok=>
  match mapOf O (a m)with
  |J j=>match oM (a k) j 0 with|J (J (_,v))=>J (.ev (if ok then .de [v,.cW eT]else v) O)|J U=>J (.ev (if ok then .de [z,.cW eF]else z) O)|U=>U
  |U=>U
 |.hQ m k v=>match a m with
  |.dz N=>match O[N]? with
   |J (.dz j)=>match a k with
    |.cU s=>match oM (.cU s) j 0 with|J (J (i,_))=>J (.ev .dT (O.set N (.dz (j.set i (.cU s,a v)))))|J U=>J (.ev .dT (O.set N (.dz (j++[(.cU s,a v)]))))|U=>U
    |_=>U
   |_=>U
  |_=>U
 |.ip z m k=>match a m with
  |.dz N=>match O[N]? with
   |J (.dz j)=>match a k with
    |.cU s=>match oM (.cU s) j 0 with|J (J (i,v))=>J (.ev (.de [v,.cQ r i]) O)|J U=>J (.ev (.de [z,.cQ r j.length]) (O.set N (.dz (j++[(.cU s,z)]))))|U=>U
    |_=>U
   |_=>U
  |_=>U
 |.g9 m s v=>match a m,uq (a s)with
  |.dz N,J i=>match O[N]? with
   |J (.dz j)=>match j[i]? with|J (k,_)=>J (.ev .dT (O.set N (.dz (j.set i (k,a v)))))|U=>U
   |_=>U
  |_,_=>U
 |.ib x i=>match a x with
  |.de l=>match l[i]? with|J v=>J (.ev v O)|U=>U
  |_=>U
 |.eD str e bytes A s x=>
  match lJ O e (a x)with
  |J (m,cs)=>
   if isStr (a x) !=str|| !cs.all AV.Q then U else
   match uD O e bytes A (a s) m cs with
   |J (v,B)=>J (.ev v B)|U=>U
  |U=>U
 |.dt k x=>(bC O k (a x)).map λn=>.ev (.cQ r n) O|.jd n=>J (.ev (.cQ r n) O)
 |.ld e d s=>
  match lJ O e (a s),a d with
  |J (m,cs),.dj o off n s=>match O[o]? with
   |J (.cP l ⟨eF,t⟩)=>
    let k:=min m n
    if s=e/\off+k*e<=l.length/\cs.all AV.Q then
     J (.ev (.cQ r k) (O.set o (.cP (splice l off (cs.take (k*e))) ⟨eF,t⟩)))
    else U
   |_=>U
  |_,_=>U
 |.ir q x y=>(Sz q (a x) (a y)).map (.ev · O)|.gR f args=>J (.fI f (args.map a) O)|.iz f args=>Ku C (a f) (args.map a) O
 |.hD x m args=>match a x with
  |.dx t v=>match methodOf C.P t v m with|J (f,N)=>J (.fI f (N::args.map a) O)|U=>U
  |_=>U
 |.gP=>J (.ev .dT O)
 |.gD _ d e x=>
  let cs:=(a x).cP
  if d<n0/\cs.length=e/\cs.all AV.Q then J (.ev (.da O.length 0) (O++[.cP cs FZ]))else U
 |.eC=>U
def evI(C:Ctx)(e:Env)(O:St)(i:XI):X Out:=aF C (av C e) (z e) O i
abbrev bY:=x->LA->St->X (AV×St)
def put(e:Env)(d:X Y)(v:AV):Env:=
 match d with
 |J d=>e.set d v|U=>e
def sJ(o:XOp)(e:Env):V:=
 match o.bm with
 |U=>eT|J (t,b)=>match e[t]? with|J (.cW c)=>c==b|_=>eF
def EF(C:Ctx)(call:bY)(o:XOp)(e:Env)(O:St):X (AV×St):=
 if sJ o e then
  match evI C e O o.i with
  |J (.ev v a)=>J (v,a)|J (.fI f args a)=>call f args a|U=>U
 else J (.dT,O)
def wG(C:Ctx)(call:bY):T XOp->Env->St->X (Env×St)|[],e,O=>J (e,O)|o::l,e,O=>match EF C call o e O with|J (v,a)=>wG C call l (put e o.ba v) a|U=>U
mutual
def same:AV->AV->V|.cW a,.cW b=>a==b|.cQ k a,.cQ l b=>k==l&&a==b|.cU a,.cU b=>oU a b|.ep,.ep=>eT|.da a b,.da c d=>a==c&&b==d|.ec a,.ec b=>zG a b|.cY,.cY=>eT|.fS,.fS=>eT|.sl n a,.sl m b=>n==m&&zG a b|.eB n a,.eB m b=>n==m&&zG a b|.dj a b c d,.dj e g h i=>a==e&&b==g&&c==h&&d==i|.dz a,.dz b=>a==b|.eE,.eE=>eT|.dv f a b,.dv j e g=>f==j&&zG a e&&zG b g|.eo,.eo=>eT|.dx t a,.dx u b=>t==u&&same a b|.eb,.eb=>eT|.cX a,.cX b=>zG a b|.de a,.de b=>zG a b|_,_=>eF
def zG:LA->LA->V|[],[]=>eT|a::x,b::y=>same a b&&zG x y|_,_=>eF
end
def zV(C:Ctx)(call:bY):T XOp->Env->St->X (Env×St×T (Env×AV)×T St)
 |[],e,O=>J (e,O,[],[O])
 |o::l,e,O=>match EF C call o e O with
  |J (v,b)=>match zV C call l (put e o.ba v) b with|J (c,a,rs,d)=>J (c,a,(e,v)::rs,O::d)|U=>U
  |U=>U
def Om(C:Ctx)(o:XOp)(e:Env)(v:AV)(ss:T St):T Y->V|[]=>eT|c::l=>(match ss[c]?,ss[c+1]? with|J s,J a=>(match evI C e s o.i,evI C e a o.i with|J (.ev v1 _),J (.ev v2 _)=>same v1 v&&same v2 v|_,_=>eF)|_,_=>eF)&&Om C o e v ss l
def BM(C:Ctx)(ss:T St):T XOp->T (Env×AV)->V|o::l,(e,v)::rs=>(!sJ o e||Om C o e v ss o.bo)&&BM C ss l rs|_,_=>eT
def wK(C:Ctx)(call:bY)(l:T XOp)(e:Env)(O:St):X (Env×St):=
 match zV C call l e O with
 |J (b,a,rs,c)=>if BM C c l rs then J (b,a)else U|U=>U
inductive XE where
 |du|dq (id:Nat)|ea
 deriving DecidableEq
def vY(body:Env->St->X (XE×Env×St)):Y->Env->St->X (XE×Env×St)|0,_,_=>U|n+1,e,O=>match body e O with|J (.du,b,a)=>vY body n b a|d=>d
def evC(C:Ctx)(call:bY)(n:Y):XC->Env->St->X (XE×Env×St)
 |.eI,e,O=>J (.du,e,O)|.fu l,e,O=>match wG C call l e O with|J (f,d)=>J (.du,f,d)|U=>U
 |.eO l,e,O=>match wK C call l e O with|J (f,d)=>J (.du,f,d)|U=>U
 |.eA a b,e,O=>match evC C call n a e O with|J (.du,f,d)=>evC C call n b f d|h=>h
 |.eJ c a b,e,O=>match av C e c with|.cW eT=>evC C call n a e O|.cW eF=>evC C call n b e O|_=>U
 |.eG id b,e,O=>match evC C call n b e O with|J (.dq i,f,d)=>J (if i=id then .du else .dq i,f,d)|h=>h
 |.fL b,e,O=>vY (evC C call n b) n e O|.dq id,e,O=>J (.dq id,e,O)|.ea,e,O=>J (.ea,e,O)|.fg b,e,O=>evC C call n b e O|.eC,_,_=>U
mutual
def below(n:Y):AV->V|.da o _=>o<n|.dj o _ _ _=>o<n|.dz m=>m<n|.dv _ x y=>ae n x&&ae n y|.dx _ v=>below n v|.cX l|.de l=>ae n l|.ec l=>ae n l|.sl _ l|.eB _ l=>ae n l|_=>eT
def ae(n:Y):LA->V|[]=>eT|v::l=>below n v&&ae n l
end
def AO.below(n:Nat):AO->V|.cP l _=>ae n l|.dz a=>ae n (a.map (·.1))&&ae n (a.map (·.2))|.em=>eT
mutual
def cu(O:St)(d:LA->X (LA×T Y)):AV->X (AV×T Y)
 |.cY|.fS=>J (.sl 0 [],[])|.eB n l=>match bI O d l with|J (l,fs)=>J (.sl n l,fs)|U=>U
 |.dj o off m a=>match O[o]? with
  |J (.cP l _)=>
   if off+m*a<=z l then
    match d ((l.drop off).take (m*a))with
    |J (l,fs)=>J (.sl m l,o::fs)|U=>U
   else U
  |_=>U
 |.dv f x y=>match bI O d x,bI O d y with|J (x,fs),J (y,b)=>J (.dv f x y,fs++b)|_,_=>U
 |.dx t v=>match cu O d v with|J (v,fs)=>J (.dx t v,fs)|U=>U
 |.cX l=>match bI O d l with|J (l,fs)=>J (.cX l,fs)|U=>U
 |.de l=>match bI O d l with|J (l,fs)=>J (.de l,fs)|U=>U
 |v=>J (v,[])
def bI(O:St)(d:LA->X (LA×T Y)):LA->X (LA×T Y)|[]=>J ([],[])|v::l=>match cu O d v,bI O d l with|J (v,fs),J (l,a)=>J (v::l,fs++a)|_,_=>U
end
def eX(O:St):Y->LA->X (LA×T Y)|0=>λ_=>U|n+1=>bI O (eX O n)
def freeze(O:St):T Y->St|[]=>O|o::fs=>match O[o]? with|J (.cP l ⟨eF,t⟩)=>freeze (O.set o (.cP l ⟨eT,t⟩)) fs|_=>freeze O fs
def hand(raw:V)(l:LA)(O:St):X (LA×St):=
 if raw then J (l,O)else
 match eX O 12 l with
 |J (l,fs)=>J (l,freeze O fs)|U=>U
def YH(e:Env)(O:St):T XR->X LA
 |[]=>J []|.fT t::l=>match YH e O l with|J vs=>J (e.getD t .dT::vs)|U=>U
 |.eN t ag a::l=>match e.getD t .dT,YH e O l with
  |.da o off,J vs=>match O[o]? with
   |J (.cP c _)=>match pt ag a (c.drop off)with|J v=>J (v::vs)|U=>U
   |_=>U
  |_,_=>U
def dG:LA->AV|[v]=>v|l=>.de l
def tidy(n:Y)(vs:LA)(O:St):St:=
 if z O=n then O else
 if ae n vs&&(O.take n).all (AO.below n)then O.take n else O
def evF(C:Ctx):Y->bY
 |0,_,_,_=>U
 |n+1,f,args,O=>
  match C.eV f with
  |J h=>h args O|U=>
  match C.fs f with
  |U=>U
  |J x=>
   match hand (C.eL f) args O with
   |U=>U
   |J (args,b)=>
    if z args>x.W then U else
    match evC C (evF C n) n x.ap (args++K7 (x.W-z args) .dT) b with
    |J (.dq _,_,_)=>U|U=>U
    |J (_,e,a)=>
     match YH e a x.an with
     |U=>U|J vs=>match hand (C.eL f) vs a with|U=>U|J (vs,c)=>J (dG vs,tidy (z O) vs c)
open Go.RowKit
structure Gh where
 pl:Nat->Bool
 n:Nat
 ob:Nat->Nat
 bs:Nat->Nat
 im:Nat->Nat->Option Value
structure Gh.le(g g':Gh):Prop where
 pl:g'.pl=g.pl
 n:g.n<=g'.n
 ob:∀o,o<g.n->g'.ob o=g.ob o
 bs:∀o,o<g.n->g'.bs o=g.bs o
 im:∀b i v,g.im b i=some v->g'.im b i=some v
def Gh.le.ax(g:Gh):g.le g:=⟨k9,a09 _,λ_ _=>k9,λ_ _=>k9,λ_ _ _ h=>h⟩
def Gh.le.N{a b c:Gh}(h:a.le b)(k:b.le c):a.le c:=
 ⟨k.pl.trans h.pl,aF2 h.n k.n,λo d=>(k.ob o (aG2 d h.n)).trans (h.ob o d),λo d=>(k.bs o (aG2 d h.n)).trans (h.bs o d),
  λb i v hv=>k.im b i v (h.im b i v hv)⟩
mutual
inductive VR(g:Gh):AV->Value->Prop|cW (b:Bool):VR g (.cW b) (.bool b)|cQ (k:IntKind) (n:Int):VR g (.cQ k n) (.int k n)|cU (s:LU):VR g (.cU s) (.string ⟨⟨s⟩⟩)|ep:VR g .ep (.pointer none)|da (o off:Nat):o<g.n->VR g (.da o off) (.pointer (some ⟨g.ob o,off,none⟩))|ec (l:LA) (b off:Nat):CR g l b off->VR g (.ec l) (.pointer (some ⟨b,off,none⟩))|cY:VR g .cY (.slice none 0 0)|fS (a:Addr) (cap:Nat):VR g .fS (.slice (some a) 0 cap)|ia:VR g (.sl 0 []) (.slice none 0 0)|gA (a:Addr) (cap:Nat):VR g (.sl 0 []) (.slice (some a) 0 cap)|sl (n:Nat) (l:LA) (b off cap:Nat):CR g l b off->n<=cap->VR g (.sl n l) (.slice (some ⟨b,off,none⟩) n cap)|eB (n:Nat) (l:LA) (b off:Nat):CR g l b off->VR g (.eB n l) (.slice (some ⟨b,off,none⟩) n n)|dj (o off n sz cap:Nat):o<g.n->n<=cap->off+cap*sz<=g.bs o->VR g (.dj o off n sz) (.slice (some ⟨g.ob o,off,none⟩) n cap)|dz (m:Nat):m<g.n->VR g (.dz m) (.map (some (g.ob m)))|eE:VR g .eE (.map none)|dv (f:Fn) (x y:LA) (x' y':List Value):VRs g x x'->VRs g y y'->VR g (.dv f x y) (.func f ⟨x'⟩ ⟨y'⟩)|eo:VR g .eo .nilFunc|dx (t:TypeId) (v:AV) (v':Value):VR g v v'->VR g (.dx t v) (.iface t v')|eb:VR g .eb .nilIface|cX (l:LA) (l':List Value):VRs g l l'->VR g (.cX l) (.agg ⟨l'⟩)|de (l:LA) (l':List Value):VRs g l l'->VR g (.de l) (.tuple ⟨l'⟩)
inductive VRs(g:Gh):LA->List Value->Prop|db:VRs g [] []|cV (a:AV) (v:Value) (l:LA) (l':List Value):VR g a v->VRs g l l'->VRs g (a::l) (v::l')
inductive CR(g:Gh):LA->Nat->Nat->Prop|db (b off:Nat):CR g [] b off|cV (a:AV) (v:Value) (l:LA) (b off:Nat):g.im b off=some v->VR g a v->CR g l b (off+1)->CR g (a::l) b off
end
mutual
theorem VR.D{g g':Gh}(h:g.le g'):∀{a:AV} {v:W},VR g a v->VR g' a v
 |_,_,.cW b=>.cW b|_,_,.cQ k n=>.cQ k n|_,_,.cU s=>.cU s|_,_,.ep=>.ep|_,_,.da o off i=>by grind [VR,Gh.le]
 |_,_,.ec l b off c=>.ec l b off (c.D h)|_,_,.cY=>.cY|_,_,.fS a cap=>.fS a cap|_,_,.ia=>.ia|_,_,.gA a cap=>.gA a cap|_,_,.sl n l b off cap c e=>.sl n l b off cap (c.D h) e|_,_,.eB n l b off c=>.eB n l b off (c.D h)|_,_,.dj o off n A cap i w hb=>by grind [VR,Gh.le]
 |_,_,.dz m u=>by grind [VR,Gh.le]
 |_,_,.eE=>.eE|_,_,.dv f x y p q a b=>.dv f x y p q (a.D h) (b.D h)|_,_,.eo=>.eo|_,_,.dx t v j a=>.dx t v j (a.D h)|_,_,.eb=>.eb|_,_,.cX l d a=>.cX l d (a.D h)|_,_,.de l d a=>.de l d (a.D h)
theorem VRs.D{g g':Gh}(h:g.le g'):∀{l:LA} {b:T W},VRs g l b->VRs g' l b|_,_,.db=>.db|_,_,.cV a v l b x y=>.cV a v l b (x.D h) (y.D h)
theorem CR.D{g g':Gh}(h:g.le g'):∀{l:LA} {b off:Y},CR g l b off->CR g' l b off|_,_,_,.db b off=>.db b off|_,_,_,.cV a v l b off x y z=>.cV a v l b off (h.im _ _ _ x) (y.D h) (z.D h)
end
theorem VRs.I{g:Gh}:∀{l:LA} {a:T W},VRs g l a->z a=z l|_,_,.db=>k9|_,_,.cV _ _ _ _ _ y=>by simp[y.I]
def VRs.cd{g:Gh}:∀{l:LA} {b:T W},VRs g l b->∀{i:Y} {a:AV},l[i]?=J a->∃v,b[i]?=J v/\VR g a v
 |_,_,.db,_,_,h=>by simp at h
 |_,_,.cV a v l b x y,0,_,h=>by grind
 |_,_,.cV a v l b x y,i+1,_,h=>by simp at h;simpa using y.cd h
def VRs.cM{g:Gh}:∀{l:LA} {b:T W} {m:LA} {c:T W},VRs g l b->VRs g m c->VRs g (l++m) (b++c)|_,_,_,_,.db,h=>h|_,_,_,_,.cV a v l b x y,h=>.cV a v _ _ x (y.cM h)
def VRs.cD{g:Gh}:∀{l:LA} {b:T W} (n:Y),VRs g l b->VRs g (l.take n) (b.take n)
 |_,_,0,_=>by simp;exact .db
 |_,_,_+1,.db=>by simp;exact .db
 |_,_,n+1,.cV a v l b x y=>by simpa using .cV a v _ _ x (y.cD n)
def VRs.cB{g:Gh}:∀{l:LA} {b:T W} (n:Y),VRs g l b->VRs g (l.drop n) (b.drop n)
 |_,_,0,h=>by simpa using h
 |_,_,_+1,.db=>by simp;exact .db
 |_,_,n+1,.cV a v l b x y=>by simpa using y.cB n
theorem VRs.b6{g:Gh}:∀{l:LA} {b:T W},z b=z l->(∀(i:Y) (a:AV),l[i]?=J a->∃v,b[i]?=J v/\VR g a v)->VRs g l b|[],[],_,_=>.db|a::l,v::b,e,h=>by obtain⟨f,hv,hr⟩:=h 0 a k9;simp at hv;subst hv;exact .cV a v l b hr (.b6 (by simpa using e) λi c d=>by simpa using h (i+1) c (by simpa using d))
def VRs.cg{g:Gh}:∀{l:LA} {b:T W} (i:Y) {a:AV} {v:W},VRs g l b->VR g a v->VRs g (l.set i a) (b.set i v)
 |_,_,_,_,_,.db,_=>by simp;exact .db
 |_,_,0,_,_,.cV a v l b x y,h=>by simpa using .cV _ _ _ _ h y
 |_,_,i+1,_,_,.cV a v l b x y,h=>by simpa using .cV _ _ _ _ x (y.cg i h)
def VRs.dz{g:Gh}{a:Type}{f:a->AV}{b:a->W}(h:∀x,VR g (f x) (b x)):∀l:T a,VRs g (l.map f) (l.map b)|[]=>.db|x::l=>.cV _ _ _ _ (h x) (.dz h l)
def CR.cd{g:Gh}:∀{l:LA} {b off:Y},CR g l b off->∀{i:Y} {a:AV},l[i]?=J a->∃v,g.im b (off+i)=J v/\VR g a v
 |_,_,_,.db _ _,_,_,h=>by simp at h
 |_,_,_,.cV a v l b off x y z,0,_,h=>by grind
 |_,_,_,.cV a v l b off x y z,i+1,_,h=>by simp at h;obtain⟨d,c,h2⟩:=z.cd h;grind
theorem CR.b6{g:Gh}:∀{l:LA} {b off:Y},(∀(i:Y) (a:AV),l[i]?=J a->∃v,g.im b (off+i)=J v/\VR g a v)->CR g l b off
 |[],b,off,_=>.db b off
 |a::l,b,off,h=>by
  obtain⟨v,hv,hr⟩:=h 0 a k9;exact .cV a v l b off (by simpa using hv) hr (.b6 λi c d=>by
   obtain⟨f,e,h2⟩:=h (i+1) c (by simpa using d);grind)
def CR.cB{g:Gh}{l:LA}{b off:Y}(h:CR g l b off)(k:Y):CR g (l.drop k) b (off+k):=
 .b6 λi a d=>by rw[List.getElem?_drop]at d;obtain⟨v,e,h2⟩:=h.cd d;grind
def CR.cD{g:Gh}{l:LA}{b off:Y}(h:CR g l b off)(k:Y):CR g (l.take k) b off:=
 .b6 λi a c=>by
  rw[aE3]at c;split at c;·exact h.cd c
  ·cases c
structure ER(g:Gh)(es:List (AV×AV))(ents:Array MapEntry)(clock:Nat):Prop where
 aq:ents.size=es.length
 kx:clock=es.length
 mo:∀(i:Nat) (k v:AV),es[i]?=some (k,v)->∃e:MapEntry,ents[i]?=some e/\VR g k e.key/\VR g v e.val/\e.born=i
def ayL(e:j0)(fr:Y×Y)(fz:Fz)(n m:Y):Prop:=fr=(0,0)/\∀t x,fz.t=J (t,x)->e=t/\(x=eT->n=m)
def OR(g:Gh)(w:Q)(o:Y):AO->Prop
 |.cP l b=>∃c e fr,w.heap[g.ob o]?=J (.cells c e fr)/\c.size=g.bs o/\z l<=c.size/\
  (∀(i:Y) (x:AV),l[i]?=J x->∃v,c[i]?=J v/\VR g x v)/\ayL e fr b c.size (z l)/\
  (∀i v,g.im (g.ob o) i=J v->b.b=eT/\i<z l)
 |.dz d=>∃a clock,w.heap[g.ob o]?=J (.map a clock)/\ER g d a clock|.em=>True
def AO.c7:AO->V|.em=>eF|_=>eT
def avJ{fr:Y×Y}(h:fr=(0,0))(n:Y):∀i,i<n->(decide (fr.1<=i)&&decide (i<fr.2))=eF:=by subst h;simp
def atV(f:Y->X W):Prop:=∀j n m,f j=J (.int .u8 n)->f (j+1)≠J (.int r m)
structure WR(g:Gh)(w:World)(O:St):Prop where
 n:g.n=O.length
 im:∀b i v,g.im b i=some v->w.cell? ⟨b,i,none⟩=some v
 uf:∀b i v,g.im b i=some v->(g.pl b=false/\atV (g.im b))\/∃c e fr,w.heap[b]?=some (.cells c e fr)/\(fr=(0,0)\/∃n,v=.int .u8 n)
 bA:∀(o:Nat) (x:AO),O[o]?=some x->OR g w o x
 inj:∀(o o':Nat) (x x':AO),O[o]?=some x->O[o']?=some x'->x.c7=true->x'.c7=true->g.ob o=g.ob o'->o=o'
def afC(g:Gh)(O:St)(b:Y):Prop:=∀(o:Y) (x:AO),O[o]?=J x->x.c7=eT->g.ob o≠b
structure Goes(g:Gh)(O:St)(w:World)(g':Gh)(O':St)(w':World):Prop where
 le:g.le g'
 wr:WR g' w' O'
 os:w'.os=w.os
 dn:w'.tape=w.tape
 cc:w'.output=w.output
 aq:w.heap.size<=w'.heap.size
 fr:∀b,b<w.heap.size->afC g O b->afC g' O' b/\w'.heap[b]?=w.heap[b]? /\∀i,g'.im b i=g.im b i
def Goes.ax{g:Gh}{O:St}{w:Q}(h:WR g w O):Goes g O w g O w:=
 ⟨.ax g,h,k9,k9,k9,a09 _,λ_ _ a=>⟨a,k9,λ_=>k9⟩⟩
def Goes.N{a c d:Gh}{s1 s2 s3:St}{e f g:Q}(h:Goes a s1 e c s2 f)(k:Goes c s2 f d s3 g):Goes a s1 e d s3 g:=
 ⟨h.le.N k.le,k.wr,k.os.trans h.os,k.dn.trans h.dn,k.cc.trans h.cc,aF2 h.aq k.aq,λb hb i=>by
  grind [Goes]⟩
def WR.hm{g:Gh}{w:Q}{O:St}(h:WR g w O)(n:Y):WR g {w with drawn:=n} O:=
 ⟨h.n,h.im,h.uf,λo x a=>by have:=h.bA o x a;cases x<;>exact this,h.inj⟩
def Goes.hm{g:Gh}{w:Q}{O:St}(h:WR g w O)(n:Y):Goes g O w g O {w with drawn:=n}:=
 ⟨.ax g,h.hm n,k9,k9,k9,a09 _,λ_ _ a=>⟨a,k9,λ_=>k9⟩⟩
theorem addr_add(b o i:Y):(⟨b,o,U⟩:Addr).add i=⟨b,o+i,U⟩:=by unfold Addr.add;split<;>simp_all
def lt_of_heap{w:Q}{b:Y}{o:Obj}(h:w.heap[b]?=J o):b<w.heap.size:=by grind
theorem cell_of_heap{w:Q}{b:Y}{c:j7 W}{e:j0}{fr:Y×Y}(h:w.heap[b]?=J (.cells c e fr))(i:Y):w.cell? ⟨b,i,U⟩=c[i]?:=by simp[p,h]
def lt_of_cell{w:Q}{b i:Y}{v:W}(h:w.cell? ⟨b,i,U⟩=J v):b<w.heap.size:=by grind [p]
theorem Au{w a:Q}{b:Y}(h:a.heap[b]?=w.heap[b]?)(i:Y):a.cell? ⟨b,i,U⟩=w.cell? ⟨b,i,U⟩:=by unfold p;simp only[h]
def Qw:j7 W->Y->T W->j7 W|c,_,[]=>c|c,o,v::d=>Qw (c.setIfInBounds o v) (o+1) d
def xG:∀(vs:T W) (c:j7 W) (o:Y),(Qw c o vs).size=c.size|[],_,_=>k9|v::d,c,o=>by rw[Qw,xG d];simp
def MV:∀(vs:T W) (c:j7 W) (o:Y),o+z vs<=c.size->∀i,(Qw c o vs)[i]?=if o<=i/\i<o+z vs then vs[i-o]? else c[i]?
 |[],c,o,_,i=>by rw[Qw,Z1 (by simp)]
 |v::d,c,o,h,i=>by simp only[a94]at h;rw[Qw,MV d _ _ (by simp;omega)];grind
def BI (b:Y):∀(vs:T W) (o:Y) (w:Q) (c:j7 W) (e:j0) (fr:Y×Y),w.heap[b]?=J (.cells c e fr)->
  (w.setCells b o vs).heap[b]?=J (.cells (Qw c o vs) e fr)
 |[],_,_,_,_,_,h=>h|v::d,o,w,c,e,fr,h=>by rw[i,Qw];exact BI b d (o+1) _ _ e fr (by simp[t,aJ9,h])
def xy(b:Y):∀(vs:T W) (o:Y) (w:Q) (k:Y),k≠b->(w.setCells b o vs).heap[k]?=w.heap[k]?|[],_,_,_,_=>k9|v::d,o,w,k,h=>by rw[i,xy b d _ _ k h];exact Below.heap_setCell w _ v k h
def BQ(b:Y):∀(vs:T W) (o:Y) (w:Q),(w.setCells b o vs).os=w.os/\(w.setCells b o vs).tape=w.tape/\(w.setCells b o vs).output=w.output/\(w.setCells b o vs).heap.size=w.heap.size|[],_,_=>⟨k9,k9,k9,k9⟩|v::d,o,w=>by obtain⟨a,h2,h3,h4⟩:=BQ b d (o+1) (w.setCell ⟨b,o,U⟩ v);rw[i];grind [t]
section
variable{g:Gh}{w:World}{O:St}
def WR.lt(h:WR g w O){o:Y}{x:AO}(a:O[o]?=J x):o<g.n:=by grind [WR]
def WR.cK(h:WR g w O){b i:Y}{v:W}(hv:g.im b i=J v):b<w.heap.size:=lt_of_cell (h.im b i v hv)
def WR.ee(h:WR g w O){o:Y}{x:AO}(b:O[o]?=J x)(a:x.c7=eT):g.ob o<w.heap.size:=by
 have:=h.bA o x b;cases x with
 |cP l f=>obtain⟨c,e,fr,hb,_⟩:=this;exact lt_of_heap hb
 |dz d=>obtain⟨c,e,hb,_⟩:=this;exact lt_of_heap hb
 |em=>cases a
theorem OR.D {g':Gh} {s:Q} {o:Y} {x:AO} (h:OR g w o x) (f:g.le g') (m:o<g.n) (hb:x.c7=eT->s.heap[g.ob o]?=w.heap[g.ob o]?)
  (p:x.c7=eT->∀i v,g'.im (g.ob o) i=J v->g.im (g.ob o) i=J v):OR g' s o x:=by
 cases x with
 |em=>trivial
 |cP l y=>
  obtain⟨c,e,fr,n,h2,h3,h4,h5,h6⟩:=h;refine⟨c,e,fr,by rw[f.ob o m,hb k9];exact n,by rw[f.bs o m];exact h2,h3,λi x t=>?_,h5,λi v hv=>?_⟩;·obtain⟨v,a,b⟩:=h4 i x t;exact⟨v,a,b.D f⟩
  ·rw[f.ob o m]at hv;exact h6 i v (p k9 i v hv)
 |dz u=>obtain⟨j,clock,n,h2,h3,h4⟩:=h;refine⟨j,clock,by rw[f.ob o m,hb k9];exact n,h2,h3,λi k v q=>?_⟩;obtain⟨e,a,b,c,d⟩:=h4 i k v q;exact⟨e,a,b.D f,c.D f,d⟩
def Bo(w:Q)(o:Obj):Q:={w with heap:=w.heap.push o}
theorem rJ(w:Q)(o:Obj){k:Y}(h:k<w.heap.size):(Bo w o).heap[k]?=w.heap[k]?:=Below.heap_alloc w o k h
def Fv(w:Q)(o:Obj):(Bo w o).heap[w.heap.size]?=J o:=by show(w.heap.push o)[w.heap.size]?=_;rw[Array.getElem?_push,K4 k9]
def Gh.ac(g:Gh)(b s:Y):Gh:={g with n:=g.n+1,ob:=λo=>if o=g.n then b else g.ob o,bs:=λo=>if o=g.n then s else g.bs o}
def Gh.ce(g:Gh)(b s:Y):g.le (g.ac b s):=
 ⟨k9,aM0 _,λo a=>by simp[Gh.ac];omega,λo a=>by simp[Gh.ac];omega,λ_ _ _ h=>h⟩
def Gh.au(g:Gh)(b:Y)(c:j7 W)(k:Y):Gh:={g with im:=λa i=>if a=b/\i<k then c[i]? else g.im a i}
def lD{O:St}{x y:AO}{o:Y}(h:(O++[x])[o]?=J y):(o<z O/\O[o]?=J y)\/(o=z O/\y=x):=by grind
def abS(h:WR g w O)(o:Obj)(x:AO)(s:Y)(B:OR (g.ac w.heap.size s) (Bo w o) g.n x):Goes g O w (g.ac w.heap.size s) (O++[x]) (Bo w o):=by
 have d:=g.ce w.heap.size s;refine⟨d,⟨by simp[Gh.ac,h.n],λb i v hv=>?_,λb i v hv=>?_,λk y c=>?_,λk C y D c j e f u=>?_⟩,k9,k9,k9,by simp[Bo],λb hb p=>⟨λk y c e=>?_,rJ w o hb,λ_=>k9⟩⟩;·rw[Au (rJ w o (h.cK hv))];exact h.im b i v hv
 ·rw[rJ w o (h.cK hv)];exact h.uf b i v hv
 ·rcases lD c with⟨_,c⟩|⟨A,rfl⟩;·exact OR.D (h.bA k y c) d (h.lt c) (λe=>rJ w o (h.ee c e)) (λ_ _ _ hv=>hv)
  grind [h.n]
 ·rcases lD c with⟨a,q⟩|⟨a,t⟩<;>rcases lD j with⟨m,l⟩|⟨m,n⟩;·grind [WR,Gh.le]
  ·exfalso;have:=h.ee q e;grind [h.n,Gh.ac]
  ·exfalso;have:=h.ee l f;grind [h.n,Gh.ac]
  ·omega
 ·rcases lD c with⟨a,c⟩|⟨a,rfl⟩;·rw[d.ob k (h.lt c)];exact p k y c e
  grind [h.n,Gh.ac]
def Uc(h:WR g w O)(c:j7 W)(e:j0)(fr:Y×Y)(o:fr=(0,0)\/∀(i:Y) (v:W),c[i]?=J v->∃n,v=Z2 .u8 n):Goes g O w (g.au w.heap.size c c.size) O (Bo w (.cells c e fr)):=by
 have d:g.le (g.au w.heap.size c c.size):=⟨k9,a09 _,λ_ _=>k9,λ_ _=>k9,λb i v hv=>by
  have:=h.cK hv;simp only[Gh.au];rw[Z1 (by omega)];exact hv⟩
 refine⟨d,⟨h.n,λb i v hv=>?_,λb i v hv=>?_,λk y f=>?_,h.inj⟩,k9,k9,k9,by simp[Bo],λb hb p=>⟨p,rJ w _ hb,λi=>by simp only[Gh.au];rw[Z1 (by omega)]⟩⟩
 ·simp only[Gh.au]at hv;split at hv;·rename_i hb;rw[hb.1,cell_of_heap (Fv w _)];exact hv
  ·rw[Au (rJ w _ (h.cK hv))];exact h.im b i v hv
 ·simp only[Gh.au]at hv;split at hv;·rename_i hb;rw[hb.1,Fv];grind
  ·rw[rJ w _ (h.cK hv)];have hb:=h.cK hv;exact(h.uf b i v hv).imp (λq=>⟨q.1,λj n m hj a=>q.2 j n m (by simp only[Gh.au]at hj;rwa[Z1 (by omega)]at hj) (by simp only[Gh.au]at a;rwa[Z1 (by omega)]at a)⟩) id
 ·refine OR.D (h.bA k y f) d (h.lt f) (λl=>rJ w _ (h.ee f l)) (λl i v hv=>?_);have:=h.ee f l;simp only[Gh.au]at hv;grind
def abT(h:WR g w O)(c:j7 W)(e:j0):Goes g O w (g.au w.heap.size c c.size) O (Bo w (.cells c e)):=Uc h c e (0,0) (.inl k9)
def sF{O:St}{x y:AO}{o k:Y}(h:(O.set o x)[k]?=J y):(k≠o/\O[k]?=J y)\/(k=o/\o<z O/\y=x):=by grind
theorem OR.eZ{o i:Y}{x:AO}{v:W}(h:OR g w o x)(f:x.c7=eT)(d:w.cell? ⟨g.ob o,i,U⟩=J v):∃c e fr,w.heap[g.ob o]?=J (.cells c e fr)/\(fr=(0,0)\/∃n,v=.int .u8 n):=by
 cases x with
 |em=>cases f|cP l k=>obtain⟨c,e,fr,a,h2,h3,h4,h5,h6⟩:=h;exact⟨c,e,fr,a,.inl h5.1⟩
 |dz j=>obtain⟨b,clock,a,h2⟩:=h;simp[p,a]at d
def abU (h:WR g w O) {o:Y} {x0:AO} (hx0:O[o]?=J x0) (c:x0.c7=eT) (x:AO) (A:x.c7=eT) (a:Q) (s:a.os=w.os) (f:a.tape=w.tape) (j:a.output=w.output) (B:a.heap.size=w.heap.size)
  (d:∀k,k≠g.ob o->a.heap[k]?=w.heap[k]?) (q:∀i v,g.im (g.ob o) i=J v->a.cell? ⟨g.ob o,i,U⟩=J v) (C:OR g a o x):Goes g O w g (O.set o x) a:=by
 refine⟨.ax g,⟨by simp[h.n],λb i v hv=>?_,λb i v hv=>?_,λk y p=>?_,λk F y G p D n u E=>?_⟩,s,f,j,by omega,λb hb t=>⟨λk y p n=>?_,d b (λe=>t o x0 hx0 c e.symm),λ_=>k9⟩⟩
 ·by_cases hb:b=g.ob o;·subst hb;exact q i v hv
  grind [Au,WR]
 ·by_cases hb:b=g.ob o;·grind [OR.eZ]
  ·rw[d b hb];exact h.uf b i v hv
 ·rcases sF p with⟨m,l⟩|⟨rfl,_,rfl⟩;·refine OR.D (h.bA k y l) (.ax g) (h.lt l) (λn=>d _ λe=>m (h.inj k o y x0 l hx0 n c e)) (λ_ _ _ hv=>hv)
  ·exact C
 ·grind [WR]
 ·rcases sF p with⟨m,l⟩|⟨m,_,_⟩;·exact t k y l n
  ·subst m;exact t k x0 hx0 c
def aen(h:WR g w O)(o:Y):Goes g O w g (O.set o .em) w:=by
 refine⟨.ax g,⟨by simp[h.n],h.im,h.uf,λk y d=>?_,λk p y q d j a c m=>?_⟩,k9,k9,k9,a09 _,λb hb n=>⟨λk y d a=>?_,k9,λ_=>k9⟩⟩
 ·rcases sF d with⟨f,e⟩|⟨_,_,rfl⟩;·exact h.bA k y e
  ·trivial
 ·rcases sF d with⟨f,e⟩|⟨f,_,rfl⟩
  ·rcases sF j with⟨i,l⟩|⟨i,_,rfl⟩;·exact h.inj k p y q e l a c m
   ·cases c
  ·cases a
 ·rcases sF d with⟨f,e⟩|⟨f,_,rfl⟩;·exact n k y e a
  ·cases a
def ai9(h:WR g w O){o:Y}{l:LA}{fz:Fz}(hx0:O[o]?=J (.cP l fz)):∃g',Goes g O w g' (O.set o (.cP l ⟨eT,fz.t⟩)) w/\CR g' l (g.ob o) 0:=by
 obtain⟨c,e,fr,C,h2,h3,h4,h5,h6⟩:=h.bA o _ hx0;have d:g.le (g.au (g.ob o) c l.length):=⟨k9,a09 _,λ_ _=>k9,λ_ _=>k9,λb i v hv=>by
  grind [Gh.au,cell_of_heap,WR]⟩
 refine⟨g.au (g.ob o) c l.length,⟨d,⟨by rw[a99];exact h.n,λb i v hv=>?_,λb i v hv=>?_,λk y t=>?_,λk I y K t G s E H=>?_⟩,k9,k9,k9,a09 _,λb hb B=>⟨λk y t s=>?_,k9,λi=>?_⟩⟩,?_⟩;·grind [Gh.au,cell_of_heap,WR]
 ·simp only[Gh.au]at hv;split at hv;·rename_i hb;rw[hb.1,C];exact .inr ⟨_,_,_,k9,.inl h5.1⟩
  ·rename_i hb;have p:b≠g.ob o:=λp=>by grind
   refine(h.uf b i v hv).imp (λq=>⟨q.1,λj n m hj u=>q.2 j n m ?_ ?_⟩) id;·simp only[Gh.au]at hj;rwa[Z1 (λe=>p e.1)]at hj
   ·simp only[Gh.au]at u;rwa[Z1 (λe=>p e.1)]at u
 ·rcases sF t with⟨A,f⟩|⟨rfl,_,rfl⟩;·refine OR.D (h.bA k y f) d (h.lt f) (λ_=>k9) (λs i v hv=>?_);simp only[Gh.au]at hv;rw[Z1 (λhb=>A (h.inj k o y _ f hx0 s k9 hb.1))]at hv;exact hv
  ·refine⟨c,e,fr,C,h2,h3,λi x F=>?_,h5,λi v hv=>⟨k9,?_⟩⟩;·obtain⟨v,a,b⟩:=h4 i x F;exact⟨v,a,b.D d⟩
   grind [Gh.au]
 ·have f:∀(k:Y) (y:AO),(O.set o (.cP l ⟨eT,fz.t⟩))[k]?=J y->y.c7=eT->∃z,O[k]?=J z/\z.c7=eT:=λk y t s=>by
   rcases sF t with⟨A,f⟩|⟨rfl,_,rfl⟩;·exact⟨y,f,s⟩
   ·exact⟨_,hx0,k9⟩
  grind [WR,Gh.le]
 ·rcases sF t with⟨A,f⟩|⟨rfl,_,rfl⟩;·exact B k y f s
  ·exact B k _ hx0 k9
 ·simp only[Gh.au];rw[Z1 (λhb=>B o _ hx0 k9 hb.1.symm)]
 ·refine CR.b6 λi a D=>?_;obtain⟨v,hv,hr⟩:=h4 i a D;refine⟨v,?_,hr.D d⟩;simp only[Gh.au,aC4];grind
def aeo (h:WR g w O) {o:Y} {l:LA} {fz:Fz} (hx0:O[o]?=J (.cP l fz)) (x:AO) (D:x.c7=eT) (n:Q) (E:n.os=w.os) (q:n.tape=w.tape) (B:n.output=w.output) (M:n.heap.size=w.heap.size)
  (m:∀k,k≠g.ob o->n.heap[k]?=w.heap[k]?) (u:∀i v,g.im (g.ob o) i=J v->n.cell? ⟨g.ob o,i,U⟩=J v) (K:OR (g.ac (g.ob o) (g.bs o)) n g.n x):
  Goes g O w (g.ac (g.ob o) (g.bs o)) (O.set o .em++[x]) n:=by
 have j:=g.ce (g.ob o) (g.bs o);have a:∀(k:Y) (y:AO),(O.set o .em++[x])[k]?=J y->y.c7=eT->(k≠o/\O[k]?=J y)\/(k=g.n/\y=x):=λk y s d=>by
  rcases lD s with⟨_,c⟩|⟨f,c⟩
  ·rcases sF c with⟨f,c⟩|⟨_,_,rfl⟩;·exact .inl ⟨f,c⟩
   ·cases d
  grind [h.n]
 refine⟨j,⟨by simp[Gh.ac,h.n],λb i v hv=>?_,λb i v hv=>?_,λk y s=>?_,λk I y L s H d A t=>?_⟩,E,q,B,by omega,λb hb F=>⟨λk y s d=>?_,m b (λe=>F o _ hx0 k9 e.symm),λ_=>k9⟩⟩
 ·by_cases hb:b=g.ob o;·subst hb;exact u i v hv
  ·rw[Au (m b hb)];exact h.im b i v hv
 ·by_cases hb:b=g.ob o;·subst hb;have G:=OR.eZ (g:=g.ac (g.ob o) (g.bs o)) (o:=g.n) (i:=i) (v:=v) K D (by simpa[Gh.ac]using u i v hv);exact .inr (by simpa[Gh.ac]using G)
  ·rw[m b hb];exact h.uf b i v hv
 ·by_cases d:y.c7=eT
  ·rcases a k y s d with⟨f,c⟩|⟨rfl,rfl⟩;·exact OR.D (h.bA k y c) j (h.lt c) (λd=>m _ λe=>f (h.inj k o y _ c hx0 d k9 e)) (λ_ _ _ hv=>hv)
   ·exact K
  ·cases y<;>simp[AO.c7]at d;trivial
 ·rcases a k y s d with⟨f,c⟩|⟨f,_⟩<;>rcases a I L H A with⟨p,C⟩|⟨p,_⟩;·grind [WR,Gh.le]
  ·exfalso;rw[j.ob k (h.lt c),p]at t;simp[Gh.ac]at t;exact f (h.inj k o y _ c hx0 d k9 t)
  ·exfalso;rw[j.ob I (h.lt C),f]at t;simp[Gh.ac]at t;exact p (h.inj I o L _ C hx0 A k9 t.symm)
  ·omega
 ·rcases a k y s d with⟨f,c⟩|⟨f,_⟩;·rw[j.ob k (h.lt c)];exact F k y c d
  ·rw[f];simp[Gh.ac];exact F o _ hx0 k9
def Gh.bh(g:Gh)(n:Y):Gh:={g with n:=n}
mutual
def VR.bh{g:Gh}{n:Y}:∀{a:AV} {v:W},VR g a v->below n a=eT->VR (g.bh n) a v
 |_,_,.cW b,_=>.cW b|_,_,.cQ k n,_=>.cQ k n|_,_,.cU s,_=>.cU s|_,_,.ep,_=>.ep|_,_,.da o off j,h=>.da (g:=g.bh n) o off (by simpa[below,Gh.bh]using h)|_,_,.ec l b off c,h=>.ec l b off (c.bh (by simpa[below]using h))|_,_,.cY,_=>.cY|_,_,.fS a cap,_=>.fS a cap|_,_,.ia,_=>.ia|_,_,.gA a cap,_=>.gA a cap|_,_,.sl n l b off cap c e,h=>.sl n l b off cap (c.bh (by simpa[below]using h)) e|_,_,.eB n l b off c,h=>.eB n l b off (c.bh (by simpa[below]using h))|_,_,.dj o off p q cap j i hb,h=>.dj (g:=g.bh n) o off p q cap (by simpa[below,Gh.bh]using h) i hb|_,_,.dz m B,h=>.dz (g:=g.bh n) m (by simpa[below,Gh.bh]using h)|_,_,.eE,_=>.eE|_,_,.dv f x y w A a b,h=>by simp only[below,a02]at h;exact .dv f x y w A (a.bh h.1) (b.bh h.2)
 |_,_,.eo,_=>.eo|_,_,.dx t v u a,h=>.dx t v u (a.bh (by simpa[below]using h))|_,_,.eb,_=>.eb|_,_,.cX l d a,h=>.cX l d (a.bh (by simpa[below]using h))|_,_,.de l d a,h=>.de l d (a.bh (by simpa[below]using h))
def VRs.bh{g:Gh}{n:Y}:∀{l:LA} {b:T W},VRs g l b->ae n l=eT->VRs (g.bh n) l b|_,_,.db,_=>.db|_,_,.cV a v l b x y,h=>by simp only[ae,a02]at h;exact .cV a v l b (x.bh h.1) (y.bh h.2)
def CR.bh{g:Gh}{n:Y}:∀{l:LA} {b off:Y},CR g l b off->ae n l=eT->CR (g.bh n) l b off|_,_,_,.db b off,_=>.db b off|_,_,_,.cV a v l b off x y z,h=>by simp only[ae,a02]at h;exact .cV a v l b off x (y.bh h.1) (z.bh h.2)
end
def IX{n:Y}:∀{l:LA} {i:Y} {a:AV},ae n l=eT->l[i]?=J a->below n a=eT
 |[],_,_,_,h=>by simp at h
 |x::l,0,a,hb,h=>by simp at h;subst h;simp only[ae,a02]at hb;exact hb.1
 |x::l,i+1,a,hb,h=>by simp at h;simp only[ae,a02]at hb;exact IX hb.2 h
def aqr{t:Gh}{O0:St}{H:World}(j:Goes t O0 H g O w)(E:t.n=z O0)(s:(O.take (z O0)).all (AO.below (z O0))=eT):Goes t O0 H (g.bh (z O0)) (O.take (z O0)) w:=by
 have h:=j.wr;have S:z O0<=z O:=by rw[<-E,<-h.n];exact j.le.n
 have f:∀(k:Y) (y:AO),(O.take (z O0))[k]?=J y->k<z O0/\O[k]?=J y:=λk y p=>by grind
 refine⟨⟨j.le.pl,by simp[Gh.bh,E],λo C=>j.le.ob o C,λo C=>j.le.bs o C,j.le.im⟩,⟨by simp[Gh.bh];omega,h.im,h.uf,λk y p=>?_,λk G y I p D A B L=>?_⟩,j.os,j.dn,j.cc,j.aq,λb hb M=>?_⟩
 ·obtain⟨R,N⟩:=f k y p;have m:y.below (z O0)=eT:=aB0.1 s y (a06 p);have:=h.bA k y N;cases y with
  |em=>trivial|cP l Q=>obtain⟨c,e,fr,u,h2,h3,h4,h5,h6⟩:=this;refine⟨c,e,fr,u,h2,h3,λi x F=>?_,h5,h6⟩;obtain⟨v,a,b⟩:=h4 i x F;exact⟨v,a,b.bh (IX m F)⟩
  |dz P=>obtain⟨q,clock,u,h2,h3,h4⟩:=this;simp only[AO.below,a02]at m;refine⟨q,clock,u,h2,h3,λi k v n=>?_⟩;obtain⟨e,a,b,c,d⟩:=h4 i k v n;exact⟨e,a,b.bh (IX m.1 (i:=i) (by simp[n])),c.bh (IX m.2 (i:=i) (by simp[n])),d⟩
 ·exact h.inj k G y I (f k y p).2 (f G I D).2 A B L
 ·obtain⟨a,K,c⟩:=j.fr b hb M;exact⟨λk y p A=>a k y (f k y p).2 A,K,c⟩
end
def IV(P:D)(o:H)(ρ:j9->W)(g:Gh)(O:St)(w:Q):Out->Prop|.ev v b=>∃c d,Goes g O w d b c/\((∃e,(j8 ρ o).run P w=.ok (.value e) c/\VR d v e)\/(v=.dT/\(j8 ρ o).run P w=.ok .skip c))|.fI f args b=>b=O/\∃a:T W,VRs g args a/\(j8 ρ o).run P w=(callFunc f ⟨a⟩).run P w
mutual
def vN(g:Gh):∀(v:W) (a:AV),iR v=J a->VR g a v
 |.bool b,a,h=>by grind [iR,VR]
 |.int k n,a,h=>by grind [iR,VR]
 |.string s,a,h=>by simp[iR]at h;subst h;exact .cU _
 |.pointer U,a,h=>by simp[iR]at h;subst h;exact .ep
 |.pointer (J _),a,h=>by simp[iR]at h
 |.slice U 0 0,a,h=>by simp[iR]at h;subst h;exact .cY
 |.slice U (_+1) _,a,h=>by simp[iR]at h
 |.slice U 0 (_+1),a,h=>by simp[iR]at h
 |.slice (J _) _ _,a,h=>by simp[iR]at h
 |.map U,a,h=>by grind [iR,VR]
 |.map (J _),a,h=>by simp[iR]at h
 |.func (.func f) ⟨[]⟩ ⟨[]⟩,a,h=>by simp[iR]at h;subst h;exact .dv _ _ _ _ _ .db .db
 |.func (.func f) ⟨_::_⟩ _,a,h=>by simp[iR]at h
 |.func (.func f) ⟨[]⟩ ⟨_::_⟩,a,h=>by simp[iR]at h
 |.func (.method _) _ _,a,h=>by simp[iR]at h
 |.func (.methodOf ..) _ _,a,h=>by simp[iR]at h
 |.func (.via ..) _ _,a,h=>by simp[iR]at h
 |.func (.yield _) _ _,a,h=>by simp[iR]at h
 |.nilFunc,a,h=>by grind [iR,VR]
 |.nilIface,a,h=>by grind [iR,VR]
 |.agg ⟨l⟩,a,h=>by simp only[iR,aB5]at h;obtain⟨c,d,rfl⟩:=h;exact .cX _ _ (Xw g l c d)
 |.tuple ⟨[]⟩,a,h=>by simp[iR]at h;subst h;exact .de _ _ .db
 |.tuple ⟨_::_⟩,a,h=>by simp[iR]at h
 |.float ..,a,h=>by simp[iR]at h
 |.complex ..,a,h=>by simp[iR]at h
 |.chan _,a,h=>by simp[iR]at h
 |.iface ..,a,h=>by simp[iR]at h
def Xw(g:Gh):∀(l:T W) (azs:LA),Qo l=J azs->VRs g azs l
 |[],azs,h=>by simp[Qo]at h;subst h;exact .db
 |v::l,azs,h=>by
  simp only[Qo]at h;split at h;·rename_i a b c h2;simp at h;subst h;exact .cV _ _ _ _ (vN g v a c) (Xw g l b h2)
  ·cases h
end
def VR.cP{g:Gh}{a:AV}{v:W}(h:VR g a v):VRs g a.cP v.cells.toList:=by cases h<;>first|assumption|exact .cV _ _ _ _ (by constructor<;>assumption) .db
def VR.bX{g:Gh}{a:AV}{v:W}(h:VR g a v):v.cells.size=z a.cP:=by have:=h.cP.I;simpa using this
def VR.ef{g:Gh}{a:AV}{v:W}(h:VR g a v)(hf:a.Q=eT):v.oneCell'=eT:=by cases h<;>first|rfl|(simp[AV.Q]at hf)
def VRs.ef{g:Gh}:∀{l:LA} {c:T W},VRs g l c->l.all AV.Q=eT->∀v∈c,v.oneCell'=eT
 |_,_,.db,_=>by simp
 |_,_,.cV a v l c x y,h=>by
  simp only[a08,a02]at h;intro u b;simp at b;rcases b with rfl|b;·exact x.ef h.1
  ·exact y.ef h.2 u b
def Cells(g:Gh)(w:Q)(l:LA)(b off:Y):Prop:=∃vs,VRs g l vs/\∀(j:Y) (v:W),vs[j]?=J v->w.cell? ⟨b,off+j,U⟩=J v
def CR.cP{g:Gh}{w:Q}{O:St}(d:WR g w O):∀{l:LA} {b off:Y},CR g l b off->Cells g w l b off
 |_,_,_,.db b off=>⟨[],.db,by simp⟩
 |_,_,_,.cV a v l b off x y z=>by
  obtain⟨vs,e,h2⟩:=CR.cP d z;refine⟨v::vs,.cV _ _ _ _ y e,λj u c=>?_⟩;cases j with
  |zero=>simp at c;subst c;simpa using d.im _ _ _ x|succ j=>grind
def Cells.cD{g:Gh}{w:Q}{l:LA}{b off:Y}(h:Cells g w l b off)(k:Y):Cells g w (l.take k) b off:=by obtain⟨vs,a,h2⟩:=h;refine⟨vs.take k,a.cD k,λj v hv=>?_⟩;grind
def Cells.cB{g:Gh}{w:Q}{l:LA}{b off:Y}(h:Cells g w l b off)(k:Y):Cells g w (l.drop k) b (off+k):=by obtain⟨vs,a,h2⟩:=h;refine⟨vs.drop k,a.cB k,λj v hv=>?_⟩;grind
def OR.cP{g:Gh}{w:Q}{o:Y}{l:LA}{fz:Fz}(h:OR g w o (.cP l fz)):Cells g w l (g.ob o) 0:=by
 obtain⟨c,e,fr,b,h2,h3,h4,h5,h6⟩:=h;refine⟨c.toList.take (z l),VRs.b6 (by simp;omega) λi a d=>?_,λj v hv=>?_⟩;·grind
 ·rw[aE3]at hv;split at hv;·rw[aC4,cell_of_heap b];simpa using hv
  ·cases hv
def Cells.cG{g:Gh}{w:Q}{l:LA}{b off:Y}(h:Cells g w l b off)(P:D):∃vs,VRs g l vs/\(loadCells ⟨b,off,U⟩ (z l)).run P w=.ok ⟨vs⟩ w:=by obtain⟨vs,a,h2⟩:=h;grind [a.I,run_loadCells_list,addr_add]
def Iy{P:D}{t:j0}{u:n}(h:P.underlying t=J u)(w:Q):(isAgg t).run P w=.ok (Fh u) w:=by cases u<;>simp[isAgg,Fh,w8 h]
def run_sizeOf{P:D}{t:j0}{i:K9}(h:P.info? t=J i)(w:Q):(s t).run P w=.ok i.size w:=by simp[s,k,h]
def JI{P:D}{t:j0}{i:K9}{z:W}(h:P.info? t=J i)(a:i.zero=J z)(w:Q):(zeroValue t).run P w=.ok z w:=by simp[zeroValue,k,h,a]
def ac8 {P:D} {g:Gh} {w:Q} {l:LA} {b off:Y} (h:Cells g w l b off) {t:j0} {u:n} {i:K9} (e:P.underlying t=J u) (hi:P.info? t=J i) {v:AV} (hv:pt (Fh u) i.size l=J v):
  ∃v',(loadVar t ⟨b,off,U⟩).run P w=.ok v' w/\VR g v v':=by
 unfold pt at hv;split at hv
 ·rename_i d;split at hv;·rename_i f;simp at hv;subst hv;obtain⟨vs,c,h2⟩:=(h.cD i.size).cG P;refine⟨.agg ⟨vs⟩,?_,.cX _ _ c⟩;rw[aD7,aJ3 f]at h2;simp[loadVar,Iy e,d,run_sizeOf hi,h2]
  ·cases hv
 ·rename_i d;cases l with
  |nil=>simp at hv
  |cons a l=>
   simp at hv;subst hv;obtain⟨vs,c,h2⟩:=h;cases c with
   |cV _ v' _ j x y=>refine⟨v',?_,x⟩;have:=h2 0 v' k9;simp[loadVar,Iy e,d,run_load,show w.cell? ⟨b,off,U⟩=J v' from by simpa using this]
def acu {P:D} {g:Gh} (w:Q) {l:LA} {c:T W} (h:VRs g l c) {t:j0} {u:n} {i:K9} (e:P.underlying t=J u) (hi:P.info? t=J i) (off:Y) {v:AV} (hv:pt (Fh u) i.size (l.drop off)=J v):
  ∃v',(part t ⟨c⟩ off).run P w=.ok v' w/\VR g v v':=by
 unfold pt at hv;have b:=h.cB off;split at hv
 ·rename_i d;split at hv;·rename_i j;simp at hv;subst hv;refine⟨.agg ⟨(c.drop off).take i.size⟩,?_,.cX _ _ (b.cD i.size)⟩;simp[part,Iy e,d,run_sizeOf hi]
  ·cases hv
 ·rename_i d;generalize j:l.drop off=l1 at hv b;cases l1 with
  |nil=>simp at hv
  |cons a l1=>
   simp at hv;subst hv;generalize f:c.drop off=k at b;cases b with
   |cV _ v' _ m x y=>
    refine⟨v',?_,x⟩;have:c[off]?=J v':=by have:=congrArg (λz:T W=>z[0]?) f;simpa using this
    simp[part,Iy e,d,this]
section
variable{P:Program}{g:Gh}{w:World}{O:St}
theorem xP:∀a b:LU,oU a b=(a==b)|[],[]=>k9|[],_::_=>k9|_::_,[]=>k9|a::x,b::y=>by simp[oU,xP x y]
def toList_mk(s:LU):(⟨⟨s⟩⟩:X1).toList=s:=by rw[Lib.toList_data]
def size_mk(s:LU):(⟨⟨s⟩⟩:X1).size=z s:=k9
def aoX(op:I)(a b:LU){v:AV}(h:uJ op a b=J v):∃v',(Op.stringOp op ⟨⟨a⟩⟩ ⟨⟨b⟩⟩).run P w=.ok v' w/\VR g v v':=by
 cases op<;>simp only[uJ]at h<;>simp only[Op.stringOp,toList_mk,xP]at h⊢<;>first|(cases h;done)|skip
 case add=>
  split at h;·cases h
  ·rename_i hs;cases h;refine⟨.string ⟨⟨a++b⟩⟩,?_,.cU _⟩;rw[Z1 (by simpa[IntKind.max,IntKind.signed,IntKind.bits,size_mk]using hs)];simp;apply ByteArray.ext;simp
 all_goals
  cases h;exact⟨_,k9,.cW _⟩
def ao6(op:I)(k:j)(a b:Int){v:AV}(h:vW op k a b=J v)(t:j0):∃v',(F op t (.int k a) (.int k b)).run P w=.ok v' w/\VR g v v':=by
 cases op<;>simp only[vW]at h<;>first
  |(cases h;done)|(cases h;exact⟨_,by simp[F,Op.intArith,Op.intBits,Op.intCmp];rfl,by constructor⟩)|(cases h;exact⟨_,by simp only[F,ne_eq,not_true,if_false];rfl,by constructor⟩)
  | (split at h
     ·cases h
     ·rename_i hb;cases h;exact⟨_,by simp[F,Op.intDiv,hb];rfl,by constructor⟩)
def ajg(op:I)(k d:j)(a b:Int){v:AV}(h:Ez op k a b=J v)(t:j0)(c:op=.shl\/op=.shr):∃v',(F op t (.int k a) (.int d b)).run P w=.ok v' w/\VR g v v':=by
 unfold Ez at h;split at h;·cases h
 ·rename_i hb;rcases c with rfl|rfl<;>(simp at h;subst h;exact⟨_,by simp[F,Op.shift,hb];rfl,by constructor⟩)
def aea {c:List Value} {j:List Value}:∀(fs:List Field) (i q:Nat) {x y:LA} {b:Bool},aeg P i fs=J q->ny q x y=J b->fs.length=x.length->VRs g x (c.drop i)->VRs g y (j.drop i)->∀d w,
  (J2 (d+1) ⟨c⟩ ⟨j⟩ fs).run P w=.ok b w
 |[],i,q,x,y,b,_,e,A,l,n,d,w=>by
  cases x with
  |nil=>cases y with|nil=>simp[ny]at e;subst e;simp[J2]|cons _ _=>simp[ny]at e
  |cons _ _=>simp at A
 |f::fs,i,q,x,y,b,hf,e,A,l,n,d,w=>by
  rw[aeg]at hf;by_cases t:(f.name != "_"&&f.offset==i)=eT
  case neg=>rw[Z1 t]at hf;cases hf
  rw[K4 t]at hf;simp only[a02,bne_iff_ne,ne_eq,beq_iff_eq]at t;obtain⟨Q,h2⟩:=t;cases x with
  |nil=>simp at A
  |cons a x=>
   cases y with
   |nil=>cases a<;>simp[ny]at e
   |cons a' y=>
    generalize L:c.drop i=ci at l;generalize p:j.drop i=O at n;cases l with
    |cV _ v _ cr Z l=>
     cases n with
     |cV _ B _ C K n=>
      have e1:c[i]?=J v:=by have:=congrArg (λz:List Value=>z[0]?) L;simpa using this
      have D:j[i]?=J B:=by have:=congrArg (λz:List Value=>z[0]?) p;simpa using this
      have e2:c.drop (i+1)=cr:=by rw[<-aK1,L];rfl
      have E:j.drop (i+1)=C:=by rw[<-aK1,p];rfl
      rw[<-e2]at l;rw[<-E]at n;have X:∀(u:TypeDesc),P.underlying f.type=J u->Fh u=eF->(part f.type ⟨c⟩ f.offset).run P w=.ok v w:=λu h k=>by simp[part,Iy h,k,h2,e1]
      have Y:∀(u:TypeDesc),P.underlying f.type=J u->Fh u=eF->(part f.type ⟨j⟩ f.offset).run P w=.ok B w:=λu h k=>by simp[part,Iy h,k,h2,D]
      have F:fs.length=x.length:=(by simpa using A);cases h:P.underlying f.type with
      |none=>rw[h]at hf;cases hf
      |some u=>
       rw[h]at hf;cases G:aeg P (i+1) fs with
       |none=>rw[G]at hf;cases u<;>cases hf
       |some o=>
        rw[G]at hf;have step:∀cB I:Bool,(Z3 (d+1) f.type v B).run P w=.ok cB w->ny o x y=J I->Fh u=eF->(J2 (d+1) ⟨c⟩ ⟨j⟩ (f::fs)).run P w=.ok (cB&&I) w:=λcB I hr H k=>by
         have S:=aea fs (i+1) o G H F l n d w;rw[J2];simp only[ne_eq,Q,not_false_eq_true,if_true,j6,X u h k,Y u h k,hr,w9];cases cB;·simp
         ·simp[S]
        have done:∀(z:Bool) (m:Nat),m<3->(if(3*o+m)%3=m then(ny ((3*o+m)/3) x y).map (z&& ·)else U)=J b->(Z3 (d+1) f.type v B).run P w=.ok z w->Fh u=eF->(J2 (d+1) ⟨c⟩ ⟨j⟩ (f::fs)).run P w=.ok b w:=λz m hm e hr k=>by rw[K4 (by omega),show(3*o+m)/3=o from by omega]at e;grind [aB5]
        cases u<;>simp only[a07,reduceCtorEq]at hf;all_goals (subst hf;cases Z<;>first|(simp[ny]at e;done)|skip)
        all_goals cases K<;>first|(simp[ny]at e;done)|skip
        all_goals first
         |(rename_i s N;simp only[ny]at e;exact done _ 0 (by omega) e (by rw[run_equalIn_string w d f.type _ _ h,toList_mk,toList_mk,xP]) k9)|(rename_i s N;simp only[ny]at e;exact done _ 1 (by omega) e (run_equalIn_bool w d f.type s N h) k9)|(simp only[ny]at e;split at e; · omega; · cases e)|skip
        rename_i T M n1 V W;simp only[ny]at e;by_cases R:M=V;·subst R;simp only[and_true]at e;exact done _ 2 (by omega) e (run_equalIn_int w d f.type M T n1 W h) k9
        grind
def ae9 (t:j0):∀{k:Y},LC P t=k->match k with|1=>P.underlying t=J .bool|n+8=>∃fs,P.underlying t=J (.struct fs)/\aeg P 0 fs.toList=J (n/1024)/\P.stoodInHeld t=eF/\P.eqGuardType P.depth t=eF/\fs.size=n%1024|3=>∃e i,P.underlying t=J (.pointer e)/\P.info? e=J i/\i.size≠0|4=>∃a b c,P.underlying t=J (.func a b c)|5=>∃m,P.underlying t=J (.interface m)|6=>∃a b,P.underlying t=J (.map a b)|7=>∃e,P.underlying t=J (.slice e)|_=>True:=by intro k h;subst h;unfold LC;grind
mutual
theorem abl:∀{a e:AV} {v:W},VR g a v->VR g e v->diff a e=eF
 |.cW a,e,v,h,d=>by cases h;cases d;simp[diff]
 |.cQ k a,e,v,h,d=>by cases h;cases d;simp[diff]
 |.cU a,e,v,h,d=>by cases h;cases d;simp[diff,xP]
 |.sl n l,e,v,h,d=>by
  cases h with
  |ia=>cases d<;>simp[diff,yM]|gA a cap=>cases d<;>simp[diff,yM]
  |sl _ _ b off cap c q=>
   cases d with
   |fS=>simp[diff]|gA=>cases l<;>simp[diff,yM]|sl _ p _ _ _ f i=>simp[diff];exact PV c f|eB=>simp[diff]|dj=>simp[diff]
 |.cX l,e,v,h,d=>by
  cases h with
  |cX _ p j=>cases d with|cX m _ o=>simp[diff];exact Wq j o
 |.ep,e,v,h,d=>by simp[diff]
 |.da _ _,e,v,h,d=>by simp[diff]
 |.ec _,e,v,h,d=>by simp[diff]
 |.cY,e,v,h,d=>by cases h;cases d<;>simp[diff]
 |.fS,e,v,h,d=>by simp[diff]
 |.eB _ _,e,v,h,d=>by simp[diff]
 |.dj _ _ _ _,e,v,h,d=>by simp[diff]
 |.dz _,e,v,h,d=>by simp[diff]
 |.eE,e,v,h,d=>by simp[diff]
 |.dv _ _ _,e,v,h,d=>by simp[diff]
 |.eo,e,v,h,d=>by simp[diff]
 |.dx _ _,e,v,h,d=>by simp[diff]
 |.eb,e,v,h,d=>by simp[diff]
 |.de _,e,v,h,d=>by simp[diff]
theorem PV:∀{l m:LA} {b off:Y},CR g l b off->CR g m b off->yM l m=eF
 |[],_,_,_,_,_=>by simp[yM]
 |_::_,[],_,_,_,_=>by simp[yM]
 |a::l,i::m,b,off,h,d=>by
  cases h with
  |cV _ v _ _ _ x y z=>cases d with|cV _ j _ _ _ c e f=>rw[x]at c;cases c;simp only[yM,aH5];exact⟨abl y e,PV z f⟩
theorem Wq:∀{l m:LA} {vs:T W},VRs g l vs->VRs g m vs->yM l m=eF
 |[],_,_,_,_=>by simp[yM]
 |_::_,[],_,_,_=>by simp[yM]
 |a::l,e::m,_,h,b=>by
  cases h with
  |cV _ v _ _ y z=>cases b with|cV _ _ _ _ c d=>simp only[yM,aH5];exact⟨abl y c,Wq z d⟩
end
def X0{w:Q}{b:Y}(d:∀i v,g.im b i=J v->∃c e fr,w.heap[b]?=J (.cells c e fr)/\(fr=(0,0)\/∃n,v=.int .u8 n)){l:LA}{off:Y}(j:CR g l b off)(h:QP l=eT):∃c e,w.heap[b]?=J (.cells c e (0,0)):=by
 unfold QP at h;rw[aJ7]at h;obtain⟨a,f,hb⟩:=h;obtain⟨i,hi,rfl⟩:=List.getElem_of_mem f;obtain⟨v,hv,hr⟩:=j.cd (i:=i) (a01 hi);obtain⟨c,e,fr,k,m⟩:=d _ _ hv;rcases m with rfl|⟨n,rfl⟩;·exact⟨c,e,k⟩
 ·exfalso;generalize l[i]=a at hr hb;cases hr;simp[isByte]at hb
def abZ{w:Q}(a:∀b i v,g.im b i=J v->(g.pl b=eF/\atV (g.im b))\/∃c e fr,w.heap[b]?=J (.cells c e fr)/\(fr=(0,0)\/∃n,v=.int .u8 n)){l:LA}{b off:Y}(f:CR g l b off)(h:headB l=eT\/∀b,g.pl b=eT):∀i v,g.im b i=J v->∃c e fr,w.heap[b]?=J (.cells c e fr)/\(fr=(0,0)\/∃n,v=.int .u8 n):=by
 intro i v hv;rcases a b i v hv with⟨d,h2⟩|h3
 ·exfalso;rcases h with h|h
  ·unfold headB at h;split at h
   ·cases f with
    |cV _ v _ _ _ x y z=>
     cases y;cases z with
     |cV _ m _ _ _ j k o=>cases k;exact h2 _ _ _ x j
   ·cases h
  ·rw[h b]at d;cases d
 ·exact h3
def ahX(t:j0)(D:Bool)(x y:AV){b:Bool}(h:eqA (LC P t) D x y=J b){M N:Value}(j:VR g x M)(o:VR g y N)(w:World)(A:∀b i v,g.im b i=J v->(g.pl b=eF/\atV (g.im b))\/∃c e fr,w.heap[b]?=J (.cells c e fr)/\(fr=(0,0)\/∃n,v=.int .u8 n))(u:akW x y=eT->∀b,g.pl b=eT)(d:Nat)(E:0<d):(Z3 (d+1) t M N).run P w=.ok b w:=by
 obtain⟨d,rfl⟩:∃Q,d=Q+1:=⟨d-1,by omega⟩;have a:=ae9 (P:=P) t k9;unfold eqA at h;generalize LC P t=k at h a
 match k,h,a with
 |1,h,a=>grind [run_equalIn_bool',VR]
 |3,h,a=>
  obtain⟨e,ti,f,H,G⟩:=a;simp only[dW]at h;by_cases p:∃l m,x=.ec l/\y=.ec m
  ·obtain⟨l,m,rfl,rfl⟩:=p;simp at h;obtain⟨E,rfl⟩:=h;have K:(headB l=eT/\headB m=eT)\/∀b,g.pl b=eT:=by
    cases R:headB l with
    |false=>exact .inr (u (by simp[akW,R]))|true=>cases h2:headB m with|false=>exact .inr (u (by simp[akW,h2]))|true=>exact .inl ⟨k9,k9⟩
   cases j with
   |ec _ b1 B c=>
    cases o with
    |ec _ O C I=>have F:(⟨b1,B,U⟩:Addr)≠⟨O,C,U⟩:=(by grind [PV]);obtain⟨X,t1,V⟩:=X0 (abZ A c (K.imp (λq=>q.1) id)) c E.2.1;obtain⟨Y,t2,W⟩:=X0 (abZ A I (K.imp (λq=>q.2) id)) I E.2.2;rw[Z3,j6,w8 f,w9];simp[sizeOf,typeInfo,H,G,run_sameAddr_other w F V W]
  ·cases j<;>first|(simp at h;done)|skip
   all_goals (cases o<;>simp at h)
   all_goals first|(subst h;rw[Z3,j6,w8 f,w9];rfl)|exact absurd ⟨_,_,k9,k9⟩ p
 |4,h,a=>
  obtain⟨_,_,_,f⟩:=a;simp only[dW]at h;cases j<;>first|(simp at h;done)|skip
  all_goals (cases o<;>simp at h)
  all_goals (subst h;rw[Z3,j6,w8 f,w9];rfl)
 |5,h,a=>
  obtain⟨_,f⟩:=a;simp only[dW]at h;cases j<;>first|(simp at h;done)|skip
  all_goals (cases o<;>simp at h)
  all_goals first
   |(subst h;rw[Z3,j6,w8 f,w9];rfl)|(rw[h.2];rw[Z3,j6,w8 f,w9];rfl)
 |6,h,a=>
  obtain⟨_,_,f⟩:=a;simp only[dW]at h;cases j<;>first|(simp at h;done)|skip
  all_goals (cases o<;>simp at h)
  all_goals (subst h;rw[Z3,j6,w8 f,w9];rfl)
 |7,h,a=>
  obtain⟨_,f⟩:=a;simp only[dW]at h;cases j<;>first|(simp at h;done)|skip
  all_goals (cases o<;>simp at h)
  all_goals first
   |(subst h;rw[Z3,j6,w8 f,w9];rfl)|(rw[h.2];rw[Z3,j6,w8 f,w9];rfl)
 |0,h,_=>simp[dW]at h|2,h,_=>simp[dW]at h
 |n+8,h,a=>
  obtain⟨fs,f,hf,hs,hq,Z⟩:=a;have s:P.fieldsOf t=fs:=(by simp[Program.fieldsOf,f]);cases j with
  |cX l l' S=>
   cases o with
   |cX m m' T=>simp at h;obtain⟨L,h⟩:=h;rw[run_equalIn_struct w _ t _ _ (by rw[s];exact f) hs,s];exact aea fs.toList 0 _ hf h (by simp;omega) (by simpa using S) (by simpa using T) _ w
   |_=>simp at h
  |_=>simp at h
end
section
variable{P:Program}{g:Gh}{w:World}{O:St}
structure atQ(P:Program)(t:TypeId)(x y:Operand)(a b:Value):Prop where
 pe:Go.binOp .eql t a b=(do pure (.bool (<-Op.equal t a b)))
 pj:Go.binOp .neq t a b=(do pure (.bool (!(<-Op.equal t a b))))
 bm:∀op w,(eqGuard op t x y a b).run P w=.ok () w
def xW(op:I)(t:j0)(x y:j9)(a b:W)(h:(match a,b with|.nilIface,.nilIface=>eF|.agg _,.agg _=>eF|_,_=>eT)=eT)(w:Q):(eqGuard op t x y a b).run P w=.ok () w:=by unfold eqGuard;cases op<;>simp<;>(split<;>first|(simp;done)|(exfalso;simp at h;done))
def ahW(t:j0)(x y:j9)(f i:AV){b:V}(h:eqA (LC P t) (isC x||isC y) f i=J b){j o:W}(c:VR g f j)(d:VR g i o):atQ P t x y j o:=by
 have a:=ae9 (P:=P) t k9;unfold eqA at h;generalize LC P t=k at h a
 match k,h,a with
 |1,h,a=>
  cases c<;>first|(simp at h;done)|skip
  cases d<;>simp at h;exact⟨k9,k9,λop w=>xW op t x y _ _ k9 w⟩
 |3,h,a=>
  simp only[dW]at h;cases c<;>first|(simp at h;done)|skip
  all_goals (cases d<;>simp at h)
  all_goals exact⟨k9,k9,λop w=>xW op t x y _ _ k9 w⟩
 |4,h,a=>
  simp only[dW]at h;cases c<;>first|(simp at h;done)|skip
  all_goals (cases d<;>simp at h)
  all_goals exact⟨k9,k9,λop w=>xW op t x y _ _ k9 w⟩
 |5,h,a=>
  simp only[dW]at h;cases c<;>first|(simp at h;done)|skip
  all_goals (cases d<;>simp at h)
  all_goals first
   |exact⟨k9,k9,λop w=>xW op t x y _ _ k9 w⟩|skip
  refine⟨k9,k9,λop w=>?_⟩;have e:=h.1;unfold eqGuard;have p:((match x with|.const _=>eT|_=>eF)||(match y with|.const _=>eT|_=>eF))=eT:=by
   rcases e with e|e;·cases x<;>simp[isC]at e;rfl
   ·cases y<;>simp[isC]at e;simp
  cases op<;>simp<;>(grind)
 |6,h,a=>
  simp only[dW]at h;cases c<;>first|(simp at h;done)|skip
  all_goals (cases d<;>simp at h)
  all_goals exact⟨k9,k9,λop w=>xW op t x y _ _ k9 w⟩
 |7,h,a=>
  simp only[dW]at h;cases c<;>first|(simp at h;done)|skip
  all_goals (cases d<;>simp at h)
  all_goals exact⟨k9,k9,λop w=>xW op t x y _ _ k9 w⟩
 |0,h,_=>simp[dW]at h|2,h,_=>simp[dW]at h
 |n+8,h,a=>
  obtain⟨fs,A,hf,hs,q,v⟩:=a;cases c with
  |cX l B s=>
   cases d with
   |cX m C u=>refine⟨k9,k9,λop w=>?_⟩;unfold eqGuard;cases op<;>simp[q]|_=>simp at h
  |_=>simp at h
def anF (op:I) (t:j0) (x y:j9) (d f:AV) {v:AV} (h:binOp op (LC P t) (isC x||isC y) d f=J v) {q s:W} (o:VR g d q) (j:VR g f s) (m:∀b i v,g.im b i=J v->(g.pl b=eF/\atV (g.im b))\/∃c e fr,w.heap[b]?=J (.cells c e fr)/\(fr=(0,0)\/∃n,v=.int .u8 n)) (l:akW d f=eT->∀b,g.pl b=eT):
  ∃v',(eqGuard op t x y q s>>=λ_=>F op t q s).run P w=.ok v' w/\VR g v v':=by
 have other:∀{v:AV},zQ op (eqA (LC P t) (isC x||isC y) d f)=J v->
   ∃v',(eqGuard op t x y q s>>=λ_=>F op t q s).run P w=.ok v' w/\VR g v v':=by
  intro v h;cases op<;>simp only[zQ,aB5]at h<;>first|(cases h;done)|skip
  ·obtain⟨b,hb,rfl⟩:=h;have p:=ahW t x y d f hb o j;refine⟨.bool b,?_,.cW b⟩;rw[j6,p.bm,w9,p.pe];simp only[j6,Op.equal,Op.maxDepth];rw[show(10000:Y)=9999+1 from k9,ahX t _ d f hb o j w m l 9999 (by omega)];rfl
  ·obtain⟨b,hb,rfl⟩:=h;have p:=ahW t x y d f hb o j;refine⟨.bool !b,?_,.cW _⟩;rw[j6,p.bm,w9,p.pj];simp only[j6,Op.equal,Op.maxDepth];rw[show(10000:Y)=9999+1 from k9,ahX t _ d f hb o j w m l 9999 (by omega)];rfl
 cases o with
 |cQ k a=>
  cases j with
  |cQ A b=>
   rw[j6,xW op t x y _ _ k9 w,w9];by_cases hs:op=.shl\/op=.shr;·refine ajg op k A a b ?_ t hs;rcases hs with rfl|rfl<;>exact h
   ·have u:(if k=A then vW op k a b else U)=J v:=by cases op<;>first|exact h|(exact L (.inl k9) hs)|(exact L (.inr k9) hs)
    split at u;·rename_i B;subst B;exact ao6 op k a b u t
    ·cases u
  |_=>exact other h
 |cU a=>
  cases j with
  |cU b=>rw[j6,xW op t x y _ _ k9 w,w9];have e:F op t (.string ⟨⟨a⟩⟩) (.string ⟨⟨b⟩⟩)=Op.stringOp op ⟨⟨a⟩⟩ ⟨⟨b⟩⟩:=(by cases op<;>rfl);rw[e];exact aoX op a b h|_=>exact other h
 |_=>exact other h
def atr(op:UnOp)(x:AV){v:AV}(h:unOp op x=J v){b:W}(a:VR g x b):∃v',(Op.unary op b).run P w=.ok v' w/\VR g v v':=by
 unfold unOp at h;split at h;·cases a;cases h;exact⟨_,k9,.cQ _ _⟩
 ·cases a;simp only[vW]at h;cases h;exact⟨_,k9,.cQ _ _⟩
 ·cases a;cases h;exact⟨_,k9,.cW _⟩
 ·cases h
def LW(l:LA)(off:Y)(v:LA)(h:off+z v<=z l):z (splice l off v)=z l:=by simp[splice];omega
def ali(l:LA)(off:Y)(v:LA)(h:off+z v<=z l)(i:Y):(splice l off v)[i]?=if off<=i/\i<off+z v then v[i-off]? else l[i]?:=by unfold splice;rw[aB2,aF4];grind
def acT {l:LA} {c:j7 W} {off:Y} {v:LA} {v':T W} (d:∀(i:Y) (x:AV),l[i]?=J x->∃u,c[i]?=J u/\VR g x u) (hv:VRs g v v') (h:off+z v<=z l) (b:z l<=c.size):
  ∀(i:Y) (x:AV),(splice l off v)[i]?=J x->∃u,(Qw c off v')[i]?=J u/\VR g x u:=by
 intro i x a;rw[ali l off v h]at a;rw[MV v' c off (by rw[hv.I];omega),hv.I];split at a;·rename_i hi;rw[K4 hi];exact hv.cd a
 grind
def N8 (place:Y->X (Y×Y)) {C:Ctx} {e:Env} {ρ:j9->W} (j:∀x a,cA x=J a->VR g (av C e a) (ρ x)):
  ∀(t:T (Y×j9)) (w:T (Y×Y×XA)),UM place t=J w->∀(l:LA) (c:j7 W) (N:LA),VRs g l c.toList->EN l (w.map λ(o,s,x)=>(o,s,av C e x))=J N->
   ∃m,Instr.fill place c (t.map λ(i,x)=>(i,ρ x))=J m/\VRs g N m.toList
 |[],w,f,l,c,N,n,hr=>by simp[UM]at f;subst f;simp[EN]at hr;subst hr;exact⟨c,k9,n⟩
 |(i,x)::t,w,f,l,c,N,n,hr=>by
  simp only[UM]at f;split at f
  ·rename_i off K a A E h2 h3;simp at f;subst f;simp only[aC9,EN]at hr;split at hr
   ·rename_i H;have q:=j x a h2;have B:=q.cP;have F:=q.bX;have d:=n.I;simp only[aK5]at d;have D:∀(vs:T W) (k:Y) (c:j7 W),off+k+z vs<=c.size->((vs.zipIdx k).foldl (λcs (p:W×Y)=>cs.setIfInBounds (off+p.2) p.1) c)=Qw c (off+k) vs:=by
     intro vs
     induction vs with
     |nil=>intro k c _;rfl|cons v vs I=>grind [List.zipIdx_cons,Qw]
    have h:VRs g (splice l off (av C e a).cP) (Qw c off (ρ x).cells.toList).toList:=by have hb:off+(av C e a).cP.length<=z l:=(by omega);refine VRs.b6 (by rw[LW _ _ _ hb,aK5,xG,d]) λi y G=>?_;obtain⟨u,h5,h6⟩:=acT (c:=c) (λi x q=>by obtain⟨u,a,b⟩:=n.cd q;exact⟨u,by simpa using a,b⟩) B hb (by omega) i y G;exact⟨u,by simpa using h5,h6⟩
    obtain⟨m,h7,h8⟩:=N8 place j t A h3 _ (Qw c off (ρ x).cells.toList) N h hr;refine⟨m,?_,h8⟩;simp only[aC9,Instr.fill,E];rw[Z1 (by simp;omega)];rw[<-h7];congr 1;rw[<-Array.foldl_toList,Array.toList_zipIdx];grind
   ·cases hr
  ·cases f
def agG{z:LA}{a:T W}(h:VRs g z a):∀n,VRs g (rep z n) (K7 n a).flatten
 |0=>by simp[rep];exact .db
 |n+1=>by rw[rep,List.replicate_succ,aF6];exact h.cM (agG h n)
def aeW(z:j7 W)(n:Y)(b:0<z.size):((Array.range (n*z.size)).map (z[· %z.size]!)).toList=(K7 n z.toList).flatten:=by
 induction n with
 |zero=>simp
 |succ n a=>
  rw[List.replicate_succ',List.flatten_append,<-a];simp only[Array.toList_map,Array.toList_range,aF6,List.flatten_nil,aB3];rw[show(n+1)*z.size=n*z.size+z.size by rw[aJ5,Nat.one_mul],List.range_add,List.map_append,List.map_map];congr 1;apply aD6;intro i;by_cases hi:i<z.size;·have e:(n*z.size+i)%z.size=i:=(by rw[Nat.mul_comm,Nat.mul_add_mod,Nat.mod_eq_of_lt hi]);simp[hi,e]
  ·simp[hi]
end
section
variable{P:Program}{g:Gh}{w:World}{O:St}
def ad5{P:D}{e t:j0}{x y:V}(h:ad4 P e x=J (t,y)):e=t/\x=y:=by grind [ad4]
def BL (h:WR g w O) (e:j0) (fz:Fz) {l:LA} {c:j7 W} (d:∀t x,fz.t=J (t,x)->e=t/\(x=eT->c.size=z l)) (f:∀(i:Y) (x:AV),l[i]?=J x->∃v,c[i]?=J v/\VR g x v) (hs:z l<=c.size):
  Goes g O w (g.ac w.heap.size c.size) (O++[.cP l fz]) (Bo w (.cells c e)):=by
 refine abS h _ _ _ ⟨c,e,(0,0),?_,?_,hs,λi x j=>?_,⟨k9,d⟩,λi v hv=>?_⟩;·simp only[Gh.ac,if_true];exact Fv w _
 ·simp[Gh.ac]
 ·obtain⟨v,a,b⟩:=f i x j;exact⟨v,a,b.D (g.ce _ _)⟩
 ·exfalso;simp only[Gh.ac,if_true]at hv;have:=h.cK hv;omega
def VRs.hS{l:LA}{c:j7 W}(h:VRs g l c.toList)(i:Y)(x:AV)(d:l[i]?=J x):∃v,c[i]?=J v/\VR g x v:=by obtain⟨v,a,b⟩:=h.cd d;exact⟨v,by simpa using a,b⟩
def ary(h:WR g w O)(s:Y):VR (g.ac w.heap.size s) (.da (z O) 0) (.pointer (J ⟨w.heap.size,0,U⟩)):=by have:=VR.da (g:=g.ac w.heap.size s) (z O) 0 (by simp[Gh.ac,h.n]);simpa[Gh.ac,h.n]using this
def JQ{t:j0}{z:AV}(h:JP P t=J z):∃i v,P.info? t=J i/\i.zero=J v/\iR v=J z:=by grind [JP,a04]
def run_places (fs:j7 Field) (h:(fs.toList.all λf=>(P.info? f.type).isSome)=eT) (w:Q):
  (fs.mapM (m:=Sem) λf=>do B (f.offset,<-s f.type)).run P w=.ok (fs.map λf=>(f.offset,((P.info? f.type).map (·.size)).getD 0)) w:=by
 obtain⟨l⟩:=fs;rw[<-Array.toArray_toList (xs:=(⟨l⟩:j7 Field)),List.mapM_toArray];simp only[Sem.run_map];have a:∀f∈l,(P.info? f.type).isSome=eT:=by simpa using h
 have key:∀l:T Field,(∀f∈l,(P.info? f.type).isSome=eT)->(l.mapM (m:=Sem) λf=>do B (f.offset,<-s f.type)).run P w=.ok (l.map λf=>(f.offset,((P.info? f.type).map (·.size)).getD 0)) w:=by
  intro l
  induction l with
  |nil=>intro _;rfl|cons f l b=>intro a;obtain⟨i,hi⟩:=aE5.1 (a f (by simp));have:=b (λf hf=>a f (by simp[hf]));simp only[List.mapM_cons,j6,run_sizeOf hi,w9,K0,this,aC9,hi,aC5,aG9]
 rw[key l a];simp
def V9{C:Ctx}{e:Env}{ρ:j9->W}(b:∀x a,cA x=J a->VR g (av C e a) (ρ x)):∀(l:T j9) (azs:T XA),cAs l=J azs->VRs g (azs.map (av C e)) (l.map ρ)
 |[],azs,h=>by simp[cAs]at h;subst h;exact .db
 |x::l,azs,h=>by
  simp only[cAs]at h;split at h;·rename_i a c d h2;simp at h;subst h;exact .cV _ _ _ _ (b x a d) (V9 b l c h2)
  ·cases h
def Vp (h:WR g w O) {sz n:Y} {a:AV} {l:LA} (hs:jU O sz a=J (n,l)) {v:W} (hv:VR g a v):
  l.length=n*sz/\((n=0/\∃cap,v=.slice U 0 cap)\/(n=0/\∃a cap,v=.slice (J a) 0 cap)\/∃b off cap,v=.slice (J ⟨b,off,U⟩) n cap/\Cells g w l b off):=by
 cases hv<;>simp only[jU]at hs<;>first|(cases hs;done)|skip
 case cY=>grind
 case fS a cap=>grind
 case ia=>grind
 case gA a cap=>grind
 case sl m d b off cap c f=>
  split at hs;·simp at hs;obtain⟨rfl,rfl⟩:=hs;exact⟨‹_›,.inr (.inr ⟨b,off,cap,k9,c.cP h⟩)⟩
  ·cases hs
 case eB m d b off c=>
  split at hs;·simp at hs;obtain⟨rfl,rfl⟩:=hs;exact⟨‹_›,.inr (.inr ⟨b,off,_,k9,c.cP h⟩)⟩
  ·cases hs
 case dj o off m s cap p k hb=>
  split at hs
  ·rename_i d i e;split at hs;·rename_i j;simp at hs;obtain⟨rfl,rfl⟩:=hs;refine⟨by simp;omega,.inr (.inr ⟨_,_,_,k9,?_⟩)⟩;have:=((h.bA o _ e).cP.cB off).cD (m*sz);simpa using this
   ·cases hs
  ·cases hs
def ZL(s:LU):VRs g (ofBytes s) (byteCells ⟨⟨s⟩⟩):=by unfold ofBytes byteCells;exact VRs.dz (λb=>.cQ .u8 _) s
def ayk (h:WR g w O) {sz n:Y} {a:AV} {l:LA} (hs:lJ O sz a=J (n,l)) {v:W} (hv:VR g a v) (hf:l.all AV.Q=eT) (tx:j0)
  (d:(∃m,P.underlying tx=J (.slice m))/\(∀s,a≠ .cU s)\/P.underlying tx=J .string/\∃s,a=.cU s):∃c,VRs g l c/\Src P sz tx v n c w:=by
 rcases d with⟨⟨m,d⟩,i⟩|⟨d,s,rfl⟩
 ·have k:jU O sz a=J (n,l):=by cases a<;>first|exact hs|(exact L k9 (i _))
  obtain⟨f,p⟩:=Vp h k hv;rcases p with⟨rfl,cap,rfl⟩|⟨rfl,o,cap,rfl⟩|⟨b,off,cap,rfl,vs,e,h2⟩;·have:l=[]:=aB7 (by omega);subst this;exact⟨[],.db,Src.ofNil w d cap⟩
  ·have:l=[]:=aB7 (by omega);subst this;exact⟨[],.db,Src.ofSlice w d o 0 cap [] (by simp) (by simp) (by simp)⟩
  ·exact⟨vs,e,Src.ofSlice w d ⟨b,off,U⟩ n cap vs (by rw[e.I,f]) (λj u q=>by rw[addr_add];exact h2 j u q) (e.ef hf)⟩
 ·cases hv;simp only[lJ]at hs;split at hs;·rename_i e;simp at hs;obtain⟨rfl,rfl⟩:=hs;subst e;exact⟨_,ZL s,Src.ofString w d _⟩
  ·cases hs
end
section
variable{P:Program}{g:Gh}{w:World}{O:St}
theorem aep(n:Y):∀(d c:Y),c<n->a n d c<=2*n+1024
 |0,c,h=>by simp[a];omega
 |d+1,c,h=>by
  simp only[a];split;·omega
  ·by_cases h2:c+(c+768)/4<n;·exact aep n d _ h2
   ·cases d with|zero=>simp[a];omega|succ d=>simp only[a];rw[K4 (by omega)];omega
def ax4(a old:Y)(h:old<a):d a old<=2*a+1024:=by grind [d,aep]
def ag4{a old bytes:Y}(h:old<a)(hb:a*bytes<=70368744177664)(c:bytes<=1048576):d a old*bytes<=281474976710656:=by have b:=ax4 a old h;have h2:d a old*bytes<=(2*a+1024)*bytes:=aG4 _ b;grind
theorem Yi(w:Q)(a old:Y)(e:j0):a<=Z6 w a old e:=by unfold Z6;simp[Question.cut]
def Si (h:WR g w O) (e:j0) (fz:Fz) (j:∀t x,fz.t=J (t,x)->e=t/\x=eF) {l m:LA} {olds d:T W} (u:VRs g l olds) (y:VRs g m d) (f:j7 W) (n sz cap:Y) (A:n<=cap) (q:z (l++m)+f.size=cap*sz):
  ∃g',Goes g O w g' (O++[.cP (l++m) fz]) (Bo w.drew (.cells ((olds++d).toArray++f) e))/\VR g' (.dj (z O) 0 n sz) (.slice (J ⟨w.heap.size,0,U⟩) n cap):=by
 have p:=Goes.hm h (w.drawn+1);have B:WR g w.drew O:=p.wr;have hr:=u.cM y;have o:=BL B e fz (l:=l++m) (c:=(olds++d).toArray++f) (λt x s=>⟨(j t x s).1,λk=>by rw[(j t x s).2]at k;cases k⟩) (λi x k=>by
  obtain⟨v,a,b⟩:=hr.cd k;grind) (by grind [hr.I])
 refine⟨_,p.N o,?_⟩;have:=VR.dj (g:=g.ac w.heap.size ((olds++d).toArray++f).size) (z O) 0 n sz cap (by simp[Gh.ac,h.n]) A (by
  grind [hr.I,Gh.ac,h.n])
 simpa[Gh.ac,h.n]using this
def adk(z:j7 W)(n:Y):(Z0 z n).size=n*z.size:=by simp[Z0]
def anB (h:WR g w O) (t tx H e:j0) (i:K9) (z:Value) (I:P.underlying t=J (.slice e)) (hi:P.info? e=J i) (hz:i.zero=J z) (aw:z.cells.size=i.size) (T:i.bytes<=1048576) {tg:Option (j0×Bool)} (X:∀S x,tg=J (S,x)->e=S/\x=eF) {azs ax:AV} {s x:Value} (hs:VR g azs s) (B:VR g ax x)
  {m:Nat} {cs:LA} (an:lJ O i.size ax=J (m,cs)) (hf:cs.all AV.Q=eT)
  (R:(∃e',P.underlying tx=J (.slice e'))/\(∀s,ax≠ .cU s)\/P.underlying tx=J .string/\∃s,ax=.cU s)
  {v:AV} {O':St} (f:uD O i.size i.bytes tg azs m cs=J (v,O')):
  ∃v' w' g',(Builtin.append_ #[t,tx] H #[s,x]).run P w=.ok v' w'/\VR g' v v'/\Goes g O w g' O' w':=by
 obtain⟨d,p,F⟩:=ayk (P:=P) h an B hf tx R;have ab:d.length=m*i.size:=F.newsLen;unfold uD at f;split at f
 ·rename_i af;subst af;have ah:d=[]:=aB7 (by omega);subst ah;cases hs<;>simp at f<;>obtain⟨rfl,rfl⟩:=f;·exact⟨_,_,g,X2 w t tx H e i I hi U 0 0 (a09 _) x F,.cY,.ax h⟩
  ·rename_i a cap;exact⟨_,_,g,X2 w t tx H e i I hi (J a) 0 cap (a97 _) x F,.fS a cap,.ax h⟩
  ·exact⟨_,_,g,X2 w t tx H e i I hi U 0 0 (a09 _) x F,.ia,.ax h⟩
  ·rename_i a cap;exact⟨_,_,g,X2 w t tx H e i I hi (J a) 0 cap (a97 _) x F,.gA a cap,.ax h⟩
  ·rename_i n l b off cap V ad;exact⟨_,_,g,X2 w t tx H e i I hi _ n cap ad x F,.sl n l b off cap V ad,.ax h⟩
  ·rename_i n l b off V;exact⟨_,_,g,X2 w t tx H e i I hi _ n n (a09 _) x F,.eB n l b off V,.ax h⟩
  ·rename_i o off n sz cap ho hn hb;exact⟨_,_,g,X2 w t tx H e i I hi _ n cap hn x F,.dj o off n sz cap ho hn hb,.ax h⟩
 ·rename_i af;have G:∀(n L:Nat) (l:LA),l.length=n*i.size->(l++cs).length+(Z0 z.cells (Z6 w (n+m) L e-(n+m))).size=Z6 w (n+m) L e*i.size:=λn L l Y=>by rw[adk,aw,a03,Y,<-p.I,ab,<-aJ5,<-aJ5];grind [Yi]
  cases hs<;>first|(cases f;done)|skip
  case cY=>
   simp only at f;split at f
   ·rename_i hb;simp at f;obtain⟨rfl,rfl⟩:=f;obtain⟨g',K,h2⟩:=Si h e ⟨eF,tg⟩ X (l:=[]) (m:=cs) (olds:=[]) .db p (Z0 z.cells (Z6 w (0+m) 0 e-(0+m))) (0+m) i.size (Z6 w (0+m) 0 e) (Yi w (0+m) 0 e) (G 0 0 [] (by simp));refine⟨_,_,g',K3 w t tx H e i z I hi hz U 0 0 [] (by rfl) x m d F (by omega) (by omega) (ag4 (by omega) (by simpa using hb.1) T),?_,?_⟩;·simpa using h2
    ·simp only[aC4,a88]at K⊢;exact K
   ·cases f
  case eB n l b off V=>
   simp only at f;split at f;·rename_i hb;simp at f;obtain⟨rfl,rfl⟩:=f;obtain⟨C,E,N⟩:=V.cP h;obtain⟨g',K,h2⟩:=Si h e ⟨eF,tg⟩ X E p (Z0 z.cells (Z6 w (n+m) n e-(n+m))) (n+m) i.size (Z6 w (n+m) n e) (Yi w (n+m) n e) (G n n l hb.1);refine⟨_,_,g',K3 w t tx H e i z I hi hz (J ⟨b,off,U⟩) n n C ?_ x m d F (by omega) (by omega) (ag4 (by omega) hb.2.1 T),h2,K⟩;exact J1 w.drew i.size n _ n n C (by rw[E.I,hb.1]) (λj u hu=>by rw[addr_add];exact N j u hu)
   ·cases f
  case dj o off n sz cap ho hn hb=>
   cases off with
   |succ off=>cases f|zero=>
   simp only at f;split at f
   ·rename_i l fz Y;split at f
    ·rename_i V;obtain⟨rfl,W,aa,aq⟩:=V;simp at f;obtain⟨rfl,rfl⟩:=f;obtain⟨c,e0,fr,K,h2,h3,h4,h5,h6⟩:=h.bA o _ Y;obtain⟨C,E,N⟩:=(h.bA o _ Y).cP;by_cases q:n+m<=cap
     ·have ac:(n+m)*i.size<=c.size:=by rw[h2];have:(n+m)*i.size<=cap*i.size:=aG4 _ q;omega
      have au:n*i.size+d.length=(n+m)*i.size:=by rw[ab,aJ5]
      have A:=run_append_room_src w t tx H e i I hi (g.ob o) 0 n cap x m d F q (λj hj=>by
       rw[cell_of_heap K,aD1 (by omega)];rfl) (λj hj=>by
       have:=avJ h5.1 c.size (0+n*i.size+j) (by omega);simpa[World.frozen?,K]using this)
      obtain⟨r1,r2,r3,r4⟩:=BQ (g.ob o) d (0+n*i.size) w;have hh:=BI (g.ob o) d (0+n*i.size) w c e0 fr K;refine⟨_,_,_,A,?_,aeo h Y (.cP (l++cs) ⟨fz.b,if fz.t=tg then tg else U⟩) k9 _ r1 r2 r3 r4 (λk R=>xy _ d _ w k R) (λi' v' D=>?_) ?_⟩;·have:=VR.dj (g:=g.ac (g.ob o) (g.bs o)) O.length 0 (n+m) i.size cap (by simp[Gh.ac,h.n]) q (by simp[Gh.ac,h.n];omega);simpa[Gh.ac,h.n]using this
      ·have aE:=(h6 i' v' D).2;rw[cell_of_heap hh,MV _ _ _ (by omega),Z1 (by omega)];grind [cell_of_heap,WR]
      ·refine⟨Qw c (0+n*i.size) d,e0,fr,?_,?_,?_,λk x B=>?_,⟨h5.1,λS x' y=>?_⟩,λk v' D=>?_⟩;·simp only[Gh.ac,if_true];exact hh
       ·rw[xG,h2];simp[Gh.ac]
       ·rw[xG,a03,W,<-p.I];omega
       ·rw[MV _ _ _ (by omega)];rw[aF4]at B;split at B;·rename_i R;rw[Z1 (by omega)];obtain⟨u,a,b⟩:=h4 k x B;exact⟨u,a,b.D (g.ce _ _)⟩
        ·rename_i R;have M:=(a00.1 B).1;have ak:=p.I;rw[K4 (by omega)];obtain⟨u,a,b⟩:=p.cd B;exact⟨u,by rw[<-a];congr 1;omega,b.D (g.ce _ _)⟩
       ·dsimp only at y;split at y;·rename_i he;exact⟨(h5.2 S x' (he.trans y)).1,λB=>by rw[(X S x' y).2]at B;cases B⟩
        ·cases y
       ·simp only[Gh.ac,if_true]at D;grind
     ·have hd:=aen h o;obtain⟨g',k1,k2⟩:=Si hd.wr e ⟨fz.b,if fz.t=tg then tg else U⟩ (λS x' y=>by grind) E p (Z0 z.cells (Z6 w (n+m) cap e-(n+m))) (n+m) i.size (Z6 w (n+m) cap e) (Yi w (n+m) cap e) (G n cap l W);have A:=K3 w t tx H e i z I hi hz (J ⟨g.ob o,0,U⟩) n cap C (J1 w.drew i.size n _ n cap C (by rw[E.I,W]) (λj u hu=>by rw[addr_add];exact N j u hu)) x m d F (by omega) (by omega) (ag4 (by omega) aa T);exact⟨_,_,g',A,by simpa using k2,hd.N k1⟩
    ·split at f
     ·rename_i V;obtain⟨rfl,aD,W,aa,aq⟩:=V;simp at f;obtain⟨rfl,rfl⟩:=f;obtain⟨c,e0,fr,K,h2,h3,h4,h5,h6⟩:=h.bA o _ Y;obtain⟨Q,al,az⟩:=(h.bA o _ Y).cP;have M:(l.take (n*i.size)).length=n*i.size:=by rw[aD7];omega
      have E:=al.cD (n*i.size);have N:∀(j:Nat) (u:Value),(Q.take (n*i.size))[j]?=J u->w.cell? ⟨g.ob o,0+j,U⟩=J u:=λj u hu=>by grind
      have Z:∀i' v',g.im (g.ob o) i'=J v'->False:=λi' v' D=>by grind
      by_cases q:n+m<=cap
      ·have ac:(n+m)*i.size<=c.size:=by rw[h2];have:(n+m)*i.size<=cap*i.size:=aG4 _ q;omega
       have au:n*i.size+d.length=(n+m)*i.size:=by rw[ab,aJ5]
       have A:=run_append_room_src w t tx H e i I hi (g.ob o) 0 n cap x m d F q (λj hj=>by
        rw[cell_of_heap K,aD1 (by omega)];rfl) (λj hj=>by
        have:=avJ h5.1 c.size (0+n*i.size+j) (by omega);simpa[World.frozen?,K]using this)
       obtain⟨r1,r2,r3,r4⟩:=BQ (g.ob o) d (0+n*i.size) w;have hh:=BI (g.ob o) d (0+n*i.size) w c e0 fr K;refine⟨_,_,_,A,?_,aeo h Y (.cP (l.take (n*i.size)++cs) ⟨eF,if fz.t=tg then tg else U⟩) k9 _ r1 r2 r3 r4 (λk R=>xy _ d _ w k R) (λi' v' D=>(Z i' v' D).elim) ?_⟩;·have:=VR.dj (g:=g.ac (g.ob o) (g.bs o)) O.length 0 (n+m) i.size cap (by simp[Gh.ac,h.n]) q (by simp[Gh.ac,h.n];omega);simpa[Gh.ac,h.n]using this
       ·refine⟨Qw c (0+n*i.size) d,e0,fr,?_,?_,?_,λk x B=>?_,⟨h5.1,λS x' y=>?_⟩,λk v' D=>?_⟩;·simp only[Gh.ac,if_true];exact hh
        ·rw[xG,h2];simp[Gh.ac]
        ·rw[xG,a03,M,<-p.I];omega
        ·rw[MV _ _ _ (by omega)];rw[aF4,M]at B;split at B;·rename_i R;rw[Z1 (by omega)];rw[aE3,K4 R]at B;obtain⟨u,a,b⟩:=h4 k x B;exact⟨u,a,b.D (g.ce _ _)⟩
         ·rename_i R;have ay:=(a00.1 B).1;have ak:=p.I;rw[K4 (by omega)];obtain⟨u,a,b⟩:=p.cd B;exact⟨u,by rw[<-a];congr 1;omega,b.D (g.ce _ _)⟩
        ·dsimp only at y;split at y;·rename_i he;exact⟨(h5.2 S x' (he.trans y)).1,λB=>by rw[(X S x' y).2]at B;cases B⟩
         ·cases y
        ·simp only[Gh.ac,if_true]at D;exact(Z k v' D).elim
      ·have hd:=aen h o;obtain⟨g',k1,k2⟩:=Si hd.wr e ⟨eF,if fz.t=tg then tg else U⟩ (λS x' y=>by grind) E p (Z0 z.cells (Z6 w (n+m) cap e-(n+m))) (n+m) i.size (Z6 w (n+m) cap e) (Yi w (n+m) cap e) (G n cap _ M);have A:=K3 w t tx H e i z I hi hz (J ⟨g.ob o,0,U⟩) n cap (Q.take (n*i.size)) (J1 w.drew i.size n _ n cap _ (by rw[E.I,M]) (λj u hu=>by rw[addr_add];exact N j u hu)) x m d F (by omega) (by omega) (ag4 (by omega) aa T);exact⟨_,_,g',A,by simpa using k2,hd.N k1⟩
     ·cases f
   ·cases f
end
section
variable{P:Program}{g:Gh}{w:World}{O:St}
def QT (h:WR g w O) {o:Y} {l:LA} {tg:X (j0×V)} (e:O[o]?=J (.cP l ⟨eF,tg⟩)) {off:Y} {cs:LA} {vs:T W} (d:VRs g cs vs) (hb:off+z cs<=z l) (hf:cs.all AV.Q=eT):
  ∃m,(storeCells ⟨g.ob o,off,U⟩ vs).run P w=.ok () m/\Goes g O w g (O.set o (.cP (splice l off cs) ⟨eF,tg⟩)) m:=by
 obtain⟨c,e0,fr,b,h2,h3,h4,h5,h6⟩:=h.bA o _ e;have q:=d.I;have a:=run_storeCells_cells (P:=P) (g.ob o) off vs 0 w (λj hj=>by rw[cell_of_heap b,aD1 (by omega)];rfl) (λj hj=>by
  have:=avJ h5.1 c.size (off+0+j) (by omega);simpa[World.frozen?,b]using this) (d.ef hf)
 obtain⟨r1,r2,r3,r4⟩:=BQ (g.ob o) vs (off+0) w;have n:=BI (g.ob o) vs (off+0) w c e0 fr b;refine⟨_,a,abU h e k9 _ k9 _ r1 r2 r3 r4 (λk p=>xy _ vs _ w k p) (λi v hv=>L (h6 i v hv).1 (by simp)) ?_⟩;refine⟨Qw c (off+0) vs,e0,fr,n,by rw[xG];exact h2,by rw[xG,LW _ _ _ hb];exact h3,?_,⟨h5.1,λt x f=>⟨(h5.2 t x f).1,λs=>by rw[xG,LW _ _ _ hb];exact(h5.2 t x f).2 s⟩⟩,λi v hv=>L (h6 i v hv).1 (by simp)⟩;simpa using acT h4 d hb h3
def ak2 (h:WR g w O) (t tx Q e:j0) (v:List j0) (i:K9) (N:P.underlying t=J (.slice e)) (hi:P.info? e=J i) {o off n m:Y} {l cs:LA} {tg:X (j0×Bool)} {azs:AV} {s d:W} (hs:VR g azs s)
  (K:VR g (.dj o off n i.size) d) (M:O[o]?=J (.cP l ⟨eF,tg⟩)) (c:lJ O i.size azs=J (m,cs)) (hb:off+min m n*i.size<=z l) (hf:cs.all AV.Q=eT):
  ∃A,(Builtin.copy_ ⟨t::v⟩ Q #[d,s]).run P w=.ok (goInt (min m n:Y)) A/\Goes g O w g (O.set o (.cP (splice l off (cs.take (min m n*i.size))) ⟨eF,tg⟩)) A:=by
 have f:(Builtin.lenOf s).run P w=.ok m w/\∀k,k<=m->∃vs,VRs g (cs.take (k*i.size)) vs/\z (cs.take (k*i.size))=k*i.size/\(K5 i.size k s).run P w=.ok ⟨vs⟩ w:=by
  by_cases j:∃b,azs=.cU b
  ·obtain⟨b,rfl⟩:=j;cases hs;simp only[lJ]at c;split at c;·rename_i x;simp at c;obtain⟨rfl,rfl⟩:=c;refine⟨k9,λk y=>⟨(byteCells ⟨⟨b⟩⟩).take (k*i.size),(ZL b).cD _,by rw[x];simp[ofBytes];omega,?_⟩⟩;rw[x];simp[K5,byteCells]
   ·cases c
  ·have p:jU O i.size azs=J (m,cs):=by cases azs<;>first|exact c|(exact absurd ⟨_,k9⟩ j)
   obtain⟨f,B⟩:=Vp h p hs;rcases B with⟨rfl,cap,rfl⟩|⟨rfl,R,cap,rfl⟩|⟨b,H,cap,rfl,B⟩;·have:cs=[]:=aB7 (by omega);subst this;refine⟨k9,λk y=>?_⟩;obtain rfl:k=0:=(by omega);exact⟨[],by simpa using .db,by simp,k9⟩
   ·have:cs=[]:=aB7 (by omega);subst this;refine⟨k9,λk y=>?_⟩;obtain rfl:k=0:=(by omega);exact⟨[],by simpa using .db,by simp,by simp[K5,loadCells,loadCellsFrom]⟩
   ·refine⟨k9,λk y=>?_⟩;obtain⟨vs,a,S⟩:=(B.cD (k*i.size)).cG P;have L:k*i.size<=z cs:=by rw[f];exact aG4 _ y
    have e:z (cs.take (k*i.size))=k*i.size:=by simp;omega
    grind [K5]
 obtain⟨x,h2⟩:=f;obtain⟨vs,C,D,E⟩:=h2 (min m n) (Nat.min_le_left _ _);cases K with
 |dj _ _ _ _ cap V T I=>
 have q:(cs.take (min m n*i.size)).all AV.Q=eT:=by grind
 obtain⟨A,F,G⟩:=QT (P:=P) h M C (by rw[D];exact hb) q;refine⟨A,?_,G⟩;have u:Nat.min m n=min m n:=k9;simp[Builtin.copy_,w8 N,run_sizeOf hi,x,u,E,F]
def akG (h:WR g w O) (t e:j0) (i:K9) (z:W) (p:LA) (B:P.underlying t=J (.slice e)) (hi:P.info? e=J i) (K:i.zero=J z) (C:VRs g p z.cells.toList) (o:z.cells.size=i.size)
  (F E:IntKind) (l c:Int) (H:0<=l) (y:l<=c) (q:(i.bytes:Int)*c<=140737488355328) (s:c<=9223372036854775807):
  ∃v' G g',(Instr.makeSlice t (.int F l) (.int E c)).run P w=.ok v' G/\VR g' (.dj O.length 0 l.toNat i.size) v'/\Goes g O w g' (O++[.cP (rep p l.toNat) FZ]) G:=by
 have hr:=run_make w t e i z B hi K F E l c H y (by omega) s;have A:(madeCells z.cells (c.toNat*i.size)).size=c.toNat*i.size:=size_madeCells _ _;have f:l.toNat<=c.toNat:=by omega
 have j:l.toNat*i.size<=c.toNat*i.size:=aG4 _ f;have n:=agG C l.toNat
 have d:(rep p l.toNat).length=l.toNat*i.size:=by have:=n.I;rw[<-this];simp[<-o]
 have v:=BL h e FZ (l:=rep p l.toNat) (c:=madeCells z.cells (c.toNat*i.size)) (λ_ _ B=>nomatch B) (λk x D=>by
  obtain⟨u,a,b⟩:=n.cd D;refine⟨u,?_,b⟩;have I:=(a00.1 D).1;rw[d]at I;have m:0<z.cells.size:=(by grind);have e1:=aeW z.cells l.toNat m;have e2:(madeCells z.cells (c.toNat*i.size))[k]?=((Array.range (l.toNat*z.cells.size)).map (z.cells[· %z.cells.size]!)).toList[k]?:=by simp[madeCells,o];grind
  rw[e2,e1];exact a) (by rw[d,A];exact j)
 refine⟨_,_,_,hr,?_,v⟩;have:=VR.dj (g:=g.ac w.heap.size (madeCells z.cells (c.toNat*i.size)).size) O.length 0 l.toNat i.size c.toNat (by simp[Gh.ac,h.n]) f (by simp only[Gh.ac,h.n,if_true];omega);simpa[Gh.ac,h.n]using this
def anD (h:WR g w O) (c dst e:j0) (hs:P.underlying c=J (.slice e)) (he:P.underlying e=J (.int .u8)) (f:P.underlying dst=J .string) {a:AV} {v:W} (hv:VR g a v) {n:Y} {l:LA} (q:jU O 1 a=J (n,l)) {s:LU} (hb:bytesOf l=J s):
  (convert c dst v).run P w=.ok (.string ⟨⟨s⟩⟩) w:=by
 obtain⟨j,p⟩:=Vp h q hv;have key:∀(l:LA) (s:LU) (vs:T W),bytesOf l=J s->VRs g l vs->∃ns:T Int,vs=ns.map (Z2 .u8)/\s=ns.map λn=>UInt8.ofNat n.toNat:=by
  intro l
  induction l with
  |nil=>intro s vs hb hv;cases hv;simp[bytesOf]at hb;subst hb;exact⟨[],k9,k9⟩
  |cons a l u=>
   intro s vs hb hv;simp only[bytesOf]at hb;split at hb;·rename_i b bs d h2;simp at hb;subst hb;cases hv with|cV _ B _ A x y=>obtain⟨ns,rfl,rfl⟩:=u _ _ h2 y;cases x<;>simp[afQ]at d;rename_i k m;cases k<;>simp at d;subst d;exact⟨m::ns,k9,k9⟩
   ·cases hb
 rcases p with⟨rfl,cap,rfl⟩|⟨rfl,o,cap,rfl⟩|⟨b,off,cap,rfl,vs,d,h2⟩;·have:l=[]:=aB7 (by omega);subst this;simp[bytesOf]at hb;subst hb;rw[K w c dst e _ _ _ hs he f];rfl
 ·have:l=[]:=aB7 (by omega);subst this;simp[bytesOf]at hb;subst hb;rw[K w c dst e _ _ _ hs he f];exact run_bytesToString w o 0 cap [] (by simp[loadCells,loadCellsFrom])
 ·obtain⟨ns,rfl,rfl⟩:=key l s vs hb d;have t:z ns=n:=by have:=d.I;simp at this;omega
  have:=run_convert_bytes_arg (P:=P) w c e hs he b off n cap ns t (λi hi=>by
   grind) dst f
  rw[this];simp[strOfNums]
end
section
variable{P:Program}{g:Gh}{w:World}{O:St}
def UX (s:LU):∀(b:T (AV×AV)) (l:T K8) (i:Y) {N:X (Y×AV)},oM (.cU s) b i=J N->z l=z b->
  (∀(j:Y) (k v:AV),b[j]?=J (k,v)->∃e:K8,l[j]?=J e/\VR g k e.key/\VR g v e.val)->
  match N with
  |U=>R .string (.string ⟨⟨s⟩⟩) l i=J U|J (j,v)=>∃(m:Y) (e:K8),j=i+m/\b[m]?=J (.cU s,v)/\l[m]?=J e/\R .string (.string ⟨⟨s⟩⟩) l i=J (J (j,e.val))/\VR g v e.val
 |[],l,i,N,h,f,_=>by simp[oM]at h;subst h;have:l=[]:=aB7 (by simpa using f);subst this;rfl
 |(k,v)::b,[],i,N,h,f,_=>by simp at f
 |(k,v)::b,e::l,i,N,h,f,c=>by
  obtain⟨q,t,x,hv⟩:=c 0 k v k9;simp at t;subst t;simp only[oM]at h;cases k<;>simp only[ac5]at h<;>first|(cases h;done)|skip
  rename_i o;have d:e.key=.string ⟨⟨o⟩⟩:=(by grind [VR]);have a:Instr.sameNow .string (.string ⟨⟨s⟩⟩) e.key=J (oU s o):=by rw[d];simp only[Instr.sameNow,xP];rw[beq_toListBytes,toList_mk,toList_mk]
  cases hb:oU s o with
  |true=>
   rw[hb]at h a;simp at h;subst h;refine⟨0,e,k9,?_,k9,?_,hv⟩;·grind [xP]
   ·simp only[R,a]
  |false=>
   rw[hb]at h a;simp only at h;have u:=UX s b l (i+1) h (by simpa using f) (λj k v n=>by simpa using c (j+1) k v (by simpa using n));cases N with
   |none=>simp only[R,a];exact u|some p=>obtain⟨j,y⟩:=p;obtain⟨m,q,w,h2,h3,h4,h5⟩:=u;exact⟨m+1,q,by omega,by simpa using h2,by simpa using h3,by simp only[R,a];exact h4,h5⟩
def ER.bi{a:T (AV×AV)}{ents:j7 K8}{clock:Y}(h:ER g a ents clock):z ents.toList=z a/\∀(j:Y) (k v:AV),a[j]?=J (k,v)->∃e:K8,ents.toList[j]?=J e/\VR g k e.key/\VR g v e.val:=
 ⟨by simpa using h.aq,λj k v b=>by grind [ER]⟩
def run_checkKey{a:j0}(c:P.underlying a=J .string)(b:V)(v:W)(w:Q):(q b 10000 a v).run P w=.ok () w:=by rw[show(10000:Y)=9999+1 from k9,q,j6,w8 c];cases v<;>rfl
def Ew{a:j0}(b:P.underlying a=J .string){k:W}{l:T K8}{d:X (Y×W)}(h:R .string k l 0=J d)(w:Q):(v a k l).run P w=.ok d w:=by simp[v,w8 b,h]
def air(h:WR g w O){q:Y}{j a:T (AV×AV)}(hr:O[q]?=J (.dz j)){ents:j7 K8}{clock:Y}(d:ER g a ents clock):Goes g O w g (O.set q (.dz a)) {w with heap:=w.heap.setIfInBounds (g.ob q) (.map ents clock)}:=by obtain⟨c,b,f,h2⟩:=h.bA q _ hr;have e:=lt_of_heap f;refine abU h hr k9 _ k9 _ k9 k9 k9 (by simp) (λk l=>by grind) (λi v hv=>?_) ⟨ents,clock,by simp[e],d⟩;exfalso;have:=h.im _ _ _ hv;simp[p,f]at this
def agr (h:WR g w O) (t F D:j0) (i:K9) (z:W) (C:P.underlying t=J (.map F D)) (q:P.underlying F=J .string) (hi:P.info? D=J i) (E:i.zero=J z) {B:AV} (y:VR g B z)
  {am x:AV} {m k:W} (K:VR g am m) (I:VR g x k) (ok:V) {f:T (AV×AV)} (b:mapOf O am=J f)
  {v:AV} (hv:(match oM x f 0 with|J (J (_,v))=>J (if ok then AV.de [v,.cW eT]else v)|J U=>J (if ok then .de [B,.cW eF]else B)|U=>U)=J v):
  ∃v',(Instr.lookup t m k ok).run P w=.ok v' w/\VR g v v':=by
 have d:∀(a:j7 K8),a.toList.length=f.length->(∀(j:Y) (k v:AV),f[j]?=J (k,v)->∃e:K8,a.toList[j]?=J e/\VR g k e.key/\VR g v e.val)->
   (∃v',R .string k a.toList 0=J U/\v'=(if ok then .tuple #[z,.bool eF]else z)/\VR g v v')\/(∃j u v',R .string k a.toList 0=J (J (j,u))/\v'=(if ok then .tuple #[u,.bool eT]else u)/\VR g v v'):=by
  intro a h2 h3;cases hf:oM x f 0 with
  |none=>rw[hf]at hv;cases hv
  |some N=>
   rw[hf]at hv;have A:∃s,x=.cU s\/f=[]:=by
    cases f with
    |nil=>exact⟨[],.inr k9⟩|cons p f=>cases x<;>simp[oM,ac5]at hf;exact⟨_,.inl k9⟩
   have o:match N with|U=>R .string k a.toList 0=J U|J (j,v)=>∃v',R .string k a.toList 0=J (J (j,v'))/\VR g v v':=by
    obtain⟨s,rfl|rfl⟩:=A;·have:=UX (g:=g) s f a.toList 0 hf h2 h3;grind [VR]
    ·have:a.toList=[]:=aB7 (by simpa using h2);simp[oM]at hf;subst hf;rw[this];rfl
   cases N with
   |none=>
    simp at hv;subst hv;refine .inl ⟨_,o,k9,?_⟩;cases ok;·exact y
    ·exact .de _ _ (.cV _ _ _ _ y (.cV _ _ _ _ (.cW _) .db))
   |some p=>
    obtain⟨j,v0⟩:=p;obtain⟨v',l,hr⟩:=o;simp at hv;subst hv;refine .inr ⟨j,v',_,l,k9,?_⟩;cases ok;·exact hr
    ·exact .de _ _ (.cV _ _ _ _ hr (.cV _ _ _ _ (.cW _) .db))
 cases K<;>simp only[mapOf]at b<;>first|(cases b;done)|skip
 ·rename_i m L;split at b
  ·rename_i G hr;cases b;obtain⟨a,clock,H,h2⟩:=h.bA m _ hr;have n:(getObj (g.ob m)).run P w=.ok (.map a clock) w:=(by simp[getObj,Sem.run,H]);rcases d a h2.bi.1 h2.bi.2 with⟨v',l,rfl,c⟩|⟨j,u,v',l,rfl,c⟩;·exact⟨_,by simp only[Instr.lookup,j6,w8 C,w9,n,K0,run_checkKey q,Ew q l,JI hi E],c⟩
   ·exact⟨_,by simp only[Instr.lookup,j6,w8 C,w9,n,K0,run_checkKey q,Ew q l],c⟩
  ·cases b
 ·cases b;rcases d #[] k9 (by simp)with⟨v',l,rfl,c⟩|⟨j,u,v',l,rfl,c⟩;·exact⟨_,by simp only[Instr.lookup,j6,w8 C,w9,K0,run_checkKey q,Ew q l,JI hi E],c⟩
  ·simp[R]at l
def X3 (h:WR g w O) (t H K:j0) (G:P.underlying t=J (.map H K)) (B:P.underlying H=J .string) {co:Y} {c:T (AV×AV)} (hr:O[co]?=J (.dz c)) {s:LU} {av:AV} {v:W} (hv:VR g av v)
  {n:T (AV×AV)} (he:(match oM (.cU s) c 0 with|J (J (i,_))=>J (c.set i (AV.cU s,av))|J U=>J (c++[(AV.cU s,av)])|U=>U)=J n):
  ∃I,(Instr.mapUpdate t (.map (J (g.ob co))) (.string ⟨⟨s⟩⟩) v).run P w=.ok () I/\Goes g O w g (O.set co (.dz n)) I:=by
 obtain⟨a,clock,F,h2⟩:=h.bA co _ hr;have d:(getObj (g.ob co)).run P w=.ok (.map a clock) w:=by simp[getObj,Sem.run,F]
 have f:∀o,(setObj (g.ob co) o).run P w=.ok () {w with heap:=w.heap.setIfInBounds (g.ob co) o}:=λo=>by simp[setObj,Sem.run,F]
 cases hf:oM (.cU s) c 0 with
 |none=>rw[hf]at he;cases he
 |some q=>
  rw[hf]at he;have x:=UX (g:=g) s c a.toList 0 hf h2.bi.1 h2.bi.2;cases q with
  |none=>
   simp at he;subst he;refine⟨_,?_,air h hr (ents:=a.push {key:=.string ⟨⟨s⟩⟩,val:=v,born:=clock}) (clock:=clock+1) ⟨by simp[h2.aq],by simp[h2.kx],λi k u b=>?_⟩⟩;·simp only[Instr.mapUpdate,j6,w8 G,w9,d,run_checkKey B,Ew B x,f]
   ·rw[aF4]at b;split at b;·grind [ER]
    ·rename_i l;have hi:i-z c=0:=(by grind);rw[hi]at b;simp at b;obtain⟨rfl,rfl⟩:=b;have y:i=z c:=(by omega);exact⟨_,by rw[Array.getElem?_push,K4 (by rw[h2.aq];exact y)],.cU s,hv,by rw[h2.kx];exact y.symm⟩
  |some p=>
   obtain⟨j,v0⟩:=p;obtain⟨R,e,hj,D,L,M,_⟩:=x;simp at hj;subst hj;simp at he;subst he;have l:a[j]?=J e:=(by simpa using L);obtain⟨e2,a2,N,Q,d2⟩:=h2.mo j _ _ D;rw[l]at a2;cases a2;have A:e.key=.string ⟨⟨s⟩⟩:=(by grind [VR]);refine⟨_,?_,air h hr (ents:=a.modify j λe=>{e with key:=.string ⟨⟨s⟩⟩,val:=v}) (clock:=clock) ⟨by simp[h2.aq],by simp[h2.kx],λi k u b=>?_⟩⟩
   ·have m:(Instr.keyThatStays (((a[j]?).map (·.key)).getD (.string ⟨⟨s⟩⟩)) (.string ⟨⟨s⟩⟩)).run P w=.ok (.string ⟨⟨s⟩⟩) w:=by rw[l];simp only[aC5,aG9,A];unfold Instr.keyThatStays;rw[K4 (by simp[Instr.sameBits,beq_toListBytes])];rfl
    simp only[Instr.mapUpdate,j6,w8 G,w9,d,run_checkKey B,Ew B M,m,f]
   grind [ER]
end
section
variable{P:Program}{g:Gh}{w:World}{O:St}
def PM{a:AV}{v:W}(h:VR g a v){n:Y}(b:uq a=J n):∃k m,v=.int k m/\0<=m/\m.toNat=n/\a=.cQ k m:=by
 cases h<;>simp only[uq]at b<;>first|(cases b;done)|skip
 grind
def DX{a:AV}{v:W}(h:VR g a v){n:Y}(c:uq a=J n){y:Y}(d:n<=y)(code:BoundsCode)(w:Q):(l v y code).run P w=.ok n w:=by obtain⟨k,m,rfl,b,rfl,_⟩:=PM h c;simp[l,asIntOf,b];omega
inductive adm(g:Gh):Option AV->Option Value->Prop|gw:adm g none none|jn (a:AV) (v:Value):VR g a v->adm g (some a) (some v)
def Yh {j e f:X AV} {lo hi t:X W} (i:adm g j lo) (k:adm g e hi) (q:adm g f t) (s:V) {len cap l h m:Y} (b:jI 0 j=J l) (d:jI len e=J h) (n:match f with|U=>m=cap|J a=>uq a=J m)
  (p:l<=h) (h2:h<=m) (h3:m<=cap) (h4:f.isSome=eT->e.isSome=eT) (w:Q):(N s len cap lo hi t).run P w=.ok (l,h,m) w:=by
 cases q with
 |gw=>
  simp only at n;subst n;cases k with
  |gw=>
   simp[jI]at d;subst d;cases i with
   |gw=>simp[jI]at b;subst b;simp[N]|jn a v hv=>simp only[jI]at b;simp[N,DX hv b p]
  |jn a v hv=>
   simp only[jI]at d;cases i with
   |gw=>simp[jI]at b;subst b;simp[N,DX hv d h2]|jn u y c=>simp only[jI]at b;simp[N,DX hv d h2,DX c b p]
 |jn a v hv=>
  simp only at n;cases k with
  |gw=>simp at h4
  |jn u y c=>
   simp only[jI]at d;cases i with
   |gw=>simp[jI]at b;subst b;simp[N,DX hv n h3,DX c d h2]|jn x A o=>simp only[jI]at b;simp[N,DX hv n h3,DX c d h2,DX o b p]
def aiu{b:Type}(a:j7 b)(x:b)(f:b->b):(a.push x).modify a.size f=a.push (f x):=by grind
def aoE (h:WR g w O) (f:j0) (s:LU):∃cap u g',VR g' (.sl (z s) (ofBytes s)) (.slice (J ⟨w.heap.size,0,U⟩) (z s) cap)/\
  (Conv.stringToBytes f ⟨⟨s⟩⟩).run P w=.ok (.slice (J ⟨w.heap.size,0,U⟩) (z s) cap) u/\Goes g O w g' O u:=by
 have j:z s<=(Question.appendCap (z s) 0 f).cut (w.tape w.drawn (.appendCap (z s) 0 f)):=by simp[Question.cut]
 generalize y:(Question.appendCap (z s) 0 f).cut (w.tape w.drawn (.appendCap (z s) 0 f))=cap at j;have t:=Goes.hm h (w.drawn+1);have A:WR g w.drew O:=t.wr;obtain⟨cs,l⟩:∃cs:j7 W,cs=(s.map λb=>Z2 .u8 b.toNat).toArray++Array.replicate (cap-z s) (Z2 .u8 0):=⟨_,k9⟩;have c:cs.size=z s+(cap-z s):=by rw[l];simp
 have k:∀(i:Y) (v:W),cs[i]?=J v->∃n,v=Z2 .u8 n:=λi v hv=>by grind
 have o:=Uc A cs f (z s+(cap-z s),z s+(cap-z s)+1) (.inr k);refine⟨cap,_,_,?_,?_,t.N o⟩;·refine .sl _ _ _ _ _ (CR.b6 λi x B=>?_) j;have hr:VRs g (ofBytes s) (s.map λb=>Z2 .u8 b.toNat):=VRs.dz (λb=>.cQ .u8 _) s;obtain⟨v,a,b⟩:=hr.cd B;have p:=(a00.1 a).1;refine⟨v,?_,b.D o.le⟩;simp only[Gh.au,aC4];rw[K4 ⟨k9,by rw[c];simp at p;omega⟩,l,Array.getElem?_append_left (by simpa using p)];simpa using a
 ·have q:(⟨⟨s⟩⟩:X1).size=z s:=k9;have m:Array.map (λb:UInt8=>Z2 .u8 b.toNat) (⟨⟨s⟩⟩:X1).data=(s.map λb=>Z2 .u8 b.toNat).toArray:=by apply aG8;simp
  unfold Conv.stringToBytes;simp only[j6,run_choose,Question.forced,aF3,if_false,q,y,w9,newRow,run_newObj,K0,m];rw[<-l];have e:({w with drawn:=w.drawn+1,heap:=w.heap.push (.cells cs f)}:Q).shape? w.heap.size=J (f,z s+(cap-z s)):=(by simp[World.shape?,c]);simp only[markStringish,j6,run_shape,e,w9,run_freeze];congr 1;simp only[World.freeze];rw[Z1 (by omega)];simp only[Bo,World.drew];rw[aiu];simp
def XO(s:X1):∀(n i:Y) (acc:j7 W),E s n i acc=acc++((runesL s n i).map λd=>Z2 .i32 (Int.ofNat d)).toArray
 |0,i,acc=>by simp[E,runesL]
 |n+1,i,acc=>by
  unfold E runesL;split;·show E s n (i+(b s i).2) (acc.push (.int .i32 (Int.ofNat (b s i).1)))=_;rw[XO s n];apply aG8;simp
  ·simp
def Vk(s:X1):∀(n i:Y),z (runesL s n i)<=n
 |0,i=>by simp[runesL]
 |n+1,i=>by
  unfold runesL;split;·have:=Vk s n (i+(b s i).2);simp;omega
  ·simp
def aoF (h:WR g w O) {j dst f:j0} (hs:P.underlying j=J .string) (p:P.underlying dst=J (.slice f)) (he:P.underlying f=J (.int .i32)) (s:LU) (y:z s<=70368744177664):∃cap o g',VR g' (.sl (z (runesOf s)) (zF (runesOf s))) (.slice (J ⟨w.heap.size,0,U⟩) (z (runesOf s)) cap)/\
  (convert j dst (.string ⟨⟨s⟩⟩)).run P w=.ok (.slice (J ⟨w.heap.size,0,U⟩) (z (runesOf s)) cap) o/\Goes g O w g' O o:=by
 have hr0:E ⟨⟨s⟩⟩ (⟨⟨s⟩⟩:X1).size 0 #[]=((runesOf s).map λd=>Z2 .i32 (Int.ofNat d)).toArray:=by rw[XO];simp;rfl
 have n:(E ⟨⟨s⟩⟩ (⟨⟨s⟩⟩:X1).size 0 #[]).size=z (runesOf s):=by rw[hr0];simp
 have q:z (runesOf s)<=z s:=Vk _ _ _;have c:=run_runes_of_string (P:=P) w j dst f ⟨⟨s⟩⟩ hs p he (by rw[n];omega);rw[n,hr0]at c;have e:z (runesOf s)<=Z6 w (z (runesOf s)) 0 f:=Yi w _ 0 f;generalize Z6 w (z (runesOf s)) 0 f=cap at c e;have k:=Goes.hm h (w.drawn+1);have t:WR g w.drew O:=k.wr;have l:=abT t (((runesOf s).map λd=>Z2 .i32 (Int.ofNat d)).toArray++Array.replicate (cap-z (runesOf s)) (Z2 .i32 0)) f;refine⟨cap,_,_,?_,c,k.N l⟩;refine .sl _ _ _ _ _ (CR.b6 λi x u=>?_) e;have hr:VRs g (zF (runesOf s)) ((runesOf s).map λd=>Z2 .i32 (Int.ofNat d)):=VRs.dz (λb=>.cQ .i32 _) _;obtain⟨v,a,b⟩:=hr.cd u;have m:=(a00.1 a).1;refine⟨v,?_,b.D l.le⟩;simp only[Gh.au,aC4];rw[K4 ⟨k9,by simp at m⊢;omega⟩,Array.getElem?_append_left (by simpa using m)];simpa using a
end
section
variable{C:Ctx}{g:Gh}{w:World}{O:St}{e:Env}{ρ:Operand->Value}
def DY(b:∀x a,cA x=J a->VR g (av C e a) (ρ x)){x:X j9}{a:X XA}(h:We x=J a):adm g (a.map (av C e)) (x.map ρ):=by
 cases x with
 |none=>simp[We]at h;subst h;exact .gw|some x=>grind [We,aB5,adm]
def dD(a:WR g w O){o:H}{v:AV}{v':W}(hr:(j8 ρ o).run C.P w=.ok (.value v') w)(hv:VR g v v'):IV C.P o ρ g O w (.ev v O):=
 ⟨w,g,.ax a,.inl ⟨v',hr,hv⟩⟩
def anI(y:WR g w O)(m:∀x a,cA x=J a->VR g (av C e a) (ρ x)){dst:X Tmp}{type:j0}{pos:K6}{after:j7 Edge}{guard:X (Y×V)}{A d:j0}{x:j9}{I:XI}(c:cI C.P ⟨dst,.convert A d x,type,pos,after,guard⟩=J I){out:Out}(b:evI C e O I=J out):IV C.P ⟨dst,.convert A d x,type,pos,after,guard⟩ ρ g O w out:=by
 simp only[cI,aB4,a04,aC3]at c;obtain⟨N,j,M,i,c⟩:=c;split at c
 ·rename_i L k;simp only[a04,a07]at c;obtain⟨a,o,rfl⟩:=c;have f:=m x a o;simp only[evI,aF]at b;generalize q:av C e a=B at f b;generalize h:ρ x=D at f;cases f<;>first|(cases b;done)|skip
  cases b;exact dD y (by simp[j8,convert,w8 j,w8 i,h,Conv.intToInt]) (.cQ _ _)
 ·simp only[a04,a07]at c;obtain⟨a,o,rfl⟩:=c;have f:=m x a o;simp only[evI,aF]at b;generalize q:av C e a=B at f b;generalize h:ρ x=D at f;cases f<;>first|(cases b;done)|skip
  cases b;exact dD y (by simp[j8,convert,w8 j,w8 i,h]) (.cU _)
 ·simp only[a04,a07]at c;obtain⟨a,o,rfl⟩:=c;have f:=m x a o;simp only[evI,aF]at b;generalize q:av C e a=B at f b;generalize h:ρ x=D at f;cases f<;>first|(cases b;done)|skip
  cases b;rename_i n;exact dD y (by simp[j8,convert,w8 j,w8 i,h,Conv.intToString]) (VR.cU (g:=g) (Utf8.encode n).data.toList)
 ·rename_i E;simp only[a04]at c;obtain⟨K,t,c⟩:=c;split at c
  ·simp only[a04,a07]at c;obtain⟨a,o,rfl⟩:=c;have f:=m x a o;simp only[evI,aF]at b;split at b;·rename_i n l G;simp only[aB5]at b;obtain⟨s,hs,rfl⟩:=b;refine dD y (v':=.string ⟨⟨s⟩⟩) ?_ (.cU s);simp[j8,anD y A d E j t i f G hs]
   ·cases b
  ·cases c
 ·rename_i E;simp only[a04]at c;obtain⟨K,t,c⟩:=c;split at c
  ·simp only[a04,a07]at c;obtain⟨a,o,rfl⟩:=c;have f:=m x a o;simp only[evI,aF]at b;generalize q:av C e a=B at f b;generalize h:ρ x=D at f;cases f<;>first|(cases b;done)|skip
   rename_i s;cases b;obtain⟨cap,H,F,u,p,v⟩:=aoE (P:=C.P) y E s;exact⟨H,F,v,.inl ⟨_,by simp[j8,convert,w8 j,w8 i,w8 t,h,p],u⟩⟩
  ·simp only[a04,a07]at c;obtain⟨a,o,rfl⟩:=c;have f:=m x a o;simp only[evI,aF]at b;generalize q:av C e a=B at f b;generalize h:ρ x=D at f;cases f<;>first|(cases b;done)|skip
   rename_i s;simp only at b;split at b;·rename_i G;cases b;obtain⟨cap,H,F,u,p,v⟩:=aoF (P:=C.P) y j i t s G;exact⟨H,F,v,.inl ⟨_,by simp[j8,h,p],u⟩⟩
   ·cases b
  ·cases c
 ·cases c
def ahB(H:WR g w O)(f:∀x a,cA x=J a->VR g (av C e a) (ρ x)){dst:X Tmp}{type:j0}{pos:K6}{after:j7 Edge}{guard:X (Y×Bool)}{t:j0}{x y:j9}{s:XI}(d:cI C.P ⟨dst,.makeSlice t x y,type,pos,after,guard⟩=J s){out:Out}(c:evI C e O s=J out):IV C.P ⟨dst,.makeSlice t x y,type,pos,after,guard⟩ ρ g O w out:=by
 simp only[cI,aB4,a04,aC3]at d;obtain⟨u,G,d⟩:=d;cases u<;>first|(cases d;done)|skip
 rename_i A;simp only[a04]at d;obtain⟨i,hi,z,I,d⟩:=d;split at d
 ·rename_i p;simp only[a04,a07]at d;obtain⟨a,D,b,hb,rfl⟩:=d;obtain⟨T,v,q,h2,h3⟩:=JQ I;rw[hi]at q;cases q;have hv:=vN g v z h3;have n:=f x a D;have o:=f y b hb;simp only[evI,aF]at c;generalize E:av C e a=R at n c;generalize k:ρ x=V at n;generalize F:av C e b=S at o c;generalize l:ρ y=W at o;cases n<;>first|(cases c;done)|skip
  rename_i K n1;cases o<;>first|(cases c;done)|skip
  rename_i L M;simp only at c;split at c;·rename_i h;cases c;obtain⟨N,Q,B,hr,m,j⟩:=akG (P:=C.P) H t A i v z.cP G hi h2 hv.cP (by rw[hv.bX];exact p) K L n1 M h.1 h.2.1 h.2.2.2 h.2.2.1;exact⟨Q,B,j,.inl ⟨N,by simp[j8,k,l,hr],m⟩⟩
  ·cases c
 ·cases d
def ahA(B:WR g w O)(j:∀x a,cA x=J a->VR g (av C e a) (ρ x)){dst:X Tmp}{type:j0}{pos:K6}{after:j7 Edge}{guard:X (Y×V)}{t:j0}{x y:j9}{L:XI}(p:cI C.P ⟨dst,.indexAddr t x y,type,pos,after,guard⟩=J L){out:Out}(c:evI C e O L=J out):IV C.P ⟨dst,.indexAddr t x y,type,pos,after,guard⟩ ρ g O w out:=by
 simp only[cI,aB4,a04,aC3]at p;obtain⟨u,H,p⟩:=p;cases u<;>first|(cases p;done)|skip
 ·rename_i N;simp only[a04,a07]at p;obtain⟨i,hi,a,E,b,hb,rfl⟩:=p;have s:=j x a E;have I:=j y b hb;simp only[evI,aF]at c;cases q:uq (av C e b)with
  |none=>rw[q]at c;simp at c
  |some n=>
   rw[q]at c;obtain⟨k,m,h,D,rfl,_⟩:=PM I q;generalize F:av C e a=M at s c;generalize f:ρ x=K at s;have key:∀(len b off cap:Y),K=.slice (J ⟨b,off,U⟩) len cap->m.toNat<len->(j8 ρ ⟨dst,.indexAddr t x y,type,pos,after,guard⟩).run C.P w=.ok (.value (.pointer (J ⟨b,off+m.toNat*i.size,U⟩))) w:=λlen b off cap T R=>by have A:m<len:=(by omega);subst T;simp[j8,Instr.indexAt,w8 H,f,h,asIntOf,run_sizeOf hi,D,A,addr_add]
   cases s<;>first|(cases c;done)|skip
   ·rename_i n l b off cap d Q;simp only at c;split at c;·rename_i v;cases c;exact dD B (key _ _ _ _ k9 v.1) (.ec _ _ _ (d.cB _))
    ·cases c
   ·rename_i n l b off d;simp only at c;split at c;·rename_i v;cases c;exact dD B (key _ _ _ _ k9 v.1) (.ec _ _ _ (d.cB _))
    ·cases c
   ·rename_i o off n W cap G S P;simp only at c;split at c;·rename_i v;cases c;exact dD B (key _ _ _ _ k9 v.1) (.da _ _ G)
    ·cases c
 ·rename_i len N;simp only[a04,a07]at p;obtain⟨i,hi,a,E,b,hb,rfl⟩:=p;have s:=j x a E;have I:=j y b hb;simp only[evI,aF]at c;cases q:uq (av C e b)with
  |none=>rw[q]at c;simp at c
  |some n=>
   rw[q]at c;obtain⟨k,m,h,D,rfl,_⟩:=PM I q;generalize F:av C e a=M at s c;generalize f:ρ x=K at s;cases s<;>first|(cases c;done)|skip
   all_goals
    simp only at c;split at c
    ·rename_i v;cases c;first
      | (rename_i o off G
         refine dD B (v':=.pointer (J ⟨g.ob o,off+m.toNat*i.size,U⟩)) ?_ (.da _ _ G);have A:m<len:=(by omega);simp[j8,Instr.indexAt,w8 H,f,h,asIntOf,Instr.sureAddr,run_sizeOf hi,D,A,addr_add])
      | (rename_i l b off d
         refine dD B (v':=.pointer (J ⟨b,off+m.toNat*i.size,U⟩)) ?_ (.ec _ _ _ (d.cB _));have A:m<len:=(by omega);simp[j8,Instr.indexAt,w8 H,f,h,asIntOf,Instr.sureAddr,run_sizeOf hi,D,A,addr_add])
    ·cases c
def au7(L:WR g w O)(f:∀x a,cA x=J a->VR g (av C e a) (ρ x)){dst:Option Tmp}{type:j0}{pos:K6}{after:j7 Edge}{guard:Option (Nat×Bool)}{t:j0}{x y:j9}{M:XI}(h:cI C.P ⟨dst,.index t x y,type,pos,after,guard⟩=J M){out:Out}(d:evI C e O M=J out):IV C.P ⟨dst,.index t x y,type,pos,after,guard⟩ ρ g O w out:=by
 simp only[cI,aB4,a04,aC3]at h;obtain⟨u,K,h⟩:=h;cases u<;>first|(cases h;done)|skip
 ·simp only[a04,a07]at h;obtain⟨a,E,b,hb,rfl⟩:=h;have q:=f x a E;have I:=f y b hb;simp only[evI,aF]at d;cases j:uq (av C e b)with
  |none=>rw[j]at d;simp at d
  |some n=>
   rw[j]at d;obtain⟨k,m,p,B,rfl,_⟩:=PM I j;generalize F:av C e a=N at q d;generalize o:ρ x=S at q;cases q<;>first|(cases d;done)|skip
   rename_i s;simp only at d;split at d
   ·rename_i c A;cases d;refine dD L (v':=.int .u8 c.toNat) ?_ (.cQ _ _);have G:=(a00.1 A).1;have D:(⟨⟨s⟩⟩:X1)[m.toNat]?=J c:=by have e1:m.toNat<(⟨⟨s⟩⟩:X1).size:=G;rw[getElem?_pos (⟨⟨s⟩⟩:X1) m.toNat e1];have e2:=(a00.1 A).2;exact congrArg J e2
    simp[j8,Instr.index,w8 K,o,p,asIntOf,B,D]
   ·cases d
 ·rename_i len V;simp only[a04,a07]at h;obtain⟨Y,H,i,hi,a,E,b,hb,rfl⟩:=h;have q:=f x a E;have I:=f y b hb;simp only[evI,aF]at d;cases j:uq (av C e b)with
  |none=>rw[j]at d;simp at d
  |some n=>
   rw[j]at d;obtain⟨k,m,p,B,rfl,_⟩:=PM I j;generalize F:av C e a=N at q d;generalize o:ρ x=S at q;cases q<;>first|(cases d;done)|skip
   rename_i l X R;simp only at d;split at d;·rename_i W;simp only[aB5]at d;obtain⟨v,hv,rfl⟩:=d;obtain⟨T,Q,h2⟩:=acu (P:=C.P) w R H hi (m.toNat*i.size) hv;have D:m<len:=(by omega);exact dD L (by simp[j8,Instr.index,w8 K,o,p,asIntOf,B,D,run_sizeOf hi,Q]) h2
   ·cases d
def apP(l:WR g w O)(f:∀x a,cA x=J a->VR g (av C e a) (ρ x)){dst:X Tmp}{type:j0}{pos:K6}{after:j7 Edge}{guard:X (Y×V)}{t:j0}{m k:j9}{ok:V}{n:XI}(c:cI C.P ⟨dst,.lookup t m k ok,type,pos,after,guard⟩=J n){out:Out}(d:evI C e O n=J out):IV C.P ⟨dst,.lookup t m k ok,type,pos,after,guard⟩ ρ g O w out:=by
 simp only[cI,aB4,a04,aC3]at c;obtain⟨u,y,c⟩:=c;cases u<;>first|(cases c;done)|skip
 rename_i B p;simp only[a04]at c;obtain⟨D,j,c⟩:=c;cases D<;>first|(cases c;done)|skip
 simp only[a04,a07]at c;obtain⟨z,A,a,s,b,hb,rfl⟩:=c;obtain⟨i,v,q,h2,h3⟩:=JQ A;have hv:=vN g v z h3;simp only[evI,aF]at d;split at d;·rename_i o h;have hres:∃v,out=.ev v O/\(match oM (av C e b) o 0 with|J (J (_,v))=>J (if ok then AV.de [v,.cW eT]else v)|J U=>J (if ok then .de [z,.cW eF]else z)|U=>U)=J v:=(by grind);obtain⟨v0,rfl,hr⟩:=hres;obtain⟨E,h4,h5⟩:=agr (P:=C.P) l t B p i v y j q h2 hv (f m a s) (f k b hb) ok h hr;exact dD l (by simp[j8,h4]) h5
 ·cases d
def ahC(L:WR g w O)(j:∀x a,cA x=J a->VR g (av C e a) (ρ x)){dst:X Tmp}{type:j0}{pos:K6}{after:j7 Edge}{guard:X (Y×Bool)}{t:j0}{m k v:j9}{D:XI}(f:cI C.P ⟨dst,.mapUpdate t m k v,type,pos,after,guard⟩=J D){out:Out}(d:evI C e O D=J out):IV C.P ⟨dst,.mapUpdate t m k v,type,pos,after,guard⟩ ρ g O w out:=by
 simp only[cI,aB4,a04,aC3]at f;obtain⟨u,K,f⟩:=f;cases u<;>first|(cases f;done)|skip
 rename_i N E;simp only[a04]at f;obtain⟨Q,y,f⟩:=f;cases Q<;>first|(cases f;done)|skip
 simp only[a04,a07]at f;obtain⟨a,F,b,hb,c,n,rfl⟩:=f;have A:=j m a F;have B:=j k b hb;have M:=j v c n;simp only[evI,aF]at d;generalize G:av C e a=S at A d;generalize p:ρ m=V at A;generalize H:av C e b=T at B d;generalize q:ρ k=W at B;cases A<;>first|(cases d;done)|skip
 rename_i co hr;simp only at d;split at d
 ·rename_i l o;cases B<;>first|(cases d;done)|skip
  rename_i s;simp only at d;have hres:∃h,out=.ev .dT (O.set co (.dz h))/\(match oM (.cU s) l 0 with|J (J (i,_))=>J (l.set i (AV.cU s,av C e c))|J U=>J (l++[(AV.cU s,av C e c)])|U=>U)=J h:=(by grind);obtain⟨h,rfl,I⟩:=hres;obtain⟨R,h4,h5⟩:=X3 (P:=C.P) L t N E K y o M I;exact⟨R,g,h5,.inr ⟨k9,by simp[j8,p,q,h4]⟩⟩
 ·cases d
def apO(L:WR g w O)(j:∀x a,cA x=J a->VR g (av C e a) (ρ x)){dst:X Tmp}{type:j0}{pos:K6}{after:j7 Edge}{guard:X (Y×Bool)}{t:j0}{m k v:j9}{D:XI}(f:cI C.P ⟨dst,.insert t m k v,type,pos,after,guard⟩=J D){out:Out}(d:evI C e O D=J out):IV C.P ⟨dst,.insert t m k v,type,pos,after,guard⟩ ρ g O w out:=by
 simp only[cI,aB4,a04,aC3]at f;obtain⟨u,K,f⟩:=f;cases u<;>first|(cases f;done)|skip
 rename_i N E;simp only[a04]at f;obtain⟨Q,y,f⟩:=f;cases Q<;>first|(cases f;done)|skip
 simp only[a04,a07]at f;obtain⟨a,F,b,hb,c,n,rfl⟩:=f;have A:=j m a F;have B:=j k b hb;have M:=j v c n;simp only[evI,aF]at d;generalize G:av C e a=S at A d;generalize p:ρ m=V at A;generalize H:av C e b=T at B d;generalize q:ρ k=W at B;cases A<;>first|(cases d;done)|skip
 rename_i co hr;simp only at d;split at d
 ·rename_i l o;cases B<;>first|(cases d;done)|skip
  rename_i s;simp only at d;have hres:∃h,out=.ev .dT (O.set co (.dz h))/\(match oM (.cU s) l 0 with|J (J (i,_))=>J (l.set i (AV.cU s,av C e c))|J U=>J (l++[(AV.cU s,av C e c)])|U=>U)=J h:=(by grind);obtain⟨h,rfl,I⟩:=hres;obtain⟨R,h4,h5⟩:=X3 (P:=C.P) L t N E K y o M I;exact⟨R,g,h5,.inr ⟨k9,by simp[j8,p,q,h4]⟩⟩
 ·cases d
end
section
variable{C:Ctx}{g:Gh}{w:World}{O:St}{e:Env}{ρ:Operand->Value}
theorem an1(t:j0)(v:W)(ptr:V)(h:ajA C.P t ptr=eT)(nm:X K6)(w:Q):(receiverAt t (.val v) ptr nm).run C.P w=.ok v w:=by
 unfold ajA at h;cases a:C.P.underlying t with
 |none=>rw[a]at h;cases h|some u=>rw[a]at h;cases u<;>simp only at h<;>cases ptr<;>first|(cases h;done)|simp[receiverAt,w8 a,Place.get]
def anL:∃n,C.P.types.size+Made.depth=n+1:=⟨C.P.types.size+Made.depth-1,by unfold Made.depth;omega⟩
def Yz{t:j0}{av:AV}{name:K6}{f:x}{j:AV}(h:methodOf C.P t av name=J (f,j))(v:W)(w:Q):j=av/\(method (C.P.types.size+Made.depth) t v name).run C.P w=.ok (f,v) w:=by
 unfold methodOf at h;split at h
 ·rename_i i hi;split at h
  ·rename_i m b;split at h;·cases h
   ·rename_i e;split at h
    ·rename_i d p hf;split at h;·rename_i hv;cases h;refine⟨k9,?_⟩;obtain⟨n,c⟩:=anL (C:=C);have a:m.path.toList=[]:=(by grind);rw[c,method];simp only[j6,k,run_program,w9,hi,K0,b,a,follow,hf,an1 t v p hv]
     ·cases h
    ·cases h
  ·cases h
 ·cases h
def adq {K:AV} {L:W} (hf:VR g K L) {args:LA} {b:T W} (M:VRs g args b) {out:Out} (a:Ku C K args O=J out):
  ∃f azs s,out=.fI f azs O/\VRs g azs s/\(do let d<-K2 L ⟨b⟩;J0 d.target d.args:Sem Next).run C.P w=(callFunc f ⟨s⟩).run C.P w:=by
 cases hf<;>first|(cases a;done)|skip
 rename_i fn x y p S P Q;have e:=P.cM M;cases fn<;>simp only[Ku]at a<;>first|(cases a;done)|skip
 ·rename_i f;cases a;refine⟨_,_,_,k9,e.cM Q,?_⟩;simp[K2,J0]
 ·rename_i name;split at a
  ·rename_i t v n c;rw[c]at e;split at a
   ·rename_i f cB E;cases a;generalize A:p++b=l at e;cases e with
    |cV _ u _ k o h=>
     generalize B:AV.dx t v=q at o;cases o<;>first|(cases B;done)|skip
     cases B;rename_i j hv;obtain⟨rfl,i⟩:=Yz E j w;refine⟨_,_,_,k9,.cV _ _ _ _ hv h,?_⟩;have e1:(⟨p⟩:j7 W)++(⟨b⟩:j7 W)=⟨.iface t j::k⟩:=by apply aG8;simpa using A
     simp[K2,J0,e1,callMethod,i]
   ·cases a
  ·cases a
 ·rename_i t name;split at a
  ·rename_i v n c;rw[c]at e;split at a;·cases a
   ·rename_i G;split at a
    ·rename_i f cB E;cases a;generalize A:p++b=l at e;cases e with
     |cV _ j _ k o h=>
      obtain⟨rfl,i⟩:=Yz E j w;refine⟨_,_,_,k9,.cV _ _ _ _ o h,?_⟩;have e1:(⟨p⟩:j7 W)++(⟨b⟩:j7 W)=⟨j::k⟩:=by apply aG8;simpa using A
      cases D:C.P.underlying t with
      |none=>exfalso;unfold methodOf ajA at E;grind
      |some u=>
       have H:∀m,u≠ .interface m:=λm F=>G m (by rw[D,F]);have e2:(⟨j::k⟩:j7 W).extract 1=⟨k⟩:=by apply aG8;simp
       have e3:(⟨j::k⟩:j7 W).extract 1 (z k+1)=⟨k⟩:=by apply aG8;simp
       cases u<;>first|(exact absurd k9 (H _))|(simp[K2,J0,e1,w8 D,callMethod,i])
    ·cases a
  ·cases a
 ·rename_i t path f ptr;split at a
  ·rename_i v n c;rw[c]at e;split at a;·cases a
   ·rename_i R;split at a
    ·rename_i hv;cases a;generalize A:p++b=l at e;cases e with
     |cV _ j _ k o h=>
      refine⟨_,_,_,k9,.cV _ _ _ _ o h,?_⟩;have e1:(⟨p⟩:j7 W)++(⟨b⟩:j7 W)=⟨j::k⟩:=by apply aG8;simpa using A
      have N:path.toList=[]:=(by grind);have I:(receiverVia t j path ptr).run C.P w=.ok j w:=(by grind [receiverVia,follow,an1]);simp[K2,J0,e1,I]
    ·cases a
  ·cases a
def c_call(M:WR g w O)(k:∀x a,cA x=J a->VR g (av C e a) (ρ x)){dst:X Tmp}{type:j0}{pos:K6}{after:j7 Edge}{guard:X (Nat×Bool)}{c:Call}{xi:XI}(h:cI C.P ⟨dst,.call c,type,pos,after,guard⟩=J xi){out:Out}(d:evI C e O xi=J out):IV C.P ⟨dst,.call c,type,pos,after,guard⟩ ρ g O w out:=by
 obtain⟨callee,args,j⟩:=c;have hmap:args.map ρ=⟨args.toList.map ρ⟩:=by apply aG8;simp
 cases callee with
 |value f=>
  have key:∀(I:XA) (q:List XA),cA f=J I->cAs args.toList=J q->Ku C (av C e I) (q.map (av C e)) O=J out->IV C.P ⟨dst,.call ⟨.value f,args,j⟩,type,pos,after,guard⟩ ρ g O w out:=λI q E has au=>by obtain⟨f',bs,ac,rfl,R,h2⟩:=adq (w:=w) (k f I E) (V9 k _ _ has) au;refine⟨k9,ac,R,?_⟩;grind [j8,resolve]
  cases f with
  |func ff=>simp only[cI,aB4,a04,aC3,a07]at h;obtain⟨q,has,rfl⟩:=h;simp only[evI,aF]at d;refine key _ q k9 has ?_;simp only[av,Ku,a88,aB3];exact d
  |tmp t=>simp only[cI,aB4,a04,aC3,a07]at h;obtain⟨I,E,q,has,rfl⟩:=h;exact key I q E has d
  |const t=>simp only[cI,aB4,a04,aC3,a07]at h;obtain⟨I,E,q,has,rfl⟩:=h;exact key I q E has d
  |global t=>simp only[cI,aB4,a04,aC3,a07]at h;obtain⟨I,E,q,has,rfl⟩:=h;exact key I q E has d
 |invoke cB m=>
  simp only[cI,aB4,a04,aC3,a07]at h;obtain⟨ar,ah,q,has,rfl⟩:=h;have B:=k cB ar ah;have S:=V9 k _ _ has;simp only[evI,aF]at d;generalize T:av C e ar=aa at B d;generalize A:ρ cB=px at B;cases B<;>first|(cases d;done)|skip
  rename_i t v v' hv;simp only at d;split at d
  ·rename_i f r' hm;cases d;obtain⟨rfl,D⟩:=Yz hm v' w;refine⟨k9,v'::args.toList.map ρ,.cV _ _ _ _ hv S,?_⟩;have e1:#[ρ cB]++args.map ρ=⟨.iface t v'::args.toList.map ρ⟩:=by apply aG8;simp[A]
   have e3:(args.toList.map ρ).take args.size=args.toList.map ρ:=a98 (by simp);simp[j8,resolve,e1,J0,callMethod,D,e3]
  ·cases d
 |builtin b=>
  have aM:args.toList.map ρ=(args.map ρ).toList:=(by simp);cases b<;>simp only[cI]at h<;>first|(cases h;done)|skip
  case append=>
   split at h
   ·rename_i t u x y R h2;simp only[aB4,a04,aC3]at h;obtain⟨ud,K,h⟩:=h;cases ud<;>first|(cases h;done)|skip
    rename_i Q;simp only[a04]at h;obtain⟨z,hz,uu,aD,h⟩:=h;obtain⟨i,v,hi,aL,ay⟩:=JQ hz;have hv:=vN g v z ay;have e1:j=#[t,u]:=by apply aG8;simpa using R
    have e2:args=#[x,y]:=by apply aG8;simpa using h2
    subst e1 e2;have key:∀(str:Bool) (a b:XA),cA x=J a->cA y=J b->z.cP.length=i.size->i.bytes<=1048576->(uu=.string/\str=eT\/(∃e',uu=.slice e')/\str=eF)->evI C e O (.eD str i.size i.bytes (ad4 C.P Q eF) a b)=J out->IV C.P ⟨dst,.call ⟨.builtin .append,#[x,y],#[t,u]⟩,type,pos,after,guard⟩ ρ g O w out:=λstr a b L hb aK aq hk d=>by
     simp only[evI,aF]at d;split at d
     ·rename_i m cs H;split at d;·cases d
      ·rename_i F;simp only[aE7,bne_iff_ne,ne_eq,aJ2,not_or,Decidable.not_not,Bool.not_eq_false]at F;split at d<;>first|(cases d;done)|skip
       rename_i v0 O0 ad;cases d;obtain⟨v',w',g',hr,aE,ax⟩:=anB (P:=C.P) M t u type Q i v K hi aL (by rw[hv.bX];exact aK) aq (λt' x' ab=>⟨(ad5 ab).1,(ad5 ab).2.symm⟩) (k x a L) (k y b hb) H F.2 (by
        rcases hk with⟨rfl,rfl⟩|⟨⟨e',rfl⟩,rfl⟩;·refine .inr ⟨aD,?_⟩;have:=F.1;cases ak:av C e b<;>simp[ak,isStr]at this;exact⟨_,k9⟩
        grind [isStr]) ad
       exact⟨w',g',ax,.inl ⟨v',by simp[j8,resolve,J0,Go.builtin,hr],aE⟩⟩
     ·cases d
    cases uu<;>first|(cases h;done)|skip
    ·simp only[hi,Option.bind_some]at h;split at h;·rename_i hh;simp only[a04,a07]at h;grind
     ·cases h
    ·simp only[hi,Option.bind_some]at h;split at h;·rename_i hh;simp only[a04,a07]at h;grind
     ·cases h
   ·cases h
  case copy=>
   split at h
   ·rename_i t N x y R h2;simp only[aB4,a04,aC3]at h;obtain⟨ud,K,h⟩:=h;cases ud<;>first|(cases h;done)|skip
    rename_i Q;simp only[a04,a07]at h;obtain⟨i,hi,a,L,b,hb,rfl⟩:=h;have e1:j=⟨t::N⟩:=by apply aG8;simpa using R
    have e2:args=#[x,y]:=by apply aG8;simpa using h2
    subst e1 e2;have B:=k x a L;simp only[evI,aF]at d;split at d
    ·rename_i m cs o off n s H hd;rw[hd]at B;split at d
     ·rename_i l hl;split at d;·rename_i hh;cases d;obtain⟨rfl,al,hf⟩:=hh;obtain⟨w',h3,h4⟩:=ak2 (P:=C.P) M t 0 type Q N i K hi (k y b hb) B hl H al hf;exact⟨w',g,h4,.inl ⟨_,by simp[j8,resolve,J0,Go.builtin,h3];rfl,.cQ _ _⟩⟩
      ·cases d
     ·cases d
    ·cases d
   ·cases h
  case len=>
   split at h
   ·rename_i t ts x xs R h2;simp only[aB4,a04,aC3]at h;obtain⟨ud,K,h⟩:=h;have e1:j[0]?=J t:=by rw[<-Array.getElem?_toList,R];rfl
    have e2:(args.map ρ)[0]?=J (ρ x):=(by grind);have D:∀n,(K1 j type (args.map ρ)).run C.P w=.ok (goInt n) w->(j8 ρ ⟨dst,.call ⟨.builtin .len,args,j⟩,type,pos,after,guard⟩).run C.P w=.ok (.value (goInt n)) w:=λn G=>by simp[j8,resolve,J0,Go.builtin,G]
    cases ud<;>first|(cases h;done)|skip
    case array n Q=>simp only[a07]at h;subst h;simp only[evI,aF]at d;cases d;exact dD M (D n (by simp[K1,e1,e2,w8 K])) (.cQ _ _)
    case pointer p=>
     simp only[a04]at h;obtain⟨up,az,h⟩:=h;cases up<;>first|(cases h;done)|skip
     rename_i n Q;simp only[a07]at h;subst h;simp only[evI,aF]at d;cases d;exact dD M (D n (by simp[K1,e1,e2,w8 K,w8 az])) (.cQ _ _)
    all_goals
     simp only[a04,a07]at h;obtain⟨a,L,rfl⟩:=h;have B:=k x a L;simp only[evI,aF,aB5]at d;obtain⟨n,G,rfl⟩:=d;refine dD M (D n ?_) (.cQ _ _);generalize T:av C e a=aa at B G;generalize A:ρ x=px at B
    case string=>
     cases B<;>first|(cases G;done)|skip
     cases G;simp[K1,e1,e2,A,w8 K];rfl
    case slice Q=>
     cases B<;>first|(cases G;done)|skip
     all_goals (cases G;simp[K1,e1,e2,A,w8 K])
    case map kt et=>
     cases B<;>first|(cases G;done)|skip
     ·rename_i m hm;simp only[bC]at G;split at G;·rename_i es aw;cases G;obtain⟨Y,clock,h3,h4⟩:=M.bA m _ aw;have Z:(getObj (g.ob m)).run C.P w=.ok (.map Y clock) w:=(by simp[getObj,Sem.run,h3]);simp[K1,e1,e2,A,w8 K,Z,h4.aq]
      ·cases G
     ·cases G;simp[K1,e1,e2,A,w8 K]
   ·cases h
  case max=>
   split at h
   ·rename_i x y h2;simp only[aB4,a04,aC3,a07]at h;obtain⟨a,L,b,hb,rfl⟩:=h;have e2:args=#[x,y]:=by apply aG8;simpa using h2
    subst e2;have B:=k x a L;have W:=k y b hb;simp only[evI,aF,aB5]at d;obtain⟨v,hv,rfl⟩:=d;generalize T:av C e a=aa at B hv;generalize A:ρ x=px at B;generalize an:av C e b=bb at W hv;generalize V:ρ y=py at W;cases B<;>first|(cases hv;done)|skip
    cases W<;>first|(cases hv;done)|skip
    cases hv;exact dD M (by simp[j8,resolve,J0,Go.builtin,A,V,Builtin.max_,Builtin.max2]) (.cQ _ _)
   ·cases h
  case min=>
   split at h
   ·rename_i x y h2;simp only[aB4,a04,aC3,a07]at h;obtain⟨a,L,b,hb,rfl⟩:=h;have e2:args=#[x,y]:=by apply aG8;simpa using h2
    subst e2;have B:=k x a L;have W:=k y b hb;simp only[evI,aF,aB5]at d;obtain⟨v,hv,rfl⟩:=d;generalize T:av C e a=aa at B hv;generalize A:ρ x=px at B;generalize an:av C e b=bb at W hv;generalize V:ρ y=py at W;cases B<;>first|(cases hv;done)|skip
    cases W<;>first|(cases hv;done)|skip
    cases hv;exact dD M (by simp[j8,resolve,J0,Go.builtin,A,V,Builtin.min_,Builtin.min2]) (.cQ _ _)
   ·cases h
end
section
variable{C:Ctx}{g:Gh}{w:World}{O:St}{e:Env}{ρ:Operand->Value}
def adP (H:WR g w O) {m:XA} {n sz:Y} {lo hi A:X XA} {out:Out} (a:evI C e O (.gF n sz m lo hi A)=J out) {B:W} (y:VR g (av C e m) B) {i f j:X W}
  (t:adm g (lo.map (av C e)) i) (q:adm g (hi.map (av C e)) f) (u:adm g (A.map (av C e)) j):
  ∃v b off l h,out=.ev v O/\B=.pointer (J ⟨b,off,U⟩)/\(∀k,(N eF n n i f j).run C.P k=.ok (l,h,n) k)/\VR g v (.slice (J (if n=l then⟨b,off,U⟩else(⟨b,off,U⟩:Addr).add (l*sz))) (h-l) (n-l)):=by
 simp only[evI,aF]at a;generalize D:av C e m=I at y a;cases y<;>first|(cases a;done)|skip
 rename_i o off G;simp only at a;split at a
 ·rename_i l K E;split at a
  ·rename_i l0 x s p;split at a
   ·rename_i d;cases a;refine⟨_,_,_,l0,x,k9,k9,λk=>Yh t q u eF s p (by simp) d.1 d.2.1 (a09 _) (by simp) k,?_⟩;split;·grind [VR]
    ·rename_i F;rw[Z1 (by omega),addr_add];obtain⟨c,e0,fr,L,h2,h3,h4,h5,h6⟩:=H.bA o _ E;refine .dj o (off+l0*sz) (x-l0) sz (n-l0) G (by omega) ?_;rw[<-h2];have:l0*sz+(n-l0)*sz=n*sz:=by rw[<-aJ5];congr 1;omega
     omega
   ·cases a
  ·cases a
 ·cases a
def au8(F:WR g w O)(j:∀x a,cA x=J a->VR g (av C e a) (ρ x)){dst:Option Tmp}{type:j0}{pos:K6}{after:j7 Edge}{guard:Option (Nat×Bool)}{t:j0}{x:j9}{lo I V:Option j9}{xi:XI}(q:cI C.P ⟨dst,.slice t x lo I V,type,pos,after,guard⟩=J xi){out:Out}(c:evI C e O xi=J out):IV C.P ⟨dst,.slice t x lo I V,type,pos,after,guard⟩ ρ g O w out:=by
 simp only[cI,aB4,a04,aC3]at q;obtain⟨u,T,q⟩:=q;cases u<;>first|(cases q;done)|skip
 case string=>
  cases V with
  |some m=>cases q
  |none=>
   simp only[a04,a07]at q;obtain⟨a,G,S,A,R,y,rfl⟩:=q;have N:=j x a G;have W:=DY j A;have h2:=DY j y;simp only[evI,aF]at c;generalize X:av C e a=aa at N c;generalize K:ρ x=px at N;cases N<;>first|(cases c;done)|skip
   rename_i s;simp only at c;split at c
   ·rename_i l h D B;split at c
    ·rename_i d;cases c;have hb:=Yh (P:=C.P) W h2 .gw eF (len:=z s) (cap:=z s) (m:=z s) D B k9 d.1 d.2 (a09 _) (by simp) w;refine dD F (v':=.string ((⟨⟨s⟩⟩:X1).extract l h)) ?_ ?_;·have ab:(⟨⟨s⟩⟩:X1).size=z s:=k9;simp[j8,Instr.sliceAt,w8 T,Instr.slice,K,ab,hb]
     ·have:(⟨⟨s⟩⟩:X1).extract l h=⟨⟨(s.take h).drop l⟩⟩:=by apply ByteArray.ext;grind [Lib.extract_data,List.take_drop]
      rw[this];exact .cU _
    ·cases c
   ·cases c
 case slice el=>
  simp only[a04,a07]at q;obtain⟨i,hi,a,G,S,A,R,y,am,E,rfl⟩:=q;have N:=j x a G;have W:=DY j A;have h2:=DY j y;have h3:=DY j E;simp only[evI,aF]at c;generalize X:av C e a=aa at N c;generalize K:ρ x=px at N;have key:∀(b:Option Addr) (len cap l h:Nat),px=.slice b len cap->jI 0 (S.map (av C e))=J l->jI len (R.map (av C e))=J h->am=U->l<=h->h<=cap->
    (j8 ρ ⟨dst,.slice t x lo I V,type,pos,after,guard⟩).run C.P w=.ok (.value (.slice (if cap=l then b else b.map (·.add (l*i.size))) (h-l) (cap-l))) w:=λb len cap l h Q D B hm k Y=>by
   subst Q hm;have hb:=Yh (P:=C.P) W h2 h3 eT (len:=len) (cap:=cap) (m:=cap) D B k9 k Y (a09 _) (by simp) w;simp[j8,Instr.sliceAt,w8 T,Instr.slice,K,hb,run_sizeOf hi]
  cases N<;>first|(cases c;done)|skip
  all_goals simp only at c
  case cY=>
   split at c;·rename_i D B;cases c;exact dD F (key _ _ _ 0 0 k9 D B k9 (a09 _) (a09 _)) (by simpa using .cY)
   ·cases c
  case ia=>
   split at c
   ·rename_i l h D B;split at c;·rename_i d;cases c;obtain rfl:h=0:=(by omega);obtain rfl:l=0:=(by omega);exact dD F (key _ _ _ 0 0 k9 D B k9 (a09 _) (a09 _)) (by simpa using .ia)
    ·cases c
   ·cases c
  case gA b cap=>
   split at c
   ·rename_i l h D B;split at c;·rename_i d;cases c;obtain rfl:h=0:=(by omega);obtain rfl:l=0:=(by omega);refine dD F (key _ _ _ 0 0 k9 D B k9 (a09 _) (a97 _)) ?_;grind [VR]
    ·cases c
   ·cases c
  case sl n l b off cap H ad=>
   split at c
   ·rename_i f hj D B;split at c
    ·rename_i d;cases c;refine dD F (key _ _ _ f hj k9 D B k9 d.1 (by omega)) ?_;by_cases k:f=hj
     ·subst k;have e0:((l.take (f*i.size)).drop (f*i.size))=[]:=(by simp);rw[e0,Nat.sub_self];split;·exact .gA _ _
      ·simp only[aC5];exact .gA _ _
     ·rw[Z1 (by omega)];simp only[aC5,addr_add];exact .sl _ _ _ _ _ ((H.cD _).cB _) (by omega)
    ·cases c
   ·cases c
  case eB n l b off H=>
   split at c
   ·rename_i f hj D B;split at c
    ·rename_i d;cases c;refine dD F (key _ _ _ f hj k9 D B k9 d.1 (by omega)) ?_;by_cases k:f=hj
     ·subst k;have e0:((l.take (f*i.size)).drop (f*i.size))=[]:=(by simp);rw[e0,Nat.sub_self];split;·exact .gA _ _
      ·simp only[aC5];exact .gA _ _
     ·rw[Z1 (by omega)];simp only[aC5,addr_add];exact .sl _ _ _ _ _ ((H.cD _).cB _) (by omega)
    ·cases c
   ·cases c
  case dj o off n sz cap ho hn hb=>
   split at c
   ·rename_i f hj D B;split at c
    ·rename_i d;cases c;refine dD F (key _ _ _ f hj k9 D B k9 d.1 (by omega)) ?_;by_cases k:f=hj/\f≠0
     ·obtain⟨k,Z⟩:=k;subst k;rw[K4 ⟨k9,Z⟩,Nat.sub_self];split;·exact .fS _ _
      ·simp only[aC5];exact .fS _ _
     ·rw[Z1 k];have L:(if cap=f then J (⟨g.ob o,off,U⟩:Addr)else J ((⟨g.ob o,off,U⟩:Addr).add (f*i.size)))=J (⟨g.ob o,off+f*i.size,U⟩:Addr):=by
       split;·have:f=0:=(by omega);rw[this];simp
       ·rw[addr_add]
      simp only[aC5];rw[L];obtain⟨_,_,rfl⟩:=d;refine .dj o _ (hj-f) i.size (cap-f) ho (by omega) ?_;have:f*i.size+(cap-f)*i.size=cap*i.size:=by rw[<-aJ5];congr 1;omega
      omega
    ·cases c
   ·cases c
 case array n el=>simp only[a04,a07]at q;obtain⟨i,hi,a,G,S,A,R,y,am,E,rfl⟩:=q;obtain⟨v,b,off,l,h,rfl,Q,hb,M⟩:=adP F c (j x a G) (DY j A) (DY j y) (DY j E);exact dD F (by simp[j8,Instr.sliceAt,w8 T,Instr.sureAddr,Q,hb,run_sizeOf hi]) M
 case pointer p=>
  simp only[a04]at q;obtain⟨up,ac,q⟩:=q;cases up<;>first|(cases q;done)|skip
  rename_i n el;simp only[a04,a07]at q;obtain⟨i,hi,a,G,S,A,R,y,am,E,rfl⟩:=q;obtain⟨v,b,off,l,h,rfl,Q,hb,M⟩:=adP F c (j x a G) (DY j A) (DY j y) (DY j E);exact dD F (by simp[j8,Instr.sliceAt,w8 T,Instr.slice,asAddr,w8 ac,Q,hb,run_sizeOf hi]) M
def afT(E:WR g w O)(R:∀x a,cA x=J a->VR g (av C e a) (ρ x)){dst:Option Tmp}{type:j0}{pos:K6}{after:j7 Edge}{guard:Option (Nat×Bool)}{t:j0}{n:Nat}{F:j7 (Nat×j9)}{T:XI}(b:cI C.P ⟨dst,.buildSlice t n F,type,pos,after,guard⟩=J T){out:Out}(d:evI C e O T=J out):IV C.P ⟨dst,.buildSlice t n F,type,pos,after,guard⟩ ρ g O w out:=by
 simp only[cI,aB4,a04,aC3]at b;obtain⟨u,hu,b⟩:=b;cases u<;>first|(cases b;done)|skip
 rename_i H;simp only[a04]at b;obtain⟨k,q,b⟩:=b;split at b;·cases b
 ·rename_i hn;simp only[a04]at b;obtain⟨z,hz,b⟩:=b;split at b
  ·rename_i Q;simp only[a04,a07]at b;obtain⟨qs,K,rfl⟩:=b;obtain⟨i,v,G,h2,h3⟩:=JQ hz;rw[q]at G;cases G;have hv:=vN g v z h3;simp only[evI,aF]at d;split at d
   ·rename_i l W;split at d
    ·rename_i S;cases d;have M:v.cells.size=k.size:=by rw[hv.bX];exact Q
     have D:=agG hv.cP n;have s:∃o:j7 Value,(n*k.size=0/\o=#[]\/n*k.size≠0/\o=v.cells)/\((Array.range (n*k.size)).map (o[· %o.size]!)).toList=(K7 n v.cells.toList).flatten:=by
      by_cases p:n*k.size=0;·refine⟨#[],.inl ⟨p,k9⟩,?_⟩;rw[p];have:((K7 n v.cells.toList).flatten).length=0:=(by simp[M,p]);grind
      ·refine⟨v.cells,.inr ⟨p,k9⟩,?_⟩;have:=aeW v.cells n (by
        grind)
       grind
     obtain⟨o,N,P⟩:=s;obtain⟨y,hf,hr⟩:=N8 _ R F.toList qs K _ ((Array.range (n*k.size)).map (o[· %o.size]!)) _ (by rw[P];exact D) W;have A:Instr.fill (λi=>J (i*k.size,k.size)) ((Array.range (n*k.size)).map (o[· %o.size]!)) (Array.map (λx=>(x.fst,ρ x.snd)) F).toList=J y:=(by simpa using hf);have f:=abT E y H;have V:y.size=l.length:=by have:=hr.I;simpa using this
     have h:(j8 ρ ⟨dst,.buildSlice t n F,type,pos,after,guard⟩).run C.P w=.ok (.value (.slice (J ⟨w.heap.size,0,U⟩) n n)) (Bo w (.cells y H)):=by
      have X:¬(2^24<n*k.size):=(by omega);simp only[j8,Instr.buildSlice,j6,w8 hu,w9,run_sizeOf q];rw[Z1 (by omega)];rcases N with⟨p,rfl⟩|⟨p,rfl⟩;·rw[K4 p];simp only[K0,j6,w9,A,newRow,run_newObj];rfl
      ·rw[Z1 p];simp only[K0,j6,w9,JI q h2,A,newRow,run_newObj];rfl
     cases Y:DU z.cP with
     |true=>
      by_cases B:n=0;·subst B;refine⟨_,_,f,.inl ⟨_,h,?_⟩⟩;refine .eB 0 l w.heap.size 0 (CR.b6 λj a I=>?_);grind
      ·obtain⟨m,rfl⟩:=Nat.exists_eq_add_one_of_ne_zero B;have f:=BL E H FZ (l:=l) (c:=y) (λt x Z=>by cases Z) (λi x hx=>hr.cd hx|>λ⟨v,G,h2⟩=>⟨v,by simpa using G,h2⟩) (by omega);refine⟨_,_,f,.inl ⟨_,h,?_⟩⟩;have:=VR.dj (g:=g.ac w.heap.size y.size) O.length 0 (m+1) k.size (m+1) (by simp[Gh.ac,E.n]) (a09 _) (by simp[Gh.ac,E.n];omega);simpa[Gh.ac,E.n]using this
     |false=>
     refine⟨_,_,f,.inl ⟨_,h,?_⟩⟩;refine .eB n l w.heap.size 0 (CR.b6 λj a I=>?_);obtain⟨u,aa,L⟩:=hr.cd I;have hj:=(a00.1 I).1;refine⟨u,?_,L.D f.le⟩;simp only[Gh.au,aC4];grind
    ·cases d
   ·cases d
  ·cases b
end
end Go.Ev
