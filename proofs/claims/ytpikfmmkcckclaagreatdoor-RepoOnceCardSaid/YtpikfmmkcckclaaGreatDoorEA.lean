/- An evaluator. No conditions. -/
import Derived.Calls
import Derived.Below
import Derived.Laws.IdiomCopy
import Derived.Laws.Cells
import Derived.Deep.AppendSrc
import Derived.Deep.Upon
import Derived.LaidEql
import Derived.Laws.StructEq
import Derived.Laws.Cover3
import Derived.Laws.Pointers
import Derived.Lib.Bytes
import Derived.Lib.Bytealg
import Derived.Laws.MakeOwn
import Derived.Laws.BytesArg
import Derived.Laws.IdiomStrings
import Derived.Lib.IndexBytes
import Derived.Orders
import Derived.LoopN
import Derived.Scope
set_option linter.unusedVariables false
set_option linter.unusedSimpArgs false
set_option linter.defProp false
namespace Go.Ev
abbrev LU:=List UInt8
def a00:type_of%@List.getElem?_eq_some_iff.{0}:=@List.getElem?_eq_some_iff.{0}
def a02:type_of%@List.getElem?_eq_getElem.{0}:=@List.getElem?_eq_getElem.{0}
def a01:type_of%@Bool.and_eq_true:=@Bool.and_eq_true
theorem a03:type_of%@Option.bind_eq_some_iff.{0,0}:=@Option.bind_eq_some_iff.{0,0}
def a04:type_of%@List.length_append.{0}:=@List.length_append.{0}
def a05:type_of%@Option.some.injEq.{0}:=@Option.some.injEq.{0}
def a06:type_of%@Nat.le_refl:=@Nat.le_refl
def a88:type_of%@List.all_cons.{0}:=@List.all_cons.{0}
def a08:type_of%@List.take_of_length_le.{0}:=@List.take_of_length_le.{0}
def a07:type_of%@List.length_cons.{0}:=@List.length_cons.{0}
def a99:type_of%@List.cons_append.{0}:=@List.cons_append.{0}
def a90:type_of%@List.all_eq_true.{0}:=@List.all_eq_true.{0}
def a09:type_of%@List.length_nil.{0}:=@List.length_nil.{0}
def a81:type_of%@Int.toNat_natCast:=@Int.toNat_natCast
def a94:type_of%@List.mem_of_getElem?.{0}:=@List.mem_of_getElem?.{0}
def a95:type_of%@List.length_set.{0}:=@List.length_set.{0}
def at6:type_of%@Int.cast_ofNat_Int:=@Int.cast_ofNat_Int
def a96:type_of%@Option.bind_eq_bind.{0}:=@Option.bind_eq_bind.{0}
theorem a97:type_of%@Option.map_eq_some_iff.{0,0}:=@Option.map_eq_some_iff.{0,0}
def a98:type_of%@Nat.zero_le:=@Nat.zero_le
theorem as9:type_of%@List.drop_eq_getElem_cons.{0}:=@List.drop_eq_getElem_cons.{0}
def au3:type_of%@List.nil_append.{0}:=@List.nil_append.{0}
def au2:type_of%@List.append_assoc.{0}:=@List.append_assoc.{0}
theorem at7:type_of%@Nat.eq_of_beq_eq_true:=@Nat.eq_of_beq_eq_true
def au1:type_of%@List.drop_eq_nil_of_le.{0}:=@List.drop_eq_nil_of_le.{0}
def au0:type_of%@List.drop_zero.{0}:=@List.drop_zero.{0}
def au4:type_of%@Option.pure_def.{0}:=@Option.pure_def.{0}
def au6:type_of%@List.append_nil.{0}:=@List.append_nil.{0}
def au5:type_of%@List.eq_nil_of_length_eq_zero.{0}:=@List.eq_nil_of_length_eq_zero.{0}
def au7:type_of%@List.getElem?_take.{0}:=@List.getElem?_take.{0}
def au8:type_of%@Option.map_some.{0,0}:=@Option.map_some.{0,0}
def au9:type_of%@List.mem_cons.{0}:=@List.mem_cons.{0}
def av1:type_of%@List.getElem?_append_left.{0}:=@List.getElem?_append_left.{0}
def av3:type_of%@List.map_cons.{0,0}:=@List.map_cons.{0,0}
def av2:type_of%@Nat.zero_add:=@Nat.zero_add
def aw9:type_of%@Nat.mul_one:=@Nat.mul_one
def av4:type_of%@List.getD_eq_getElem?_getD.{0}:=@List.getD_eq_getElem?_getD.{0}
def av5:type_of%@Bool.not_false:=@Bool.not_false
def av6:type_of%@Prod.mk.injEq.{0,0}:=@Prod.mk.injEq.{0,0}
def av7:type_of%@List.take_append_of_le_length.{0}:=@List.take_append_of_le_length.{0}
def av9:type_of%@Bool.and_self:=@Bool.and_self
def av8:type_of%@Nat.le_of_ble_eq_true:=@Nat.le_of_ble_eq_true
def aw0:type_of%@Array.getElem?_eq_getElem.{0}:=@Array.getElem?_eq_getElem.{0}
def aw1:type_of%@List.all_nil.{0}:=@List.all_nil.{0}
def aw4:type_of%@Bool.not_true:=@Bool.not_true
def aw2:type_of%@List.getElem?_eq_none.{0}:=@List.getElem?_eq_none.{0}
theorem aw3:type_of%@Option.isSome_iff_exists.{0}:=@Option.isSome_iff_exists.{0}
def aw5:type_of%@List.ext_getElem?.{0}:=@List.ext_getElem?.{0}
def aw7:type_of%@Bool.and_true:=@Bool.and_true
def aD7:type_of%@List.take_succ_cons.{0}:=@List.take_succ_cons.{0}
def aw6:type_of%@Bool.true_and:=@Bool.true_and
def az1:type_of%@List.getElem_mem.{0}:=@List.getElem_mem.{0}
def aw8:type_of%@List.length_map.{0,0}:=@List.length_map.{0,0}
def ax0:type_of%@List.getElem?_cons_succ.{0}:=@List.getElem?_cons_succ.{0}
def ax1:type_of%@List.mem_map.{0,0}:=@List.mem_map.{0,0}
def ax2:type_of%@List.getElem?_append.{0}:=@List.getElem?_append.{0}
def ax3:type_of%@List.flatten_cons.{0}:=@List.flatten_cons.{0}
def ax4:type_of%@List.set_set.{0}:=@List.set_set.{0}
def ax5:type_of%@List.getElem?_map.{0,0}:=@List.getElem?_map.{0,0}
def ax6:type_of%@List.mem_append_left.{0}:=@List.mem_append_left.{0}
def ax7:type_of%@Nat.le_trans:=@Nat.le_trans
def ax8:type_of%@Nat.lt_of_lt_of_le:=@Nat.lt_of_lt_of_le
def ay0:type_of%@Array.getElem?_eq_some_iff.{0}:=@Array.getElem?_eq_some_iff.{0}
def ay1:type_of%@List.flatMap_cons.{0,0}:=@List.flatMap_cons.{0,0}
def ax9:type_of%@Bool.true_or:=@Bool.true_or
def ay2:type_of%@Bool.or_eq_false_iff:=@Bool.or_eq_false_iff
def ay3:type_of%@List.forall_mem_cons.{0}:=@List.forall_mem_cons.{0}
def ay4:type_of%@Bool.false_eq_true:=@Bool.false_eq_true
def ay6:type_of%@List.length_take.{0}:=@List.length_take.{0}
def ay7:type_of%@List.take_succ_eq_append_getElem.{0}:=@List.take_succ_eq_append_getElem.{0}
def ay8:type_of%@List.getElem?_append_right.{0}:=@List.getElem?_append_right.{0}
def ay9:type_of%@List.mem_range:=@List.mem_range
def az0:type_of%@Bool.or_eq_true:=@Bool.or_eq_true
def az2:type_of%@Option.getD_some.{0}:=@Option.getD_some.{0}
def az3:type_of%@Array.ext'.{0}:=@Array.ext'.{0}
def az4:type_of%@List.not_mem_nil.{0}:=@List.not_mem_nil.{0}
def az5:type_of%@List.set_append_left.{0}:=@List.set_append_left.{0}
def az6:type_of%@Int.fdiv_eq_ediv_of_nonneg:=@Int.fdiv_eq_ediv_of_nonneg
def az7:type_of%@Nat.min_eq_left:=@Nat.min_eq_left
def aA9:type_of%@Option.some.inj.{0}:=@Option.some.inj.{0}
def az9:type_of%@List.mem_append_right.{0}:=@List.mem_append_right.{0}
def aA0:type_of%@List.length_singleton.{0}:=@List.length_singleton.{0}
def aA1:type_of%@Nat.ble_eq_true_of_le:=@Nat.ble_eq_true_of_le
def aA3:type_of%@List.set_cons_succ.{0}:=@List.set_cons_succ.{0}
def aA4:type_of%@List.set_cons_zero.{0}:=@List.set_cons_zero.{0}
def aA5:type_of%@List.getElem?_set_ne.{0}:=@List.getElem?_set_ne.{0}
def ay5:type_of%@Bool.false_and:=@Bool.false_and
def aA6:type_of%@Int.toNat_zero:=@Int.toNat_zero
def aA7:type_of%@List.getElem?_cons_zero.{0}:=@List.getElem?_cons_zero.{0}
def aA8:type_of%@Bool.not_eq_true':= @Bool.not_eq_true'
def az8:type_of%@List.mem_append.{0}:=@List.mem_append.{0}
def aB0:type_of%@List.drop_succ_cons.{0}:=@List.drop_succ_cons.{0}
def aB1:type_of%@Bool.or_true:=@Bool.or_true
def aB2:type_of%@List.getElem?_set_self.{0}:=@List.getElem?_set_self.{0}
def aB3:type_of%@Array.getElem?_modify.{0}:=@Array.getElem?_modify.{0}
def aA2:type_of%@List.mem_singleton.{0}:=@List.mem_singleton.{0}
def aB4:type_of%@Nat.add_mul:=@Nat.add_mul
def aB5:type_of%@Nat.mul_le_mul_right:=@Nat.mul_le_mul_right
def aB6:type_of%@List.mem_cons_of_mem.{0}:=@List.mem_cons_of_mem.{0}
def aB7:type_of%@Bool.eq_iff_iff:=@Bool.eq_iff_iff
def aB8:type_of%@List.head?_cons.{0}:=@List.head?_cons.{0}
def aB9:type_of%@Nat.add_assoc:=@Nat.add_assoc
def aC0:type_of%@Array.length_toList.{0}:=@Array.length_toList.{0}
def aD3:type_of%@List.mem_flatMap.{0,0}:=@List.mem_flatMap.{0,0}
def aD9:type_of%@List.take_zero.{0}:=@List.take_zero.{0}
def aC3:type_of%@List.drop_of_length_le.{0}:=@List.drop_of_length_le.{0}
def aC7:type_of%@List.head?_drop.{0}:=@List.head?_drop.{0}
def aC9:type_of%@Int.tmod_eq_emod_of_nonneg:=@Int.tmod_eq_emod_of_nonneg
def aC4:type_of%@Int.le_refl:=@Int.le_refl
def aD0:type_of%@List.drop_drop.{0}:=@List.drop_drop.{0}
def aD1:type_of%@List.take_take.{0}:=@List.take_take.{0}
def aC1:type_of%@List.any_eq_true.{0}:=@List.any_eq_true.{0}
def aD2:type_of%@Nat.lt_or_ge:=@Nat.lt_or_ge
def aD4:type_of%@Nat.add_zero:=@Nat.add_zero
def aD5:type_of%@List.length_drop.{0}:=@List.length_drop.{0}
def aC6:type_of%@List.all_append.{0}:=@List.all_append.{0}
def aC5:type_of%@List.find?_cons_of_pos.{0}:=@List.find?_cons_of_pos.{0}
def aD8:type_of%@Nat.add_comm:=@Nat.add_comm
def aC2:type_of%@List.flatMap_nil.{0,0}:=@List.flatMap_nil.{0,0}
def aD6:type_of%@List.take_length.{0}:=@List.take_length.{0}
def aC8:type_of%@Bool.false_or:=@Bool.false_or
inductive AV where
 |bool (b:Bool)
 |int (k:IntKind) (n:Int)
 |str (s:List UInt8)
 |nilp
 |ref (o off:Nat)
 |eptr (l:List AV)
 |nils
 |emp
 |sl (n:Nat) (l:List AV)
 |xsl (n:Nat) (l:List AV)
 |msl (o off n sz:Nat)
 |map (m:Nat)
 |nilMap
 |func (fn:Fn) (first captured:List AV)
 |nilFunc
 |iface (t:TypeId) (v:AV)
 |nilIface
 |agg (l:List AV)
 |tup (l:List AV)
 deriving Inhabited
abbrev LA:=List AV
def AV.undef:AV:=.tup []
def AV.cells:AV->LA
 |.agg l=>l
 |v=>[v]
def AV.flat:AV->Bool
 |.agg _|.tup _=>false
 |_=>true
structure Fz where
 b:Bool
 t:Option (TypeId×Bool)
 deriving Inhabited
abbrev FZ:Fz:=⟨false,none⟩
inductive AO where
 |cells (l:LA) (fz:Fz)
 |map (es:List (AV×AV))
 |dead
 deriving Inhabited
abbrev St:=List AO
abbrev Env:=LA
inductive XA where
 |t (n:Nat)
 |c (v:AV)
 |g (n:Nat)
 deriving Inhabited
inductive XI where
 |mv (x:XA)
 |pick (c a b:XA)
 |new (z:LA) (ty:Option (TypeId×Bool))
 |box (x:XA)
 |build (z:LA) (parts:List (Nat×Nat×XA))
 |buildSl (z:LA) (n sz:Nat) (parts:List (Nat×Nat×XA))
 |load (agg:Bool) (sz:Nat) (x:XA)
 |store (sz:Nat) (a x:XA)
 |nilck (x:XA)
 |bin (op:BinOp) (ek:Nat) (cst:Bool) (x y:XA)
 |un (op:UnOp) (x:XA)
 |i2i (k:IntKind) (x:XA)
 |s2s (x:XA)
 |i2s (x:XA)
 |b2s (x:XA)
 |s2b (x:XA)
 |s2r (x:XA)
 |mkIface (t:TypeId) (x:XA)
 |mkFunc (fn:Fn) (first captured:List XA)
 |mkMap
 |mkSlice (z:LA) (sz bytes:Nat) (len cap:XA)
 |sliceStr (x:XA) (lo hi:Option XA)
 |sliceSl (sz:Nat) (x:XA) (lo hi mx:Option XA)
 |sliceArr (len sz:Nat) (x:XA) (lo hi mx:Option XA)
 |fieldAddr (off:Nat) (x:XA)
 |field (agg:Bool) (off sz:Nat) (x:XA)
 |idxAddrArr (len sz:Nat) (x i:XA)
 |idxAddrSl (sz:Nat) (x i:XA)
 |idxArr (len:Nat) (agg:Bool) (sz:Nat) (x i:XA)
 |idxStr (x i:XA)
 |lookup (z:AV) (m k:XA) (ok:Bool)
 |mapUpd (m k v:XA)
 |mapEntry (z:AV) (m k:XA)
 |entryStore (m s v:XA)
 |extract (x:XA) (i:Nat)
 |app (str:Bool) (sz bytes:Nat) (ty:Option (TypeId×Bool)) (s x:XA)
 |len (k:Nat) (x:XA)
 |lenC (n:Nat)
 |cpy (sz:Nat) (d s:XA)
 |minmax (mx:Bool) (x y:XA)
 |callF (f:FuncId) (args:List XA)
 |callV (f:XA) (args:List XA)
 |invoke (x:XA) (m:String) (args:List XA)
 |pend
 |fill (k d sz:Nat) (x:XA)
 |fail
 deriving Inhabited
structure XOp where
 dst:Option Nat
 i:XI
 guard:Option (Nat×Bool)
 loose:List Nat:=[]
 deriving Inhabited
inductive XC where
 |skip
 |ops (l:List XOp)
 |drawn (l:List XOp)
 |seq (a b:XC)
 |cond (c:XA) (a b:XC)
 |block (id:Nat) (b:XC)
 |loop (b:XC)
 |exit (id:Nat)
 |ret
 |scope (b:XC)
 |fail
 deriving Inhabited
inductive XR where
 |tmp (t:Nat)
 |cell (t:Nat) (agg:Bool) (sz:Nat)
 deriving Inhabited
structure XF where
 nargs:Nat
 ntmps:Nat
 results:List XR
 body:XC
 deriving Inhabited
def toList{α:Type}(a:Array α):List α:=a.toList
mutual
def eH:Value->Option AV
 |.bool b=>some (.bool b)
 |.int k n=>some (.int k n)
 |.string s=>some (.str s.data.toList)
 |.pointer none=>some .nilp
 |.slice none 0 0=>some .nils
 |.map none=>some .nilMap
 |.func (.func f) ⟨[]⟩ ⟨[]⟩=>some (.func (.func f) [] [])
 |.nilFunc=>some .nilFunc
 |.nilIface=>some .nilIface
 |.agg ⟨l⟩=>(JE l).map .agg
 |.tuple ⟨[]⟩=>some (.tup [])
 |_=>none
def JE:List Value->Option LA
 |[]=>some []
 |v::l=>match eH v,JE l with
  |some a,some azs=>some (a::azs)
  |_,_=>none
end
def cA:Operand->Option XA
 |.tmp t=>some (.t t)
 |.const v=>(eH v).map .c
 |.global g=>some (.g g)
 |.func f=>some (.c (.func (.func f) [] []))
def cAs:List Operand->Option (List XA)
 |[]=>some []
 |x::l=>match cA x,cAs l with
  |some a,some azs=>some (a::azs)
  |_,_=>none
def zM:TypeDesc->Bool
 |.struct _|.array ..=>true
 |_=>false
def P6:Option Operand->Option (Option XA)
 |none=>some none
 |some x=>(cA x).map some
def Es(P:Program)(t:TypeId):Option AV:=do eH (<-(<-P.info? t).zero)
def Oa(place:Nat->Option (Nat×Nat)):List (Nat×Operand)->Option (List (Nat×Nat×XA))
 |[]=>some []
 |(i,x)::l=>match place i,cA x,Oa place l with
  |some (off,sz),some a,some azs=>some ((off,sz,a)::azs)
  |_,_,_=>none
def Zq(P:Program):Nat->List Field->Option Nat
 |_,[]=>some 0
 |i,f::fs=>if f.name != "_"&&f.offset==i then(match P.underlying f.type,Zq P (i+1) fs with
  |some .string,some c=>some (3*c)
  |some .bool,some c=>some (3*c+1)
  |some (.int _),some c=>some (3*c+2)
  |_,_=>none)else none
def FM(P:Program)(t:TypeId):Nat:=
 match P.underlying t with
 |some .bool=>1
 |some (.struct fs)=>match Zq P 0 fs.toList with
  |some c=>if !P.stoodInHeld t&& !P.eqGuardType P.depth t&&fs.size<1024 then fs.size+1024*c+8 else 0
  |none=>0
 |some (.pointer e)=>match P.info? e with
  |some i=>if i.size=0 then 2 else 3
  |none=>2
 |some (.func ..)=>4
 |some (.interface _)=>5
 |some (.map ..)=>6
 |some (.slice _)=>7
 |_=>0
def isC:Operand->Bool
 |.const _=>true
 |_=>false
def Ye(P:Program)(e:TypeId)(x:Bool):Option (TypeId×Bool):=
 match P.info? e with
 |some i=>match i.desc with
  |.int .u8=>some (e,x)
  |.named n _=>if n== "strings.Builder" then some (e,x)else none
  |_=>none
 |none=>none
def cI(P:Program)(o:Oper):Option XI:=
 match o.op with
 |.move x|.assign x=>do pure (.mv (<-cA x))
 |.pick c a b=>do pure (.pick (<-cA c) (<-cA a) (<-cA b))
 |.alloc e=>do pure (.new (<-Es P e).cells (Ye P e true))
 |.box _ x=>do pure (.box (<-cA x))
 |.build t ps=>do
  let z<-Es P t
  match<-P.underlying t with
  |.struct fs=>if !(fs.toList.all fun f=>(P.info? f.type).isSome)then none else pure (.build z.cells (<-Oa (fun i=>do let f<-fs[i]?;pure (f.offset,(<-P.info? f.type).size)) ps.toList))
  |.array _ e=>do
   let sz:=(<-P.info? e).size
   pure (.build z.cells (<-Oa (fun i=>some (i*sz,sz)) ps.toList))
  |_=>none
 |.buildSlice t n ps=>do
  let .slice e<-P.underlying t|none
  let sz:=(<-P.info? e).size
  if n*sz>16777216 then none else do
  let z<-Es P e
  if z.cells.length=sz then pure (.buildSl z.cells n sz (<-Oa (fun i=>some (i*sz,sz)) ps.toList))else none
 |.load t x=>do
  let u<-P.underlying t
  pure (.load (zM u) (<-P.info? t).size (<-cA x))
 |.store t a x=>do pure (.store (<-P.info? t).size (<-cA a) (<-cA x))
 |.nilCheck x=>do pure (.nilck (<-cA x))
 |.binOp op t x y _=>do
  pure (.bin op (FM P t) (isC x||isC y) (<-cA x) (<-cA y))
 |.unOp op _ x=>do pure (.un op (<-cA x))
 |.convert s d x=>do
  match<-P.underlying s,<-P.underlying d with
  |.int _,.int k=>pure (.i2i k (<-cA x))
  |.int _,.string=>pure (.i2s (<-cA x))
  |.slice e,.string=>match<-P.underlying e with
   |.int .u8=>pure (.b2s (<-cA x))
   |_=>none
  |_,_=>none
 |.makeInterface t x=>do
  match<-P.underlying t with
  |.interface _=>none
  |_=>pure (.mkIface t (<-cA x))
 |.makeFunc fn first captured=>do pure (.mkFunc fn (<-cAs first.toList) (<-cAs captured.toList))
 |.makeMap _ none=>some .mkMap
 |.makeSlice t l c=>do
  let .slice e<-P.underlying t|none
  let i<-P.info? e
  let z<-Es P e
  if z.cells.length=i.size then pure (.mkSlice z.cells i.size i.bytes (<-cA l) (<-cA c))else none
 |.slice t x lo hi mx=>do
  match<-P.underlying t with
  |.string=>match mx with
   |none=>pure (.sliceStr (<-cA x) (<-P6 lo) (<-P6 hi))
   |some _=>none
  |.slice e=>pure (.sliceSl (<-P.info? e).size (<-cA x) (<-P6 lo) (<-P6 hi) (<-P6 mx))
  |.array n e=>pure (.sliceArr n (<-P.info? e).size (<-cA x) (<-P6 lo) (<-P6 hi) (<-P6 mx))
  |.pointer a=>match<-P.underlying a with
   |.array n e=>pure (.sliceArr n (<-P.info? e).size (<-cA x) (<-P6 lo) (<-P6 hi) (<-P6 mx))
   |_=>none
  |_=>none
 |.fieldAddr t x i=>do
  let .struct fs<-P.underlying t|none
  let f<-fs[i]?
  if(<-P.info? f.type).size=0 then none else pure (.fieldAddr f.offset (<-cA x))
 |.field t x i=>do
  let .struct fs<-P.underlying t|none
  let f<-fs[i]?
  pure (.field (zM (<-P.underlying f.type)) f.offset (<-P.info? f.type).size (<-cA x))
 |.indexAddr t x i=>do
  match<-P.underlying t with
  |.array n e=>pure (.idxAddrArr n (<-P.info? e).size (<-cA x) (<-cA i))
  |.slice e=>pure (.idxAddrSl (<-P.info? e).size (<-cA x) (<-cA i))
  |_=>none
 |.index t x i=>do
  match<-P.underlying t with
  |.array n e=>pure (.idxArr n (zM (<-P.underlying e)) (<-P.info? e).size (<-cA x) (<-cA i))
  |.string=>pure (.idxStr (<-cA x) (<-cA i))
  |_=>none
 |.lookup t m k ok=>do
  let .map kt e<-P.underlying t|none
  match<-P.underlying kt with
  |.string=>pure (.lookup (<-Es P e) (<-cA m) (<-cA k) ok)
  |_=>none
 |.mapUpdate t m k v|.insert t m k v=>do
  let .map kt _<-P.underlying t|none
  match<-P.underlying kt with
  |.string=>pure (.mapUpd (<-cA m) (<-cA k) (<-cA v))
  |_=>none
 |.extract x i=>do pure (.extract (<-cA x) i)
 |.call c=>
  match c.callee with
  |.value (.func f)=>do pure (.callF f (<-cAs c.args.toList))
  |.value f=>do pure (.callV (<-cA f) (<-cAs c.args.toList))
  |.invoke r m=>do pure (.invoke (<-cA r) m (<-cAs c.args.toList))
  |.builtin .append=>do
   match c.argTypes.toList,c.args.toList with
   |[t,u],[s,x]=>do
    let .slice e<-P.underlying t|none
    let z<-Es P e
    match<-P.underlying u with
    |.string=>if z.cells.length=(<-P.info? e).size/\(<-P.info? e).bytes<=1048576 then pure (.app true (<-P.info? e).size (<-P.info? e).bytes (Ye P e false) (<-cA s) (<-cA x))else none
    |.slice _=>if z.cells.length=(<-P.info? e).size/\(<-P.info? e).bytes<=1048576 then pure (.app false (<-P.info? e).size (<-P.info? e).bytes (Ye P e false) (<-cA s) (<-cA x))else none
    |_=>none
   |_,_=>none
  |.builtin .len=>do
   match c.argTypes.toList,c.args.toList with
   |t::_,x::_=>do
    match<-P.underlying t with
    |.array n _=>pure (.lenC n)
    |.pointer a=>match<-P.underlying a with
     |.array n _=>pure (.lenC n)
     |_=>none
    |.string=>pure (.len 0 (<-cA x))
    |.slice _=>pure (.len 1 (<-cA x))
    |.map _ _=>pure (.len 2 (<-cA x))
    |_=>none
   |_,_=>none
  |.builtin .copy=>do
   match c.argTypes.toList,c.args.toList with
   |t::_,[d,s]=>do
    let .slice e<-P.underlying t|none
    pure (.cpy (<-P.info? e).size (<-cA d) (<-cA s))
   |_,_=>none
  |.builtin .min=>match c.args.toList with
   |[x,y]=>do pure (.minmax false (<-cA x) (<-cA y))
   |_=>none
  |.builtin .max=>match c.args.toList with
   |[x,y]=>do pure (.minmax true (<-cA x) (<-cA y))
   |_=>none
  |_=>none
 |_=>none
def XA.reads:XA->List Nat
 |.t n=>[n]
 |_=>[]
def uO:List XA->List Nat
 |[]=>[]
 |x::l=>x.reads++uO l
def OU:Option XA->List Nat
 |none=>[]
 |some x=>x.reads
def JQ:List (Nat×Nat×XA)->List Nat
 |[]=>[]
 |(_,_,x)::l=>x.reads++JQ l
def XI.reads:XI->List Nat
 |.mv x|.box x|.load _ _ x|.nilck x|.un _ x|.i2i _ x|.s2s x|.i2s x|.b2s x|.s2b x|.s2r x|.mkIface _ x|.fieldAddr _ x|.field _ _ _ x|.extract x _|.len _ x|.fill _ _ _ x=>x.reads
 |.pick a b c|.mapUpd a b c|.entryStore a b c=>a.reads++b.reads++c.reads
 |.build _ ps|.buildSl _ _ _ ps=>JQ ps
 |.store _ a b|.bin _ _ _ a b|.mkSlice _ _ _ a b|.idxAddrArr _ _ a b|.idxAddrSl _ a b|.idxArr _ _ _ a b|.idxStr a b|.lookup _ a b _|.mapEntry _ a b|.app _ _ _ _ a b|.cpy _ a b|.minmax _ a b=>a.reads++b.reads
 |.mkFunc _ x y=>uO x++uO y
 |.sliceStr x a b=>x.reads++OU a++OU b
 |.sliceSl _ x a b c|.sliceArr _ _ x a b c=>x.reads++OU a++OU b++OU c
 |.callF _ l=>uO l
 |.callV f l|.invoke f _ l=>f.reads++uO l
 |.new _ _|.mkMap|.lenC _|.pend|.fail=>[]
def XOp.reads(o:XOp):List Nat:=
 o.i.reads++(match o.guard with|some (t,_)=>[t]|none=>[])
def Cb:LA->Bool
 |[.str _,.int _ _,.nilFunc]=>true
 |_=>false
def XI.changes:XI->Bool
 |.buildSl z _ _ _=>Cb z
 |.new _ _|.box _|.store .. |.mkMap|.mkSlice .. |.mapUpd .. |.mapEntry .. |.entryStore .. |.app .. |.cpy .. |.callF .. |.callV .. |.invoke .. |.fill ..=>true
 |_=>false
def XI.looks:XI->Bool
 |.load .. |.b2s _|.lookup .. |.len .. |.sliceArr ..=>true
 |_=>false
def ahh:List (List Nat)->List Oper->Option (List (List Nat))
 |acc,[]=>some acc
 |acc,o::l=>
  let on:=(o.after.toList.filter (Region.binds .any)).map (·.on)
  if on.all (· <acc.length)then ahh (acc++[(on++on.flatMap fun j=>acc.getD j []).eraseDups]) l else none
def clash(x y:XOp):Bool:=
 (match x.dst with
  |some d=>y.reads.contains d||y.dst==some d
  |none=>false)||
 (match y.dst with
  |some d=>x.reads.contains d
  |none=>false)
def afa(an:List (List Nat))(l:List XOp)(i j:Nat):Bool:=
 match l[i]?,l[j]? with
 |some x,some y=>
  (!(clash x y||(x.i.changes&&y.i.changes))||(an.getD j []).contains i)
 |_,_=>false
def aeC(an:List (List Nat))(l:List XOp)(j:Nat):Bool:=
 match l[j]? with
 |some {i:=.fill k _ _ _,.. }=>(an.getD j []).contains k
 |_=>true
def EN(an:List (List Nat))(l:List XOp):Bool:=
 (List.range l.length).all fun j=>aeC an l j&&(List.range j).all fun i=>afa an l i j
def VC(an:List (List Nat))(l:List XOp)(i:Nat):List Nat:=
 (List.range l.length).filter fun c=>(match l[c]? with|some x=>x.i.changes|none=>false)&&c !=i&& !(an.getD i []).contains c&& !(an.getD c []).contains i
def nS(an:List (List Nat))(l:List XOp):List XOp:=
 l.zipIdx.map fun(o,i)=>if o.i.looks then{o with loose:=VC an l i}else o
def FK(ops:Array Oper)(o:Oper):Option (Option (Nat×Bool)):=
 match o.guard with
 |none=>some none
 |some (j,want)=>match(ops[j]?).bind (·.dst)with
  |some d=>some (some (d,want))
  |none=>none
def Ky(o:Oper):Option (Nat×TypeId):=
 match o.dst,o.op,o.guard with
 |some d,.alloc e,none=>some (d,e)
 |_,_,_=>none
def L8(o:Oper):Option (TypeId×Nat×Operand):=
 match o.dst,o.op,o.guard with
 |none,.store t (.tmp d) x,none=>some (t,d,x)
 |_,_,_=>none
def agw(d:Nat):Operand->Bool
 |.tmp t=>t==d
 |_=>false
def adh(ops:Array Oper)(d j:Nat):Bool:=
 match ops[j]? with
 |some o=>o.dst==some d||o.op.operands.toList.any (agw d)
 |none=>false
def Zz(k:Nat)(o:Oper):Bool:=
 match o.guard with
 |some (q,_)=>q !=k
 |none=>true
def nZ(ops:Array Oper)(k:Nat):Option Nat:=
 match(ops[k]?).bind Ky with
 |some (d,e)=>
  if !(ops.toList.all (Zz k))then none else
  match(List.range ops.size).filter (fun j=>j !=k&&adh ops d j)with
  |[j]=>match(ops[j]?).bind L8 with
   |some (t,d',x)=>if k<j&&d'==d&&t==e&& !(agw d x)then some j else none
   |none=>none
  |_=>none
 |none=>none
def cOp(P:Program)(draw:Bool)(ops:Array Oper)(i:Nat)(o:Oper):Option XOp:=do
 let guard<-FK ops o
 if draw&&(nZ ops i).isSome then(match o.op with
  |.alloc e=>match Es P e with
   |some _=>some {dst:=none,i:=.pend,guard}
   |none=>none
  |_=>none)else
 match(if draw then(List.range i).find? (fun k=>nZ ops k==some i)else none)with
 |some k=>match(ops[k]?).bind Ky,L8 o with
  |some (d,e),some (_,_,x)=>match Es P e,P.info? e,cA x with
   |some z,some inf,some a=>if z.cells.length=inf.size then some {dst:=some d,i:=.fill k d inf.size a,guard}else none
   |_,_,_=>none
  |_,_=>none
 |none=>some {dst:=o.dst,i:=(cI P o).getD .fail,guard}
def Yv(P:Program)(draw:Bool)(ops:Array Oper):Nat->List Oper->Option (List XOp)
 |_,[]=>some []
 |i,o::l=>match cOp P draw ops i o,Yv P draw ops (i+1) l with
  |some a,some azs=>some (a::azs)
  |_,_=>none
def aaR(P:Program)(ops:Array Oper):Option (List XOp):=do
 let l<-Yv P true ops 0 ops.toList
 let an<-ahh [] ops.toList
 if EN an l then some (nS an l)else none
def cC(P:Program):Code->XC
 |.skip=>.skip
 |.label _=>.skip
 |.region _ ops draw=>match(if draw then aaR P ops else Yv P false ops 0 ops.toList)with
  |some l=>if draw then .drawn l else .ops l
  |none=>.fail
 |.seq a b=>.seq (cC P a) (cC P b)
 |.cond c a b=>match cA c with
  |some c=>.cond c (cC P a) (cC P b)
  |none=>.fail
 |.block id b=>.block id (cC P b)
 |.loop b=>.loop (cC P b)
 |.scope b=>.scope (cC P b)
 |.exit id=>.exit id
 |.ret=>.ret
 |_=>.fail
def cR(P:Program):List ResultVar->Option (List XR)
 |[]=>some []
 |.tmp t::l=>(cR P l).map (.tmp t:: ·)
 |.cell t ty::l=>do pure (.cell t (zM (<-P.underlying ty)) (<-P.info? ty).size::(<-cR P l))
def cF(P:Program)(f:FuncId):Option XF:=do
 let fn<-P.funcs[f]?
 let b<-fn.body
 pure {nargs:=fn.params.size+fn.nfree,ntmps:=fn.ntmps,results:=<-cR P fn.results.toList,body:=cC P b}
structure Ctx where
 P:Program
 np:Bool:=false
 gl:Nat->Option LA
 raw:FuncId->Bool
 fs:FuncId->Option XF
 prim:FuncId->Option (LA->St->Option (AV×St))
def av(C:Ctx)(e:Env):XA->AV
 |.t n=>e.getD n .undef
 |.c v=>v
 |.g n=>.eptr ((C.gl n).getD [])
def asj(op:BinOp)(k:IntKind)(a b:Int):Option AV:=
 match op with
 |.add=>some (.int k (k.wrap (a+b)))
 |.sub=>some (.int k (k.wrap (a-b)))
 |.mul=>some (.int k (k.wrap (a*b)))
 |.quo=>if b=0 then none else some (.int k (k.wrap (a.tdiv b)))
 |.rem=>if b=0 then none else some (.int k (a.tmod b))
 |.and=>some (.int k (k.wrap (BitVec.ofInt k.bits a&&&BitVec.ofInt k.bits b).toNat))
 |.or=>some (.int k (k.wrap (BitVec.ofInt k.bits a|||BitVec.ofInt k.bits b).toNat))
 |.xor=>some (.int k (k.wrap (BitVec.ofInt k.bits a^^^BitVec.ofInt k.bits b).toNat))
 |.andNot=>some (.int k (k.wrap (BitVec.ofInt k.bits a&&& ~~~(BitVec.ofInt k.bits b)).toNat))
 |.eql=>some (.bool (a==b))
 |.neq=>some (.bool (a !=b))
 |.lss=>some (.bool (a<b))
 |.leq=>some (.bool (a<=b))
 |.gtr=>some (.bool (a>b))
 |.geq=>some (.bool (a>=b))
 |_=>none
def zh(op:BinOp)(k:IntKind)(a b:Int):Option AV:=
 if b<0 then none else
 let n:=min b.toNat k.bits
 match op with
 |.shl=>some (.int k (k.wrap (a*2^n)))
 |.shr=>some (.int k (a.fdiv (2^n)))
 |_=>none
def jU:LU->LU->Bool
 |[],[]=>true
 |a::x,b::y=>a==b&&jU x y
 |_,_=>false
def rQ(op:BinOp)(x y:LU):Option AV:=
 match op with
 |.add=>if((x.length+y.length:Nat):Int)>9223372036854775807 then none else some (.str (x++y))
 |.eql=>some (.bool (jU x y))
 |.neq=>some (.bool !(jU x y))
 |.lss=>some (.bool (Op.bytesLess x y))
 |.leq=>some (.bool (Op.bytesLess x y||jU x y))
 |.gtr=>some (.bool !(Op.bytesLess x y||jU x y))
 |.geq=>some (.bool !(Op.bytesLess x y))
 |_=>none
def jW:Nat->LA->LA->Option Bool
 |_,[],[]=>some true
 |c,.str a::x,.str b::y=>if c%3=0 then(jW (c/3) x y).map (jU a b&& ·)else none
 |c,.bool a::x,.bool b::y=>if c%3=1 then(jW (c/3) x y).map ((a==b)&& ·)else none
 |c,.int k a::x,.int k' b::y=>if c%3=2/\k=k' then(jW (c/3) x y).map ((a==b)&& ·)else none
 |_,_,_=>none
mutual
def diff:AV->AV->Bool
 |.bool a,.bool b=>a !=b
 |.int k a,.int k' b=>!(k==k'&&a==b)
 |.str a,.str b=>!jU a b
 |.sl n l,.sl m l'=>n !=m||sV l l'
 |.sl n _,.nils=>n !=0
 |.nils,.sl n _=>n !=0
 |.agg l,.agg l'=>sV l l'
 |_,_=>false
def sV:LA->LA->Bool
 |a::l,b::m=>diff a b||sV l m
 |_,_=>false
end
def isByte:AV->Bool
 |.int .u8 _=>true
 |_=>false
def Kq(l:LA):Bool:=l.any fun a=>!isByte a
def bV(ek:Nat)(cst:Bool)(x y:AV):Option Bool:=
 match ek with
 |3=>match x,y with
  |.nilp,.nilp=>some true
  |.nilp,.ref .. |.nilp,.eptr _|.ref ..,.nilp|.eptr _,.nilp=>some false
  |.eptr l,.eptr m=>if sV l m&&(Kq l&&Kq m)then some false else none
  |_,_=>none
 |4=>match x,y with
  |.nilFunc,.nilFunc=>some true
  |.nilFunc,.func .. |.func ..,.nilFunc=>some false
  |_,_=>none
 |5=>match x,y with
  |.nilIface,.nilIface=>if cst then some true else none
  |.nilIface,.iface .. |.iface ..,.nilIface=>some false
  |_,_=>none
 |6=>match x,y with
  |.nilMap,.nilMap=>some true
  |.nilMap,.map _|.map _,.nilMap=>some false
  |_,_=>none
 |7=>match x,y with
  |.nils,.nils=>some true
  |.emp,.nils|.msl ..,.nils|.xsl ..,.nils=>some false
  |.sl n _,.nils=>if 0<n then some false else none
  |_,_=>none
 |_=>none
def eqA(ek:Nat)(cst:Bool)(x y:AV):Option Bool:=
 match ek with
 |1=>match x,y with
  |.bool a,.bool b=>some (a==b)
  |_,_=>none
 |n+8=>match x,y with
  |.agg a,.agg b=>if a.length=n%1024 then jW (n/1024) a b else none
  |_,_=>none
 |_=>bV ek cst x y
def uF(op:BinOp)(r:Option Bool):Option AV:=
 match op with
 |.eql=>r.map .bool
 |.neq=>r.map fun r=>.bool !r
 |_=>none
def binOp(op:BinOp)(ek:Nat)(cst:Bool)(x y:AV):Option AV:=
 match x,y with
 |.int k a,.int k' b=>match op with
  |.shl|.shr=>zh op k a b
  |_=>if k=k' then asj op k a b else none
 |.str a,.str b=>rQ op a b
 |x,y=>uF op (eqA ek cst x y)
def headB:LA->Bool
 |.int .u8 _::.int .i64 _::_=>true
 |_=>false
def afe(x y:AV):Bool:=match x,y with
 |.eptr l,.eptr m=>!(headB l&&headB m)
 |_,_=>false
def xn(np:Bool)(op:BinOp)(ek:Nat)(cst:Bool)(x y:AV):Option AV:=match np with
 |false=>binOp op ek cst x y
 |true=>match afe x y with
  |true=>none
  |false=>binOp op ek cst x y
def unOp(op:UnOp)(x:AV):Option AV:=
 match op,x with
 |.neg,.int k n=>some (.int k (k.wrap (0-n)))
 |.xor,.int k n=>asj .xor k (if k.signed then-1 else k.max) n
 |.not,.bool b=>some (.bool !b)
 |_,_=>none
def splice(l:LA)(off:Nat)(v:LA):LA:=l.take off++v++l.drop (off+v.length)
def zA:LA->List (Nat×Nat×AV)->Option LA
 |l,[]=>some l
 |l,(off,sz,v)::rest=>
  if v.cells.length=sz/\off+sz<=l.length then zA (splice l off v.cells) rest else none
def rep(z:LA):Nat->LA
 |0=>[]
 |n+1=>z++rep z n
def oI:AV->Option Nat
 |.int _ n=>if 0<=n then some n.toNat else none
 |_=>none
def gQ(d:Nat):Option AV->Option Nat
 |none=>some d
 |some v=>oI v
def pt(agg:Bool)(sz:Nat)(l:LA):Option AV:=
 if agg then(if sz<=l.length then some (.agg (l.take sz))else none)else l.head?
def gY(O:St)(sz:Nat):AV->Option (Nat×LA)
 |.nils=>some (0,[])
 |.emp=>some (0,[])
 |.sl n l=>if l.length=n*sz then some (n,l)else none
 |.xsl n l=>if l.length=n*sz then some (n,l)else none
 |.msl o off n s=>match O[o]? with
  |some (.cells l _)=>if s=sz/\off+n*sz<=l.length then some (n,(l.drop off).take (n*sz))else none
  |_=>none
 |_=>none
def aaP:AV->Option UInt8
 |.int .u8 n=>some (UInt8.ofNat n.toNat)
 |_=>none
def bytesOf:LA->Option LU
 |[]=>some []
 |v::l=>match aaP v,bytesOf l with
  |some b,some bs=>some (b::bs)
  |_,_=>none
def ofBytes(l:LU):LA:=l.map fun b=>.int .u8 b.toNat
def runesL(s:ByteArray):Nat->Nat->List Nat
 |0,_=>[]
 |n+1,i=>if i<s.size then(Utf8.decode s i).1::runesL s n (i+(Utf8.decode s i).2)else[]
def runesOf(s:LU):List Nat:=runesL ⟨⟨s⟩⟩ s.length 0
def an2(l:List Nat):LA:=l.map fun n=>.int .i32 (Int.ofNat n)
def ji(O:St)(sz:Nat)(a:AV):Option (Nat×LA):=
 match a with
 |.str s=>if sz=1 then some (s.length,ofBytes s)else none
 |v=>gY O sz v
def isStr:AV->Bool
 |.str _=>true
 |_=>false
def ZI:AV->AV->Option Bool
 |.str a,.str b=>some (jU a b)
 |_,_=>none
def nO(k:AV):List (AV×AV)->Nat->Option (Option (Nat×AV))
 |[],_=>some none
 |(k',v)::es,i=>match ZI k k' with
  |some true=>some (some (i,v))
  |some false=>nO k es (i+1)
  |none=>none
def rO(O:St)(sz bytes:Nat)(ty:Option (TypeId×Bool))(s:AV)(m:Nat)(cs:LA):Option (AV×St):=
 if m=0 then(match s with|.nils|.emp|.sl .. |.xsl .. |.msl ..=>some (s,O)|_=>none)else
 match s with
 |.nils=>if m*bytes<=70368744177664/\m<=70368744177664 then some (.msl O.length 0 m sz,O++[.cells cs ⟨false,ty⟩])else none
 |.xsl n l=>if l.length=n*sz/\(n+m)*bytes<=70368744177664/\n+m<=70368744177664 then some (.msl O.length 0 (n+m) sz,O++[.cells (l++cs) ⟨false,ty⟩])else none
 |.msl o 0 n s=>match O[o]? with
  |some (.cells l fz)=>
   if s=sz/\l.length=n*sz/\(n+m)*bytes<=70368744177664/\n+m<=70368744177664 then
    some (.msl O.length 0 (n+m) sz,O.set o .dead++[.cells (l++cs) ⟨fz.b,if fz.t=ty then ty else none⟩])
   else if s=sz/\fz.b=false/\n*sz<=l.length/\(n+m)*bytes<=70368744177664/\n+m<=70368744177664 then
    some (.msl O.length 0 (n+m) sz,O.set o .dead++[.cells (l.take (n*sz)++cs) ⟨false,if fz.t=ty then ty else none⟩])
   else none
  |_=>none
 |_=>none
def bU(O:St)(k:Nat)(x:AV):Option Nat:=
 match k with
 |0=>match x with
  |.str s=>some s.length
  |_=>none
 |1=>match x with
  |.nils|.emp=>some 0
  |.sl n _|.xsl n _|.msl _ _ n _=>some n
  |_=>none
 |_=>match x with
  |.nilMap=>some 0
  |.map r=>match O[r]? with
   |some (.map es)=>some es.length
   |_=>none
  |_=>none
def mapOf(O:St):AV->Option (List (AV×AV))
 |.nilMap=>some []
 |.map r=>match O[r]? with
  |some (.map es)=>some es
  |_=>none
 |_=>none
def VD(mx:Bool):AV->AV->Option AV
 |.int k a,.int _ b=>some (.int k (if mx then(if b>a then b else a)else(if b<a then b else a)))
 |_,_=>none
inductive Out where
 |val (v:AV) (O:St)
 |call (f:FuncId) (args:LA) (O:St)
def Cj(o:Bool)(n sz:Nat)(l:LA)(O:St):Out:=match o with
 |true=>match n with
  |0=>.val (.xsl 0 l) O
  |m+1=>.val (.msl O.length 0 (m+1) sz) (O++[.cells l FZ])
 |false=>.val (.xsl n l) O
def ae6(P:Program)(t:TypeId)(ptr:Bool):Bool:=
 match P.underlying t with
 |some (.pointer _)=>ptr
 |some _=>!ptr
 |none=>false
def methodOf(P:Program)(t:TypeId)(v:AV)(name:String):Option (FuncId×AV):=
 match P.info? t with
 |some i=>match i.methods.find? (·.name==name)with
  |some m=>if !m.path.isEmpty then none else match m.func with
   |some (f,p)=>if ae6 P t p then some (f,v)else none
   |none=>none
  |none=>none
 |none=>none
def G7(C:Ctx)(f:AV)(args:LA)(O:St):Option Out:=
 match f with
 |.func (.func f) first captured=>some (.call f (first++args++captured) O)
 |.func (.method name) first _=>match first++args with
  |.iface t v::rest=>match methodOf C.P t v name with
   |some (f,r)=>some (.call f (r::rest) O)
   |none=>none
  |_=>none
 |.func (.methodOf t name) first _=>match first++args with
  |v::rest=>match C.P.underlying t with
   |some (.interface _)=>none
   |_=>match methodOf C.P t v name with
    |some (f,r)=>some (.call f (r::rest) O)
    |none=>none
  |_=>none
 |.func (.via t path f ptr) first _=>match first++args with
  |v::rest=>if !path.isEmpty then none else match ae6 C.P t ptr with
   |true=>some (.call f (v::rest) O)
   |false=>none
  |_=>none
 |_=>none
def aB(C:Ctx)(a:XA->AV)(n0:Nat)(O:St)(i:XI):Option Out:=
 match i with
 |.mv x=>some (.val (a x) O)
 |.pick c x y=>match a c with
  |.bool b=>some (.val (if b then a x else a y) O)
  |_=>none
 |.new z ty=>some (.val (.ref O.length 0) (O++[.cells z ⟨false,ty⟩]))
 |.box x=>some (.val (.ref O.length 0) (O++[.cells (a x).cells FZ]))
 |.build z ps=>match zA z (ps.map fun(o,s,x)=>(o,s,a x))with
  |some l=>some (.val (.agg l) O)
  |none=>none
 |.buildSl z n sz ps=>match zA (rep z n) (ps.map fun(o,s,x)=>(o,s,a x))with
  |some l=>if l.length=n*sz then some (Cj (Cb z) n sz l O)else none
  |none=>none
 |.load ag sz x=>match a x with
  |.eptr l=>(pt ag sz l).map (.val · O)
  |.ref o off=>match O[o]? with
   |some (.cells l _)=>(pt ag sz (l.drop off)).map (.val · O)
   |_=>none
  |_=>none
 |.store sz p x=>match a p with
  |.ref o off=>match O[o]? with
   |some (.cells l ⟨false,t⟩)=>
    let cs:=(a x).cells
    if cs.length=sz/\off+sz<=l.length/\cs.all AV.flat then some (.val .undef (O.set o (.cells (splice l off cs) ⟨false,t⟩)))else none
   |_=>none
  |_=>none
 |.nilck x=>match a x with
  |.ref o f=>some (.val (.ref o f) O)
  |.eptr l=>some (.val (.eptr l) O)
  |.iface t v=>some (.val (.iface t v) O)
  |.func (.func f) x y=>some (.val (.func (.func f) x y) O)
  |_=>none
 |.bin op ek cst x y=>(xn C.np op ek cst (a x) (a y)).map (.val · O)
 |.un op x=>(unOp op (a x)).map (.val · O)
 |.i2i k x=>match a x with
  |.int _ n=>some (.val (.int k (k.wrap n)) O)
  |_=>none
 |.s2s x=>match a x with
  |.str s=>some (.val (.str s) O)
  |_=>none
 |.i2s x=>match a x with
  |.int _ n=>some (.val (.str (Utf8.encode n).data.toList) O)
  |_=>none
 |.b2s x=>match gY O 1 (a x)with
  |some (_,l)=>(bytesOf l).map fun s=>.val (.str s) O
  |none=>none
 |.s2b x=>match a x with
  |.str s=>some (.val (.sl s.length (ofBytes s)) O)
  |_=>none
 |.s2r x=>match a x with
  |.str s=>if s.length<=70368744177664 then some (.val (.sl (runesOf s).length (an2 (runesOf s))) O)else none
  |_=>none
 |.mkIface t x=>some (.val (.iface t (a x)) O)
 |.mkFunc fn first captured=>some (.val (.func fn (first.map a) (captured.map a)) O)
 |.mkMap=>some (.val (.map O.length) (O++[.map []]))
 |.mkSlice z sz bytes l c=>match a l,a c with
  |.int _ l,.int _ c=>
   if 0<=l/\l<=c/\c<=9223372036854775807/\bytes*c<=140737488355328 then
    some (.val (.msl O.length 0 l.toNat sz) (O++[.cells (rep z l.toNat) FZ]))
   else none
  |_,_=>none
 |.sliceStr x lo hi=>match a x with
  |.str s=>match gQ 0 (lo.map a),gQ s.length (hi.map a)with
   |some l,some h=>if l<=h/\h<=s.length then some (.val (.str ((s.take h).drop l)) O)else none
   |_,_=>none
  |_=>none
 |.sliceSl sz x lo hi mx=>
  match a x with
  |.nils=>match gQ 0 (lo.map a),gQ 0 (hi.map a),mx with
   |some 0,some 0,none=>some (.val .nils O)
   |_,_,_=>none
  |.xsl n l=>match gQ 0 (lo.map a),gQ n (hi.map a),mx with
   |some lo,some hi,none=>
    if lo<=hi/\hi<=n/\l.length=n*sz then some (.val (.sl (hi-lo) ((l.take (hi*sz)).drop (lo*sz))) O)else none
   |_,_,_=>none
  |.sl n l=>match gQ 0 (lo.map a),gQ n (hi.map a),mx with
   |some lo,some hi,none=>
    if lo<=hi/\hi<=n/\l.length=n*sz then
     some (.val (.sl (hi-lo) ((l.take (hi*sz)).drop (lo*sz))) O)
    else none
   |_,_,_=>none
  |.msl o off n s=>match gQ 0 (lo.map a),gQ n (hi.map a),mx with
   |some lo,some hi,none=>
    if lo<=hi/\hi<=n/\s=sz then
     some (.val (if lo=hi/\lo≠0 then .emp else .msl o (off+lo*sz) (hi-lo) sz) O)
    else none
   |_,_,_=>none
  |_=>none
 |.sliceArr len sz x lo hi mx=>match a x with
  |.ref o off=>match O[o]? with
   |some (.cells l _)=>match gQ 0 (lo.map a),gQ len (hi.map a),mx with
    |some lo,some hi,none=>if lo<=hi/\hi<=len/\off+len*sz<=l.length then some (.val (if lo=hi then .emp else .msl o (off+lo*sz) (hi-lo) sz) O)else none
    |_,_,_=>none
   |_=>none
  |_=>none
 |.fieldAddr off x=>match a x with
  |.ref o f=>some (.val (.ref o (f+off)) O)
  |.eptr l=>if off<=l.length then some (.val (.eptr (l.drop off)) O)else none
  |_=>none
 |.field ag off sz x=>match a x with
  |.agg l=>(pt ag sz (l.drop off)).map (.val · O)
  |_=>none
 |.idxAddrArr len sz x i=>match oI (a i),a x with
  |some i,.ref o f=>if i<len then some (.val (.ref o (f+i*sz)) O)else none
  |some i,.eptr l=>if i<len/\i*sz<=l.length then some (.val (.eptr (l.drop (i*sz))) O)else none
  |_,_=>none
 |.idxAddrSl sz x i=>match oI (a i),a x with
  |some i,.sl n l=>if i<n/\l.length=n*sz then some (.val (.eptr (l.drop (i*sz))) O)else none
  |some i,.xsl n l=>if i<n/\l.length=n*sz then some (.val (.eptr (l.drop (i*sz))) O)else none
  |some i,.msl o off n s=>if i<n/\s=sz then some (.val (.ref o (off+i*sz)) O)else none
  |_,_=>none
 |.idxArr len ag sz x i=>match oI (a i),a x with
  |some i,.agg l=>if i<len then(pt ag sz (l.drop (i*sz))).map (.val · O)else none
  |_,_=>none
 |.idxStr x i=>match oI (a i),a x with
  |some i,.str s=>match s[i]? with
   |some b=>some (.val (.int .u8 b.toNat) O)
   |none=>none
  |_,_=>none
 |.lookup z m k ok=>
  match mapOf O (a m)with
  |some es=>match nO (a k) es 0 with
   |some (some (_,v))=>some (.val (if ok then .tup [v,.bool true]else v) O)
   |some none=>some (.val (if ok then .tup [z,.bool false]else z) O)
   |none=>none
  |none=>none
 |.mapUpd m k v=>match a m with
  |.map r=>match O[r]? with
   |some (.map es)=>match a k with
    |.str s=>match nO (.str s) es 0 with
     |some (some (i,_))=>some (.val .undef (O.set r (.map (es.set i (.str s,a v)))))
     |some none=>some (.val .undef (O.set r (.map (es++[(.str s,a v)]))))
     |none=>none
    |_=>none
   |_=>none
  |_=>none
 |.mapEntry z m k=>match a m with
  |.map r=>match O[r]? with
   |some (.map es)=>match a k with
    |.str s=>match nO (.str s) es 0 with
     |some (some (i,v))=>some (.val (.tup [v,.int .i64 i]) O)
     |some none=>some (.val (.tup [z,.int .i64 es.length]) (O.set r (.map (es++[(.str s,z)]))))
     |none=>none
    |_=>none
   |_=>none
  |_=>none
 |.entryStore m s v=>match a m,oI (a s)with
  |.map r,some i=>match O[r]? with
   |some (.map es)=>match es[i]? with
    |some (k,_)=>some (.val .undef (O.set r (.map (es.set i (k,a v)))))
    |none=>none
   |_=>none
  |_,_=>none
 |.extract x i=>match a x with
  |.tup l=>match l[i]? with
   |some v=>some (.val v O)
   |none=>none
  |_=>none
 |.app str sz bytes ty s x=>
  match ji O sz (a x)with
  |some (m,cs)=>
   if isStr (a x) !=str|| !cs.all AV.flat then none else
   match rO O sz bytes ty (a s) m cs with
   |some (v,O')=>some (.val v O')
   |none=>none
  |none=>none
 |.len k x=>(bU O k (a x)).map fun n=>.val (.int .i64 n) O
 |.lenC n=>some (.val (.int .i64 n) O)
 |.cpy sz d s=>
  match ji O sz (a s),a d with
  |some (m,cs),.msl o off n s=>match O[o]? with
   |some (.cells l ⟨false,t⟩)=>
    let k:=min m n
    if s=sz/\off+k*sz<=l.length/\cs.all AV.flat then
     some (.val (.int .i64 k) (O.set o (.cells (splice l off (cs.take (k*sz))) ⟨false,t⟩)))
    else none
   |_=>none
  |_,_=>none
 |.minmax mx x y=>(VD mx (a x) (a y)).map (.val · O)
 |.callF f args=>some (.call f (args.map a) O)
 |.callV f args=>G7 C (a f) (args.map a) O
 |.invoke x m args=>match a x with
  |.iface t v=>match methodOf C.P t v m with
   |some (f,r)=>some (.call f (r::args.map a) O)
   |none=>none
  |_=>none
 |.pend=>some (.val .undef O)
 |.fill _ d sz x=>
  let cs:=(a x).cells
  if d<n0/\cs.length=sz/\cs.all AV.flat then some (.val (.ref O.length 0) (O++[.cells cs FZ]))else none
 |.fail=>none
def evI(C:Ctx)(e:Env)(O:St)(i:XI):Option Out:=aB C (av C e) e.length O i
abbrev aZ:=FuncId->LA->St->Option (AV×St)
def put(e:Env)(d:Option Nat)(v:AV):Env:=
 match d with
 |some d=>e.set d v
 |none=>e
def mV(o:XOp)(e:Env):Bool:=
 match o.guard with
 |none=>true
 |some (t,b)=>match e[t]? with
  |some (.bool c)=>c==b
  |_=>false
def zl(C:Ctx)(call:aZ)(o:XOp)(e:Env)(O:St):Option (AV×St):=
 if mV o e then
  match evI C e O o.i with
  |some (.val v O')=>some (v,O')
  |some (.call f args O')=>call f args O'
  |none=>none
 else some (.undef,O)
def qc(C:Ctx)(call:aZ):List XOp->Env->St->Option (Env×St)
 |[],e,O=>some (e,O)
 |o::l,e,O=>match zl C call o e O with
  |some (v,O')=>qc C call l (put e o.dst v) O'
  |none=>none
mutual
def same:AV->AV->Bool
 |.bool a,.bool b=>a==b
 |.int k a,.int k' b=>k==k'&&a==b
 |.str a,.str b=>jU a b
 |.nilp,.nilp=>true
 |.ref a b,.ref c d=>a==c&&b==d
 |.eptr a,.eptr b=>vO a b
 |.nils,.nils=>true
 |.emp,.emp=>true
 |.sl n a,.sl m b=>n==m&&vO a b
 |.xsl n a,.xsl m b=>n==m&&vO a b
 |.msl a b c d,.msl a' b' c' d'=>a==a'&&b==b'&&c==c'&&d==d'
 |.map a,.map b=>a==b
 |.nilMap,.nilMap=>true
 |.func f a b,.func f' a' b'=>f==f'&&vO a a'&&vO b b'
 |.nilFunc,.nilFunc=>true
 |.iface t a,.iface u b=>t==u&&same a b
 |.nilIface,.nilIface=>true
 |.agg a,.agg b=>vO a b
 |.tup a,.tup b=>vO a b
 |_,_=>false
def vO:LA->LA->Bool
 |[],[]=>true
 |a::x,b::y=>same a b&&vO x y
 |_,_=>false
end
def uH(C:Ctx)(call:aZ):List XOp->Env->St->Option (Env×St×List (Env×AV)×List St)
 |[],e,O=>some (e,O,[],[O])
 |o::l,e,O=>match zl C call o e O with
  |some (v,O')=>match uH C call l (put e o.dst v) O' with
   |some (e',O'',rs,ss)=>some (e',O'',(e,v)::rs,O::ss)
   |none=>none
  |none=>none
def Ic(C:Ctx)(o:XOp)(e:Env)(v:AV)(ss:List St):List Nat->Bool
 |[]=>true
 |c::l=>(match ss[c]?,ss[c+1]? with
  |some s,some s'=>(match evI C e s o.i,evI C e s' o.i with
   |some (.val v1 _),some (.val v2 _)=>same v1 v&&same v2 v
   |_,_=>false)
  |_,_=>false)&&Ic C o e v ss l
def wM(C:Ctx)(ss:List St):List XOp->List (Env×AV)->Bool
 |o::l,(e,v)::rs=>(!mV o e||Ic C o e v ss o.loose)&&wM C ss l rs
 |_,_=>true
def qj(C:Ctx)(call:aZ)(l:List XOp)(e:Env)(O:St):Option (Env×St):=
 match uH C call l e O with
 |some (e',O',rs,ss)=>if wM C ss l rs then some (e',O')else none
 |none=>none
inductive XE where
 |normal
 |exit (id:Nat)
 |ret
 deriving DecidableEq
def uG(body:Env->St->Option (XE×Env×St)):Nat->Env->St->Option (XE×Env×St)
 |0,_,_=>none
 |n+1,e,O=>match body e O with
  |some (.normal,e',O')=>uG body n e' O'
  |r=>r
def evC(C:Ctx)(call:aZ)(n:Nat):XC->Env->St->Option (XE×Env×St)
 |.skip,e,O=>some (.normal,e,O)
 |.ops l,e,O=>match qc C call l e O with
  |some (e',O')=>some (.normal,e',O')
  |none=>none
 |.drawn l,e,O=>match qj C call l e O with
  |some (e',O')=>some (.normal,e',O')
  |none=>none
 |.seq a b,e,O=>match evC C call n a e O with
  |some (.normal,e',O')=>evC C call n b e' O'
  |r=>r
 |.cond c a b,e,O=>match av C e c with
  |.bool true=>evC C call n a e O
  |.bool false=>evC C call n b e O
  |_=>none
 |.block id b,e,O=>match evC C call n b e O with
  |some (.exit i,e',O')=>some (if i=id then .normal else .exit i,e',O')
  |r=>r
 |.loop b,e,O=>uG (evC C call n b) n e O
 |.exit id,e,O=>some (.exit id,e,O)
 |.ret,e,O=>some (.ret,e,O)
 |.scope b,e,O=>evC C call n b e O
 |.fail,_,_=>none
mutual
def below(n:Nat):AV->Bool
 |.ref o _=>o<n
 |.msl o _ _ _=>o<n
 |.map m=>m<n
 |.func _ x y=>ae n x&&ae n y
 |.iface _ v=>below n v
 |.agg l|.tup l=>ae n l
 |.eptr l=>ae n l
 |.sl _ l|.xsl _ l=>ae n l
 |_=>true
def ae(n:Nat):LA->Bool
 |[]=>true
 |v::l=>below n v&&ae n l
end
def AO.below(n:Nat):AO->Bool
 |.cells l _=>ae n l
 |.map es=>ae n (es.map (·.1))&&ae n (es.map (·.2))
 |.dead=>true
mutual
def asb(O:St)(r:LA->Option (LA×List Nat)):AV->Option (AV×List Nat)
 |.nils|.emp=>some (.sl 0 [],[])
 |.xsl n l=>match aT O r l with
  |some (l,fs)=>some (.sl n l,fs)
  |none=>none
 |.msl o off m sz=>match O[o]? with
  |some (.cells l _)=>
   if off+m*sz<=l.length then
    match r ((l.drop off).take (m*sz))with
    |some (l,fs)=>some (.sl m l,o::fs)
    |none=>none
   else none
  |_=>none
 |.func f x y=>match aT O r x,aT O r y with
  |some (x,fs),some (y,gs)=>some (.func f x y,fs++gs)
  |_,_=>none
 |.iface t v=>match asb O r v with
  |some (v,fs)=>some (.iface t v,fs)
  |none=>none
 |.agg l=>match aT O r l with
  |some (l,fs)=>some (.agg l,fs)
  |none=>none
 |.tup l=>match aT O r l with
  |some (l,fs)=>some (.tup l,fs)
  |none=>none
 |v=>some (v,[])
def aT(O:St)(r:LA->Option (LA×List Nat)):LA->Option (LA×List Nat)
 |[]=>some ([],[])
 |v::l=>match asb O r v,aT O r l with
  |some (v,fs),some (l,gs)=>some (v::l,fs++gs)
  |_,_=>none
end
def df(O:St):Nat->LA->Option (LA×List Nat)
 |0=>fun _=>none
 |n+1=>aT O (df O n)
def freeze(O:St):List Nat->St
 |[]=>O
 |o::fs=>match O[o]? with
  |some (.cells l ⟨false,t⟩)=>freeze (O.set o (.cells l ⟨true,t⟩)) fs
  |_=>freeze O fs
def hand(raw:Bool)(l:LA)(O:St):Option (LA×St):=
 if raw then some (l,O)else
 match df O 12 l with
 |some (l,fs)=>some (l,freeze O fs)
 |none=>none
def Tv(e:Env)(O:St):List XR->Option LA
 |[]=>some []
 |.tmp t::l=>match Tv e O l with
  |some vs=>some (e.getD t .undef::vs)
  |none=>none
 |.cell t ag sz::l=>match e.getD t .undef,Tv e O l with
  |.ref o off,some vs=>match O[o]? with
   |some (.cells c _)=>match pt ag sz (c.drop off)with
    |some v=>some (v::vs)
    |none=>none
   |_=>none
  |_,_=>none
def bD:LA->AV
 |[v]=>v
 |l=>.tup l
def tidy(n:Nat)(vs:LA)(O:St):St:=
 if O.length=n then O else
 if ae n vs&&(O.take n).all (AO.below n)then O.take n else O
def evF(C:Ctx):Nat->aZ
 |0,_,_,_=>none
 |n+1,f,args,O=>
  match C.prim f with
  |some h=>h args O
  |none=>
  match C.fs f with
  |none=>none
  |some x=>
   match hand (C.raw f) args O with
   |none=>none
   |some (args,O1)=>
    if args.length>x.ntmps then none else
    match evC C (evF C n) n x.body (args++List.replicate (x.ntmps-args.length) .undef) O1 with
    |some (.exit _,_,_)=>none
    |none=>none
    |some (_,e,O2)=>
     match Tv e O2 x.results with
     |none=>none
     |some vs=>match hand (C.raw f) vs O2 with
      |none=>none
      |some (vs,O3)=>some (bD vs,tidy O.length vs O3)
open Go.RowKit
structure Gh where
 pl:Nat->Bool
 n:Nat
 ob:Nat->Nat
 bs:Nat->Nat
 im:Nat->Nat->Option Value
structure Gh.le(g g':Gh):Prop where
 pl:g'.pl=g.pl
 n:g.n<=g'.n
 ob:∀o,o<g.n->g'.ob o=g.ob o
 bs:∀o,o<g.n->g'.bs o=g.bs o
 im:∀b i v,g.im b i=some v->g'.im b i=some v
def Gh.le.refl(g:Gh):g.le g:=⟨rfl,a06 _,fun _ _=>rfl,fun _ _=>rfl,fun _ _ _ h=>h⟩
def Gh.le.trans{a b c:Gh}(h:a.le b)(k:b.le c):a.le c:=
 ⟨k.pl.trans h.pl,ax7 h.n k.n,fun o ho=>(k.ob o (ax8 ho h.n)).trans (h.ob o ho),fun o ho=>(k.bs o (ax8 ho h.n)).trans (h.bs o ho),
  fun b i v hv=>k.im b i v (h.im b i v hv)⟩
mutual
inductive VR(g:Gh):AV->Value->Prop
 |bool (b:Bool):VR g (.bool b) (.bool b)
 |int (k:IntKind) (n:Int):VR g (.int k n) (.int k n)
 |str (s:LU):VR g (.str s) (.string ⟨⟨s⟩⟩)
 |nilp:VR g .nilp (.pointer none)
 |ref (o off:Nat):o<g.n->VR g (.ref o off) (.pointer (some ⟨g.ob o,off,none⟩))
 |eptr (l:LA) (b off:Nat):CR g l b off->VR g (.eptr l) (.pointer (some ⟨b,off,none⟩))
 |nils:VR g .nils (.slice none 0 0)
 |emp (a:Addr) (cap:Nat):VR g .emp (.slice (some a) 0 cap)
 |slNil:VR g (.sl 0 []) (.slice none 0 0)
 |slEmp (a:Addr) (cap:Nat):VR g (.sl 0 []) (.slice (some a) 0 cap)
 |sl (n:Nat) (l:LA) (b off cap:Nat):CR g l b off->n<=cap->VR g (.sl n l) (.slice (some ⟨b,off,none⟩) n cap)
 |xsl (n:Nat) (l:LA) (b off:Nat):CR g l b off->VR g (.xsl n l) (.slice (some ⟨b,off,none⟩) n n)
 |msl (o off n sz cap:Nat):o<g.n->n<=cap->off+cap*sz<=g.bs o->VR g (.msl o off n sz) (.slice (some ⟨g.ob o,off,none⟩) n cap)
 |map (m:Nat):m<g.n->VR g (.map m) (.map (some (g.ob m)))
 |nilMap:VR g .nilMap (.map none)
 |func (f:Fn) (x y:LA) (x' y':List Value):VRs g x x'->VRs g y y'->VR g (.func f x y) (.func f ⟨x'⟩ ⟨y'⟩)
 |nilFunc:VR g .nilFunc .nilFunc
 |iface (t:TypeId) (v:AV) (v':Value):VR g v v'->VR g (.iface t v) (.iface t v')
 |nilIface:VR g .nilIface .nilIface
 |agg (l:LA) (l':List Value):VRs g l l'->VR g (.agg l) (.agg ⟨l'⟩)
 |tup (l:LA) (l':List Value):VRs g l l'->VR g (.tup l) (.tuple ⟨l'⟩)
inductive VRs(g:Gh):LA->List Value->Prop
 |nil:VRs g [] []
 |cons (a:AV) (v:Value) (l:LA) (l':List Value):VR g a v->VRs g l l'->VRs g (a::l) (v::l')
inductive CR(g:Gh):LA->Nat->Nat->Prop
 |nil (b off:Nat):CR g [] b off
 |cons (a:AV) (v:Value) (l:LA) (b off:Nat):g.im b off=some v->VR g a v->CR g l b (off+1)->CR g (a::l) b off
end
mutual
theorem VR.mono{g g':Gh}(h:g.le g'):∀{a:AV} {v:Value},VR g a v->VR g' a v
 |_,_,.bool b=>.bool b
 |_,_,.int k n=>.int k n
 |_,_,.str s=>.str s
 |_,_,.nilp=>.nilp
 |_,_,.ref o off ho=>by grind [VR,Gh.le]
 |_,_,.eptr l b off c=>.eptr l b off (c.mono h)
 |_,_,.nils=>.nils
 |_,_,.emp a cap=>.emp a cap
 |_,_,.slNil=>.slNil
 |_,_,.slEmp a cap=>.slEmp a cap
 |_,_,.sl n l b off cap c hc=>.sl n l b off cap (c.mono h) hc
 |_,_,.xsl n l b off c=>.xsl n l b off (c.mono h)
 |_,_,.msl o off n sz cap ho hn hb=>by
  grind [VR,Gh.le]
 |_,_,.map m hm=>by grind [VR,Gh.le]
 |_,_,.nilMap=>.nilMap
 |_,_,.func f x y x' y' a b=>.func f x y x' y' (a.mono h) (b.mono h)
 |_,_,.nilFunc=>.nilFunc
 |_,_,.iface t v v' a=>.iface t v v' (a.mono h)
 |_,_,.nilIface=>.nilIface
 |_,_,.agg l l' a=>.agg l l' (a.mono h)
 |_,_,.tup l l' a=>.tup l l' (a.mono h)
theorem VRs.mono{g g':Gh}(h:g.le g'):∀{l:LA} {l':List Value},VRs g l l'->VRs g' l l'
 |_,_,.nil=>.nil
 |_,_,.cons a v l l' x y=>.cons a v l l' (x.mono h) (y.mono h)
theorem CR.mono{g g':Gh}(h:g.le g'):∀{l:LA} {b off:Nat},CR g l b off->CR g' l b off
 |_,_,_,.nil b off=>.nil b off
 |_,_,_,.cons a v l b off x y z=>.cons a v l b off (h.im _ _ _ x) (y.mono h) (z.mono h)
end
theorem VRs.length{g:Gh}:∀{l:LA} {l':List Value},VRs g l l'->l'.length=l.length
 |_,_,.nil=>rfl
 |_,_,.cons _ _ _ _ _ y=>by simp[y.length]
def VRs.get{g:Gh}:∀{l:LA} {l':List Value},VRs g l l'->∀{i:Nat} {a:AV},l[i]?=some a->∃v,l'[i]?=some v/\VR g a v
 |_,_,.nil,_,_,h=>by simp at h
 |_,_,.cons a v l l' x y,0,_,h=>by grind
 |_,_,.cons a v l l' x y,i+1,_,h=>by simp at h;simpa using y.get h
def VRs.append{g:Gh}:∀{l:LA} {l':List Value} {m:LA} {m':List Value},VRs g l l'->VRs g m m'->VRs g (l++m) (l'++m')
 |_,_,_,_,.nil,h=>h
 |_,_,_,_,.cons a v l l' x y,h=>.cons a v _ _ x (y.append h)
def VRs.take{g:Gh}:∀{l:LA} {l':List Value} (n:Nat),VRs g l l'->VRs g (l.take n) (l'.take n)
 |_,_,0,_=>by simp;exact .nil
 |_,_,_+1,.nil=>by simp;exact .nil
 |_,_,n+1,.cons a v l l' x y=>by simpa using .cons a v _ _ x (y.take n)
def VRs.drop{g:Gh}:∀{l:LA} {l':List Value} (n:Nat),VRs g l l'->VRs g (l.drop n) (l'.drop n)
 |_,_,0,h=>by simpa using h
 |_,_,_+1,.nil=>by simp;exact .nil
 |_,_,n+1,.cons a v l l' x y=>by simpa using y.drop n
theorem VRs.of_get{g:Gh}:∀{l:LA} {l':List Value},l'.length=l.length->(∀(i:Nat) (a:AV),l[i]?=some a->∃v,l'[i]?=some v/\VR g a v)->VRs g l l'
 |[],[],_,_=>.nil
 |a::l,v::l',hl,h=>by
  obtain⟨v',hv,hr⟩:=h 0 a rfl;simp at hv;subst hv;exact .cons a v l l' hr (.of_get (by simpa using hl) fun i a' ha=>by simpa using h (i+1) a' (by simpa using ha))
def VRs.set{g:Gh}:∀{l:LA} {l':List Value} (i:Nat) {a:AV} {v:Value},VRs g l l'->VR g a v->VRs g (l.set i a) (l'.set i v)
 |_,_,_,_,_,.nil,_=>by simp;exact .nil
 |_,_,0,_,_,.cons a v l l' x y,h=>by simpa using .cons _ _ _ _ h y
 |_,_,i+1,_,_,.cons a v l l' x y,h=>by simpa using .cons _ _ _ _ x (y.set i h)
def VRs.map{g:Gh}{α:Type}{f:α->AV}{f':α->Value}(h:∀x,VR g (f x) (f' x)):∀l:List α,VRs g (l.map f) (l.map f')
 |[]=>.nil
 |x::l=>.cons _ _ _ _ (h x) (.map h l)
def CR.get{g:Gh}:∀{l:LA} {b off:Nat},CR g l b off->∀{i:Nat} {a:AV},l[i]?=some a->∃v,g.im b (off+i)=some v/\VR g a v
 |_,_,_,.nil _ _,_,_,h=>by simp at h
 |_,_,_,.cons a v l b off x y z,0,_,h=>by grind
 |_,_,_,.cons a v l b off x y z,i+1,_,h=>by
  simp at h;obtain⟨v',h1,h2⟩:=z.get h
  grind
theorem CR.of_get{g:Gh}:∀{l:LA} {b off:Nat},(∀(i:Nat) (a:AV),l[i]?=some a->∃v,g.im b (off+i)=some v/\VR g a v)->CR g l b off
 |[],b,off,_=>.nil b off
 |a::l,b,off,h=>by
  obtain⟨v,hv,hr⟩:=h 0 a rfl;exact .cons a v l b off (by simpa using hv) hr (.of_get fun i a' ha=>by
   obtain⟨v',h1,h2⟩:=h (i+1) a' (by simpa using ha)
   grind)
def CR.drop{g:Gh}{l:LA}{b off:Nat}(h:CR g l b off)(k:Nat):CR g (l.drop k) b (off+k):=
 .of_get fun i a ha=>by
  rw[List.getElem?_drop]at ha;obtain⟨v,h1,h2⟩:=h.get ha
  grind
def CR.take{g:Gh}{l:LA}{b off:Nat}(h:CR g l b off)(k:Nat):CR g (l.take k) b off:=
 .of_get fun i a ha=>by
  rw[au7]at ha;split at ha
  ·exact h.get ha
  ·cases ha
structure ER(g:Gh)(es:List (AV×AV))(ents:Array MapEntry)(clock:Nat):Prop where
 size:ents.size=es.length
 clk:clock=es.length
 at_:∀(i:Nat) (k v:AV),es[i]?=some (k,v)->∃e:MapEntry,ents[i]?=some e/\VR g k e.key/\VR g v e.val/\e.born=i
def aqy(e:TypeId)(fr:Nat×Nat)(fz:Fz)(n m:Nat):Prop:=fr=(0,0)/\∀t x,fz.t=some (t,x)->e=t/\(x=true->n=m)
def OR(g:Gh)(w:World)(o:Nat):AO->Prop
 |.cells l fz=>∃c e fr,w.heap[g.ob o]?=some (.cells c e fr)/\c.size=g.bs o/\l.length<=c.size/\
  (∀(i:Nat) (x:AV),l[i]?=some x->∃v,c[i]?=some v/\VR g x v)/\aqy e fr fz c.size l.length/\
  (∀i v,g.im (g.ob o) i=some v->fz.b=true/\i<l.length)
 |.map es=>∃ents clock,w.heap[g.ob o]?=some (.map ents clock)/\ER g es ents clock
 |.dead=>True
def AO.live:AO->Bool
 |.dead=>false
 |_=>true
def anI{fr:Nat×Nat}(h:fr=(0,0))(n:Nat):∀i,i<n->(decide (fr.1<=i)&&decide (i<fr.2))=false:=by subst h;simp
def ama(f:Nat->Option Value):Prop:=∀j n m,f j=some (.int .u8 n)->f (j+1)≠some (.int .i64 m)
structure WR(g:Gh)(w:World)(O:St):Prop where
 n:g.n=O.length
 im:∀b i v,g.im b i=some v->w.cell? ⟨b,i,none⟩=some v
 uf:∀b i v,g.im b i=some v->(g.pl b=false/\ama (g.im b))\/∃c e fr,w.heap[b]?=some (.cells c e fr)/\(fr=(0,0)\/∃n,v=.int .u8 n)
 obj:∀(o:Nat) (x:AO),O[o]?=some x->OR g w o x
 inj:∀(o o':Nat) (x x':AO),O[o]?=some x->O[o']?=some x'->x.live=true->x'.live=true->g.ob o=g.ob o'->o=o'
def aaC(g:Gh)(O:St)(b:Nat):Prop:=∀(o:Nat) (x:AO),O[o]?=some x->x.live=true->g.ob o≠b
structure Goes(g:Gh)(O:St)(w:World)(g':Gh)(O':St)(w':World):Prop where
 le:g.le g'
 wr:WR g' w' O'
 os:w'.os=w.os
 tape:w'.tape=w.tape
 output:w'.output=w.output
 size:w.heap.size<=w'.heap.size
 fr:∀b,b<w.heap.size->aaC g O b->aaC g' O' b/\w'.heap[b]?=w.heap[b]? /\∀i,g'.im b i=g.im b i
def Goes.refl{g:Gh}{O:St}{w:World}(h:WR g w O):Goes g O w g O w:=
 ⟨.refl g,h,rfl,rfl,rfl,a06 _,fun _ _ hu=>⟨hu,rfl,fun _=>rfl⟩⟩
def Goes.trans{g1 g2 g3:Gh}{s1 s2 s3:St}{w1 w2 w3:World}(h:Goes g1 s1 w1 g2 s2 w2)(k:Goes g2 s2 w2 g3 s3 w3):Goes g1 s1 w1 g3 s3 w3:=
 ⟨h.le.trans k.le,k.wr,k.os.trans h.os,k.tape.trans h.tape,k.output.trans h.output,ax7 h.size k.size,fun b hb hu=>by
  grind [Goes]⟩
def WR.drew{g:Gh}{w:World}{O:St}(h:WR g w O)(n:Nat):WR g {w with drawn:=n} O:=
 ⟨h.n,h.im,h.uf,fun o x hx=>by have:=h.obj o x hx;cases x<;>exact this,h.inj⟩
def Goes.drew{g:Gh}{w:World}{O:St}(h:WR g w O)(n:Nat):Goes g O w g O {w with drawn:=n}:=
 ⟨.refl g,h.drew n,rfl,rfl,rfl,a06 _,fun _ _ hu=>⟨hu,rfl,fun _=>rfl⟩⟩
theorem addr_add(b o i:Nat):(⟨b,o,none⟩:Addr).add i=⟨b,o+i,none⟩:=by unfold Addr.add;split<;>simp_all
def lt_of_heap{w:World}{b:Nat}{o:Obj}(h:w.heap[b]?=some o):b<w.heap.size:=by
 grind
theorem cell_of_heap{w:World}{b:Nat}{c:Array Value}{e:TypeId}{fr:Nat×Nat}(h:w.heap[b]?=some (.cells c e fr))(i:Nat):w.cell? ⟨b,i,none⟩=c[i]?:=by
 simp[World.cell?,h]
def lt_of_cell{w:World}{b i:Nat}{v:Value}(h:w.cell? ⟨b,i,none⟩=some v):b<w.heap.size:=by
 grind [World.cell?]
theorem uV{w w':World}{b:Nat}(h:w'.heap[b]?=w.heap[b]?)(i:Nat):w'.cell? ⟨b,i,none⟩=w.cell? ⟨b,i,none⟩:=by
 unfold World.cell?;simp only[h]
def JM:Array Value->Nat->List Value->Array Value
 |c,_,[]=>c
 |c,o,v::r=>JM (c.setIfInBounds o v) (o+1) r
def qR:∀(vs:List Value) (c:Array Value) (o:Nat),(JM c o vs).size=c.size
 |[],_,_=>rfl
 |v::r,c,o=>by rw[JM,qR r];simp
def Gt:∀(vs:List Value) (c:Array Value) (o:Nat),o+vs.length<=c.size->∀i,(JM c o vs)[i]?=if o<=i/\i<o+vs.length then vs[i-o]? else c[i]?
 |[],c,o,_,i=>by rw[JM,if_neg (by simp)]
 |v::r,c,o,h,i=>by
  simp only[a07]at h;rw[JM,Gt r _ _ (by simp;omega)]
  grind
def wI (b:Nat):∀(vs:List Value) (o:Nat) (w:World) (c:Array Value) (e:TypeId) (fr:Nat×Nat),w.heap[b]?=some (.cells c e fr)->
  (w.setCells b o vs).heap[b]?=some (.cells (JM c o vs) e fr)
 |[],_,_,_,_,_,h=>h
 |v::r,o,w,c,e,fr,h=>by
  rw[World.setCells,JM];exact wI b r (o+1) _ _ e fr (by simp[World.setCell,aB3,h])
def qN(b:Nat):∀(vs:List Value) (o:Nat) (w:World) (k:Nat),k≠b->(w.setCells b o vs).heap[k]?=w.heap[k]?
 |[],_,_,_,_=>rfl
 |v::r,o,w,k,h=>by rw[World.setCells,qN b r _ _ k h];exact Below.heap_setCell w _ v k h
def wS(b:Nat):∀(vs:List Value) (o:Nat) (w:World),(w.setCells b o vs).os=w.os/\(w.setCells b o vs).tape=w.tape/\(w.setCells b o vs).output=w.output/\(w.setCells b o vs).heap.size=w.heap.size
 |[],_,_=>⟨rfl,rfl,rfl,rfl⟩
 |v::r,o,w=>by
  obtain⟨h1,h2,h3,h4⟩:=wS b r (o+1) (w.setCell ⟨b,o,none⟩ v);rw[World.setCells]
  grind [World.setCell]
section
variable{g:Gh}{w:World}{O:St}
def WR.lt(h:WR g w O){o:Nat}{x:AO}(hx:O[o]?=some x):o<g.n:=by
 grind [WR]
def WR.im_lt(h:WR g w O){b i:Nat}{v:Value}(hv:g.im b i=some v):b<w.heap.size:=lt_of_cell (h.im b i v hv)
def WR.ob_lt(h:WR g w O){o:Nat}{x:AO}(hx:O[o]?=some x)(hl:x.live=true):g.ob o<w.heap.size:=by
 have:=h.obj o x hx;cases x with
 |cells l fz=>obtain⟨c,e,fr,hb,_⟩:=this;exact lt_of_heap hb
 |map es=>obtain⟨c,e,hb,_⟩:=this;exact lt_of_heap hb
 |dead=>cases hl
theorem OR.mono {g':Gh} {w':World} {o:Nat} {x:AO} (h:OR g w o x) (hle:g.le g') (ho:o<g.n) (hb:x.live=true->w'.heap[g.ob o]?=w.heap[g.ob o]?)
  (him:x.live=true->∀i v,g'.im (g.ob o) i=some v->g.im (g.ob o) i=some v):OR g' w' o x:=by
 cases x with
 |dead=>trivial
 |cells l fz=>
  obtain⟨c,e,fr,h1,h2,h3,h4,h5,h6⟩:=h;refine⟨c,e,fr,by rw[hle.ob o ho,hb rfl];exact h1,by rw[hle.bs o ho];exact h2,h3,fun i x hx=>?_,h5,fun i v hv=>?_⟩
  ·obtain⟨v,a,b⟩:=h4 i x hx;exact⟨v,a,b.mono hle⟩
  ·rw[hle.ob o ho]at hv;exact h6 i v (him rfl i v hv)
 |map es=>
  obtain⟨ents,clock,h1,h2,h3,h4⟩:=h;refine⟨ents,clock,by rw[hle.ob o ho,hb rfl];exact h1,h2,h3,fun i k v hkv=>?_⟩
  obtain⟨e,a,b,c,d⟩:=h4 i k v hkv;exact⟨e,a,b.mono hle,c.mono hle,d⟩
def xH(w:World)(o:Obj):World:={w with heap:=w.heap.push o}
theorem lZ(w:World)(o:Obj){k:Nat}(h:k<w.heap.size):(xH w o).heap[k]?=w.heap[k]?:=Below.heap_alloc w o k h
def Ef(w:World)(o:Obj):(xH w o).heap[w.heap.size]?=some o:=by show(w.heap.push o)[w.heap.size]?=_;rw[Array.getElem?_push,if_pos rfl]
def Gh.more(g:Gh)(b s:Nat):Gh:={g with n:=g.n+1,ob:=fun o=>if o=g.n then b else g.ob o,bs:=fun o=>if o=g.n then s else g.bs o}
def Gh.more_le(g:Gh)(b s:Nat):g.le (g.more b s):=
 ⟨rfl,Nat.le_succ _,fun o ho=>by simp[Gh.more];omega,fun o ho=>by simp[Gh.more];omega,fun _ _ _ h=>h⟩
def Gh.keep(g:Gh)(b:Nat)(c:Array Value)(k:Nat):Gh:={g with im:=fun b' i=>if b'=b/\i<k then c[i]? else g.im b' i}
def iH{O:St}{x y:AO}{o:Nat}(h:(O++[x])[o]?=some y):(o<O.length/\O[o]?=some y)\/(o=O.length/\y=x):=by
 grind
def acS(h:WR g w O)(o:Obj)(x:AO)(s:Nat)(hx:OR (g.more w.heap.size s) (xH w o) g.n x):Goes g O w (g.more w.heap.size s) (O++[x]) (xH w o):=by
 have hle:=g.more_le w.heap.size s;refine⟨hle,⟨by simp[Gh.more,h.n],fun b i v hv=>?_,fun b i v hv=>?_,fun k y hy=>?_,fun k k' y y' hy hy' hl hl' he=>?_⟩,rfl,rfl,rfl,by simp[xH],fun b hb hu=>⟨fun k y hy hl=>?_,lZ w o hb,fun _=>rfl⟩⟩
 ·rw[uV (lZ w o (h.im_lt hv))];exact h.im b i v hv
 ·rw[lZ w o (h.im_lt hv)];exact h.uf b i v hv
 ·rcases iH hy with⟨_,hy⟩|⟨hk,rfl⟩
  ·exact OR.mono (h.obj k y hy) hle (h.lt hy) (fun hl=>lZ w o (h.ob_lt hy hl)) (fun _ _ _ hv=>hv)
  grind [h.n]
 ·rcases iH hy with⟨a,hz⟩|⟨a,ha⟩<;>rcases iH hy' with⟨a',hz'⟩|⟨a',ha'⟩
  ·grind [WR,Gh.le]
  ·exfalso;have:=h.ob_lt hz hl
   grind [h.n,Gh.more]
  ·exfalso;have:=h.ob_lt hz' hl'
   grind [h.n,Gh.more]
  ·omega
 ·rcases iH hy with⟨a,hy⟩|⟨a,rfl⟩
  ·rw[hle.ob k (h.lt hy)];exact hu k y hy hl
  grind [h.n,Gh.more]
def YB(h:WR g w O)(c:Array Value)(e:TypeId)(fr:Nat×Nat)(hfr:fr=(0,0)\/∀(i:Nat) (v:Value),c[i]?=some v->∃n,v=Value.int .u8 n):Goes g O w (g.keep w.heap.size c c.size) O (xH w (.cells c e fr)):=by
 have hle:g.le (g.keep w.heap.size c c.size):=⟨rfl,a06 _,fun _ _=>rfl,fun _ _=>rfl,fun b i v hv=>by
  have:=h.im_lt hv;simp only[Gh.keep];rw[if_neg (by omega)];exact hv⟩
 refine⟨hle,⟨h.n,fun b i v hv=>?_,fun b i v hv=>?_,fun k y hy=>?_,h.inj⟩,rfl,rfl,rfl,by simp[xH],fun b hb hu=>⟨hu,lZ w _ hb,fun i=>by simp only[Gh.keep];rw[if_neg (by omega)]⟩⟩
 ·simp only[Gh.keep]at hv;split at hv
  ·rename_i hb;rw[hb.1,cell_of_heap (Ef w _)];exact hv
  ·rw[uV (lZ w _ (h.im_lt hv))];exact h.im b i v hv
 ·simp only[Gh.keep]at hv;split at hv
  ·rename_i hb;rw[hb.1,Ef];grind
  ·rw[lZ w _ (h.im_lt hv)];have hb:=h.im_lt hv;exact(h.uf b i v hv).imp (fun q=>⟨q.1,fun j n m hj hj'=>q.2 j n m (by simp only[Gh.keep]at hj;rwa[if_neg (by omega)]at hj) (by simp only[Gh.keep]at hj';rwa[if_neg (by omega)]at hj')⟩) id
 ·refine OR.mono (h.obj k y hy) hle (h.lt hy) (fun hl=>lZ w _ (h.ob_lt hy hl)) (fun hl i v hv=>?_);have:=h.ob_lt hy hl;simp only[Gh.keep]at hv
  grind
def aeK(h:WR g w O)(c:Array Value)(e:TypeId):Goes g O w (g.keep w.heap.size c c.size) O (xH w (.cells c e)):=YB h c e (0,0) (.inl rfl)
def mP{O:St}{x y:AO}{o k:Nat}(h:(O.set o x)[k]?=some y):(k≠o/\O[k]?=some y)\/(k=o/\o<O.length/\y=x):=by
 grind
theorem OR.plain{o i:Nat}{x:AO}{v:Value}(h:OR g w o x)(hl:x.live=true)(hc:w.cell? ⟨g.ob o,i,none⟩=some v):∃c e fr,w.heap[g.ob o]?=some (.cells c e fr)/\(fr=(0,0)\/∃n,v=.int .u8 n):=by
 cases x with
 |dead=>cases hl
 |cells l fz=>
  obtain⟨c,e,fr,h1,h2,h3,h4,h5,h6⟩:=h;exact⟨c,e,fr,h1,.inl h5.1⟩
 |map es=>
  obtain⟨ents,clock,h1,h2⟩:=h;simp[World.cell?,h1]at hc
def W9 (h:WR g w O) {o:Nat} {x0:AO} (hx0:O[o]?=some x0) (hl0:x0.live=true) (x:AO) (hlx:x.live=true) (w':World) (hos:w'.os=w.os) (htape:w'.tape=w.tape) (hout:w'.output=w.output) (hsz:w'.heap.size=w.heap.size)
  (hne:∀k,k≠g.ob o->w'.heap[k]?=w.heap[k]?) (him:∀i v,g.im (g.ob o) i=some v->w'.cell? ⟨g.ob o,i,none⟩=some v) (hx:OR g w' o x):Goes g O w g (O.set o x) w':=by
 refine⟨.refl g,⟨by simp[h.n],fun b i v hv=>?_,fun b i v hv=>?_,fun k y hy=>?_,fun k k' y y' hy hy' hl hl' he=>?_⟩,hos,htape,hout,by omega,fun b hb hu=>⟨fun k y hy hl=>?_,hne b (fun e=>hu o x0 hx0 hl0 e.symm),fun _=>rfl⟩⟩
 ·by_cases hb:b=g.ob o
  ·subst hb;exact him i v hv
  grind [uV,WR]
 ·by_cases hb:b=g.ob o
  ·grind [OR.plain]
  ·rw[hne b hb];exact h.uf b i v hv
 ·rcases mP hy with⟨hk,hz⟩|⟨rfl,_,rfl⟩
  ·refine OR.mono (h.obj k y hz) (.refl g) (h.lt hz) (fun hl=>hne _ fun e=>hk (h.inj k o y x0 hz hx0 hl hl0 e)) (fun _ _ _ hv=>hv)
  ·exact hx
 ·grind [WR]
 ·rcases mP hy with⟨hk,hz⟩|⟨hk,_,_⟩
  ·exact hu k y hz hl
  ·subst hk;exact hu k x0 hx0 hl0
def Zw(h:WR g w O)(o:Nat):Goes g O w g (O.set o .dead) w:=by
 refine⟨.refl g,⟨by simp[h.n],h.im,h.uf,fun k y hy=>?_,fun k k' y y' hy hy' hl hl' he=>?_⟩,rfl,rfl,rfl,a06 _,fun b hb hu=>⟨fun k y hy hl=>?_,rfl,fun _=>rfl⟩⟩
 ·rcases mP hy with⟨hk,hz⟩|⟨_,_,rfl⟩
  ·exact h.obj k y hz
  ·trivial
 ·rcases mP hy with⟨hk,hz⟩|⟨hk,_,rfl⟩
  ·rcases mP hy' with⟨hk',hz'⟩|⟨hk',_,rfl⟩
   ·exact h.inj k k' y y' hz hz' hl hl' he
   ·cases hl'
  ·cases hl
 ·rcases mP hy with⟨hk,hz⟩|⟨hk,_,rfl⟩
  ·exact hu k y hz hl
  ·cases hl
def acR(h:WR g w O){o:Nat}{l:LA}{fz:Fz}(hx0:O[o]?=some (.cells l fz)):∃g',Goes g O w g' (O.set o (.cells l ⟨true,fz.t⟩)) w/\CR g' l (g.ob o) 0:=by
 obtain⟨c,e,fr,h1,h2,h3,h4,h5,h6⟩:=h.obj o _ hx0;have hle:g.le (g.keep (g.ob o) c l.length):=⟨rfl,a06 _,fun _ _=>rfl,fun _ _=>rfl,fun b i v hv=>by
  grind [Gh.keep,cell_of_heap,WR]⟩
 refine⟨g.keep (g.ob o) c l.length,⟨hle,⟨by rw[a95];exact h.n,fun b i v hv=>?_,fun b i v hv=>?_,fun k y hy=>?_,fun k k' y y' hy hy' hl hl' he=>?_⟩,rfl,rfl,rfl,a06 _,fun b hb hu=>⟨fun k y hy hl=>?_,rfl,fun i=>?_⟩⟩,?_⟩
 ·grind [Gh.keep,cell_of_heap,WR]
 ·simp only[Gh.keep]at hv;split at hv
  ·rename_i hb;rw[hb.1,h1];exact .inr ⟨_,_,_,rfl,.inl h5.1⟩
  ·rename_i hb;have hbb:b≠g.ob o:=fun hbb=>by
    grind
   refine(h.uf b i v hv).imp (fun q=>⟨q.1,fun j n m hj hj'=>q.2 j n m ?_ ?_⟩) id
   ·simp only[Gh.keep]at hj;rwa[if_neg (fun e=>hbb e.1)]at hj
   ·simp only[Gh.keep]at hj';rwa[if_neg (fun e=>hbb e.1)]at hj'
 ·rcases mP hy with⟨hk,hz⟩|⟨rfl,_,rfl⟩
  ·refine OR.mono (h.obj k y hz) hle (h.lt hz) (fun _=>rfl) (fun hl i v hv=>?_);simp only[Gh.keep]at hv;rw[if_neg (fun hb=>hk (h.inj k o y _ hz hx0 hl rfl hb.1))]at hv;exact hv
  ·refine⟨c,e,fr,h1,h2,h3,fun i x hx=>?_,h5,fun i v hv=>⟨rfl,?_⟩⟩
   ·obtain⟨v,a,b⟩:=h4 i x hx;exact⟨v,a,b.mono hle⟩
   grind [Gh.keep]
 ·have hz:∀(k:Nat) (y:AO),(O.set o (.cells l ⟨true,fz.t⟩))[k]?=some y->y.live=true->∃z,O[k]?=some z/\z.live=true:=fun k y hy hl=>by
   rcases mP hy with⟨hk,hz⟩|⟨rfl,_,rfl⟩
   ·exact⟨y,hz,hl⟩
   ·exact⟨_,hx0,rfl⟩
  grind [WR,Gh.le]
 ·rcases mP hy with⟨hk,hz⟩|⟨rfl,_,rfl⟩
  ·exact hu k y hz hl
  ·exact hu k _ hx0 rfl
 ·simp only[Gh.keep];rw[if_neg (fun hb=>hu o _ hx0 rfl hb.1.symm)]
 ·refine CR.of_get fun i a ha=>?_;obtain⟨v,hv,hr⟩:=h4 i a ha;refine⟨v,?_,hr.mono hle⟩;simp only[Gh.keep,av2]
  grind
def Zx (h:WR g w O) {o:Nat} {l:LA} {fz:Fz} (hx0:O[o]?=some (.cells l fz)) (x:AO) (hlx:x.live=true) (w':World) (hos:w'.os=w.os) (htape:w'.tape=w.tape) (hout:w'.output=w.output) (hsz:w'.heap.size=w.heap.size)
  (hne:∀k,k≠g.ob o->w'.heap[k]?=w.heap[k]?) (him:∀i v,g.im (g.ob o) i=some v->w'.cell? ⟨g.ob o,i,none⟩=some v) (hx:OR (g.more (g.ob o) (g.bs o)) w' g.n x):
  Goes g O w (g.more (g.ob o) (g.bs o)) (O.set o .dead++[x]) w':=by
 have hle:=g.more_le (g.ob o) (g.bs o);have hold:∀(k:Nat) (y:AO),(O.set o .dead++[x])[k]?=some y->y.live=true->(k≠o/\O[k]?=some y)\/(k=g.n/\y=x):=fun k y hy hl=>by
  rcases iH hy with⟨_,hz⟩|⟨hk,hz⟩
  ·rcases mP hz with⟨hk,hz⟩|⟨_,_,rfl⟩
   ·exact .inl ⟨hk,hz⟩
   ·cases hl
  grind [h.n]
 refine⟨hle,⟨by simp[Gh.more,h.n],fun b i v hv=>?_,fun b i v hv=>?_,fun k y hy=>?_,fun k k' y y' hy hy' hl hl' he=>?_⟩,hos,htape,hout,by omega,fun b hb hu=>⟨fun k y hy hl=>?_,hne b (fun e=>hu o _ hx0 rfl e.symm),fun _=>rfl⟩⟩
 ·by_cases hb:b=g.ob o
  ·subst hb;exact him i v hv
  ·rw[uV (hne b hb)];exact h.im b i v hv
 ·by_cases hb:b=g.ob o
  ·subst hb;have hx':=OR.plain (g:=g.more (g.ob o) (g.bs o)) (o:=g.n) (i:=i) (v:=v) hx hlx (by simpa[Gh.more]using him i v hv)
   exact .inr (by simpa[Gh.more]using hx')
  ·rw[hne b hb];exact h.uf b i v hv
 ·by_cases hl:y.live=true
  ·rcases hold k y hy hl with⟨hk,hz⟩|⟨rfl,rfl⟩
   ·exact OR.mono (h.obj k y hz) hle (h.lt hz) (fun hl=>hne _ fun e=>hk (h.inj k o y _ hz hx0 hl rfl e)) (fun _ _ _ hv=>hv)
   ·exact hx
  ·cases y<;>simp[AO.live]at hl;trivial
 ·rcases hold k y hy hl with⟨hk,hz⟩|⟨hk,_⟩<;>rcases hold k' y' hy' hl' with⟨hk',hz'⟩|⟨hk',_⟩
  ·grind [WR,Gh.le]
  ·exfalso;rw[hle.ob k (h.lt hz),hk']at he;simp[Gh.more]at he;exact hk (h.inj k o y _ hz hx0 hl rfl he)
  ·exfalso;rw[hle.ob k' (h.lt hz'),hk]at he;simp[Gh.more]at he;exact hk' (h.inj k' o y' _ hz' hx0 hl' rfl he.symm)
  ·omega
 ·rcases hold k y hy hl with⟨hk,hz⟩|⟨hk,_⟩
  ·rw[hle.ob k (h.lt hz)];exact hu k y hz hl
  ·rw[hk];simp[Gh.more];exact hu o _ hx0 rfl
def Gh.cut(g:Gh)(n:Nat):Gh:={g with n:=n}
mutual
def VR.cut{g:Gh}{n:Nat}:∀{a:AV} {v:Value},VR g a v->below n a=true->VR (g.cut n) a v
 |_,_,.bool b,_=>.bool b
 |_,_,.int k n,_=>.int k n
 |_,_,.str s,_=>.str s
 |_,_,.nilp,_=>.nilp
 |_,_,.ref o off ho,h=>.ref (g:=g.cut n) o off (by simpa[below,Gh.cut]using h)
 |_,_,.eptr l b off c,h=>.eptr l b off (c.cut (by simpa[below]using h))
 |_,_,.nils,_=>.nils
 |_,_,.emp a cap,_=>.emp a cap
 |_,_,.slNil,_=>.slNil
 |_,_,.slEmp a cap,_=>.slEmp a cap
 |_,_,.sl n l b off cap c hc,h=>.sl n l b off cap (c.cut (by simpa[below]using h)) hc
 |_,_,.xsl n l b off c,h=>.xsl n l b off (c.cut (by simpa[below]using h))
 |_,_,.msl o off n' sz cap ho hn hb,h=>.msl (g:=g.cut n) o off n' sz cap (by simpa[below,Gh.cut]using h) hn hb
 |_,_,.map m hm,h=>.map (g:=g.cut n) m (by simpa[below,Gh.cut]using h)
 |_,_,.nilMap,_=>.nilMap
 |_,_,.func f x y x' y' a b,h=>by
  simp only[below,a01]at h;exact .func f x y x' y' (a.cut h.1) (b.cut h.2)
 |_,_,.nilFunc,_=>.nilFunc
 |_,_,.iface t v v' a,h=>.iface t v v' (a.cut (by simpa[below]using h))
 |_,_,.nilIface,_=>.nilIface
 |_,_,.agg l l' a,h=>.agg l l' (a.cut (by simpa[below]using h))
 |_,_,.tup l l' a,h=>.tup l l' (a.cut (by simpa[below]using h))
def VRs.cut{g:Gh}{n:Nat}:∀{l:LA} {l':List Value},VRs g l l'->ae n l=true->VRs (g.cut n) l l'
 |_,_,.nil,_=>.nil
 |_,_,.cons a v l l' x y,h=>by
  simp only[ae,a01]at h;exact .cons a v l l' (x.cut h.1) (y.cut h.2)
def CR.cut{g:Gh}{n:Nat}:∀{l:LA} {b off:Nat},CR g l b off->ae n l=true->CR (g.cut n) l b off
 |_,_,_,.nil b off,_=>.nil b off
 |_,_,_,.cons a v l b off x y z,h=>by
  simp only[ae,a01]at h;exact .cons a v l b off x (y.cut h.1) (z.cut h.2)
end
def DL{n:Nat}:∀{l:LA} {i:Nat} {a:AV},ae n l=true->l[i]?=some a->below n a=true
 |[],_,_,_,h=>by simp at h
 |x::l,0,a,hb,h=>by simp at h;subst h;simp only[ae,a01]at hb;exact hb.1
 |x::l,i+1,a,hb,h=>by simp at h;simp only[ae,a01]at hb;exact DL hb.2 h
def ajE{g0:Gh}{O0:St}{w0:World}(hg:Goes g0 O0 w0 g O w)(h0:g0.n=O0.length)(hall:(O.take O0.length).all (AO.below O0.length)=true):Goes g0 O0 w0 (g.cut O0.length) (O.take O0.length) w:=by
 have h:=hg.wr;have hn:O0.length<=O.length:=by rw[<-h0,<-h.n];exact hg.le.n
 have hold:∀(k:Nat) (y:AO),(O.take O0.length)[k]?=some y->k<O0.length/\O[k]?=some y:=fun k y hy=>by
  grind
 refine⟨⟨hg.le.pl,by simp[Gh.cut,h0],fun o ho=>hg.le.ob o ho,fun o ho=>hg.le.bs o ho,hg.le.im⟩,⟨by simp[Gh.cut];omega,h.im,h.uf,fun k y hy=>?_,fun k k' y y' hy hy' hl hl' he=>?_⟩,hg.os,hg.tape,hg.output,hg.size,fun b hb hu=>?_⟩
 ·obtain⟨hk,hz⟩:=hold k y hy;have hbe:y.below O0.length=true:=a90.1 hall y (a94 hy);have:=h.obj k y hz;cases y with
  |dead=>trivial
  |cells l fz=>
   obtain⟨c,e,fr,h1,h2,h3,h4,h5,h6⟩:=this;refine⟨c,e,fr,h1,h2,h3,fun i x hx=>?_,h5,h6⟩;obtain⟨v,a,b⟩:=h4 i x hx;exact⟨v,a,b.cut (DL hbe hx)⟩
  |map es=>
   obtain⟨ents,clock,h1,h2,h3,h4⟩:=this;simp only[AO.below,a01]at hbe;refine⟨ents,clock,h1,h2,h3,fun i k v hkv=>?_⟩;obtain⟨e,a,b,c,d⟩:=h4 i k v hkv;exact⟨e,a,b.cut (DL hbe.1 (i:=i) (by simp[hkv])),c.cut (DL hbe.2 (i:=i) (by simp[hkv])),d⟩
 ·exact h.inj k k' y y' (hold k y hy).2 (hold k' y' hy').2 hl hl' he
 ·obtain⟨a,b',c⟩:=hg.fr b hb hu;exact⟨fun k y hy hl=>a k y (hold k y hy).2 hl,b',c⟩
end
def DJ(P:Program)(o:Oper)(ρ:Operand->Value)(g:Gh)(O:St)(w:World):Out->Prop
 |.val v O'=>∃w' g',Goes g O w g' O' w'/\((∃v',(execOp ρ o).run P w=.ok (.value v') w'/\VR g' v v')\/(v=.undef/\(execOp ρ o).run P w=.ok .skip w'))
 |.call f args O'=>O'=O/\∃args':List Value,VRs g args args'/\(execOp ρ o).run P w=(callFunc f ⟨args'⟩).run P w
mutual
def o7(g:Gh):∀(v:Value) (a:AV),eH v=some a->VR g a v
 |.bool b,a,h=>by grind [eH,VR]
 |.int k n,a,h=>by grind [eH,VR]
 |.string s,a,h=>by simp[eH]at h;subst h;exact .str _
 |.pointer none,a,h=>by simp[eH]at h;subst h;exact .nilp
 |.pointer (some _),a,h=>by simp[eH]at h
 |.slice none 0 0,a,h=>by simp[eH]at h;subst h;exact .nils
 |.slice none (_+1) _,a,h=>by simp[eH]at h
 |.slice none 0 (_+1),a,h=>by simp[eH]at h
 |.slice (some _) _ _,a,h=>by simp[eH]at h
 |.map none,a,h=>by grind [eH,VR]
 |.map (some _),a,h=>by simp[eH]at h
 |.func (.func f) ⟨[]⟩ ⟨[]⟩,a,h=>by simp[eH]at h;subst h;exact .func _ _ _ _ _ .nil .nil
 |.func (.func f) ⟨_::_⟩ _,a,h=>by simp[eH]at h
 |.func (.func f) ⟨[]⟩ ⟨_::_⟩,a,h=>by simp[eH]at h
 |.func (.method _) _ _,a,h=>by simp[eH]at h
 |.func (.methodOf ..) _ _,a,h=>by simp[eH]at h
 |.func (.via ..) _ _,a,h=>by simp[eH]at h
 |.func (.yield _) _ _,a,h=>by simp[eH]at h
 |.nilFunc,a,h=>by grind [eH,VR]
 |.nilIface,a,h=>by grind [eH,VR]
 |.agg ⟨l⟩,a,h=>by
  simp only[eH,a97]at h;obtain⟨azs,h1,rfl⟩:=h;exact .agg _ _ (QX g l azs h1)
 |.tuple ⟨[]⟩,a,h=>by simp[eH]at h;subst h;exact .tup _ _ .nil
 |.tuple ⟨_::_⟩,a,h=>by simp[eH]at h
 |.float ..,a,h=>by simp[eH]at h
 |.complex ..,a,h=>by simp[eH]at h
 |.chan _,a,h=>by simp[eH]at h
 |.iface ..,a,h=>by simp[eH]at h
def QX(g:Gh):∀(l:List Value) (azs:LA),JE l=some azs->VRs g azs l
 |[],azs,h=>by simp[JE]at h;subst h;exact .nil
 |v::l,azs,h=>by
  simp only[JE]at h;split at h
  ·rename_i a as' h1 h2;simp at h;subst h;exact .cons _ _ _ _ (o7 g v a h1) (QX g l as' h2)
  ·cases h
end
def VR.cells{g:Gh}{a:AV}{v:Value}(h:VR g a v):VRs g a.cells v.cells.toList:=by
 cases h<;>first|assumption|exact .cons _ _ _ _ (by constructor<;>assumption) .nil
def VR.cells_size{g:Gh}{a:AV}{v:Value}(h:VR g a v):v.cells.size=a.cells.length:=by
 have:=h.cells.length;simpa using this
def VR.one{g:Gh}{a:AV}{v:Value}(h:VR g a v)(hf:a.flat=true):v.oneCell'=true:=by
 cases h<;>first|rfl|(simp[AV.flat]at hf)
def VRs.one{g:Gh}:∀{l:LA} {l':List Value},VRs g l l'->l.all AV.flat=true->∀v∈l',v.oneCell'=true
 |_,_,.nil,_=>by simp
 |_,_,.cons a v l l' x y,h=>by
  simp only[a88,a01]at h;intro u hu;simp at hu;rcases hu with rfl|hu
  ·exact x.one h.1
  ·exact y.one h.2 u hu
def Cells(g:Gh)(w:World)(l:LA)(b off:Nat):Prop:=∃vs,VRs g l vs/\∀(j:Nat) (v:Value),vs[j]?=some v->w.cell? ⟨b,off+j,none⟩=some v
def CR.cells{g:Gh}{w:World}{O:St}(hw:WR g w O):∀{l:LA} {b off:Nat},CR g l b off->Cells g w l b off
 |_,_,_,.nil b off=>⟨[],.nil,by simp⟩
 |_,_,_,.cons a v l b off x y z=>by
  obtain⟨vs,h1,h2⟩:=CR.cells hw z;refine⟨v::vs,.cons _ _ _ _ y h1,fun j u hu=>?_⟩;cases j with
  |zero=>simp at hu;subst hu;simpa using hw.im _ _ _ x
  |succ j=>grind
def Cells.take{g:Gh}{w:World}{l:LA}{b off:Nat}(h:Cells g w l b off)(k:Nat):Cells g w (l.take k) b off:=by
 obtain⟨vs,h1,h2⟩:=h;refine⟨vs.take k,h1.take k,fun j v hv=>?_⟩
 grind
def Cells.drop{g:Gh}{w:World}{l:LA}{b off:Nat}(h:Cells g w l b off)(k:Nat):Cells g w (l.drop k) b (off+k):=by
 obtain⟨vs,h1,h2⟩:=h;refine⟨vs.drop k,h1.drop k,fun j v hv=>?_⟩
 grind
def OR.cells{g:Gh}{w:World}{o:Nat}{l:LA}{fz:Fz}(h:OR g w o (.cells l fz)):Cells g w l (g.ob o) 0:=by
 obtain⟨c,e,fr,h1,h2,h3,h4,h5,h6⟩:=h;refine⟨c.toList.take l.length,VRs.of_get (by simp;omega) fun i a ha=>?_,fun j v hv=>?_⟩
 ·grind
 ·rw[au7]at hv;split at hv
  ·rw[av2,cell_of_heap h1];simpa using hv
  ·cases hv
def Cells.run{g:Gh}{w:World}{l:LA}{b off:Nat}(h:Cells g w l b off)(P:Program):∃vs,VRs g l vs/\(loadCells ⟨b,off,none⟩ l.length).run P w=.ok ⟨vs⟩ w:=by
 obtain⟨vs,h1,h2⟩:=h
 grind [h1.length,run_loadCells_list,addr_add]
def Dp{P:Program}{t:TypeId}{u:TypeDesc}(h:P.underlying t=some u)(w:World):(isAgg t).run P w=.ok (zM u) w:=by
 cases u<;>simp[isAgg,zM,run_underlying h]
def run_sizeOf{P:Program}{t:TypeId}{i:TypeInfo}(h:P.info? t=some i)(w:World):(sizeOf t).run P w=.ok i.size w:=by simp[sizeOf,typeInfo,h]
def Ej{P:Program}{t:TypeId}{i:TypeInfo}{z:Value}(h:P.info? t=some i)(hz:i.zero=some z)(w:World):(zeroValue t).run P w=.ok z w:=by simp[zeroValue,typeInfo,h,hz]
def Xn {P:Program} {g:Gh} {w:World} {l:LA} {b off:Nat} (h:Cells g w l b off) {t:TypeId} {u:TypeDesc} {i:TypeInfo} (hu:P.underlying t=some u) (hi:P.info? t=some i) {v:AV} (hv:pt (zM u) i.size l=some v):
  ∃v',(loadVar t ⟨b,off,none⟩).run P w=.ok v' w/\VR g v v':=by
 unfold pt at hv;split at hv
 ·rename_i ha;split at hv
  ·rename_i hl;simp at hv;subst hv;obtain⟨vs,h1,h2⟩:=(h.take i.size).run P;refine⟨.agg ⟨vs⟩,?_,.agg _ _ h1⟩;rw[ay6,az7 hl]at h2;simp[loadVar,Dp hu,ha,run_sizeOf hi,h2]
  ·cases hv
 ·rename_i ha;cases l with
  |nil=>simp at hv
  |cons a l=>
   simp at hv;subst hv;obtain⟨vs,h1,h2⟩:=h;cases h1 with
   |cons _ v' _ l' x y=>
    refine⟨v',?_,x⟩;have:=h2 0 v' rfl;simp[loadVar,Dp hu,ha,run_load,show w.cell? ⟨b,off,none⟩=some v' from by simpa using this]
def XG {P:Program} {g:Gh} (w:World) {l:LA} {c:List Value} (h:VRs g l c) {t:TypeId} {u:TypeDesc} {i:TypeInfo} (hu:P.underlying t=some u) (hi:P.info? t=some i) (off:Nat) {v:AV} (hv:pt (zM u) i.size (l.drop off)=some v):
  ∃v',(part t ⟨c⟩ off).run P w=.ok v' w/\VR g v v':=by
 unfold pt at hv;have hd:=h.drop off;split at hv
 ·rename_i ha;split at hv
  ·rename_i hl;simp at hv;subst hv;refine⟨.agg ⟨(c.drop off).take i.size⟩,?_,.agg _ _ (hd.take i.size)⟩;simp[part,Dp hu,ha,run_sizeOf hi]
  ·cases hv
 ·rename_i ha;generalize hl:l.drop off=l1 at hv hd;cases l1 with
  |nil=>simp at hv
  |cons a l1=>
   simp at hv;subst hv;generalize hc:c.drop off=c1 at hd;cases hd with
   |cons _ v' _ l' x y=>
    refine⟨v',?_,x⟩;have:c[off]?=some v':=by
     have:=congrArg (fun z:List Value=>z[0]?) hc;simpa using this
    simp[part,Dp hu,ha,this]
section
variable{P:Program}{g:Gh}{w:World}{O:St}
theorem rD:∀a b:LU,jU a b=(a==b)
 |[],[]=>rfl
 |[],_::_=>rfl
 |_::_,[]=>rfl
 |a::x,b::y=>by simp[jU,rD x y]
def toList_mk(s:LU):(⟨⟨s⟩⟩:ByteArray).toList=s:=by
 rw[Lib.toList_data]
def size_mk(s:LU):(⟨⟨s⟩⟩:ByteArray).size=s.length:=rfl
def aiu(op:BinOp)(a b:LU){v:AV}(h:rQ op a b=some v):∃v',(Op.stringOp op ⟨⟨a⟩⟩ ⟨⟨b⟩⟩).run P w=.ok v' w/\VR g v v':=by
 cases op<;>simp only[rQ]at h<;>simp only[Op.stringOp,toList_mk,rD]at h⊢<;>first|(cases h;done)|skip
 case add=>
  split at h
  ·cases h
  ·rename_i hs;cases h;refine⟨.string ⟨⟨a++b⟩⟩,?_,.str _⟩;rw[if_neg (by simpa[IntKind.max,IntKind.signed,IntKind.bits,size_mk]using hs)]
   simp;apply ByteArray.ext;simp
 all_goals
  cases h;exact⟨_,rfl,.bool _⟩
def ahQ(op:BinOp)(k:IntKind)(a b:Int){v:AV}(h:asj op k a b=some v)(t:TypeId):∃v',(Go.binOp op t (.int k a) (.int k b)).run P w=.ok v' w/\VR g v v':=by
 cases op<;>simp only[asj]at h<;>first
  |(cases h;done)
  |(cases h;exact⟨_,by simp[Go.binOp,Op.intArith,Op.intBits,Op.intCmp];rfl,by constructor⟩)
  |(cases h;exact⟨_,by simp only[Go.binOp,ne_eq,not_true,if_false];rfl,by constructor⟩)
  | (split at h
     ·cases h
     ·rename_i hb;cases h;exact⟨_,by simp[Go.binOp,Op.intDiv,hb];rfl,by constructor⟩)
def adR(op:BinOp)(k k':IntKind)(a b:Int){v:AV}(h:zh op k a b=some v)(t:TypeId)(hop:op=.shl\/op=.shr):∃v',(Go.binOp op t (.int k a) (.int k' b)).run P w=.ok v' w/\VR g v v':=by
 unfold zh at h;split at h
 ·cases h
 ·rename_i hb;rcases hop with rfl|rfl<;>(simp at h;subst h;exact⟨_,by simp[Go.binOp,Op.shift,hb];rfl,by constructor⟩)
def Zi {c:List Value} {c':List Value}:∀(fs:List Field) (i q:Nat) {x y:LA} {b:Bool},Zq P i fs=some q->jW q x y=some b->fs.length=x.length->VRs g x (c.drop i)->VRs g y (c'.drop i)->∀d w,
  (Op.eqFields (d+1) ⟨c⟩ ⟨c'⟩ fs).run P w=.ok b w
 |[],i,q,x,y,b,_,he,hl,hx,hy,d,w=>by
  cases x with
  |nil=>cases y with
   |nil=>simp[jW]at he;subst he;simp[Op.eqFields]
   |cons _ _=>simp[jW]at he
  |cons _ _=>simp at hl
 |f::fs,i,q,x,y,b,hf,he,hl,hx,hy,d,w=>by
  rw[Zq]at hf;by_cases h0:(f.name != "_"&&f.offset==i)=true
  case neg=>rw[if_neg h0]at hf;cases hf
  rw[if_pos h0]at hf;simp only[a01,bne_iff_ne,ne_eq,beq_iff_eq]at h0;obtain⟨h1,h2⟩:=h0;cases x with
  |nil=>simp at hl
  |cons a x=>
   cases y with
   |nil=>cases a<;>simp[jW]at he
   |cons a' y=>
    generalize hc:c.drop i=ci at hx;generalize hc':c'.drop i=ci' at hy;cases hx with
    |cons _ v _ cr rv hx=>
     cases hy with
     |cons _ v' _ cr' rv' hy=>
      have e1:c[i]?=some v:=by have:=congrArg (fun z:List Value=>z[0]?) hc;simpa using this
      have e1':c'[i]?=some v':=by have:=congrArg (fun z:List Value=>z[0]?) hc';simpa using this
      have e2:c.drop (i+1)=cr:=by rw[<-aD0,hc];rfl
      have e2':c'.drop (i+1)=cr':=by rw[<-aD0,hc'];rfl
      rw[<-e2]at hx;rw[<-e2']at hy;have pA:∀(u:TypeDesc),P.underlying f.type=some u->zM u=false->(part f.type ⟨c⟩ f.offset).run P w=.ok v w:=fun u hu ha=>by
       simp[part,Dp hu,ha,h2,e1]
      have pB:∀(u:TypeDesc),P.underlying f.type=some u->zM u=false->(part f.type ⟨c'⟩ f.offset).run P w=.ok v' w:=fun u hu ha=>by
       simp[part,Dp hu,ha,h2,e1']
      have hl':fs.length=x.length:=by simpa using hl
      cases hu:P.underlying f.type with
      |none=>rw[hu]at hf;cases hf
      |some u=>
       rw[hu]at hf;cases hq:Zq P (i+1) fs with
       |none=>rw[hq]at hf;cases u<;>cases hf
       |some q'=>
        rw[hq]at hf;have step:∀r rb:Bool,(Op.equalIn (d+1) f.type v v').run P w=.ok r w->jW q' x y=some rb->zM u=false->(Op.eqFields (d+1) ⟨c⟩ ⟨c'⟩ (f::fs)).run P w=.ok (r&&rb) w:=fun r rb hr hrb ha=>by
         have ih:=Zi fs (i+1) q' hq hrb hl' hx hy d w;rw[Op.eqFields];simp only[ne_eq,h1,not_false_eq_true,if_true,Sem.run_bind,pA u hu ha,pB u hu ha,hr,Result.andThen_ok];cases r
         ·simp
         ·simp[ih]
        have done:∀(z:Bool) (m:Nat),m<3->(if(3*q'+m)%3=m then(jW ((3*q'+m)/3) x y).map (z&& ·)else none)=some b->(Op.equalIn (d+1) f.type v v').run P w=.ok z w->zM u=false->(Op.eqFields (d+1) ⟨c⟩ ⟨c'⟩ (f::fs)).run P w=.ok b w:=fun z m hm he hr ha=>by
         rw[if_pos (by omega),show(3*q'+m)/3=q' from by omega]at he
         grind [a97]
        cases u<;>simp only[a05,reduceCtorEq]at hf;all_goals (subst hf;cases rv<;>first|(simp[jW]at he;done)|skip)
        all_goals cases rv'<;>first|(simp[jW]at he;done)|skip
        all_goals first
         |(rename_i s s';simp only[jW]at he;exact done _ 0 (by omega) he (by rw[run_equalIn_string w d f.type _ _ hu,toList_mk,toList_mk,rD]) rfl)
         |(rename_i s s';simp only[jW]at he;exact done _ 1 (by omega) he (run_equalIn_bool w d f.type s s' hu) rfl)
         |(simp only[jW]at he;split at he; · omega; · cases he)
         |skip
        rename_i k1 k2 n1 k3 n2;simp only[jW]at he;by_cases hk:k2=k3
        ·subst hk;simp only[and_true]at he;exact done _ 2 (by omega) he (run_equalIn_int w d f.type k2 k1 n1 n2 hu) rfl
        grind
def Zh (t:TypeId):∀{k:Nat},FM P t=k->match k with
  |1=>P.underlying t=some .bool
  |n+8=>∃fs,P.underlying t=some (.struct fs)/\Zq P 0 fs.toList=some (n/1024)/\P.stoodInHeld t=false/\P.eqGuardType P.depth t=false/\fs.size=n%1024
  |3=>∃e i,P.underlying t=some (.pointer e)/\P.info? e=some i/\i.size≠0
  |4=>∃a b c,P.underlying t=some (.func a b c)
  |5=>∃m,P.underlying t=some (.interface m)
  |6=>∃a b,P.underlying t=some (.map a b)
  |7=>∃e,P.underlying t=some (.slice e)
  |_=>True:=by
 intro k h;subst h;unfold FM
 grind
mutual
theorem WA:∀{a a':AV} {v:Value},VR g a v->VR g a' v->diff a a'=false
 |.bool a,a',v,h,h'=>by cases h;cases h';simp[diff]
 |.int k a,a',v,h,h'=>by cases h;cases h';simp[diff]
 |.str a,a',v,h,h'=>by cases h;cases h';simp[diff,rD]
 |.sl n l,a',v,h,h'=>by
  cases h with
  |slNil=>cases h'<;>simp[diff,sV]
  |slEmp a cap=>cases h'<;>simp[diff,sV]
  |sl _ _ b off cap c hc=>
   cases h' with
   |emp=>simp[diff]
   |slEmp=>cases l<;>simp[diff,sV]
   |sl _ l' _ _ _ c' hc'=>simp[diff];exact Ji c c'
   |xsl=>simp[diff]
   |msl=>simp[diff]
 |.agg l,a',v,h,h'=>by
  cases h with
  |agg _ l' hl=>cases h' with
   |agg m _ hm=>simp[diff];exact Qb hl hm
 |.nilp,a',v,h,h'=>by simp[diff]
 |.ref _ _,a',v,h,h'=>by simp[diff]
 |.eptr _,a',v,h,h'=>by simp[diff]
 |.nils,a',v,h,h'=>by cases h;cases h'<;>simp[diff]
 |.emp,a',v,h,h'=>by simp[diff]
 |.xsl _ _,a',v,h,h'=>by simp[diff]
 |.msl _ _ _ _,a',v,h,h'=>by simp[diff]
 |.map _,a',v,h,h'=>by simp[diff]
 |.nilMap,a',v,h,h'=>by simp[diff]
 |.func _ _ _,a',v,h,h'=>by simp[diff]
 |.nilFunc,a',v,h,h'=>by simp[diff]
 |.iface _ _,a',v,h,h'=>by simp[diff]
 |.nilIface,a',v,h,h'=>by simp[diff]
 |.tup _,a',v,h,h'=>by simp[diff]
theorem Ji:∀{l m:LA} {b off:Nat},CR g l b off->CR g m b off->sV l m=false
 |[],_,_,_,_,_=>by simp[sV]
 |_::_,[],_,_,_,_=>by simp[sV]
 |a::l,a'::m,b,off,h,h'=>by
  cases h with
  |cons _ v _ _ _ x y z=>cases h' with
   |cons _ v' _ _ _ x' y' z'=>
    rw[x]at x';cases x';simp only[sV,ay2];exact⟨WA y y',Ji z z'⟩
theorem Qb:∀{l m:LA} {vs:List Value},VRs g l vs->VRs g m vs->sV l m=false
 |[],_,_,_,_=>by simp[sV]
 |_::_,[],_,_,_=>by simp[sV]
 |a::l,a'::m,_,h,h'=>by
  cases h with
  |cons _ v _ _ y z=>cases h' with
   |cons _ _ _ _ y' z'=>
    simp only[sV,ay2];exact⟨WA y y',Qb z z'⟩
end
def RJ{w:World}{b:Nat}(huf:∀i v,g.im b i=some v->∃c e fr,w.heap[b]?=some (.cells c e fr)/\(fr=(0,0)\/∃n,v=.int .u8 n)){l:LA}{off:Nat}(hc:CR g l b off)(h:Kq l=true):∃c e,w.heap[b]?=some (.cells c e (0,0)):=by
 unfold Kq at h;rw[aC1]at h;obtain⟨a,ha,hb⟩:=h;obtain⟨i,hi,rfl⟩:=List.getElem_of_mem ha;obtain⟨v,hv,hr⟩:=hc.get (i:=i) (a02 hi);obtain⟨c,e,fr,hh,hx⟩:=huf _ _ hv;rcases hx with rfl|⟨n,rfl⟩
 ·exact⟨c,e,hh⟩
 ·exfalso;generalize l[i]=a at hr hb;cases hr;simp[isByte]at hb
def Xe{w:World}(huf:∀b i v,g.im b i=some v->(g.pl b=false/\ama (g.im b))\/∃c e fr,w.heap[b]?=some (.cells c e fr)/\(fr=(0,0)\/∃n,v=.int .u8 n)){l:LA}{b off:Nat}(hc:CR g l b off)(h:headB l=true\/∀b,g.pl b=true):∀i v,g.im b i=some v->∃c e fr,w.heap[b]?=some (.cells c e fr)/\(fr=(0,0)\/∃n,v=.int .u8 n):=by
 intro i v hv;rcases huf b i v hv with⟨h1,h2⟩|h3
 ·exfalso;rcases h with h|h
  ·unfold headB at h;split at h
   ·cases hc with
    |cons _ v _ _ _ x y z=>
     cases y;cases z with
     |cons _ v' _ _ _ x' y' z'=>
      cases y';exact h2 _ _ _ x x'
   ·cases h
  ·rw[h b]at h1;cases h1
 ·exact h3
def acK(t:TypeId)(cst:Bool)(x y:AV){b:Bool}(h:eqA (FM P t) cst x y=some b){x' y':Value}(hx:VR g x x')(hy:VR g y y')(w:World)(huf:∀b i v,g.im b i=some v->(g.pl b=false/\ama (g.im b))\/∃c e fr,w.heap[b]?=some (.cells c e fr)/\(fr=(0,0)\/∃n,v=.int .u8 n))(hpl:afe x y=true->∀b,g.pl b=true)(d:Nat)(hd:0<d):(Op.equalIn (d+1) t x' y').run P w=.ok b w:=by
 obtain⟨d,rfl⟩:∃d',d=d'+1:=⟨d-1,by omega⟩
 have hk:=Zh (P:=P) t rfl;unfold eqA at h;generalize FM P t=k at h hk
 match k,h,hk with
 |1,h,hk=>
  grind [run_equalIn_bool',VR]
 |3,h,hk=>
  obtain⟨e,ti,hu,hti,hsz⟩:=hk;simp only[bV]at h;by_cases hee:∃l m,x=.eptr l/\y=.eptr m
  ·obtain⟨l,m,rfl,rfl⟩:=hee;simp at h;obtain⟨hd,rfl⟩:=h;have hh:(headB l=true/\headB m=true)\/∀b,g.pl b=true:=by
    cases h1:headB l with
    |false=>exact .inr (hpl (by simp[afe,h1]))
    |true=>cases h2:headB m with
     |false=>exact .inr (hpl (by simp[afe,h2]))
     |true=>exact .inl ⟨rfl,rfl⟩
   cases hx with
   |eptr _ b1 off1 c=>
    cases hy with
    |eptr _ b2 off2 c'=>
     have hne:(⟨b1,off1,none⟩:Addr)≠⟨b2,off2,none⟩:=by
      grind [Ji]
     obtain⟨c1,t1,k1⟩:=RJ (Xe huf c (hh.imp (fun q=>q.1) id)) c hd.2.1;obtain⟨c2,t2,k2⟩:=RJ (Xe huf c' (hh.imp (fun q=>q.2) id)) c' hd.2.2;rw[Op.equalIn,Sem.run_bind,run_underlying hu,Result.andThen_ok];simp[sizeOf,typeInfo,hti,hsz,run_sameAddr_other w hne k1 k2]
  ·cases hx<;>first|(simp at h;done)|skip
   all_goals (cases hy<;>simp at h)
   all_goals first|(subst h;rw[Op.equalIn,Sem.run_bind,run_underlying hu,Result.andThen_ok];rfl)|exact absurd ⟨_,_,rfl,rfl⟩ hee
 |4,h,hk=>
  obtain⟨_,_,_,hu⟩:=hk;simp only[bV]at h;cases hx<;>first|(simp at h;done)|skip
  all_goals (cases hy<;>simp at h)
  all_goals (subst h;rw[Op.equalIn,Sem.run_bind,run_underlying hu,Result.andThen_ok];rfl)
 |5,h,hk=>
  obtain⟨_,hu⟩:=hk;simp only[bV]at h;cases hx<;>first|(simp at h;done)|skip
  all_goals (cases hy<;>simp at h)
  all_goals first
   |(subst h;rw[Op.equalIn,Sem.run_bind,run_underlying hu,Result.andThen_ok];rfl)
   |(rw[h.2];rw[Op.equalIn,Sem.run_bind,run_underlying hu,Result.andThen_ok];rfl)
 |6,h,hk=>
  obtain⟨_,_,hu⟩:=hk;simp only[bV]at h;cases hx<;>first|(simp at h;done)|skip
  all_goals (cases hy<;>simp at h)
  all_goals (subst h;rw[Op.equalIn,Sem.run_bind,run_underlying hu,Result.andThen_ok];rfl)
 |7,h,hk=>
  obtain⟨_,hu⟩:=hk;simp only[bV]at h;cases hx<;>first|(simp at h;done)|skip
  all_goals (cases hy<;>simp at h)
  all_goals first
   |(subst h;rw[Op.equalIn,Sem.run_bind,run_underlying hu,Result.andThen_ok];rfl)
   |(rw[h.2];rw[Op.equalIn,Sem.run_bind,run_underlying hu,Result.andThen_ok];rfl)
 |0,h,_=>simp[bV]at h
 |2,h,_=>simp[bV]at h
 |n+8,h,hk=>
  obtain⟨fs,hu,hf,hs,hq,hn⟩:=hk;have hfs:P.fieldsOf t=fs:=by simp[Program.fieldsOf,hu]
  cases hx with
  |agg l l' hl=>
   cases hy with
   |agg m m' hm=>
    simp at h;obtain⟨hlen,h⟩:=h;rw[run_equalIn_struct w _ t _ _ (by rw[hfs];exact hu) hs,hfs]
    exact Zi fs.toList 0 _ hf h (by simp;omega) (by simpa using hl) (by simpa using hm) _ w
   |_=>simp at h
  |_=>simp at h
end
section
variable{P:Program}{g:Gh}{w:World}{O:St}
structure am6(P:Program)(t:TypeId)(x y:Operand)(a b:Value):Prop where
 eql:Go.binOp .eql t a b=(do pure (.bool (<-Op.equal t a b)))
 neq:Go.binOp .neq t a b=(do pure (.bool (!(<-Op.equal t a b))))
 guard:∀op w,(eqGuard op t x y a b).run P w=.ok () w
def rF(op:BinOp)(t:TypeId)(x y:Operand)(a b:Value)(h:(match a,b with|.nilIface,.nilIface=>false|.agg _,.agg _=>false|_,_=>true)=true)(w:World):(eqGuard op t x y a b).run P w=.ok () w:=by
 unfold eqGuard;cases op<;>simp<;>(split<;>first|(simp;done)|(exfalso;simp at h;done))
def acJ(t:TypeId)(x y:Operand)(ax ay:AV){b:Bool}(h:eqA (FM P t) (isC x||isC y) ax ay=some b){x' y':Value}(hx:VR g ax x')(hy:VR g ay y'):am6 P t x y x' y':=by
 have hk:=Zh (P:=P) t rfl;unfold eqA at h;generalize FM P t=k at h hk
 match k,h,hk with
 |1,h,hk=>
  cases hx<;>first|(simp at h;done)|skip
  cases hy<;>simp at h;exact⟨rfl,rfl,fun op w=>rF op t x y _ _ rfl w⟩
 |3,h,hk=>
  simp only[bV]at h;cases hx<;>first|(simp at h;done)|skip
  all_goals (cases hy<;>simp at h)
  all_goals exact⟨rfl,rfl,fun op w=>rF op t x y _ _ rfl w⟩
 |4,h,hk=>
  simp only[bV]at h;cases hx<;>first|(simp at h;done)|skip
  all_goals (cases hy<;>simp at h)
  all_goals exact⟨rfl,rfl,fun op w=>rF op t x y _ _ rfl w⟩
 |5,h,hk=>
  simp only[bV]at h;cases hx<;>first|(simp at h;done)|skip
  all_goals (cases hy<;>simp at h)
  all_goals first
   |exact⟨rfl,rfl,fun op w=>rF op t x y _ _ rfl w⟩
   |skip
  refine⟨rfl,rfl,fun op w=>?_⟩;have hc:=h.1;unfold eqGuard;have hc':((match x with|.const _=>true|_=>false)||(match y with|.const _=>true|_=>false))=true:=by
   rcases hc with hc|hc
   ·cases x<;>simp[isC]at hc;rfl
   ·cases y<;>simp[isC]at hc;simp
  cases op<;>simp<;>(grind)
 |6,h,hk=>
  simp only[bV]at h;cases hx<;>first|(simp at h;done)|skip
  all_goals (cases hy<;>simp at h)
  all_goals exact⟨rfl,rfl,fun op w=>rF op t x y _ _ rfl w⟩
 |7,h,hk=>
  simp only[bV]at h;cases hx<;>first|(simp at h;done)|skip
  all_goals (cases hy<;>simp at h)
  all_goals exact⟨rfl,rfl,fun op w=>rF op t x y _ _ rfl w⟩
 |0,h,_=>simp[bV]at h
 |2,h,_=>simp[bV]at h
 |n+8,h,hk=>
  obtain⟨fs,hu,hf,hs,hq,hn⟩:=hk;cases hx with
  |agg l l' hl=>
   cases hy with
   |agg m m' hm=>
    refine⟨rfl,rfl,fun op w=>?_⟩;unfold eqGuard;cases op<;>simp[hq]
   |_=>simp at h
  |_=>simp at h
def ahp (op:BinOp) (t:TypeId) (x y:Operand) (ax ay:AV) {v:AV} (h:binOp op (FM P t) (isC x||isC y) ax ay=some v) {x' y':Value} (hx:VR g ax x') (hy:VR g ay y') (huf:∀b i v,g.im b i=some v->(g.pl b=false/\ama (g.im b))\/∃c e fr,w.heap[b]?=some (.cells c e fr)/\(fr=(0,0)\/∃n,v=.int .u8 n)) (hpl:afe ax ay=true->∀b,g.pl b=true):
  ∃v',(eqGuard op t x y x' y'>>=fun _=>Go.binOp op t x' y').run P w=.ok v' w/\VR g v v':=by
 have other:∀{v:AV},uF op (eqA (FM P t) (isC x||isC y) ax ay)=some v->
   ∃v',(eqGuard op t x y x' y'>>=fun _=>Go.binOp op t x' y').run P w=.ok v' w/\VR g v v':=by
  intro v h;cases op<;>simp only[uF,a97]at h<;>first|(cases h;done)|skip
  ·obtain⟨b,hb,rfl⟩:=h;have sh:=acJ t x y ax ay hb hx hy;refine⟨.bool b,?_,.bool b⟩;rw[Sem.run_bind,sh.guard,Result.andThen_ok,sh.eql];simp only[Sem.run_bind,Op.equal,Op.maxDepth];rw[show(10000:Nat)=9999+1 from rfl,acK t _ ax ay hb hx hy w huf hpl 9999 (by omega)]
   rfl
  ·obtain⟨b,hb,rfl⟩:=h;have sh:=acJ t x y ax ay hb hx hy;refine⟨.bool !b,?_,.bool _⟩;rw[Sem.run_bind,sh.guard,Result.andThen_ok,sh.neq];simp only[Sem.run_bind,Op.equal,Op.maxDepth];rw[show(10000:Nat)=9999+1 from rfl,acK t _ ax ay hb hx hy w huf hpl 9999 (by omega)]
   rfl
 cases hx with
 |int k a=>
  cases hy with
  |int k' b=>
   rw[Sem.run_bind,rF op t x y _ _ rfl w,Result.andThen_ok];by_cases hs:op=.shl\/op=.shr
   ·refine adR op k k' a b ?_ t hs;rcases hs with rfl|rfl<;>exact h
   ·have h':(if k=k' then asj op k a b else none)=some v:=by
     cases op<;>first|exact h|(exact absurd (.inl rfl) hs)|(exact absurd (.inr rfl) hs)
    split at h'
    ·rename_i hk;subst hk;exact ahQ op k a b h' t
    ·cases h'
  |_=>exact other h
 |str a=>
  cases hy with
  |str b=>
   rw[Sem.run_bind,rF op t x y _ _ rfl w,Result.andThen_ok];have e:Go.binOp op t (.string ⟨⟨a⟩⟩) (.string ⟨⟨b⟩⟩)=Op.stringOp op ⟨⟨a⟩⟩ ⟨⟨b⟩⟩:=by cases op<;>rfl
   rw[e];exact aiu op a b h
  |_=>exact other h
 |_=>exact other h
def alU(op:UnOp)(x:AV){v:AV}(h:unOp op x=some v){x':Value}(hx:VR g x x'):∃v',(Op.unary op x').run P w=.ok v' w/\VR g v v':=by
 unfold unOp at h;split at h
 ·cases hx;cases h;exact⟨_,rfl,.int _ _⟩
 ·cases hx;simp only[asj]at h;cases h;exact⟨_,rfl,.int _ _⟩
 ·cases hx;cases h;exact⟨_,rfl,.bool _⟩
 ·cases h
def FX(l:LA)(off:Nat)(v:LA)(h:off+v.length<=l.length):(splice l off v).length=l.length:=by
 simp[splice];omega
def afu(l:LA)(off:Nat)(v:LA)(h:off+v.length<=l.length)(i:Nat):(splice l off v)[i]?=if off<=i/\i<off+v.length then v[i-off]? else l[i]?:=by
 unfold splice;rw[au2,ax2]
 grind
def X4 {l:LA} {c:Array Value} {off:Nat} {v:LA} {v':List Value} (hl:∀(i:Nat) (x:AV),l[i]?=some x->∃u,c[i]?=some u/\VR g x u) (hv:VRs g v v') (h:off+v.length<=l.length) (hc:l.length<=c.size):
  ∀(i:Nat) (x:AV),(splice l off v)[i]?=some x->∃u,(JM c off v')[i]?=some u/\VR g x u:=by
 intro i x hx;rw[afu l off v h]at hx;rw[Gt v' c off (by rw[hv.length];omega),hv.length]
 split at hx
 ·rename_i hi;rw[if_pos hi];exact hv.get hx
 grind
def Hw (place:Nat->Option (Nat×Nat)) {C:Ctx} {e:Env} {ρ:Operand->Value} (hρ:∀x a,cA x=some a->VR g (av C e a) (ρ x)):
  ∀(ps:List (Nat×Operand)) (qs:List (Nat×Nat×XA)),Oa place ps=some qs->∀(l:LA) (c:Array Value) (r:LA),VRs g l c.toList->zA l (qs.map fun(o,s,x)=>(o,s,av C e x))=some r->
   ∃c',Instr.fill place c (ps.map fun(i,x)=>(i,ρ x))=some c'/\VRs g r c'.toList
 |[],qs,hq,l,c,r,hl,hr=>by
  simp[Oa]at hq;subst hq;simp[zA]at hr;subst hr;exact⟨c,rfl,hl⟩
 |(i,x)::ps,qs,hq,l,c,r,hl,hr=>by
  simp only[Oa]at hq;split at hq
  ·rename_i off sz a azs h1 h2 h3;simp at hq;subst hq;simp only[av3,zA]at hr;split at hr
   ·rename_i hc;have hx:=hρ x a h2;have hcs:=hx.cells;have hsz:=hx.cells_size;have hlen:=hl.length;simp only[aC0]at hlen;have hfold:∀(vs:List Value) (k:Nat) (c:Array Value),off+k+vs.length<=c.size->((vs.zipIdx k).foldl (fun cs (p:Value×Nat)=>cs.setIfInBounds (off+p.2) p.1) c)=JM c (off+k) vs:=by
     intro vs
     induction vs with
     |nil=>intro k c _;rfl
     |cons v vs ih=>
      grind [List.zipIdx_cons,JM]
    have hput:VRs g (splice l off (av C e a).cells) (JM c off (ρ x).cells.toList).toList:=by
     have hb:off+(av C e a).cells.length<=l.length:=by omega
     refine VRs.of_get (by rw[FX _ _ _ hb,aC0,qR,hlen]) fun i y hy=>?_
     obtain⟨u,h5,h6⟩:=X4 (c:=c) (fun i x hx=>by obtain⟨u,a,b⟩:=hl.get hx;exact⟨u,by simpa using a,b⟩) hcs hb (by omega) i y hy
     exact⟨u,by simpa using h5,h6⟩
    obtain⟨c',h7,h8⟩:=Hw place hρ ps azs h3 _ (JM c off (ρ x).cells.toList) r hput hr;refine⟨c',?_,h8⟩;simp only[av3,Instr.fill,h1];rw[if_neg (by simp;omega)]
    rw[<-h7]
    congr 1
    rw[<-Array.foldl_toList,Array.toList_zipIdx]
    grind
   ·cases hr
  ·cases hq
def abA{z:LA}{z':List Value}(h:VRs g z z'):∀n,VRs g (rep z n) (List.replicate n z').flatten
 |0=>by simp[rep];exact .nil
 |n+1=>by rw[rep,List.replicate_succ,ax3];exact h.append (abA h n)
def aa4(z:Array Value)(n:Nat)(hz:0<z.size):((Array.range (n*z.size)).map (z[· %z.size]!)).toList=(List.replicate n z.toList).flatten:=by
 induction n with
 |zero=>simp
 |succ n ih=>
  rw[List.replicate_succ',List.flatten_append,<-ih];simp only[Array.toList_map,Array.toList_range,ax3,List.flatten_nil,au6];rw[show(n+1)*z.size=n*z.size+z.size by rw[aB4,Nat.one_mul],List.range_add,List.map_append,List.map_map]
  congr 1
  apply aw5;intro i;by_cases hi:i<z.size
  ·have e:(n*z.size+i)%z.size=i:=by rw[Nat.mul_comm,Nat.mul_add_mod,Nat.mod_eq_of_lt hi]
   simp[hi,e]
  ·simp[hi]
end
section
variable{P:Program}{g:Gh}{w:World}{O:St}
def Yf{P:Program}{e t:TypeId}{x y:Bool}(h:Ye P e x=some (t,y)):e=t/\x=y:=by
 grind [Ye]
def wK (h:WR g w O) (e:TypeId) (fz:Fz) {l:LA} {c:Array Value} (hfz:∀t x,fz.t=some (t,x)->e=t/\(x=true->c.size=l.length)) (hl:∀(i:Nat) (x:AV),l[i]?=some x->∃v,c[i]?=some v/\VR g x v) (hs:l.length<=c.size):
  Goes g O w (g.more w.heap.size c.size) (O++[.cells l fz]) (xH w (.cells c e)):=by
 refine acS h _ _ _ ⟨c,e,(0,0),?_,?_,hs,fun i x hx=>?_,⟨rfl,hfz⟩,fun i v hv=>?_⟩
 ·simp only[Gh.more,if_true];exact Ef w _
 ·simp[Gh.more]
 ·obtain⟨v,a,b⟩:=hl i x hx;exact⟨v,a,b.mono (g.more_le _ _)⟩
 ·exfalso;simp only[Gh.more,if_true]at hv;have:=h.im_lt hv;omega
def VRs.get_arr{l:LA}{c:Array Value}(h:VRs g l c.toList)(i:Nat)(x:AV)(hx:l[i]?=some x):∃v,c[i]?=some v/\VR g x v:=by
 obtain⟨v,a,b⟩:=h.get hx;exact⟨v,by simpa using a,b⟩
def akD(h:WR g w O)(s:Nat):VR (g.more w.heap.size s) (.ref O.length 0) (.pointer (some ⟨w.heap.size,0,none⟩)):=by
 have:=VR.ref (g:=g.more w.heap.size s) O.length 0 (by simp[Gh.more,h.n])
 simpa[Gh.more,h.n]using this
def Et{t:TypeId}{z:AV}(h:Es P t=some z):∃i v,P.info? t=some i/\i.zero=some v/\eH v=some z:=by
 grind [Es,a03]
def run_places (fs:Array Field) (h:(fs.toList.all fun f=>(P.info? f.type).isSome)=true) (w:World):
  (fs.mapM (m:=Sem) fun f=>do pure (f.offset,<-sizeOf f.type)).run P w=.ok (fs.map fun f=>(f.offset,((P.info? f.type).map (·.size)).getD 0)) w:=by
 obtain⟨l⟩:=fs;rw[<-Array.toArray_toList (xs:=(⟨l⟩:Array Field)),List.mapM_toArray];simp only[Sem.run_map];have hl:∀f∈l,(P.info? f.type).isSome=true:=by simpa using h
 have key:∀l:List Field,(∀f∈l,(P.info? f.type).isSome=true)->(l.mapM (m:=Sem) fun f=>do pure (f.offset,<-sizeOf f.type)).run P w=.ok (l.map fun f=>(f.offset,((P.info? f.type).map (·.size)).getD 0)) w:=by
  intro l
  induction l with
  |nil=>intro _;rfl
  |cons f l ih=>
   intro hl;obtain⟨i,hi⟩:=aw3.1 (hl f (by simp))
   have:=ih (fun f hf=>hl f (by simp[hf]))
   simp only[List.mapM_cons,Sem.run_bind,run_sizeOf hi,Result.andThen_ok,Sem.run_pure,this,av3,hi,au8,az2]
 rw[key l hl];simp
def P5{C:Ctx}{e:Env}{ρ:Operand->Value}(hρ:∀x a,cA x=some a->VR g (av C e a) (ρ x)):∀(l:List Operand) (azs:List XA),cAs l=some azs->VRs g (azs.map (av C e)) (l.map ρ)
 |[],azs,h=>by simp[cAs]at h;subst h;exact .nil
 |x::l,azs,h=>by
  simp only[cAs]at h;split at h
  ·rename_i a as' h1 h2;simp at h;subst h;exact .cons _ _ _ _ (hρ x a h1) (P5 hρ l as' h2)
  ·cases h
def OY (h:WR g w O) {sz n:Nat} {a:AV} {l:LA} (hs:gY O sz a=some (n,l)) {v:Value} (hv:VR g a v):
  l.length=n*sz/\((n=0/\∃cap,v=.slice none 0 cap)\/(n=0/\∃a cap,v=.slice (some a) 0 cap)\/∃b off cap,v=.slice (some ⟨b,off,none⟩) n cap/\Cells g w l b off):=by
 cases hv<;>simp only[gY]at hs<;>first|(cases hs;done)|skip
 case nils=>grind
 case emp a cap=>grind
 case slNil=>grind
 case slEmp a cap=>grind
 case sl m l' b off cap hc hle=>
  split at hs
  ·simp at hs;obtain⟨rfl,rfl⟩:=hs;exact⟨‹_›,.inr (.inr ⟨b,off,cap,rfl,hc.cells h⟩)⟩
  ·cases hs
 case xsl m l' b off hc=>
  split at hs
  ·simp at hs;obtain⟨rfl,rfl⟩:=hs;exact⟨‹_›,.inr (.inr ⟨b,off,_,rfl,hc.cells h⟩)⟩
  ·cases hs
 case msl o off m s cap ho hn hb=>
  split at hs
  ·rename_i l' fz hl;split at hs
   ·rename_i hh;simp at hs;obtain⟨rfl,rfl⟩:=hs;refine⟨by simp;omega,.inr (.inr ⟨_,_,_,rfl,?_⟩)⟩
    have:=((h.obj o _ hl).cells.drop off).take (m*sz);simpa using this
   ·cases hs
  ·cases hs
def UE(s:LU):VRs g (ofBytes s) (byteCells ⟨⟨s⟩⟩):=by
 unfold ofBytes byteCells;exact VRs.map (fun b=>.int .u8 _) s
def aqb (h:WR g w O) {sz n:Nat} {a:AV} {l:LA} (hs:ji O sz a=some (n,l)) {v:Value} (hv:VR g a v) (hf:l.all AV.flat=true) (tx:TypeId)
  (hk:(∃e',P.underlying tx=some (.slice e'))/\(∀s,a≠ .str s)\/P.underlying tx=some .string/\∃s,a=.str s):∃news,VRs g l news/\Src P sz tx v n news w:=by
 rcases hk with⟨⟨e',hk⟩,hne⟩|⟨hk,s,rfl⟩
 ·have hs':gY O sz a=some (n,l):=by
   cases a<;>first|exact hs|(exact absurd rfl (hne _))
  obtain⟨hlen,hc⟩:=OY h hs' hv;rcases hc with⟨rfl,cap,rfl⟩|⟨rfl,a',cap,rfl⟩|⟨b,off,cap,rfl,vs,h1,h2⟩
  ·have:l=[]:=au5 (by omega)
   subst this;exact⟨[],.nil,Src.ofNil w hk cap⟩
  ·have:l=[]:=au5 (by omega)
   subst this;exact⟨[],.nil,Src.ofSlice w hk a' 0 cap [] (by simp) (by simp) (by simp)⟩
  ·exact⟨vs,h1,Src.ofSlice w hk ⟨b,off,none⟩ n cap vs (by rw[h1.length,hlen]) (fun j u hu=>by rw[addr_add];exact h2 j u hu) (h1.one hf)⟩
 ·cases hv;simp only[ji]at hs;split at hs
  ·rename_i h1;simp at hs;obtain⟨rfl,rfl⟩:=hs;subst h1;exact⟨_,UE s,Src.ofString w hk _⟩
  ·cases hs
end
section
variable{P:Program}{g:Gh}{w:World}{O:St}
theorem Zy(n:Nat):∀(r c:Nat),c<n->Builtin.growBy n r c<=2*n+1024
 |0,c,h=>by simp[Builtin.growBy];omega
 |r+1,c,h=>by
  simp only[Builtin.growBy];split
  ·omega
  ·by_cases h2:c+(c+768)/4<n
   ·exact Zy n r _ h2
   ·cases r with
    |zero=>simp[Builtin.growBy];omega
    |succ r=>simp only[Builtin.growBy];rw[if_pos (by omega)];omega
def aoU(need old:Nat)(h:old<need):Builtin.nextslicecap need old<=2*need+1024:=by
 grind [Builtin.nextslicecap,Zy]
def ab5{need old bytes:Nat}(h:old<need)(hb:need*bytes<=70368744177664)(hb2:bytes<=1048576):Builtin.nextslicecap need old*bytes<=281474976710656:=by
 have h1:=aoU need old h;have h2:Builtin.nextslicecap need old*bytes<=(2*need+1024)*bytes:=aB5 _ h1
 grind
theorem Wu(w:World)(need old:Nat)(e:TypeId):need<=grownCap w need old e:=by
 unfold grownCap;simp[Question.cut]
def Ll (h:WR g w O) (e:TypeId) (fz:Fz) (hfz:∀t x,fz.t=some (t,x)->e=t/\x=false) {l m:LA} {olds news:List Value} (hl:VRs g l olds) (hm:VRs g m news) (rest:Array Value) (n sz cap:Nat) (hn:n<=cap) (hlen:(l++m).length+rest.size=cap*sz):
  ∃g',Goes g O w g' (O++[.cells (l++m) fz]) (xH w.drew (.cells ((olds++news).toArray++rest) e))/\VR g' (.msl O.length 0 n sz) (.slice (some ⟨w.heap.size,0,none⟩) n cap):=by
 have hd:=Goes.drew h (w.drawn+1);have hw:WR g w.drew O:=hd.wr;have hr:=hl.append hm;have hgo:=wK hw e fz (l:=l++m) (c:=(olds++news).toArray++rest) (fun t x ht=>⟨(hfz t x ht).1,fun hx=>by rw[(hfz t x ht).2]at hx;cases hx⟩) (fun i x hx=>by
  obtain⟨v,a,b⟩:=hr.get hx
  grind) (by grind [hr.length])
 refine⟨_,hd.trans hgo,?_⟩;have:=VR.msl (g:=g.more w.heap.size ((olds++news).toArray++rest).size) O.length 0 n sz cap (by simp[Gh.more,h.n]) hn (by
  grind [hr.length,Gh.more,h.n])
 simpa[Gh.more,h.n]using this
def Yr(z:Array Value)(n:Nat):(Builtin.zeroCells z n).size=n*z.size:=by simp[Builtin.zeroCells]
def ahk (h:WR g w O) (t tx ty e:TypeId) (i:TypeInfo) (z:Value) (ht:P.underlying t=some (.slice e)) (hi:P.info? e=some i) (hz:i.zero=some z) (hzs:z.cells.size=i.size) (hby:i.bytes<=1048576) {tg:Option (TypeId×Bool)} (htg:∀t' x,tg=some (t',x)->e=t'/\x=false) {azs ax:AV} {s x:Value} (hs:VR g azs s) (hx:VR g ax x)
  {m:Nat} {cs:LA} (hsrc:ji O i.size ax=some (m,cs)) (hf:cs.all AV.flat=true)
  (hk:(∃e',P.underlying tx=some (.slice e'))/\(∀s,ax≠ .str s)\/P.underlying tx=some .string/\∃s,ax=.str s)
  {v:AV} {O':St} (hev:rO O i.size i.bytes tg azs m cs=some (v,O')):
  ∃v' w' g',(Builtin.append_ #[t,tx] ty #[s,x]).run P w=.ok v' w'/\VR g' v v'/\Goes g O w g' O' w':=by
 obtain⟨news,hnews,hS⟩:=aqb (P:=P) h hsrc hx hf tx hk;have hml:news.length=m*i.size:=hS.newsLen;unfold rO at hev;split at hev
 ·rename_i hm0;subst hm0;have hnil:news=[]:=au5 (by omega)
  subst hnil;cases hs<;>simp at hev<;>obtain⟨rfl,rfl⟩:=hev
  ·exact⟨_,_,g,run_append_nothing w t tx ty e i ht hi none 0 0 (a06 _) x hS,.nils,.refl h⟩
  ·rename_i a cap;exact⟨_,_,g,run_append_nothing w t tx ty e i ht hi (some a) 0 cap (a98 _) x hS,.emp a cap,.refl h⟩
  ·exact⟨_,_,g,run_append_nothing w t tx ty e i ht hi none 0 0 (a06 _) x hS,.slNil,.refl h⟩
  ·rename_i a cap;exact⟨_,_,g,run_append_nothing w t tx ty e i ht hi (some a) 0 cap (a98 _) x hS,.slEmp a cap,.refl h⟩
  ·rename_i n l b off cap hc hle;exact⟨_,_,g,run_append_nothing w t tx ty e i ht hi _ n cap hle x hS,.sl n l b off cap hc hle,.refl h⟩
  ·rename_i n l b off hc;exact⟨_,_,g,run_append_nothing w t tx ty e i ht hi _ n n (a06 _) x hS,.xsl n l b off hc,.refl h⟩
  ·rename_i o off n sz cap ho hn hb;exact⟨_,_,g,run_append_nothing w t tx ty e i ht hi _ n cap hn x hS,.msl o off n sz cap ho hn hb,.refl h⟩
 ·rename_i hm0;have hrow:∀(n cap0:Nat) (l:LA),l.length=n*i.size->(l++cs).length+(Builtin.zeroCells z.cells (grownCap w (n+m) cap0 e-(n+m))).size=grownCap w (n+m) cap0 e*i.size:=fun n cap0 l hl=>by
   rw[Yr,hzs,a04,hl,<-hnews.length,hml,<-aB4,<-aB4]
   grind [Wu]
  cases hs<;>first|(cases hev;done)|skip
  case nils=>
   simp only at hev;split at hev
   ·rename_i hb;simp at hev;obtain⟨rfl,rfl⟩:=hev;obtain⟨g',h1,h2⟩:=Ll h e ⟨false,tg⟩ htg (l:=[]) (m:=cs) (olds:=[]) .nil hnews (Builtin.zeroCells z.cells (grownCap w (0+m) 0 e-(0+m))) (0+m) i.size (grownCap w (0+m) 0 e) (Wu w (0+m) 0 e) (hrow 0 0 [] (by simp))
    refine⟨_,_,g',run_append_grow_src w t tx ty e i z ht hi hz none 0 0 [] (by rfl) x m news hS (by omega) (by omega) (ab5 (by omega) (by simpa using hb.1) hby),?_,?_⟩
    ·simpa using h2
    ·simp only[av2,au3]at h1⊢;exact h1
   ·cases hev
  case xsl n l b off hc=>
   simp only at hev;split at hev
   ·rename_i hb;simp at hev;obtain⟨rfl,rfl⟩:=hev;obtain⟨olds,ho1,ho2⟩:=hc.cells h;obtain⟨g',h1,h2⟩:=Ll h e ⟨false,tg⟩ htg ho1 hnews (Builtin.zeroCells z.cells (grownCap w (n+m) n e-(n+m))) (n+m) i.size (grownCap w (n+m) n e) (Wu w (n+m) n e) (hrow n n l hb.1);refine⟨_,_,g',run_append_grow_src w t tx ty e i z ht hi hz (some ⟨b,off,none⟩) n n olds ?_ x m news hS (by omega) (by omega) (ab5 (by omega) hb.2.1 hby),h2,h1⟩
    exact run_firstCells_some w.drew i.size n _ n n olds (by rw[ho1.length,hb.1]) (fun j u hu=>by rw[addr_add];exact ho2 j u hu)
   ·cases hev
  case msl o off n sz cap ho hn hb=>
   cases off with
   |succ off=>cases hev
   |zero=>
   simp only at hev;split at hev
   ·rename_i l fz hl;split at hev
    ·rename_i hc;obtain⟨rfl,hll,hb1,hb2⟩:=hc;simp at hev;obtain⟨rfl,rfl⟩:=hev;obtain⟨c,e0,fr,h1,h2,h3,h4,h5,h6⟩:=h.obj o _ hl;obtain⟨olds,ho1,ho2⟩:=(h.obj o _ hl).cells;by_cases hroom:n+m<=cap
     ·have hcap:(n+m)*i.size<=c.size:=by
       rw[h2];have:(n+m)*i.size<=cap*i.size:=aB5 _ hroom;omega
      have hnl:n*i.size+news.length=(n+m)*i.size:=by rw[hml,aB4]
      have hrun:=run_append_room_src w t tx ty e i ht hi (g.ob o) 0 n cap x m news hS hroom (fun j hj=>by
       rw[cell_of_heap h1,aw0 (by omega)];rfl) (fun j hj=>by
       have:=anI h5.1 c.size (0+n*i.size+j) (by omega)
       simpa[World.frozen?,h1]using this)
      obtain⟨r1,r2,r3,r4⟩:=wS (g.ob o) news (0+n*i.size) w;have hh:=wI (g.ob o) news (0+n*i.size) w c e0 fr h1;refine⟨_,_,_,hrun,?_,Zx h hl (.cells (l++cs) ⟨fz.b,if fz.t=tg then tg else none⟩) rfl _ r1 r2 r3 r4 (fun k hk=>qN _ news _ w k hk) (fun i' v' hv'=>?_) ?_⟩
      ·have:=VR.msl (g:=g.more (g.ob o) (g.bs o)) O.length 0 (n+m) i.size cap (by simp[Gh.more,h.n]) hroom (by simp[Gh.more,h.n];omega)
       simpa[Gh.more,h.n]using this
      ·have hi':=(h6 i' v' hv').2;rw[cell_of_heap hh,Gt _ _ _ (by omega),if_neg (by omega)]
       grind [cell_of_heap,WR]
      ·refine⟨JM c (0+n*i.size) news,e0,fr,?_,?_,?_,fun k x hx=>?_,⟨h5.1,fun t' x' ht'=>?_⟩,fun k v' hv'=>?_⟩
       ·simp only[Gh.more,if_true];exact hh
       ·rw[qR,h2];simp[Gh.more]
       ·rw[qR,a04,hll,<-hnews.length];omega
       ·rw[Gt _ _ _ (by omega)]
        rw[ax2]at hx;split at hx
        ·rename_i hk;rw[if_neg (by omega)]
         obtain⟨u,a,b⟩:=h4 k x hx;exact⟨u,a,b.mono (g.more_le _ _)⟩
        ·rename_i hk;have hlt:=(a00.1 hx).1;have hnl':=hnews.length;rw[if_pos (by omega)]
         obtain⟨u,a,b⟩:=hnews.get hx;exact⟨u,by rw[<-a];congr 1;omega,b.mono (g.more_le _ _)⟩
       ·dsimp only at ht';split at ht'
        ·rename_i he;exact⟨(h5.2 t' x' (he.trans ht')).1,fun hx=>by rw[(htg t' x' ht').2]at hx;cases hx⟩
        ·cases ht'
       ·simp only[Gh.more,if_true]at hv'
        grind
     ·have hd:=Zw h o;obtain⟨g',k1,k2⟩:=Ll hd.wr e ⟨fz.b,if fz.t=tg then tg else none⟩ (fun t' x' ht'=>by grind) ho1 hnews (Builtin.zeroCells z.cells (grownCap w (n+m) cap e-(n+m))) (n+m) i.size (grownCap w (n+m) cap e) (Wu w (n+m) cap e) (hrow n cap l hll)
      have hrun:=run_append_grow_src w t tx ty e i z ht hi hz (some ⟨g.ob o,0,none⟩) n cap olds (run_firstCells_some w.drew i.size n _ n cap olds (by rw[ho1.length,hll]) (fun j u hu=>by rw[addr_add];exact ho2 j u hu)) x m news hS (by omega) (by omega) (ab5 (by omega) hb1 hby)
      exact⟨_,_,g',hrun,by simpa using k2,hd.trans k1⟩
    ·split at hev
     ·rename_i hc;obtain⟨rfl,hfz,hll,hb1,hb2⟩:=hc;simp at hev;obtain⟨rfl,rfl⟩:=hev;obtain⟨c,e0,fr,h1,h2,h3,h4,h5,h6⟩:=h.obj o _ hl;obtain⟨olds0,ho1',ho2'⟩:=(h.obj o _ hl).cells;have hlt:(l.take (n*i.size)).length=n*i.size:=by rw[ay6];omega
      have ho1:=ho1'.take (n*i.size);have ho2:∀(j:Nat) (u:Value),(olds0.take (n*i.size))[j]?=some u->w.cell? ⟨g.ob o,0+j,none⟩=some u:=fun j u hu=>by
       grind
      have hnof:∀i' v',g.im (g.ob o) i'=some v'->False:=fun i' v' hv'=>by
       grind
      by_cases hroom:n+m<=cap
      ·have hcap:(n+m)*i.size<=c.size:=by
        rw[h2];have:(n+m)*i.size<=cap*i.size:=aB5 _ hroom;omega
       have hnl:n*i.size+news.length=(n+m)*i.size:=by rw[hml,aB4]
       have hrun:=run_append_room_src w t tx ty e i ht hi (g.ob o) 0 n cap x m news hS hroom (fun j hj=>by
        rw[cell_of_heap h1,aw0 (by omega)];rfl) (fun j hj=>by
        have:=anI h5.1 c.size (0+n*i.size+j) (by omega)
        simpa[World.frozen?,h1]using this)
       obtain⟨r1,r2,r3,r4⟩:=wS (g.ob o) news (0+n*i.size) w;have hh:=wI (g.ob o) news (0+n*i.size) w c e0 fr h1;refine⟨_,_,_,hrun,?_,Zx h hl (.cells (l.take (n*i.size)++cs) ⟨false,if fz.t=tg then tg else none⟩) rfl _ r1 r2 r3 r4 (fun k hk=>qN _ news _ w k hk) (fun i' v' hv'=>(hnof i' v' hv').elim) ?_⟩
       ·have:=VR.msl (g:=g.more (g.ob o) (g.bs o)) O.length 0 (n+m) i.size cap (by simp[Gh.more,h.n]) hroom (by simp[Gh.more,h.n];omega)
        simpa[Gh.more,h.n]using this
       ·refine⟨JM c (0+n*i.size) news,e0,fr,?_,?_,?_,fun k x hx=>?_,⟨h5.1,fun t' x' ht'=>?_⟩,fun k v' hv'=>?_⟩
        ·simp only[Gh.more,if_true];exact hh
        ·rw[qR,h2];simp[Gh.more]
        ·rw[qR,a04,hlt,<-hnews.length];omega
        ·rw[Gt _ _ _ (by omega)]
         rw[ax2,hlt]at hx;split at hx
         ·rename_i hk;rw[if_neg (by omega)]
          rw[au7,if_pos hk]at hx;obtain⟨u,a,b⟩:=h4 k x hx;exact⟨u,a,b.mono (g.more_le _ _)⟩
         ·rename_i hk;have hlt2:=(a00.1 hx).1;have hnl':=hnews.length;rw[if_pos (by omega)]
          obtain⟨u,a,b⟩:=hnews.get hx;exact⟨u,by rw[<-a];congr 1;omega,b.mono (g.more_le _ _)⟩
        ·dsimp only at ht';split at ht'
         ·rename_i he;exact⟨(h5.2 t' x' (he.trans ht')).1,fun hx=>by rw[(htg t' x' ht').2]at hx;cases hx⟩
         ·cases ht'
        ·simp only[Gh.more,if_true]at hv';exact(hnof k v' hv').elim
      ·have hd:=Zw h o;obtain⟨g',k1,k2⟩:=Ll hd.wr e ⟨false,if fz.t=tg then tg else none⟩ (fun t' x' ht'=>by grind) ho1 hnews (Builtin.zeroCells z.cells (grownCap w (n+m) cap e-(n+m))) (n+m) i.size (grownCap w (n+m) cap e) (Wu w (n+m) cap e) (hrow n cap _ hlt)
       have hrun:=run_append_grow_src w t tx ty e i z ht hi hz (some ⟨g.ob o,0,none⟩) n cap (olds0.take (n*i.size)) (run_firstCells_some w.drew i.size n _ n cap _ (by rw[ho1.length,hlt]) (fun j u hu=>by rw[addr_add];exact ho2 j u hu)) x m news hS (by omega) (by omega) (ab5 (by omega) hb1 hby)
       exact⟨_,_,g',hrun,by simpa using k2,hd.trans k1⟩
     ·cases hev
   ·cases hev
end
section
variable{P:Program}{g:Gh}{w:World}{O:St}
def Kr (h:WR g w O) {o:Nat} {l:LA} {tg:Option (TypeId×Bool)} (hl:O[o]?=some (.cells l ⟨false,tg⟩)) {off:Nat} {cs:LA} {vs:List Value} (hc:VRs g cs vs) (hb:off+cs.length<=l.length) (hf:cs.all AV.flat=true):
  ∃w',(storeCells ⟨g.ob o,off,none⟩ vs).run P w=.ok () w'/\Goes g O w g (O.set o (.cells (splice l off cs) ⟨false,tg⟩)) w':=by
 obtain⟨c,e0,fr,h1,h2,h3,h4,h5,h6⟩:=h.obj o _ hl;have hvl:=hc.length;have hrun:=run_storeCells_cells (P:=P) (g.ob o) off vs 0 w (fun j hj=>by rw[cell_of_heap h1,aw0 (by omega)];rfl) (fun j hj=>by
  have:=anI h5.1 c.size (off+0+j) (by omega)
  simpa[World.frozen?,h1]using this) (hc.one hf)
 obtain⟨r1,r2,r3,r4⟩:=wS (g.ob o) vs (off+0) w;have hh:=wI (g.ob o) vs (off+0) w c e0 fr h1;refine⟨_,hrun,W9 h hl rfl _ rfl _ r1 r2 r3 r4 (fun k hk=>qN _ vs _ w k hk) (fun i v hv=>absurd (h6 i v hv).1 (by simp)) ?_⟩
 refine⟨JM c (off+0) vs,e0,fr,hh,by rw[qR];exact h2,by rw[qR,FX _ _ _ hb];exact h3,?_,⟨h5.1,fun t x ht=>⟨(h5.2 t x ht).1,fun hx=>by rw[qR,FX _ _ _ hb];exact(h5.2 t x ht).2 hx⟩⟩,fun i v hv=>absurd (h6 i v hv).1 (by simp)⟩
 simpa using X4 h4 hc hb h3
def aeu (h:WR g w O) (t tx ty e:TypeId) (rest:List TypeId) (i:TypeInfo) (ht:P.underlying t=some (.slice e)) (hi:P.info? e=some i) {o off n m:Nat} {l cs:LA} {tg:Option (TypeId×Bool)} {azs:AV} {s d:Value} (hs:VR g azs s)
  (hd:VR g (.msl o off n i.size) d) (hl:O[o]?=some (.cells l ⟨false,tg⟩)) (hsrc:ji O i.size azs=some (m,cs)) (hb:off+min m n*i.size<=l.length) (hf:cs.all AV.flat=true):
  ∃w',(Builtin.copy_ ⟨t::rest⟩ ty #[d,s]).run P w=.ok (goInt (min m n:Nat)) w'/\Goes g O w g (O.set o (.cells (splice l off (cs.take (min m n*i.size))) ⟨false,tg⟩)) w':=by
 have hlen:(Builtin.lenOf s).run P w=.ok m w/\∀k,k<=m->∃vs,VRs g (cs.take (k*i.size)) vs/\(cs.take (k*i.size)).length=k*i.size/\(Builtin.firstCells i.size k s).run P w=.ok ⟨vs⟩ w:=by
  by_cases hstr:∃b,azs=.str b
  ·obtain⟨b,rfl⟩:=hstr;cases hs;simp only[ji]at hsrc;split at hsrc
   ·rename_i h1;simp at hsrc;obtain⟨rfl,rfl⟩:=hsrc;refine⟨rfl,fun k hk=>⟨(byteCells ⟨⟨b⟩⟩).take (k*i.size),(UE b).take _,by rw[h1];simp[ofBytes];omega,?_⟩⟩
    rw[h1];simp[Builtin.firstCells,byteCells]
   ·cases hsrc
  ·have hsrc':gY O i.size azs=some (m,cs):=by
    cases azs<;>first|exact hsrc|(exact absurd ⟨_,rfl⟩ hstr)
   obtain⟨hlen,hc⟩:=OY h hsrc' hs;rcases hc with⟨rfl,cap,rfl⟩|⟨rfl,a',cap,rfl⟩|⟨b,off',cap,rfl,hc⟩
   ·have:cs=[]:=au5 (by omega)
    subst this;refine⟨rfl,fun k hk=>?_⟩;obtain rfl:k=0:=by omega
    exact⟨[],by simpa using .nil,by simp,rfl⟩
   ·have:cs=[]:=au5 (by omega)
    subst this;refine⟨rfl,fun k hk=>?_⟩;obtain rfl:k=0:=by omega
    exact⟨[],by simpa using .nil,by simp,by simp[Builtin.firstCells,loadCells,loadCellsFrom]⟩
   ·refine⟨rfl,fun k hk=>?_⟩;obtain⟨vs,a,b'⟩:=(hc.take (k*i.size)).run P;have hkm:k*i.size<=cs.length:=by rw[hlen];exact aB5 _ hk
    have e:(cs.take (k*i.size)).length=k*i.size:=by simp;omega
    grind [Builtin.firstCells]
 obtain⟨h1,h2⟩:=hlen;obtain⟨vs,hv1,hv2,hv3⟩:=h2 (min m n) (Nat.min_le_left _ _);cases hd with
 |msl _ _ _ _ cap ho hn hb'=>
 have hall:(cs.take (min m n*i.size)).all AV.flat=true:=by
  grind
 obtain⟨w',hw1,hw2⟩:=Kr (P:=P) h hl hv1 (by rw[hv2];exact hb) hall
 refine⟨w',?_,hw2⟩;have hmin:Nat.min m n=min m n:=rfl;simp[Builtin.copy_,run_underlying ht,run_sizeOf hi,h1,hmin,hv3,hw1]
def aeZ (h:WR g w O) (t e:TypeId) (i:TypeInfo) (z:Value) (az:LA) (ht:P.underlying t=some (.slice e)) (hi:P.info? e=some i) (hz:i.zero=some z) (hza:VRs g az z.cells.toList) (hzs:z.cells.size=i.size)
  (kl kc:IntKind) (l c:Int) (h0:0<=l) (hlc:l<=c) (hbytes:(i.bytes:Int)*c<=140737488355328) (h63:c<=9223372036854775807):
  ∃v' w' g',(Instr.makeSlice t (.int kl l) (.int kc c)).run P w=.ok v' w'/\VR g' (.msl O.length 0 l.toNat i.size) v'/\Goes g O w g' (O++[.cells (rep az l.toNat) FZ]) w':=by
 have hr:=run_make w t e i z ht hi hz kl kc l c h0 hlc (by omega) h63
 have hsz:(madeCells z.cells (c.toNat*i.size)).size=c.toNat*i.size:=size_madeCells _ _;have hle:l.toNat<=c.toNat:=by omega
 have hmul:l.toNat*i.size<=c.toNat*i.size:=aB5 _ hle;have hrl:=abA hza l.toNat
 have hrlen:(rep az l.toNat).length=l.toNat*i.size:=by
  have:=hrl.length;rw[<-this];simp[<-hzs]
 have hgo:=wK h e FZ (l:=rep az l.toNat) (c:=madeCells z.cells (c.toNat*i.size)) (fun _ _ ht=>nomatch ht) (fun k x hx=>by
  obtain⟨u,a,b⟩:=hrl.get hx;refine⟨u,?_,b⟩;have hk:=(a00.1 hx).1;rw[hrlen]at hk;have hpos:0<z.cells.size:=by
   grind
  have e1:=aa4 z.cells l.toNat hpos;have e2:(madeCells z.cells (c.toNat*i.size))[k]?=((Array.range (l.toNat*z.cells.size)).map (z.cells[· %z.cells.size]!)).toList[k]?:=by
   simp[madeCells,hzs]
   grind
  rw[e2,e1];exact a) (by rw[hrlen,hsz];exact hmul)
 refine⟨_,_,_,hr,?_,hgo⟩;have:=VR.msl (g:=g.more w.heap.size (madeCells z.cells (c.toNat*i.size)).size) O.length 0 l.toNat i.size c.toNat (by simp[Gh.more,h.n]) hle (by simp only[Gh.more,h.n,if_true];omega)
 simpa[Gh.more,h.n]using this
def ahn (h:WR g w O) (src dst e:TypeId) (hs:P.underlying src=some (.slice e)) (he:P.underlying e=some (.int .u8)) (hd:P.underlying dst=some .string) {a:AV} {v:Value} (hv:VR g a v) {n:Nat} {l:LA} (hl:gY O 1 a=some (n,l)) {s:LU} (hb:bytesOf l=some s):
  (convert src dst v).run P w=.ok (.string ⟨⟨s⟩⟩) w:=by
 obtain⟨hlen,hc⟩:=OY h hl hv;have key:∀(l:LA) (s:LU) (vs:List Value),bytesOf l=some s->VRs g l vs->∃ns:List Int,vs=ns.map (Value.int .u8)/\s=ns.map fun n=>UInt8.ofNat n.toNat:=by
  intro l
  induction l with
  |nil=>intro s vs hb hv;cases hv;simp[bytesOf]at hb;subst hb;exact⟨[],rfl,rfl⟩
  |cons a l ih=>
   intro s vs hb hv;simp only[bytesOf]at hb;split at hb
   ·rename_i b bs h1 h2;simp at hb;subst hb;cases hv with
    |cons _ v' _ vs' x y=>
     obtain⟨ns,rfl,rfl⟩:=ih _ _ h2 y;cases x<;>simp[aaP]at h1;rename_i k m;cases k<;>simp at h1;subst h1;exact⟨m::ns,rfl,rfl⟩
   ·cases hb
 rcases hc with⟨rfl,cap,rfl⟩|⟨rfl,a',cap,rfl⟩|⟨b,off,cap,rfl,vs,h1,h2⟩
 ·have:l=[]:=au5 (by omega)
  subst this;simp[bytesOf]at hb;subst hb;rw[run_convert_bytes_string w src dst e _ _ _ hs he hd];rfl
 ·have:l=[]:=au5 (by omega)
  subst this;simp[bytesOf]at hb;subst hb;rw[run_convert_bytes_string w src dst e _ _ _ hs he hd];exact run_bytesToString w a' 0 cap [] (by simp[loadCells,loadCellsFrom])
 ·obtain⟨ns,rfl,rfl⟩:=key l s vs hb h1;have hn:ns.length=n:=by have:=h1.length;simp at this;omega
  have:=run_convert_bytes_arg (P:=P) w src e hs he b off n cap ns hn (fun i hi=>by
   grind) dst hd
  rw[this];simp[strOfNums]
end
section
variable{P:Program}{g:Gh}{w:World}{O:St}
def Ox (s:LU):∀(es:List (AV×AV)) (l:List MapEntry) (i:Nat) {r:Option (Nat×AV)},nO (.str s) es i=some r->l.length=es.length->
  (∀(j:Nat) (k v:AV),es[j]?=some (k,v)->∃e:MapEntry,l[j]?=some e/\VR g k e.key/\VR g v e.val)->
  match r with
  |none=>Instr.findNow .string (.string ⟨⟨s⟩⟩) l i=some none
  |some (j,v)=>∃(j':Nat) (e:MapEntry),j=i+j'/\es[j']?=some (.str s,v)/\l[j']?=some e/\Instr.findNow .string (.string ⟨⟨s⟩⟩) l i=some (some (j,e.val))/\VR g v e.val
 |[],l,i,r,h,hl,_=>by
  simp[nO]at h;subst h;have:l=[]:=au5 (by simpa using hl)
  subst this;rfl
 |(k,v)::es,[],i,r,h,hl,_=>by simp at hl
 |(k,v)::es,e::l,i,r,h,hl,hat=>by
  obtain⟨e',he,hk,hv⟩:=hat 0 k v rfl;simp at he;subst he;simp only[nO]at h;cases k<;>simp only[ZI]at h<;>first|(cases h;done)|skip
  rename_i s';have hkey:e.key=.string ⟨⟨s'⟩⟩:=by grind [VR]
  have hsame:Instr.sameNow .string (.string ⟨⟨s⟩⟩) e.key=some (jU s s'):=by
   rw[hkey];simp only[Instr.sameNow,rD];rw[beq_toListBytes,toList_mk,toList_mk]
  cases hb:jU s s' with
  |true=>
   rw[hb]at h hsame;simp at h;subst h;refine⟨0,e,rfl,?_,rfl,?_,hv⟩
   ·grind [rD]
   ·simp only[Instr.findNow,hsame]
  |false=>
   rw[hb]at h hsame;simp only at h;have ih:=Ox s es l (i+1) h (by simpa using hl) (fun j k v hkv=>by simpa using hat (j+1) k v (by simpa using hkv))
   cases r with
   |none=>simp only[Instr.findNow,hsame];exact ih
   |some p=>
    obtain⟨j,v'⟩:=p;obtain⟨j',e',h1,h2,h3,h4,h5⟩:=ih;exact⟨j'+1,e',by omega,by simpa using h2,by simpa using h3,by simp only[Instr.findNow,hsame];exact h4,h5⟩
def ER.list{es:List (AV×AV)}{ents:Array MapEntry}{clock:Nat}(h:ER g es ents clock):ents.toList.length=es.length/\∀(j:Nat) (k v:AV),es[j]?=some (k,v)->∃e:MapEntry,ents.toList[j]?=some e/\VR g k e.key/\VR g v e.val:=
 ⟨by simpa using h.size,fun j k v hkv=>by grind [ER]⟩
def run_checkKey{kt:TypeId}(hk:P.underlying kt=some .string)(b:Bool)(v:Value)(w:World):(Instr.checkKey b 10000 kt v).run P w=.ok () w:=by
 rw[show(10000:Nat)=9999+1 from rfl,Instr.checkKey,Sem.run_bind,run_underlying hk];cases v<;>rfl
def zf{kt:TypeId}(hk:P.underlying kt=some .string){k:Value}{l:List MapEntry}{r:Option (Nat×Value)}(h:Instr.findNow .string k l 0=some r)(w:World):(Instr.findKey kt k l).run P w=.ok r w:=by
 simp[Instr.findKey,run_underlying hk,h]
def ade(h:WR g w O){r:Nat}{es es':List (AV×AV)}(hr:O[r]?=some (.map es)){ents:Array MapEntry}{clock:Nat}(her:ER g es' ents clock):Goes g O w g (O.set r (.map es')) {w with heap:=w.heap.setIfInBounds (g.ob r) (.map ents clock)}:=by
 obtain⟨ents0,clock0,h1,h2⟩:=h.obj r _ hr;have hlt:=lt_of_heap h1;refine W9 h hr rfl _ rfl _ rfl rfl rfl (by simp) (fun k hk=>by grind) (fun i v hv=>?_) ⟨ents,clock,by simp[hlt],her⟩
 exfalso;have:=h.im _ _ _ hv;simp[World.cell?,h1]at this
def abp (h:WR g w O) (t kt et:TypeId) (i:TypeInfo) (z:Value) (ht:P.underlying t=some (.map kt et)) (hk:P.underlying kt=some .string) (hi:P.info? et=some i) (hz:i.zero=some z) {az:AV} (haz:VR g az z)
  {am ak:AV} {m k:Value} (hm:VR g am m) (hkv:VR g ak k) (ok:Bool) {es:List (AV×AV)} (hes:mapOf O am=some es)
  {v:AV} (hv:(match nO ak es 0 with|some (some (_,v))=>some (if ok then AV.tup [v,.bool true]else v)|some none=>some (if ok then .tup [az,.bool false]else az)|none=>none)=some v):
  ∃v',(Instr.lookup t m k ok).run P w=.ok v' w/\VR g v v':=by
 have hfind:∀(ents:Array MapEntry),ents.toList.length=es.length->(∀(j:Nat) (k v:AV),es[j]?=some (k,v)->∃e:MapEntry,ents.toList[j]?=some e/\VR g k e.key/\VR g v e.val)->
   (∃v',Instr.findNow .string k ents.toList 0=some none/\v'=(if ok then .tuple #[z,.bool false]else z)/\VR g v v')\/(∃j u v',Instr.findNow .string k ents.toList 0=some (some (j,u))/\v'=(if ok then .tuple #[u,.bool true]else u)/\VR g v v'):=by
  intro ents h2 h3;cases hf:nO ak es 0 with
  |none=>rw[hf]at hv;cases hv
  |some r=>
   rw[hf]at hv;have hstr:∃s,ak=.str s\/es=[]:=by
    cases es with
    |nil=>exact⟨[],.inr rfl⟩
    |cons p es=>
     cases ak<;>simp[nO,ZI]at hf;exact⟨_,.inl rfl⟩
   have hnow:match r with|none=>Instr.findNow .string k ents.toList 0=some none|some (j,v)=>∃v',Instr.findNow .string k ents.toList 0=some (some (j,v'))/\VR g v v':=by
    obtain⟨s,rfl|rfl⟩:=hstr
    ·have:=Ox (g:=g) s es ents.toList 0 hf h2 h3
     grind [VR]
    ·have:ents.toList=[]:=au5 (by simpa using h2)
     simp[nO]at hf;subst hf;rw[this];rfl
   cases r with
   |none=>
    simp at hv;subst hv;refine .inl ⟨_,hnow,rfl,?_⟩;cases ok
    ·exact haz
    ·exact .tup _ _ (.cons _ _ _ _ haz (.cons _ _ _ _ (.bool _) .nil))
   |some p=>
    obtain⟨j,v0⟩:=p;obtain⟨v',hn,hr⟩:=hnow;simp at hv;subst hv;refine .inr ⟨j,v',_,hn,rfl,?_⟩;cases ok
    ·exact hr
    ·exact .tup _ _ (.cons _ _ _ _ hr (.cons _ _ _ _ (.bool _) .nil))
 cases hm<;>simp only[mapOf]at hes<;>first|(cases hes;done)|skip
 ·rename_i m hmn;split at hes
  ·rename_i es' hr;cases hes;obtain⟨ents,clock,h1,h2⟩:=h.obj m _ hr;have hget:(getObj (g.ob m)).run P w=.ok (.map ents clock) w:=by simp[getObj,Sem.run,h1]
   rcases hfind ents h2.list.1 h2.list.2 with⟨v',hn,rfl,hvr⟩|⟨j,u,v',hn,rfl,hvr⟩
   ·exact⟨_,by simp only[Instr.lookup,Sem.run_bind,run_underlying ht,Result.andThen_ok,hget,Sem.run_pure,run_checkKey hk,zf hk hn,Ej hi hz],hvr⟩
   ·exact⟨_,by simp only[Instr.lookup,Sem.run_bind,run_underlying ht,Result.andThen_ok,hget,Sem.run_pure,run_checkKey hk,zf hk hn],hvr⟩
  ·cases hes
 ·cases hes;rcases hfind #[] rfl (by simp)with⟨v',hn,rfl,hvr⟩|⟨j,u,v',hn,rfl,hvr⟩
  ·exact⟨_,by simp only[Instr.lookup,Sem.run_bind,run_underlying ht,Result.andThen_ok,Sem.run_pure,run_checkKey hk,zf hk hn,Ej hi hz],hvr⟩
  ·simp[Instr.findNow]at hn
def RN (h:WR g w O) (t kt et:TypeId) (ht:P.underlying t=some (.map kt et)) (hk:P.underlying kt=some .string) {r:Nat} {es:List (AV×AV)} (hr:O[r]?=some (.map es)) {s:LU} {av:AV} {v:Value} (hv:VR g av v)
  {es':List (AV×AV)} (he:(match nO (.str s) es 0 with|some (some (i,_))=>some (es.set i (AV.str s,av))|some none=>some (es++[(AV.str s,av)])|none=>none)=some es'):
  ∃w',(Instr.mapUpdate t (.map (some (g.ob r))) (.string ⟨⟨s⟩⟩) v).run P w=.ok () w'/\Goes g O w g (O.set r (.map es')) w':=by
 obtain⟨ents,clock,h1,h2⟩:=h.obj r _ hr;have hget:(getObj (g.ob r)).run P w=.ok (.map ents clock) w:=by simp[getObj,Sem.run,h1]
 have hset:∀o,(setObj (g.ob r) o).run P w=.ok () {w with heap:=w.heap.setIfInBounds (g.ob r) o}:=fun o=>by simp[setObj,Sem.run,h1]
 cases hf:nO (.str s) es 0 with
 |none=>rw[hf]at he;cases he
 |some q=>
  rw[hf]at he;have hfs:=Ox (g:=g) s es ents.toList 0 hf h2.list.1 h2.list.2;cases q with
  |none=>
   simp at he;subst he;refine⟨_,?_,ade h hr (ents:=ents.push {key:=.string ⟨⟨s⟩⟩,val:=v,born:=clock}) (clock:=clock+1) ⟨by simp[h2.size],by simp[h2.clk],fun i k u hku=>?_⟩⟩
   ·simp only[Instr.mapUpdate,Sem.run_bind,run_underlying ht,Result.andThen_ok,hget,run_checkKey hk,zf hk hfs,hset]
   ·rw[ax2]at hku;split at hku
    ·grind [ER]
    ·rename_i hge;have hi:i-es.length=0:=by
      grind
     rw[hi]at hku;simp at hku;obtain⟨rfl,rfl⟩:=hku;have hi':i=es.length:=by omega
     exact⟨_,by rw[Array.getElem?_push,if_pos (by rw[h2.size];exact hi')],.str s,hv,by rw[h2.clk];exact hi'.symm⟩
  |some p=>
   obtain⟨j,v0⟩:=p;obtain⟨j',e,hj,hes,hl,hn,_⟩:=hfs;simp at hj;subst hj;simp at he;subst he;have hge:ents[j]?=some e:=by simpa using hl
   obtain⟨e2,a2,b2,c2,d2⟩:=h2.at_ j _ _ hes;rw[hge]at a2;cases a2;have hkeq:e.key=.string ⟨⟨s⟩⟩:=by grind [VR]
   refine⟨_,?_,ade h hr (ents:=ents.modify j fun e=>{e with key:=.string ⟨⟨s⟩⟩,val:=v}) (clock:=clock) ⟨by simp[h2.size],by simp[h2.clk],fun i k u hku=>?_⟩⟩
   ·have hstay:(Instr.keyThatStays (((ents[j]?).map (·.key)).getD (.string ⟨⟨s⟩⟩)) (.string ⟨⟨s⟩⟩)).run P w=.ok (.string ⟨⟨s⟩⟩) w:=by
     rw[hge];simp only[au8,az2,hkeq];unfold Instr.keyThatStays;rw[if_pos (by simp[Instr.sameBits,beq_toListBytes])]
     rfl
    simp only[Instr.mapUpdate,Sem.run_bind,run_underlying ht,Result.andThen_ok,hget,run_checkKey hk,zf hk hn,hstay,hset]
   grind [ER]
end
section
variable{P:Program}{g:Gh}{w:World}{O:St}
def Jb{a:AV}{v:Value}(h:VR g a v){n:Nat}(hn:oI a=some n):∃k m,v=.int k m/\0<=m/\m.toNat=n/\a=.int k m:=by
 cases h<;>simp only[oI]at hn<;>first|(cases hn;done)|skip
 grind
def yK{a:AV}{v:Value}(h:VR g a v){n:Nat}(hn:oI a=some n){y:Nat}(hy:n<=y)(code:BoundsCode)(w:World):(Instr.sliceBound v y code).run P w=.ok n w:=by
 obtain⟨k,m,rfl,h0,rfl,_⟩:=Jb h hn;simp[Instr.sliceBound,asIntOf,h0];omega
inductive Yt(g:Gh):Option AV->Option Value->Prop
 |none:Yt g none none
 |some (a:AV) (v:Value):VR g a v->Yt g (some a) (some v)
def SE {alo ahi amx:Option AV} {lo hi mx:Option Value} (hlo:Yt g alo lo) (hhi:Yt g ahi hi) (hmx:Yt g amx mx) (isS:Bool) {len cap l h m:Nat} (hl:gQ 0 alo=some l) (hh:gQ len ahi=some h) (hm:match amx with|none=>m=cap|some a=>oI a=some m)
  (h1:l<=h) (h2:h<=m) (h3:m<=cap) (h4:amx.isSome=true->ahi.isSome=true) (w:World):(Instr.sliceBounds isS len cap lo hi mx).run P w=.ok (l,h,m) w:=by
 cases hmx with
 |none=>
  simp only at hm;subst hm;cases hhi with
  |none=>
   simp[gQ]at hh;subst hh;cases hlo with
   |none=>simp[gQ]at hl;subst hl;simp[Instr.sliceBounds]
   |some a v hv=>simp only[gQ]at hl;simp[Instr.sliceBounds,yK hv hl h1]
  |some a v hv=>
   simp only[gQ]at hh;cases hlo with
   |none=>simp[gQ]at hl;subst hl;simp[Instr.sliceBounds,yK hv hh h2]
   |some a' v' hv'=>simp only[gQ]at hl;simp[Instr.sliceBounds,yK hv hh h2,yK hv' hl h1]
 |some a v hv=>
  simp only at hm;cases hhi with
  |none=>simp at h4
  |some a' v' hv'=>
   simp only[gQ]at hh;cases hlo with
   |none=>simp[gQ]at hl;subst hl;simp[Instr.sliceBounds,yK hv hm h3,yK hv' hh h2]
   |some a'' v'' hv''=>simp only[gQ]at hl;simp[Instr.sliceBounds,yK hv hm h3,yK hv' hh h2,yK hv'' hl h1]
end
section
variable{C:Ctx}{g:Gh}{w:World}{O:St}{e:Env}{ρ:Operand->Value}
def yL(hρ:∀x a,cA x=some a->VR g (av C e a) (ρ x)){x:Option Operand}{a:Option XA}(h:P6 x=some a):Yt g (a.map (av C e)) (x.map ρ):=by
 cases x with
 |none=>simp[P6]at h;subst h;exact .none
 |some x=>
  grind [P6,a97,Yt]
def bH(hw:WR g w O){o:Oper}{v:AV}{v':Value}(hr:(execOp ρ o).run C.P w=.ok (.value v') w)(hv:VR g v v'):DJ C.P o ρ g O w (.val v O):=
 ⟨w,g,.refl hw,.inl ⟨v',hr,hv⟩⟩
def ahs(hw:WR g w O)(hρ:∀x a,cA x=some a->VR g (av C e a) (ρ x)){dst:Option Tmp}{type:TypeId}{pos:String}{after:Array Edge}{guard:Option (Nat×Bool)}{src d:TypeId}{x:Operand}{xi:XI}(hc:cI C.P ⟨dst,.convert src d x,type,pos,after,guard⟩=some xi){out:Out}(hev:evI C e O xi=some out):DJ C.P ⟨dst,.convert src d x,type,pos,after,guard⟩ ρ g O w out:=by
 simp only[cI,a96,a03,au4]at hc;obtain⟨us,hus,ud,hud,hc⟩:=hc;split at hc
 ·rename_i k0 k;simp only[a03,a05]at hc;obtain⟨a,ha,rfl⟩:=hc;have hx:=hρ x a ha;simp only[evI,aB]at hev;generalize hav:av C e a=aa at hx hev;generalize hpx:ρ x=px at hx;cases hx<;>first|(cases hev;done)|skip
  cases hev;exact bH hw (by simp[execOp,convert,run_underlying hus,run_underlying hud,hpx,Conv.intToInt]) (.int _ _)
 ·simp only[a03,a05]at hc;obtain⟨a,ha,rfl⟩:=hc;have hx:=hρ x a ha;simp only[evI,aB]at hev;generalize hav:av C e a=aa at hx hev;generalize hpx:ρ x=px at hx;cases hx<;>first|(cases hev;done)|skip
  cases hev;rename_i n;exact bH hw (by simp[execOp,convert,run_underlying hus,run_underlying hud,hpx,Conv.intToString]) (VR.str (g:=g) (Utf8.encode n).data.toList)
 ·rename_i el;simp only[a03]at hc;obtain⟨ue,hue,hc⟩:=hc;split at hc
  ·simp only[a03,a05]at hc;obtain⟨a,ha,rfl⟩:=hc;have hx:=hρ x a ha;simp only[evI,aB]at hev;split at hev
   ·rename_i n l hl;simp only[a97]at hev;obtain⟨s,hs,rfl⟩:=hev;refine bH hw (v':=.string ⟨⟨s⟩⟩) ?_ (.str s);simp[execOp,ahn hw src d el hus hue hud hx hl hs]
   ·cases hev
  ·cases hc
 ·cases hc
def aco(hw:WR g w O)(hρ:∀x a,cA x=some a->VR g (av C e a) (ρ x)){dst:Option Tmp}{type:TypeId}{pos:String}{after:Array Edge}{guard:Option (Nat×Bool)}{t:TypeId}{x y:Operand}{xi:XI}(hc:cI C.P ⟨dst,.makeSlice t x y,type,pos,after,guard⟩=some xi){out:Out}(hev:evI C e O xi=some out):DJ C.P ⟨dst,.makeSlice t x y,type,pos,after,guard⟩ ρ g O w out:=by
 simp only[cI,a96,a03,au4]at hc;obtain⟨u,hu,hc⟩:=hc;cases u<;>first|(cases hc;done)|skip
 rename_i el;simp only[a03]at hc;obtain⟨i,hi,z,hz,hc⟩:=hc;split at hc
 ·rename_i hzs;simp only[a03,a05]at hc;obtain⟨a,ha,b,hb,rfl⟩:=hc;obtain⟨i',v,h1,h2,h3⟩:=Et hz;rw[hi]at h1;cases h1;have hv:=o7 g v z h3;have hx:=hρ x a ha;have hy:=hρ y b hb;simp only[evI,aB]at hev;generalize hav:av C e a=aa at hx hev;generalize hpx:ρ x=px at hx;generalize hbv:av C e b=bb at hy hev;generalize hpy:ρ y=py at hy;cases hx<;>first|(cases hev;done)|skip
  rename_i k1 n1;cases hy<;>first|(cases hev;done)|skip
  rename_i k2 n2;simp only at hev;split at hev
  ·rename_i hh;cases hev;obtain⟨v',w',g',hr,hvr,hgo⟩:=aeZ (P:=C.P) hw t el i v z.cells hu hi h2 hv.cells (by rw[hv.cells_size];exact hzs) k1 k2 n1 n2 hh.1 hh.2.1 hh.2.2.2 hh.2.2.1
   exact⟨w',g',hgo,.inl ⟨v',by simp[execOp,hpx,hpy,hr],hvr⟩⟩
  ·cases hev
 ·cases hc
def acn(hw:WR g w O)(hρ:∀x a,cA x=some a->VR g (av C e a) (ρ x)){dst:Option Tmp}{type:TypeId}{pos:String}{after:Array Edge}{guard:Option (Nat×Bool)}{t:TypeId}{x y:Operand}{xi:XI}(hc:cI C.P ⟨dst,.indexAddr t x y,type,pos,after,guard⟩=some xi){out:Out}(hev:evI C e O xi=some out):DJ C.P ⟨dst,.indexAddr t x y,type,pos,after,guard⟩ ρ g O w out:=by
 simp only[cI,a96,a03,au4]at hc;obtain⟨u,hu,hc⟩:=hc;cases u<;>first|(cases hc;done)|skip
 ·rename_i el;simp only[a03,a05]at hc;obtain⟨i,hi,a,ha,b,hb,rfl⟩:=hc;have hx:=hρ x a ha;have hy:=hρ y b hb;simp only[evI,aB]at hev;cases hn:oI (av C e b)with
  |none=>rw[hn]at hev;simp at hev
  |some n=>
   rw[hn]at hev;obtain⟨k,m,hpy,h0,rfl,_⟩:=Jb hy hn;generalize hav:av C e a=aa at hx hev;generalize hpx:ρ x=px at hx;have key:∀(len b off cap:Nat),px=.slice (some ⟨b,off,none⟩) len cap->m.toNat<len->(execOp ρ ⟨dst,.indexAddr t x y,type,pos,after,guard⟩).run C.P w=.ok (.value (.pointer (some ⟨b,off+m.toNat*i.size,none⟩))) w:=fun len b off cap hp hlt=>by
    have h9:m<len:=by omega
    subst hp;simp[execOp,Instr.indexAt,run_underlying hu,hpx,hpy,asIntOf,run_sizeOf hi,h0,h9,addr_add]
   cases hx<;>first|(cases hev;done)|skip
   ·rename_i n l b off cap hcr hle;simp only at hev;split at hev
    ·rename_i hh;cases hev;exact bH hw (key _ _ _ _ rfl hh.1) (.eptr _ _ _ (hcr.drop _))
    ·cases hev
   ·rename_i n l b off hcr;simp only at hev;split at hev
    ·rename_i hh;cases hev;exact bH hw (key _ _ _ _ rfl hh.1) (.eptr _ _ _ (hcr.drop _))
    ·cases hev
   ·rename_i o off n sz cap ho hn' hb';simp only at hev;split at hev
    ·rename_i hh;cases hev;exact bH hw (key _ _ _ _ rfl hh.1) (.ref _ _ ho)
    ·cases hev
 ·rename_i len el;simp only[a03,a05]at hc;obtain⟨i,hi,a,ha,b,hb,rfl⟩:=hc;have hx:=hρ x a ha;have hy:=hρ y b hb;simp only[evI,aB]at hev;cases hn:oI (av C e b)with
  |none=>rw[hn]at hev;simp at hev
  |some n=>
   rw[hn]at hev;obtain⟨k,m,hpy,h0,rfl,_⟩:=Jb hy hn;generalize hav:av C e a=aa at hx hev;generalize hpx:ρ x=px at hx;cases hx<;>first|(cases hev;done)|skip
   all_goals
    simp only at hev;split at hev
    ·rename_i hh;cases hev;first
      | (rename_i o off ho
         refine bH hw (v':=.pointer (some ⟨g.ob o,off+m.toNat*i.size,none⟩)) ?_ (.ref _ _ ho);have h9:m<len:=by omega
         simp[execOp,Instr.indexAt,run_underlying hu,hpx,hpy,asIntOf,Instr.sureAddr,run_sizeOf hi,h0,h9,addr_add])
      | (rename_i l b off hcr
         refine bH hw (v':=.pointer (some ⟨b,off+m.toNat*i.size,none⟩)) ?_ (.eptr _ _ _ (hcr.drop _));have h9:m<len:=by omega
         simp[execOp,Instr.indexAt,run_underlying hu,hpx,hpy,asIntOf,Instr.sureAddr,run_sizeOf hi,h0,h9,addr_add])
    ·cases hev
def amn(hw:WR g w O)(hρ:∀x a,cA x=some a->VR g (av C e a) (ρ x)){dst:Option Tmp}{type:TypeId}{pos:String}{after:Array Edge}{guard:Option (Nat×Bool)}{t:TypeId}{x y:Operand}{xi:XI}(hc:cI C.P ⟨dst,.index t x y,type,pos,after,guard⟩=some xi){out:Out}(hev:evI C e O xi=some out):DJ C.P ⟨dst,.index t x y,type,pos,after,guard⟩ ρ g O w out:=by
 simp only[cI,a96,a03,au4]at hc;obtain⟨u,hu,hc⟩:=hc;cases u<;>first|(cases hc;done)|skip
 ·simp only[a03,a05]at hc;obtain⟨a,ha,b,hb,rfl⟩:=hc;have hx:=hρ x a ha;have hy:=hρ y b hb;simp only[evI,aB]at hev;cases hn:oI (av C e b)with
  |none=>rw[hn]at hev;simp at hev
  |some n=>
   rw[hn]at hev;obtain⟨k,m,hpy,h0,rfl,_⟩:=Jb hy hn;generalize hav:av C e a=aa at hx hev;generalize hpx:ρ x=px at hx;cases hx<;>first|(cases hev;done)|skip
   rename_i s;simp only at hev;split at hev
   ·rename_i c hc';cases hev;refine bH hw (v':=.int .u8 c.toNat) ?_ (.int _ _);have hlt:=(a00.1 hc').1;have h9:(⟨⟨s⟩⟩:ByteArray)[m.toNat]?=some c:=by
     have e1:m.toNat<(⟨⟨s⟩⟩:ByteArray).size:=hlt;rw[getElem?_pos (⟨⟨s⟩⟩:ByteArray) m.toNat e1];have e2:=(a00.1 hc').2;exact congrArg some e2
    simp[execOp,Instr.index,run_underlying hu,hpx,hpy,asIntOf,h0,h9]
   ·cases hev
 ·rename_i len el;simp only[a03,a05]at hc;obtain⟨u',hu',i,hi,a,ha,b,hb,rfl⟩:=hc;have hx:=hρ x a ha;have hy:=hρ y b hb;simp only[evI,aB]at hev;cases hn:oI (av C e b)with
  |none=>rw[hn]at hev;simp at hev
  |some n=>
   rw[hn]at hev;obtain⟨k,m,hpy,h0,rfl,_⟩:=Jb hy hn;generalize hav:av C e a=aa at hx hev;generalize hpx:ρ x=px at hx;cases hx<;>first|(cases hev;done)|skip
   rename_i l l' hl;simp only at hev;split at hev
   ·rename_i hh;simp only[a97]at hev;obtain⟨v,hv,rfl⟩:=hev;obtain⟨v',h1,h2⟩:=XG (P:=C.P) w hl hu' hi (m.toNat*i.size) hv;have h9:m<len:=by omega
    exact bH hw (by simp[execOp,Instr.index,run_underlying hu,hpx,hpy,asIntOf,h0,h9,run_sizeOf hi,h1]) h2
   ·cases hev
def aj8(hw:WR g w O)(hρ:∀x a,cA x=some a->VR g (av C e a) (ρ x)){dst:Option Tmp}{type:TypeId}{pos:String}{after:Array Edge}{guard:Option (Nat×Bool)}{t:TypeId}{m k:Operand}{ok:Bool}{xi:XI}(hc:cI C.P ⟨dst,.lookup t m k ok,type,pos,after,guard⟩=some xi){out:Out}(hev:evI C e O xi=some out):DJ C.P ⟨dst,.lookup t m k ok,type,pos,after,guard⟩ ρ g O w out:=by
 simp only[cI,a96,a03,au4]at hc;obtain⟨u,hu,hc⟩:=hc;cases u<;>first|(cases hc;done)|skip
 rename_i kt et;simp only[a03]at hc;obtain⟨uk,huk,hc⟩:=hc;cases uk<;>first|(cases hc;done)|skip
 simp only[a03,a05]at hc;obtain⟨z,hz,a,ha,b,hb,rfl⟩:=hc;obtain⟨i,v,h1,h2,h3⟩:=Et hz;have hv:=o7 g v z h3;simp only[evI,aB]at hev;split at hev
 ·rename_i es hes;have hres:∃v,out=.val v O/\(match nO (av C e b) es 0 with|some (some (_,v))=>some (if ok then AV.tup [v,.bool true]else v)|some none=>some (if ok then .tup [z,.bool false]else z)|none=>none)=some v:=by
   grind
  obtain⟨v0,rfl,hr⟩:=hres;obtain⟨v',h4,h5⟩:=abp (P:=C.P) hw t kt et i v hu huk h1 h2 hv (hρ m a ha) (hρ k b hb) ok hes hr;exact bH hw (by simp[execOp,h4]) h5
 ·cases hev
def acp(hw:WR g w O)(hρ:∀x a,cA x=some a->VR g (av C e a) (ρ x)){dst:Option Tmp}{type:TypeId}{pos:String}{after:Array Edge}{guard:Option (Nat×Bool)}{t:TypeId}{m k v:Operand}{xi:XI}(hc:cI C.P ⟨dst,.mapUpdate t m k v,type,pos,after,guard⟩=some xi){out:Out}(hev:evI C e O xi=some out):DJ C.P ⟨dst,.mapUpdate t m k v,type,pos,after,guard⟩ ρ g O w out:=by
 simp only[cI,a96,a03,au4]at hc;obtain⟨u,hu,hc⟩:=hc;cases u<;>first|(cases hc;done)|skip
 rename_i kt et;simp only[a03]at hc;obtain⟨uk,huk,hc⟩:=hc;cases uk<;>first|(cases hc;done)|skip
 simp only[a03,a05]at hc;obtain⟨a,ha,b,hb,c,hcv,rfl⟩:=hc;have hx:=hρ m a ha;have hy:=hρ k b hb;have hz:=hρ v c hcv;simp only[evI,aB]at hev;generalize hav:av C e a=aa at hx hev;generalize hpx:ρ m=px at hx;generalize hbv:av C e b=bb at hy hev;generalize hpy:ρ k=py at hy;cases hx<;>first|(cases hev;done)|skip
 rename_i r hr;simp only at hev;split at hev
 ·rename_i es hes;cases hy<;>first|(cases hev;done)|skip
  rename_i s;simp only at hev;have hres:∃es',out=.val .undef (O.set r (.map es'))/\(match nO (.str s) es 0 with|some (some (i,_))=>some (es.set i (AV.str s,av C e c))|some none=>some (es++[(AV.str s,av C e c)])|none=>none)=some es':=by
   grind
  obtain⟨es',rfl,he⟩:=hres;obtain⟨w',h4,h5⟩:=RN (P:=C.P) hw t kt et hu huk hes hz he;exact⟨w',g,h5,.inr ⟨rfl,by simp[execOp,hpx,hpy,h4]⟩⟩
 ·cases hev
def aj7(hw:WR g w O)(hρ:∀x a,cA x=some a->VR g (av C e a) (ρ x)){dst:Option Tmp}{type:TypeId}{pos:String}{after:Array Edge}{guard:Option (Nat×Bool)}{t:TypeId}{m k v:Operand}{xi:XI}(hc:cI C.P ⟨dst,.insert t m k v,type,pos,after,guard⟩=some xi){out:Out}(hev:evI C e O xi=some out):DJ C.P ⟨dst,.insert t m k v,type,pos,after,guard⟩ ρ g O w out:=by
 simp only[cI,a96,a03,au4]at hc;obtain⟨u,hu,hc⟩:=hc;cases u<;>first|(cases hc;done)|skip
 rename_i kt et;simp only[a03]at hc;obtain⟨uk,huk,hc⟩:=hc;cases uk<;>first|(cases hc;done)|skip
 simp only[a03,a05]at hc;obtain⟨a,ha,b,hb,c,hcv,rfl⟩:=hc;have hx:=hρ m a ha;have hy:=hρ k b hb;have hz:=hρ v c hcv;simp only[evI,aB]at hev;generalize hav:av C e a=aa at hx hev;generalize hpx:ρ m=px at hx;generalize hbv:av C e b=bb at hy hev;generalize hpy:ρ k=py at hy;cases hx<;>first|(cases hev;done)|skip
 rename_i r hr;simp only at hev;split at hev
 ·rename_i es hes;cases hy<;>first|(cases hev;done)|skip
  rename_i s;simp only at hev;have hres:∃es',out=.val .undef (O.set r (.map es'))/\(match nO (.str s) es 0 with|some (some (i,_))=>some (es.set i (AV.str s,av C e c))|some none=>some (es++[(AV.str s,av C e c)])|none=>none)=some es':=by
   grind
  obtain⟨es',rfl,he⟩:=hres;obtain⟨w',h4,h5⟩:=RN (P:=C.P) hw t kt et hu huk hes hz he;exact⟨w',g,h5,.inr ⟨rfl,by simp[execOp,hpx,hpy,h4]⟩⟩
 ·cases hev
end
section
variable{C:Ctx}{g:Gh}{w:World}{O:St}{e:Env}{ρ:Operand->Value}
theorem agU(t:TypeId)(v:Value)(ptr:Bool)(h:ae6 C.P t ptr=true)(nm:Option String)(w:World):(receiverAt t (.val v) ptr nm).run C.P w=.ok v w:=by
 unfold ae6 at h;cases hu:C.P.underlying t with
 |none=>rw[hu]at h;cases h
 |some u=>
  rw[hu]at h;cases u<;>simp only at h<;>cases ptr<;>first|(cases h;done)|simp[receiverAt,run_underlying hu,Place.get]
def ahv:∃n,C.P.types.size+Made.depth=n+1:=⟨C.P.types.size+Made.depth-1,by unfold Made.depth;omega⟩
def Tj{t:TypeId}{av:AV}{name:String}{f:FuncId}{r:AV}(h:methodOf C.P t av name=some (f,r))(v:Value)(w:World):r=av/\(method (C.P.types.size+Made.depth) t v name).run C.P w=.ok (f,v) w:=by
 unfold methodOf at h;split at h
 ·rename_i i hi;split at h
  ·rename_i m hm;split at h
   ·cases h
   ·rename_i hp;split at h
    ·rename_i f' p hf;split at h
     ·rename_i hv;cases h;refine⟨rfl,?_⟩;obtain⟨n,hn⟩:=ahv (C:=C);have hpe:m.path.toList=[]:=by
       grind
      rw[hn,method];simp only[Sem.run_bind,typeInfo,run_program,Result.andThen_ok,hi,Sem.run_pure,hm,hpe,follow,hf,agU t v p hv]
     ·cases h
    ·cases h
  ·cases h
 ·cases h
def Yw {af:AV} {vf:Value} (hf:VR g af vf) {args:LA} {vargs:List Value} (ha:VRs g args vargs) {out:Out} (hev:G7 C af args O=some out):
  ∃f azs as',out=.call f azs O/\VRs g azs as'/\(do let d<-Deferred.ofValue vf ⟨vargs⟩;invoke d.target d.args:Sem Next).run C.P w=(callFunc f ⟨as'⟩).run C.P w:=by
 cases hf<;>first|(cases hev;done)|skip
 rename_i fn x y x' y' hx hy;have hxa:=hx.append ha;cases fn<;>simp only[G7]at hev<;>first|(cases hev;done)|skip
 ·rename_i f;cases hev;refine⟨_,_,_,rfl,hxa.append hy,?_⟩;simp[Deferred.ofValue,invoke]
 ·rename_i name;split at hev
  ·rename_i t v rest hrest;rw[hrest]at hxa;split at hev
   ·rename_i f r hm;cases hev;generalize hl:x'++vargs=l at hxa;cases hxa with
    |cons _ u _ l' hu hl'=>
     generalize hu':AV.iface t v=q at hu;cases hu<;>first|(cases hu';done)|skip
     cases hu';rename_i v' hv;obtain⟨rfl,hrun⟩:=Tj hm v' w;refine⟨_,_,_,rfl,.cons _ _ _ _ hv hl',?_⟩;have e1:(⟨x'⟩:Array Value)++(⟨vargs⟩:Array Value)=⟨.iface t v'::l'⟩:=by apply az3;simpa using hl
     simp[Deferred.ofValue,invoke,e1,callMethod,hrun]
   ·cases hev
  ·cases hev
 ·rename_i t name;split at hev
  ·rename_i v rest hrest;rw[hrest]at hxa;split at hev
   ·cases hev
   ·rename_i hne;split at hev
    ·rename_i f r hm;cases hev;generalize hl:x'++vargs=l at hxa;cases hxa with
     |cons _ v' _ l' hu hl'=>
      obtain⟨rfl,hrun⟩:=Tj hm v' w;refine⟨_,_,_,rfl,.cons _ _ _ _ hu hl',?_⟩;have e1:(⟨x'⟩:Array Value)++(⟨vargs⟩:Array Value)=⟨v'::l'⟩:=by apply az3;simpa using hl
      cases hut:C.P.underlying t with
      |none=>
       exfalso;unfold methodOf ae6 at hm
       grind
      |some u=>
       have hni:∀m,u≠ .interface m:=fun m hm'=>hne m (by rw[hut,hm'])
       have e2:(⟨v'::l'⟩:Array Value).extract 1=⟨l'⟩:=by apply az3;simp
       have e3:(⟨v'::l'⟩:Array Value).extract 1 (l'.length+1)=⟨l'⟩:=by apply az3;simp
       cases u<;>first|(exact absurd rfl (hni _))|(simp[Deferred.ofValue,invoke,e1,run_underlying hut,callMethod,hrun])
    ·cases hev
  ·cases hev
 ·rename_i t path f ptr;split at hev
  ·rename_i v rest hrest;rw[hrest]at hxa;split at hev
   ·cases hev
   ·rename_i hp;split at hev
    ·rename_i hv;cases hev;generalize hl:x'++vargs=l at hxa;cases hxa with
     |cons _ v' _ l' hu hl'=>
      refine⟨_,_,_,rfl,.cons _ _ _ _ hu hl',?_⟩;have e1:(⟨x'⟩:Array Value)++(⟨vargs⟩:Array Value)=⟨v'::l'⟩:=by apply az3;simpa using hl
      have hpe:path.toList=[]:=by
       grind
      have hrv:(receiverVia t v' path ptr).run C.P w=.ok v' w:=by
       grind [receiverVia,follow,agU]
      simp[Deferred.ofValue,invoke,e1,hrv]
    ·cases hev
  ·cases hev
def c_call(hw:WR g w O)(hρ:∀x a,cA x=some a->VR g (av C e a) (ρ x)){dst:Option Tmp}{type:TypeId}{pos:String}{after:Array Edge}{guard:Option (Nat×Bool)}{c:Call}{xi:XI}(hc:cI C.P ⟨dst,.call c,type,pos,after,guard⟩=some xi){out:Out}(hev:evI C e O xi=some out):DJ C.P ⟨dst,.call c,type,pos,after,guard⟩ ρ g O w out:=by
 obtain⟨callee,args,argTypes⟩:=c;have hmap:args.map ρ=⟨args.toList.map ρ⟩:=by apply az3;simp
 cases callee with
 |value f=>
  have key:∀(af:XA) (azs:List XA),cA f=some af->cAs args.toList=some azs->G7 C (av C e af) (azs.map (av C e)) O=some out->DJ C.P ⟨dst,.call ⟨.value f,args,argTypes⟩,type,pos,after,guard⟩ ρ g O w out:=fun af azs haf has hcv=>by
   obtain⟨f',bs,bs',rfl,h1,h2⟩:=Yw (w:=w) (hρ f af haf) (P5 hρ _ _ has) hcv;refine⟨rfl,bs',h1,?_⟩
   grind [execOp,resolve]
  cases f with
  |func ff=>
   simp only[cI,a96,a03,au4,a05]at hc;obtain⟨azs,has,rfl⟩:=hc;simp only[evI,aB]at hev;refine key _ azs rfl has ?_;simp only[av,G7,au3,au6];exact hev
  |tmp t=>
   simp only[cI,a96,a03,au4,a05]at hc;obtain⟨af,haf,azs,has,rfl⟩:=hc;exact key af azs haf has hev
  |const t=>
   simp only[cI,a96,a03,au4,a05]at hc;obtain⟨af,haf,azs,has,rfl⟩:=hc;exact key af azs haf has hev
  |global t=>
   simp only[cI,a96,a03,au4,a05]at hc;obtain⟨af,haf,azs,has,rfl⟩:=hc;exact key af azs haf has hev
 |invoke r m=>
  simp only[cI,a96,a03,au4,a05]at hc;obtain⟨ar,har,azs,has,rfl⟩:=hc;have hx:=hρ r ar har;have hargs:=P5 hρ _ _ has;simp only[evI,aB]at hev;generalize hav:av C e ar=aa at hx hev;generalize hpx:ρ r=px at hx;cases hx<;>first|(cases hev;done)|skip
  rename_i t v v' hv;simp only at hev;split at hev
  ·rename_i f r' hm;cases hev;obtain⟨rfl,hrun⟩:=Tj hm v' w;refine⟨rfl,v'::args.toList.map ρ,.cons _ _ _ _ hv hargs,?_⟩;have e1:#[ρ r]++args.map ρ=⟨.iface t v'::args.toList.map ρ⟩:=by apply az3;simp[hpx]
   have e3:(args.toList.map ρ).take args.size=args.toList.map ρ:=a08 (by simp)
   simp[execOp,resolve,e1,invoke,callMethod,hrun,e3]
  ·cases hev
 |builtin b=>
  have hops:args.toList.map ρ=(args.map ρ).toList:=by simp
  cases b<;>simp only[cI]at hc<;>first|(cases hc;done)|skip
  case append=>
   split at hc
   ·rename_i t u x y h1 h2;simp only[a96,a03,au4]at hc;obtain⟨ud,hu,hc⟩:=hc;cases ud<;>first|(cases hc;done)|skip
    rename_i el;simp only[a03]at hc;obtain⟨z,hz,uu,huu,hc⟩:=hc;obtain⟨i,v,hi,hzv,hoc⟩:=Et hz;have hv:=o7 g v z hoc;have e1:argTypes=#[t,u]:=by apply az3;simpa using h1
    have e2:args=#[x,y]:=by apply az3;simpa using h2
    subst e1 e2;have key:∀(str:Bool) (a b:XA),cA x=some a->cA y=some b->z.cells.length=i.size->i.bytes<=1048576->(uu=.string/\str=true\/(∃e',uu=.slice e')/\str=false)->evI C e O (.app str i.size i.bytes (Ye C.P el false) a b)=some out->DJ C.P ⟨dst,.call ⟨.builtin .append,#[x,y],#[t,u]⟩,type,pos,after,guard⟩ ρ g O w out:=fun str a b ha hb hzs hby hk hev=>by
     simp only[evI,aB]at hev;split at hev
     ·rename_i m cs hsrc;split at hev
      ·cases hev
      ·rename_i hcond;simp only[az0,bne_iff_ne,ne_eq,aA8,not_or,Decidable.not_not,Bool.not_eq_false]at hcond;split at hev<;>first|(cases hev;done)|skip
       rename_i v0 O0 hap;cases hev;obtain⟨v',w',g',hr,hvr,hgo⟩:=ahk (P:=C.P) hw t u type el i v hu hi hzv (by rw[hv.cells_size];exact hzs) hby (fun t' x' ht'=>⟨(Yf ht').1,(Yf ht').2.symm⟩) (hρ x a ha) (hρ y b hb) hsrc hcond.2 (by
        rcases hk with⟨rfl,rfl⟩|⟨⟨e',rfl⟩,rfl⟩
        ·refine .inr ⟨huu,?_⟩;have:=hcond.1;cases hb':av C e b<;>simp[hb',isStr]at this;exact⟨_,rfl⟩
        grind [isStr]) hap
       exact⟨w',g',hgo,.inl ⟨v',by simp[execOp,resolve,invoke,Go.builtin,hr],hvr⟩⟩
     ·cases hev
    cases uu<;>first|(cases hc;done)|skip
    ·simp only[hi,Option.bind_some]at hc;split at hc
     ·rename_i hh;simp only[a03,a05]at hc
      grind
     ·cases hc
    ·simp only[hi,Option.bind_some]at hc;split at hc
     ·rename_i hh;simp only[a03,a05]at hc
      grind
     ·cases hc
   ·cases hc
  case copy=>
   split at hc
   ·rename_i t rest x y h1 h2;simp only[a96,a03,au4]at hc;obtain⟨ud,hu,hc⟩:=hc;cases ud<;>first|(cases hc;done)|skip
    rename_i el;simp only[a03,a05]at hc;obtain⟨i,hi,a,ha,b,hb,rfl⟩:=hc;have e1:argTypes=⟨t::rest⟩:=by apply az3;simpa using h1
    have e2:args=#[x,y]:=by apply az3;simpa using h2
    subst e1 e2;have hx:=hρ x a ha;simp only[evI,aB]at hev;split at hev
    ·rename_i m cs o off n s hsrc hd;rw[hd]at hx;split at hev
     ·rename_i l hl;split at hev
      ·rename_i hh;cases hev;obtain⟨rfl,hb2,hf⟩:=hh;obtain⟨w',h3,h4⟩:=aeu (P:=C.P) hw t 0 type el rest i hu hi (hρ y b hb) hx hl hsrc hb2 hf;exact⟨w',g,h4,.inl ⟨_,by simp[execOp,resolve,invoke,Go.builtin,h3];rfl,.int _ _⟩⟩
      ·cases hev
     ·cases hev
    ·cases hev
   ·cases hc
  case len=>
   split at hc
   ·rename_i t ts x xs h1 h2;simp only[a96,a03,au4]at hc;obtain⟨ud,hu,hc⟩:=hc;have e1:argTypes[0]?=some t:=by rw[<-Array.getElem?_toList,h1];rfl
    have e2:(args.map ρ)[0]?=some (ρ x):=by grind
    have hrun:∀n,(Builtin.len_ argTypes type (args.map ρ)).run C.P w=.ok (goInt n) w->(execOp ρ ⟨dst,.call ⟨.builtin .len,args,argTypes⟩,type,pos,after,guard⟩).run C.P w=.ok (.value (goInt n)) w:=fun n hn=>by
     simp[execOp,resolve,invoke,Go.builtin,hn]
    cases ud<;>first|(cases hc;done)|skip
    case array n el=>
     simp only[a05]at hc;subst hc;simp only[evI,aB]at hev;cases hev;exact bH hw (hrun n (by simp[Builtin.len_,e1,e2,run_underlying hu])) (.int _ _)
    case pointer p=>
     simp only[a03]at hc;obtain⟨up,hup,hc⟩:=hc;cases up<;>first|(cases hc;done)|skip
     rename_i n el;simp only[a05]at hc;subst hc;simp only[evI,aB]at hev;cases hev;exact bH hw (hrun n (by simp[Builtin.len_,e1,e2,run_underlying hu,run_underlying hup])) (.int _ _)
    all_goals
     simp only[a03,a05]at hc;obtain⟨a,ha,rfl⟩:=hc;have hx:=hρ x a ha;simp only[evI,aB,a97]at hev;obtain⟨n,hn,rfl⟩:=hev;refine bH hw (hrun n ?_) (.int _ _);generalize hav:av C e a=aa at hx hn;generalize hpx:ρ x=px at hx
    case string=>
     cases hx<;>first|(cases hn;done)|skip
     cases hn;simp[Builtin.len_,e1,e2,hpx,run_underlying hu];rfl
    case slice el=>
     cases hx<;>first|(cases hn;done)|skip
     all_goals (cases hn;simp[Builtin.len_,e1,e2,hpx,run_underlying hu])
    case map kt et=>
     cases hx<;>first|(cases hn;done)|skip
     ·rename_i m hm;simp only[bU]at hn;split at hn
      ·rename_i es hes;cases hn;obtain⟨ents,clock,h3,h4⟩:=hw.obj m _ hes;have hget:(getObj (g.ob m)).run C.P w=.ok (.map ents clock) w:=by simp[getObj,Sem.run,h3]
       simp[Builtin.len_,e1,e2,hpx,run_underlying hu,hget,h4.size]
      ·cases hn
     ·cases hn;simp[Builtin.len_,e1,e2,hpx,run_underlying hu]
   ·cases hc
  case max=>
   split at hc
   ·rename_i x y h2;simp only[a96,a03,au4,a05]at hc;obtain⟨a,ha,b,hb,rfl⟩:=hc;have e2:args=#[x,y]:=by apply az3;simpa using h2
    subst e2;have hx:=hρ x a ha;have hy:=hρ y b hb;simp only[evI,aB,a97]at hev;obtain⟨v,hv,rfl⟩:=hev;generalize hav:av C e a=aa at hx hv;generalize hpx:ρ x=px at hx;generalize hbv:av C e b=bb at hy hv;generalize hpy:ρ y=py at hy;cases hx<;>first|(cases hv;done)|skip
    cases hy<;>first|(cases hv;done)|skip
    cases hv;exact bH hw (by simp[execOp,resolve,invoke,Go.builtin,hpx,hpy,Builtin.max_,Builtin.max2]) (.int _ _)
   ·cases hc
  case min=>
   split at hc
   ·rename_i x y h2;simp only[a96,a03,au4,a05]at hc;obtain⟨a,ha,b,hb,rfl⟩:=hc;have e2:args=#[x,y]:=by apply az3;simpa using h2
    subst e2;have hx:=hρ x a ha;have hy:=hρ y b hb;simp only[evI,aB,a97]at hev;obtain⟨v,hv,rfl⟩:=hev;generalize hav:av C e a=aa at hx hv;generalize hpx:ρ x=px at hx;generalize hbv:av C e b=bb at hy hv;generalize hpy:ρ y=py at hy;cases hx<;>first|(cases hv;done)|skip
    cases hy<;>first|(cases hv;done)|skip
    cases hv;exact bH hw (by simp[execOp,resolve,invoke,Go.builtin,hpx,hpy,Builtin.min_,Builtin.min2]) (.int _ _)
   ·cases hc
end
section
variable{C:Ctx}{g:Gh}{w:World}{O:St}{e:Env}{ρ:Operand->Value}
def YU (hw:WR g w O) {ax:XA} {n sz:Nat} {lo hi mx:Option XA} {out:Out} (hev:evI C e O (.sliceArr n sz ax lo hi mx)=some out) {px:Value} (hx:VR g (av C e ax) px) {vlo vhi vmx:Option Value}
  (hlo:Yt g (lo.map (av C e)) vlo) (hhi:Yt g (hi.map (av C e)) vhi) (hmx:Yt g (mx.map (av C e)) vmx):
  ∃v b off l h,out=.val v O/\px=.pointer (some ⟨b,off,none⟩)/\(∀w',(Instr.sliceBounds false n n vlo vhi vmx).run C.P w'=.ok (l,h,n) w')/\VR g v (.slice (some (if n=l then⟨b,off,none⟩else(⟨b,off,none⟩:Addr).add (l*sz))) (h-l) (n-l)):=by
 simp only[evI,aB]at hev;generalize hav:av C e ax=aa at hx hev;cases hx<;>first|(cases hev;done)|skip
 rename_i o off ho;simp only at hev;split at hev
 ·rename_i l fz hl;split at hev
  ·rename_i l0 h0 hl0 hh0;split at hev
   ·rename_i hcond;cases hev;refine⟨_,_,_,l0,h0,rfl,rfl,fun w'=>SE hlo hhi hmx false hl0 hh0 (by simp) hcond.1 hcond.2.1 (a06 _) (by simp) w',?_⟩
    split
    ·grind [VR]
    ·rename_i hlh;rw[if_neg (by omega),addr_add]
     obtain⟨c,e0,fr,h1,h2,h3,h4,h5,h6⟩:=hw.obj o _ hl;refine .msl o (off+l0*sz) (h0-l0) sz (n-l0) ho (by omega) ?_
     rw[<-h2];have:l0*sz+(n-l0)*sz=n*sz:=by rw[<-aB4];congr 1;omega
     omega
   ·cases hev
  ·cases hev
 ·cases hev
def amo(hw:WR g w O)(hρ:∀x a,cA x=some a->VR g (av C e a) (ρ x)){dst:Option Tmp}{type:TypeId}{pos:String}{after:Array Edge}{guard:Option (Nat×Bool)}{t:TypeId}{x:Operand}{lo hi' mx:Option Operand}{xi:XI}(hc:cI C.P ⟨dst,.slice t x lo hi' mx,type,pos,after,guard⟩=some xi){out:Out}(hev:evI C e O xi=some out):DJ C.P ⟨dst,.slice t x lo hi' mx,type,pos,after,guard⟩ ρ g O w out:=by
 simp only[cI,a96,a03,au4]at hc;obtain⟨u,hu,hc⟩:=hc;cases u<;>first|(cases hc;done)|skip
 case string=>
  cases mx with
  |some m=>cases hc
  |none=>
   simp only[a03,a05]at hc;obtain⟨a,ha,al,hal,ah,hah,rfl⟩:=hc;have hx:=hρ x a ha;have h1:=yL hρ hal;have h2:=yL hρ hah;simp only[evI,aB]at hev;generalize hav:av C e a=aa at hx hev;generalize hpx:ρ x=px at hx;cases hx<;>first|(cases hev;done)|skip
   rename_i s;simp only at hev;split at hev
   ·rename_i l h hl hh;split at hev
    ·rename_i hcond;cases hev;have hb:=SE (P:=C.P) h1 h2 .none false (len:=s.length) (cap:=s.length) (m:=s.length) hl hh rfl hcond.1 hcond.2 (a06 _) (by simp) w
     refine bH hw (v':=.string ((⟨⟨s⟩⟩:ByteArray).extract l h)) ?_ ?_
     ·have hsz:(⟨⟨s⟩⟩:ByteArray).size=s.length:=rfl;simp[execOp,Instr.sliceAt,run_underlying hu,Instr.slice,hpx,hsz,hb]
     ·have:(⟨⟨s⟩⟩:ByteArray).extract l h=⟨⟨(s.take h).drop l⟩⟩:=by
       apply ByteArray.ext
       grind [Lib.extract_data,List.take_drop]
      rw[this];exact .str _
    ·cases hev
   ·cases hev
 case slice el=>
  simp only[a03,a05]at hc;obtain⟨i,hi,a,ha,al,hal,ah,hah,am,ham,rfl⟩:=hc;have hx:=hρ x a ha;have h1:=yL hρ hal;have h2:=yL hρ hah;have h3:=yL hρ ham;simp only[evI,aB]at hev;generalize hav:av C e a=aa at hx hev;generalize hpx:ρ x=px at hx;have key:∀(b:Option Addr) (len cap l h:Nat),px=.slice b len cap->gQ 0 (al.map (av C e))=some l->gQ len (ah.map (av C e))=some h->am=none->l<=h->h<=cap->
    (execOp ρ ⟨dst,.slice t x lo hi' mx,type,pos,after,guard⟩).run C.P w=.ok (.value (.slice (if cap=l then b else b.map (·.add (l*i.size))) (h-l) (cap-l))) w:=fun b len cap l h hp hl hh hm hlh hhc=>by
   subst hp hm;have hb:=SE (P:=C.P) h1 h2 h3 true (len:=len) (cap:=cap) (m:=cap) hl hh rfl hlh hhc (a06 _) (by simp) w
   simp[execOp,Instr.sliceAt,run_underlying hu,Instr.slice,hpx,hb,run_sizeOf hi]
  cases hx<;>first|(cases hev;done)|skip
  all_goals simp only at hev
  case nils=>
   split at hev
   ·rename_i hl hh;cases hev;exact bH hw (key _ _ _ 0 0 rfl hl hh rfl (a06 _) (a06 _)) (by simpa using .nils)
   ·cases hev
  case slNil=>
   split at hev
   ·rename_i l h hl hh;split at hev
    ·rename_i hcond;cases hev;obtain rfl:h=0:=by omega
     obtain rfl:l=0:=by omega
     exact bH hw (key _ _ _ 0 0 rfl hl hh rfl (a06 _) (a06 _)) (by simpa using .slNil)
    ·cases hev
   ·cases hev
  case slEmp b cap=>
   split at hev
   ·rename_i l h hl hh;split at hev
    ·rename_i hcond;cases hev;obtain rfl:h=0:=by omega
     obtain rfl:l=0:=by omega
     refine bH hw (key _ _ _ 0 0 rfl hl hh rfl (a06 _) (a98 _)) ?_
     grind [VR]
    ·cases hev
   ·cases hev
  case sl n l b off cap hcr hle=>
   split at hev
   ·rename_i lo' hj hl hh;split at hev
    ·rename_i hcond;cases hev;refine bH hw (key _ _ _ lo' hj rfl hl hh rfl hcond.1 (by omega)) ?_
     by_cases hlh:lo'=hj
     ·subst hlh;have e0:((l.take (lo'*i.size)).drop (lo'*i.size))=[]:=by simp
      rw[e0,Nat.sub_self];split
      ·exact .slEmp _ _
      ·simp only[au8];exact .slEmp _ _
     ·rw[if_neg (by omega)]
      simp only[au8,addr_add];exact .sl _ _ _ _ _ ((hcr.take _).drop _) (by omega)
    ·cases hev
   ·cases hev
  case xsl n l b off hcr=>
   split at hev
   ·rename_i lo' hj hl hh;split at hev
    ·rename_i hcond;cases hev;refine bH hw (key _ _ _ lo' hj rfl hl hh rfl hcond.1 (by omega)) ?_
     by_cases hlh:lo'=hj
     ·subst hlh;have e0:((l.take (lo'*i.size)).drop (lo'*i.size))=[]:=by simp
      rw[e0,Nat.sub_self];split
      ·exact .slEmp _ _
      ·simp only[au8];exact .slEmp _ _
     ·rw[if_neg (by omega)]
      simp only[au8,addr_add];exact .sl _ _ _ _ _ ((hcr.take _).drop _) (by omega)
    ·cases hev
   ·cases hev
  case msl o off n sz cap ho hn hb=>
   split at hev
   ·rename_i lo' hj hl hh;split at hev
    ·rename_i hcond;cases hev;refine bH hw (key _ _ _ lo' hj rfl hl hh rfl hcond.1 (by omega)) ?_
     by_cases hlh:lo'=hj/\lo'≠0
     ·obtain⟨hlh,hl0⟩:=hlh;subst hlh;rw[if_pos ⟨rfl,hl0⟩,Nat.sub_self];split
      ·exact .emp _ _
      ·simp only[au8];exact .emp _ _
     ·rw[if_neg hlh];have hsame:(if cap=lo' then some (⟨g.ob o,off,none⟩:Addr)else some ((⟨g.ob o,off,none⟩:Addr).add (lo'*i.size)))=some (⟨g.ob o,off+lo'*i.size,none⟩:Addr):=by
       split
       ·have:lo'=0:=by omega
        rw[this];simp
       ·rw[addr_add]
      simp only[au8];rw[hsame];obtain⟨_,_,rfl⟩:=hcond;refine .msl o _ (hj-lo') i.size (cap-lo') ho (by omega) ?_
      have:lo'*i.size+(cap-lo')*i.size=cap*i.size:=by rw[<-aB4];congr 1;omega
      omega
    ·cases hev
   ·cases hev
 case array n el=>
  simp only[a03,a05]at hc;obtain⟨i,hi,a,ha,al,hal,ah,hah,am,ham,rfl⟩:=hc;obtain⟨v,b,off,l,h,rfl,hp,hb,hvr⟩:=YU hw hev (hρ x a ha) (yL hρ hal) (yL hρ hah) (yL hρ ham);exact bH hw (by simp[execOp,Instr.sliceAt,run_underlying hu,Instr.sureAddr,hp,hb,run_sizeOf hi]) hvr
 case pointer p=>
  simp only[a03]at hc;obtain⟨up,hup,hc⟩:=hc;cases up<;>first|(cases hc;done)|skip
  rename_i n el;simp only[a03,a05]at hc;obtain⟨i,hi,a,ha,al,hal,ah,hah,am,ham,rfl⟩:=hc;obtain⟨v,b,off,l,h,rfl,hp,hb,hvr⟩:=YU hw hev (hρ x a ha) (yL hρ hal) (yL hρ hah) (yL hρ ham);exact bH hw (by simp[execOp,Instr.sliceAt,run_underlying hu,Instr.slice,asAddr,run_underlying hup,hp,hb,run_sizeOf hi]) hvr
def aaS(hw:WR g w O)(hρ:∀x a,cA x=some a->VR g (av C e a) (ρ x)){dst:Option Tmp}{type:TypeId}{pos:String}{after:Array Edge}{guard:Option (Nat×Bool)}{t:TypeId}{n:Nat}{ps:Array (Nat×Operand)}{xi:XI}(hc:cI C.P ⟨dst,.buildSlice t n ps,type,pos,after,guard⟩=some xi){out:Out}(hev:evI C e O xi=some out):DJ C.P ⟨dst,.buildSlice t n ps,type,pos,after,guard⟩ ρ g O w out:=by
 simp only[cI,a96,a03,au4]at hc;obtain⟨u,hu,hc⟩:=hc;cases u<;>first|(cases hc;done)|skip
 rename_i el;simp only[a03]at hc;obtain⟨ie,hie,hc⟩:=hc;split at hc
 ·cases hc
 ·rename_i hn;simp only[a03]at hc;obtain⟨z,hz,hc⟩:=hc;split at hc
  ·rename_i hzl;simp only[a03,a05]at hc;obtain⟨qs,hqs,rfl⟩:=hc;obtain⟨i,v,h1,h2,h3⟩:=Et hz;rw[hie]at h1;cases h1;have hv:=o7 g v z h3;simp only[evI,aB]at hev;split at hev
   ·rename_i l hl;split at hev
    ·rename_i hlen;cases hev;have hvs:v.cells.size=ie.size:=by rw[hv.cells_size];exact hzl
     have hrep:=abA hv.cells n;have hzero:∃zc:Array Value,(n*ie.size=0/\zc=#[]\/n*ie.size≠0/\zc=v.cells)/\((Array.range (n*ie.size)).map (zc[· %zc.size]!)).toList=(List.replicate n v.cells.toList).flatten:=by
      by_cases h0:n*ie.size=0
      ·refine⟨#[],.inl ⟨h0,rfl⟩,?_⟩;rw[h0];have:((List.replicate n v.cells.toList).flatten).length=0:=by simp[hvs,h0]
       grind
      ·refine⟨v.cells,.inr ⟨h0,rfl⟩,?_⟩;have:=aa4 v.cells n (by
        grind)
       grind
     obtain⟨zc,hz1,hz2⟩:=hzero;obtain⟨c',hf,hr⟩:=Hw _ hρ ps.toList qs hqs _ ((Array.range (n*ie.size)).map (zc[· %zc.size]!)) _ (by rw[hz2];exact hrep) hl
     have hf':Instr.fill (fun i=>some (i*ie.size,ie.size)) ((Array.range (n*ie.size)).map (zc[· %zc.size]!)) (Array.map (fun x=>(x.fst,ρ x.snd)) ps).toList=some c':=by simpa using hf
     have hgo:=aeK hw c' el;have hcl:c'.size=l.length:=by have:=hr.length;simpa using this
     have hrun:(execOp ρ ⟨dst,.buildSlice t n ps,type,pos,after,guard⟩).run C.P w=.ok (.value (.slice (some ⟨w.heap.size,0,none⟩) n n)) (xH w (.cells c' el)):=by
      have hn':¬(2^24<n*ie.size):=by omega
      simp only[execOp,Instr.buildSlice,Sem.run_bind,run_underlying hu,Result.andThen_ok,run_sizeOf hie];rw[if_neg (by omega)]
      rcases hz1 with⟨h0,rfl⟩|⟨h0,rfl⟩
      ·rw[if_pos h0];simp only[Sem.run_pure,Sem.run_bind,Result.andThen_ok,hf',newRow,run_newObj];rfl
      ·rw[if_neg h0];simp only[Sem.run_pure,Sem.run_bind,Result.andThen_ok,Ej hie h2,hf',newRow,run_newObj];rfl
     cases hob:Cb z.cells with
     |true=>
      by_cases hn0:n=0
      ·subst hn0;refine⟨_,_,hgo,.inl ⟨_,hrun,?_⟩⟩;refine .xsl 0 l w.heap.size 0 (CR.of_get fun j a ha=>?_)
       grind
      ·obtain⟨m,rfl⟩:=Nat.exists_eq_add_one_of_ne_zero hn0;have hgo:=wK hw el FZ (l:=l) (c:=c') (fun t x ht=>by cases ht) (fun i x hx=>hr.get hx|>fun⟨v,h1,h2⟩=>⟨v,by simpa using h1,h2⟩) (by omega)
       refine⟨_,_,hgo,.inl ⟨_,hrun,?_⟩⟩;have:=VR.msl (g:=g.more w.heap.size c'.size) O.length 0 (m+1) ie.size (m+1) (by simp[Gh.more,hw.n]) (a06 _) (by simp[Gh.more,hw.n];omega)
       simpa[Gh.more,hw.n]using this
     |false=>
     refine⟨_,_,hgo,.inl ⟨_,hrun,?_⟩⟩;refine .xsl n l w.heap.size 0 (CR.of_get fun j a ha=>?_);obtain⟨u,hu1,hu2⟩:=hr.get ha;have hj:=(a00.1 ha).1;refine⟨u,?_,hu2.mono hgo.le⟩;simp only[Gh.keep,av2]
     grind
    ·cases hev
   ·cases hev
  ·cases hc
end
section
variable{C:Ctx}{g:Gh}{w:World}{O:St}{e:Env}{ρ:Operand->Value}
def Zk(hw:WR g w O)(hpl:C.np=true\/∀b,g.pl b=true)(hρ:∀x a,cA x=some a->VR g (av C e a) (ρ x))(o:Oper){xi:XI}(hc:cI C.P o=some xi){out:Out}(hev:evI C e O xi=some out):DJ C.P o ρ g O w out:=by
 obtain⟨dst,op,type,pos,after,guard⟩:=o;cases op
 case convert=>exact ahs hw hρ hc hev
 case makeSlice=>exact aco hw hρ hc hev
 case indexAddr=>exact acn hw hρ hc hev
 case index=>exact amn hw hρ hc hev
 case lookup=>exact aj8 hw hρ hc hev
 case mapUpdate=>exact acp hw hρ hc hev
 case insert=>exact aj7 hw hρ hc hev
 case call=>exact c_call hw hρ hc hev
 case slice=>exact amo hw hρ hc hev
 case buildSlice=>exact aaS hw hρ hc hev
 all_goals (simp only[cI]at hc;try (cases hc;done))
 case move x=>
  simp only[a96,a03,au4,a05]at hc;obtain⟨a,ha,rfl⟩:=hc;simp[evI,aB]at hev;subst hev;exact bH hw rfl (hρ x a ha)
 case assign x=>
  simp only[a96,a03,au4,a05]at hc;obtain⟨a,ha,rfl⟩:=hc;simp[evI,aB]at hev;subst hev;exact bH hw rfl (hρ x a ha)
 case pick c x y=>
  simp only[a96,a03,au4,a05]at hc;obtain⟨ac,hac,ax,hax,ay,hay,rfl⟩:=hc;simp only[evI,aB]at hev;have h1:=hρ c ac hac;split at hev
  ·rename_i b hb;rw[hb]at h1;simp at hev;subst hev;refine bH hw (v':=if b then ρ x else ρ y) ?_ (by grind)
   generalize hcv:ρ c=cv at h1;cases h1;simp[execOp,hcv,asBool]
  ·cases hev
 case alloc t=>
  simp only[a96,a03,au4,a05]at hc;obtain⟨z,hz,rfl⟩:=hc;obtain⟨i,v,h1,h2,h3⟩:=Et hz;simp only[evI,aB]at hev;cases hev;have hv:=o7 g v z h3;refine⟨_,_,wK hw t ⟨false,Ye C.P t true⟩ (fun t' x' ht'=>⟨(Yf ht').1,fun _=>hv.cells_size⟩) hv.cells.get_arr (by rw[hv.cells_size];exact a06 _),.inl ⟨_,?_,akD hw _⟩⟩
  simp[execOp,Instr.alloc,Ej h1 h2,newVar,newRow];rfl
 case box t x=>
  simp only[a96,a03,au4,a05]at hc;obtain⟨a,ha,rfl⟩:=hc;simp only[evI,aB]at hev;cases hev;have hv:=hρ x a ha;refine⟨_,_,wK hw t FZ (fun _ _ ht=>nomatch ht) hv.cells.get_arr (by rw[hv.cells_size];exact a06 _),.inl ⟨_,?_,akD hw _⟩⟩
  simp[execOp,Instr.box,newVar,newRow];rfl
 case build t ps=>
  simp only[a96,a03,au4]at hc;obtain⟨z,hz,u,hu,hc⟩:=hc;obtain⟨i,v,h1,h2,h3⟩:=Et hz;have hv:=o7 g v z h3;cases u<;>simp only at hc<;>first|(cases hc;done)|skip
  case array n el=>
   simp only[a03,a05]at hc;obtain⟨ie,hie,qs,hqs,rfl⟩:=hc;simp only[evI,aB]at hev;split at hev
   ·rename_i l hl;cases hev;obtain⟨c',hf,hr⟩:=Hw _ hρ ps.toList qs hqs _ v.cells _ hv.cells hl;refine bH hw (v':=.agg c') ?_ (.agg _ _ hr);have hf':Instr.fill (fun i=>some (i*ie.size,ie.size)) v.cells (Array.map (fun x=>(x.fst,ρ x.snd)) ps).toList=some c':=by simpa using hf
    simp only[execOp,Instr.build,Sem.run_bind,Ej h1 h2,Result.andThen_ok,run_underlying hu,run_sizeOf hie,hf',Sem.run_pure]
   ·cases hev
  case struct fs=>
   split at hc
   ·cases hc
   ·rename_i hall;simp only[Bool.not_eq_true,Bool.not_eq_false']at hall;simp only[a03,a05]at hc;obtain⟨qs,hqs,rfl⟩:=hc;simp only[evI,aB]at hev;split at hev
    ·rename_i l hl;cases hev;obtain⟨c',hf,hr⟩:=Hw _ hρ ps.toList qs hqs _ v.cells _ hv.cells hl;refine bH hw (v':=.agg c') ?_ (.agg _ _ hr);have hpl:(fun x=>(Array.map (fun f:Field=>(f.offset,((C.P.info? f.type).map (·.size)).getD 0)) fs)[x]?)=(fun(i:Nat)=>(fs[i]? :Option Field).bind fun(f:Field)=>(C.P.info? f.type).bind fun a=>some (f.offset,a.size)):=by
      funext i
      simp only[Array.getElem?_map];cases hfi:fs[i]? with
      |none=>rfl
      |some f=>
       have hf:f∈fs:=Array.mem_of_getElem? hfi;obtain⟨j,hj⟩:=aw3.1 (a90.1 hall f (Array.mem_toList_iff.2 hf));simp[hj]
     have hf':Instr.fill (fun x=>(Array.map (fun f:Field=>(f.offset,((C.P.info? f.type).map (·.size)).getD 0)) fs)[x]?) v.cells (Array.map (fun x=>(x.fst,ρ x.snd)) ps).toList=some c':=by rw[hpl];simpa using hf
     simp only[execOp,Instr.build,Sem.run_bind,Ej h1 h2,Result.andThen_ok,run_underlying hu,run_places fs hall,hf',Sem.run_pure]
    ·cases hev
 case load t x=>
  simp only[a96,a03,au4,a05]at hc;obtain⟨u,hu,i,hi,a,ha,rfl⟩:=hc;have hx:=hρ x a ha;simp only[evI,aB]at hev;have key:∀(b off:Nat) (l:LA) (v:AV),ρ x=.pointer (some ⟨b,off,none⟩)->Cells g w l b off->pt (zM u) i.size l=some v->DJ C.P ⟨dst,.load t x,type,pos,after,guard⟩ ρ g O w (.val v O):=fun b off l v hp hcl hpt=>by
   obtain⟨v',h1,h2⟩:=Xn hcl hu hi hpt;exact bH hw (by simp[execOp,Instr.loadAt,Instr.sureAddr,hp,h1]) h2
  generalize hav:av C e a=aa at hx hev;generalize hpx:ρ x=px at hx;cases hx<;>simp only at hev<;>first|(cases hev;done)|skip
  ·rename_i o off ho;split at hev
   ·rename_i l fz hl;simp only[a97]at hev;obtain⟨v,hpt,rfl⟩:=hev;have hcl:=(hw.obj o _ hl).cells.drop off
    grind
   ·cases hev
  ·rename_i l b off hc;simp only[a97]at hev;obtain⟨v,hpt,rfl⟩:=hev;exact key _ _ _ v hpx (hc.cells hw) hpt
 case store t x y=>
  simp only[a96,a03,au4,a05]at hc;obtain⟨i,hi,a,ha,b,hb,rfl⟩:=hc;have hx:=hρ x a ha;have hy:=hρ y b hb;simp only[evI,aB]at hev;generalize hav:av C e a=aa at hx hev;generalize hpx:ρ x=px at hx;cases hx<;>simp only at hev<;>first|(cases hev;done)|skip
  rename_i o' off ho;split at hev
  ·rename_i l hl;split at hev
   ·rename_i hh;cases hev;have hcs:=hy.cells;obtain⟨w',h1,h2⟩:=Kr (P:=C.P) (off:=off) hw hl hcs (by omega) hh.2.2
    refine⟨w',g,h2,.inr ⟨rfl,?_⟩⟩;have hsz:(ρ y).cells.size=i.size:=by rw[hy.cells_size];exact hh.1
    simp[execOp,Instr.storeAt,Instr.sureAddr,hpx,storeVar,run_sizeOf hi,hsz,h1]
   ·cases hev
  ·cases hev
 case nilCheck x=>
  simp only[a96,a03,au4,a05]at hc;obtain⟨a,ha,rfl⟩:=hc;have hx:=hρ x a ha;simp only[evI,aB]at hev;have hx0:=hx;generalize hav:av C e a=aa at hx hev hx0;generalize hpx:ρ x=px at hx hx0;cases hx<;>first|(cases hev;done)|skip
  ·cases hev;exact bH hw (by simp[execOp,hpx]) hx0
  ·cases hev;exact bH hw (by simp[execOp,hpx]) hx0
  ·rename_i f x1 y1 x2 y2 hx1 hy1;cases f<;>first|(cases hev;done)|skip
   cases hev;exact bH hw (by simp[execOp,hpx]) hx0
  ·cases hev;exact bH hw (by simp[execOp,hpx]) hx0
 case binOp op t x y yt=>
  simp only[a96,a03,au4,a05]at hc;obtain⟨a,ha,b,hb,rfl⟩:=hc;simp only[evI,aB,a97]at hev;obtain⟨v,hv,rfl⟩:=hev;have hv':binOp op (FM C.P t) (isC x||isC y) (av C e a) (av C e b)=some v/\(C.np=true->afe (av C e a) (av C e b)=false):=by
   unfold xn at hv
   grind
  obtain⟨v',h1,h2⟩:=ahp (P:=C.P) (w:=w) op t x y _ _ hv'.1 (hρ x a ha) (hρ y b hb) hw.uf (fun h2=>by
   grind)
  refine bH hw (v':=v') ?_ h2;simp only[execOp];have:(do let _<-eqGuard op t x y (ρ x) (ρ y);Go.binOp op t (ρ x) (ρ y):Sem Value).run C.P w=.ok v' w:=h1
  rw[Sem.run_bind,this];rfl
 case unOp op t x=>
  simp only[a96,a03,au4,a05]at hc;obtain⟨a,ha,rfl⟩:=hc;simp only[evI,aB,a97]at hev;obtain⟨v,hv,rfl⟩:=hev;obtain⟨v',h1,h2⟩:=alU (P:=C.P) (w:=w) op _ hv (hρ x a ha);exact bH hw (by simp[execOp,h1]) h2
 case makeInterface t x=>
  simp only[a96,a03,au4]at hc;obtain⟨u,hu,hc⟩:=hc;have hx:∃a,cA x=some a/\xi=.mkIface t a/\(∀m,u≠ .interface m):=by
   cases u<;>simp only[a03,a05]at hc<;>first|(cases hc;done)|(obtain⟨a,ha,rfl⟩:=hc;exact⟨a,ha,rfl,by intro m;simp⟩)
  obtain⟨a,ha,rfl,hne⟩:=hx;simp only[evI,aB]at hev;cases hev;refine bH hw (v':=.iface t (ρ x)) ?_ (.iface _ _ _ (hρ x a ha));cases u<;>first|(exact absurd rfl (hne _))|simp[execOp,Instr.makeInterface,run_underlying hu]
 case makeFunc fn first captured=>
  simp only[a96,a03,au4,a05]at hc;obtain⟨a,ha,b,hb,rfl⟩:=hc;simp only[evI,aB]at hev;cases hev;refine bH hw (v':=.func fn (first.map ρ) (captured.map ρ)) (by simp[execOp,Instr.makeFunc]) ?_
  have h1:=P5 hρ _ _ ha;have h2:=P5 hρ _ _ hb;have e1:first.map ρ=⟨first.toList.map ρ⟩:=by apply az3;simp
  have e2:captured.map ρ=⟨captured.toList.map ρ⟩:=by apply az3;simp
  grind [VR]
 case makeMap t r=>
  cases r with
  |some r=>cases hc
  |none=>
   cases hc;simp only[evI,aB]at hev;cases hev;have hgo:=acS hw (.map #[] 0) (.map []) 0 (by
    refine⟨#[],0,?_,rfl,rfl,by simp⟩
    simp only[Gh.more,if_true];exact Ef w _)
   refine⟨_,_,hgo,.inl ⟨.map (some w.heap.size),?_,?_⟩⟩
   ·simp[execOp,Instr.makeMap];rfl
   ·have:=VR.map (g:=g.more w.heap.size 0) O.length (by simp[Gh.more,hw.n])
    simpa[Gh.more,hw.n]using this
 case fieldAddr t x fi=>
  simp only[a96,a03,au4]at hc;obtain⟨u,hu,hc⟩:=hc;cases u<;>simp only at hc<;>first|(cases hc;done)|skip
  rename_i fs;simp only[a03]at hc;obtain⟨f,hf,i,hi,hc⟩:=hc;split at hc
  ·cases hc
  ·rename_i hz;simp only[a03,a05]at hc;obtain⟨a,ha,rfl⟩:=hc;have hx:=hρ x a ha;simp only[evI,aB]at hev;generalize hav:av C e a=aa at hx hev;generalize hpx:ρ x=px at hx;cases hx<;>simp only at hev<;>first|(cases hev;done)|skip
   ·rename_i o' off ho;cases hev;refine bH hw (v':=.pointer (some ⟨g.ob o',off+f.offset,none⟩)) ?_ (.ref _ _ ho);simp[execOp,Instr.fieldAt,run_underlying hu,hf,Instr.sureAddr,hpx,fieldPlace,run_sizeOf hi,hz,addr_add]
   ·rename_i l b off hcr;split at hev
    ·cases hev;refine bH hw (v':=.pointer (some ⟨b,off+f.offset,none⟩)) ?_ (.eptr _ _ _ (hcr.drop _));simp[execOp,Instr.fieldAt,run_underlying hu,hf,Instr.sureAddr,hpx,fieldPlace,run_sizeOf hi,hz,addr_add]
    ·cases hev
 case field t x fi=>
  simp only[a96,a03,au4]at hc;obtain⟨u,hu,hc⟩:=hc;cases u<;>simp only at hc<;>first|(cases hc;done)|skip
  rename_i fs;simp only[a03,a05]at hc;obtain⟨f,hf,u',hu',i,hi,a,ha,rfl⟩:=hc;have hx:=hρ x a ha;simp only[evI,aB]at hev;generalize hav:av C e a=aa at hx hev;generalize hpx:ρ x=px at hx;cases hx<;>simp only at hev<;>first|(cases hev;done)|skip
  rename_i l l' hl;simp only[a97]at hev;obtain⟨v,hv,rfl⟩:=hev;obtain⟨v',h1,h2⟩:=XG (P:=C.P) w hl hu' hi f.offset hv;exact bH hw (by simp[execOp,Instr.field,run_underlying hu,hf,hpx,asAgg,h1]) h2
 case extract x ix=>
  simp only[a96,a03,au4,a05]at hc;obtain⟨a,ha,rfl⟩:=hc;have hx:=hρ x a ha;simp only[evI,aB]at hev;generalize hav:av C e a=aa at hx hev;generalize hpx:ρ x=px at hx;cases hx<;>simp only at hev<;>first|(cases hev;done)|skip
  rename_i l l' hl;split at hev
  ·rename_i v hv;cases hev;obtain⟨v',h1,h2⟩:=hl.get hv;exact bH hw (by simp[execOp,Instr.extract,hpx,h1]) h2
  ·cases hev
end
def GL(C:Ctx)(g:Gh):Prop:=(∀n l,C.gl n=some l->CR g l n 0/\g.pl n=true)/\(C.np=true\/∀b,g.pl b=true)
theorem GL.mono{C:Ctx}{g g':Gh}(h:GL C g)(hle:g.le g'):GL C g':=⟨fun n l hl=>⟨(h.1 n l hl).1.mono hle,(congrFun hle.pl n).trans (h.1 n l hl).2⟩,h.2.imp id (fun e b=>(congrFun hle.pl b).trans (e b))⟩
def AR(g:Gh)(e:Env)(a:Act):Prop:=VRs g e a.tmps.toList
theorem AR.mono{g g':Gh}{e:Env}{a:Act}(h:AR g e a)(hle:g.le g'):AR g' e a:=VRs.mono hle h
def AR.put{g:Gh}{e:Env}{a:Act}(h:AR g e a){v:AV}{v':Value}(hv:VR g v v')(d:Option Nat):AR g (Ev.put e d v) (a.put d v'):=by
 cases d with
 |none=>exact h
 |some d=>
  have:=VRs.set d h hv;simpa[AR,Act.put,Ev.put]using this
def vK(g:Gh):VR g .undef undef:=.tup _ _ .nil
def AR.eval{C:Ctx}{g:Gh}{e:Env}{a:Act}(h:AR g e a)(hg:GL C g)(x:Operand)(b:XA)(hb:cA x=some b):VR g (av C e b) (a.eval x):=by
 cases x with
 |tmp t=>
  simp[cA]at hb;subst hb;simp only[av,Act.eval];have hl:=h.length;simp only[aC0]at hl;rcases aD2 t e.length with ht|ht
  ·obtain⟨v,h1,h2⟩:=VRs.get h (a02 ht);simp_all
  ·rw[av4,aw2 ht];have:a.tmps[t]?=none:=Array.getElem?_eq_none (by omega)
   simp[this];exact vK g
 |const v=>
  simp only[cA,a97]at hb;obtain⟨b',h1,rfl⟩:=hb;exact o7 g v b' h1
 |global n=>
  simp[cA]at hb;subst hb;simp only[av,Act.eval];cases hl:C.gl n with
  |none=>exact .eptr _ _ _ (.nil _ _)
  |some l=>exact .eptr _ _ _ (hg.1 n l hl).1
 |func f=>
  simp[cA]at hb;subst hb;exact .func _ _ _ _ _ .nil .nil
def Does(P:Program)(f:FuncId)(args:List Value)(w:World)(R:Value->World->Prop):Prop:=
 match(callFunc f ⟨args⟩).run P w with
 |.ok (.enter f' azs) w'=>Calls P f' azs w' fun e w''=>∃v,e=.returned v/\R v w''
 |.ok (.value v) w'=>R v w'
 |_=>False
def dW(C:Ctx)(call:aZ):Prop:=
 ∀f args O v O',call f args O=some (v,O')->∀g w args',VRs g args args'->WR g w O->GL C g->Does C.P f args' w fun v' w'=>∃g',Goes g O w g' O' w'/\VR g' v v'
section
variable{C:Ctx}{call:aZ}
def aoe (hcall:dW C call) {o:Oper} {g:Gh} {e:Env} {O:St} {w:World} {a:Act} (hw:WR g w O) {ρ:Operand->Value} (hex:execOp a.eval o=execOp ρ o) (hρ:∀x b,cA x=some b->VR g (av C e b) (ρ x)) (hg:GL C g) {v:AV} {O':St}
  (hev:(match evI C e O ((cI C.P o).getD .fail)with|some (.val v O')=>some (v,O')|some (.call f args O')=>call f args O'|none=>none)=some (v,O'))
  {next:Act->World->Prop} {Q:Exit->Act->World->Prop} (hn:∀v' w' g',Goes g O w g' O' w'->VR g' v v'->next (a.put o.dst v') w'):o.wp C.P a w next Q:=by
 cases hc:cI C.P o with
 |none=>rw[hc]at hev;simp[evI,aB]at hev
 |some xi=>
  rw[hc]at hev;simp only[az2]at hev;cases hei:evI C e O xi with
  |none=>rw[hei]at hev;cases hev
  |some out=>
   rw[hei]at hev;have hs:=Zk (C:=C) hw hg.2 hρ o hc hei;cases out with
   |val v0 O0=>
    simp at hev;obtain⟨rfl,rfl⟩:=hev;obtain⟨w',g',hgo,hr⟩:=hs;unfold Oper.wp;rw[hex];rcases hr with⟨v',h1,h2⟩|⟨rfl,h1⟩
    ·rw[h1];exact hn v' w' g' hgo h2
    ·rw[h1];exact hn undef w' g' hgo (vK g')
   |call f args O0=>
    obtain⟨rfl,args',h1,h2⟩:=hs;simp only at hev;have hd:=hcall f args O0 v O' hev g w args' h1 hw hg;unfold Oper.wp;rw[hex,h2];unfold Does at hd;generalize(callFunc f ⟨args'⟩).run C.P w=r at hd;cases r with
    |halt h w'=>exact hd.elim
    |ok n w'=>
     cases n<;>first|exact hd.elim|skip
     ·obtain⟨g',h3,h4⟩:=hd;exact hn _ _ g' h3 h4
     grind [Oper.upon,Calls.mono]
def Yp{g:Gh}{e:Env}{a:Act}(h:AR g e a)(ops:Array Oper)(o:Oper){gd:Option (Nat×Bool)}(hg:FK ops o=some gd):Region.wanted o (yielded ops a.tmps)=(match gd with|none=>true|some (t,b)=>match e[t]? with|some (.bool c)=>c==b|_=>false):=by
 unfold FK at hg;unfold Region.wanted;cases hgo:o.guard with
 |none=>grind
 |some p=>
  obtain⟨j,want⟩:=p;rw[hgo]at hg;simp only at hg⊢;split at hg
  ·rename_i d hd;simp at hg;subst hg;simp only[yielded,hd,Option.bind_some];have hl:=VRs.length h;simp only[aC0]at hl;cases he:e[d]? with
   |none=>
    grind
   |some x=>
    obtain⟨v,h1,h2⟩:=VRs.get h he
    grind [VR]
  ·cases hg
end
end Go.Ev
