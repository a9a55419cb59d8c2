/- An evaluator. No conditions. -/
import Derived.Calls
import Derived.Below
import Derived.Laws.IdiomCopy
import Derived.Laws.Cells
import Derived.Deep.AppendSrc
import Derived.Deep.Upon
import Derived.LaidEql
import Derived.Laws.StructEq
import Derived.Laws.Cover3
import Derived.Laws.Pointers
import Derived.Lib.Bytes
import Derived.Lib.Bytealg
import Derived.Laws.MakeOwn
import Derived.Laws.BytesArg
import Derived.Laws.IdiomStrings
import Derived.Lib.IndexBytes
set_option linter.unusedVariables false
set_option linter.unusedSimpArgs false
set_option linter.defProp false
namespace Go.Ev
open Bool renaming false→eF, true→eT
open Option renaming none→U, some→J
open List renaming length→z
open Go.IntKind renaming i64→r
abbrev LU:=List UInt8
def a00:=@List.getElem?_eq_some_iff.{0}
def a01:=@Bool.and_eq_true
def a02:=@List.getElem?_eq_getElem.{0}
theorem a03:type_of%@Option.bind_eq_some_iff.{0,0}:=@Option.bind_eq_some_iff.{0,0}
def a04:=@List.length_append.{0}
def a05:=@Option.some.injEq.{0}
def a06:=@Nat.le_refl
def a07:=@List.all_cons.{0}
def a08:=@List.mem_of_getElem?.{0}
def a09:=@List.cons_append.{0}
def a88:=@Int.toNat_natCast
def a90:=@List.length_cons.{0}
def a94:=@List.length_nil.{0}
def a95:=@List.take_of_length_le.{0}
theorem a96:type_of%@List.length_set.{0}:=@List.length_set.{0}
def a97:=@List.all_eq_true.{0}
def a98:=@List.nil_append.{0}
def a99:=@Nat.zero_le
theorem ay0:type_of%@Nat.eq_of_beq_eq_true:=@Nat.eq_of_beq_eq_true
def ay1:=@Int.cast_ofNat_Int
def ay2:=@List.append_assoc.{0}
def ay3:=@Option.bind_eq_bind.{0}
theorem ay4:type_of%@Option.map_eq_some_iff.{0,0}:=@Option.map_eq_some_iff.{0,0}
def ay5:=@List.append_nil.{0}
theorem ay6:type_of%@List.drop_eq_getElem_cons.{0}:=@List.drop_eq_getElem_cons.{0}
def ay7:=@Option.pure_def.{0}
def ay8:=@Prod.mk.injEq.{0,0}
def ay9:=@List.drop_zero.{0}
def az0:=@List.eq_nil_of_length_eq_zero.{0}
def az1:=@List.drop_eq_nil_of_le.{0}
def az2:=@Option.map_some.{0,0}
def az3:=@List.map_cons.{0,0}
def az4:=@List.mem_cons.{0}
def az5:=@Nat.zero_add
def az6:=@List.all_nil.{0}
def az7:=@Nat.le_of_ble_eq_true
def az8:=@List.getD_eq_getElem?_getD.{0}
def az9:=@Bool.and_self
def aA0:=@Array.getElem?_eq_getElem.{0}
def aA1:=@List.getElem?_eq_none.{0}
def aA2:=@Bool.not_false
def aA3:=@List.getElem?_append_left.{0}
def aA4:=@List.getElem?_take.{0}
def aA5:=@Bool.and_true
def aA6:=@Bool.true_and
theorem aA7:type_of%@Option.isSome_iff_exists.{0}:=@Option.isSome_iff_exists.{0}
def aA8:=@Bool.not_true
def aA9:=@List.ext_getElem?.{0}
def aB0:=@List.length_map.{0,0}
def aB1:=@List.length_take.{0}
def aB2:=@List.mem_singleton.{0}
def aB3:=@List.getElem_mem.{0}
def aB4:=@Bool.or_eq_true
def aB5:=@Nat.mul_one
def aB6:=@List.forall_mem_cons.{0}
def aB7:=@List.getElem?_cons_succ.{0}
def aB8:=@List.set_set.{0}
def aB9:=@Nat.le_trans
def aC0:=@List.getElem?_append.{0}
def aC1:=@List.mem_map.{0,0}
def aC2:=@List.flatten_cons.{0}
def aC3:=@Bool.false_eq_true
def aC4:=@List.take_append_of_le_length.{0}
def aC5:=@List.take_succ_eq_append_getElem.{0}
def aC6:=@List.getElem?_map.{0,0}
def aC7:=@List.flatMap_cons.{0,0}
def aC8:=@List.mem_append_left.{0}
def aC9:=@Nat.lt_of_lt_of_le
def aD0:=@Array.getElem?_eq_some_iff.{0}
def aD1:=@Nat.mul_le_mul_right
def aD2:=@List.set_append_left.{0}
def aD3:=@List.mem_append.{0}
def aD4:=@List.mem_range
def aD5:=@Int.fdiv_eq_ediv_of_nonneg
def aD6:=@Array.ext'.{0}
def aD7:=@Option.getD_some.{0}
def aD8:=@List.length_singleton.{0}
def aD9:=@Nat.ble_eq_true_of_le
def aE0:=@Option.some.inj.{0}
def aE1:=@List.set_cons_zero.{0}
def aE2:=@Bool.or_eq_false_iff
def aE3:=@List.getElem?_append_right.{0}
def aE4:=@Bool.or_true
def aE5:=@List.getElem?_set_self.{0}
def aE6:=@List.head?_drop.{0}
def aE7:=@List.mem_append_right.{0}
def aE8:=@List.not_mem_nil.{0}
def aE9:=@Nat.le_add_right
def aF0:=@List.set_cons_succ.{0}
def aF1:=@Nat.add_assoc
def aF2:=@List.mem_cons_of_mem.{0}
def aF3:=@Bool.false_and
def aF4:=@Int.toNat_zero
def aF5:=@List.getElem?_cons_zero.{0}
def aF6:type_of%@Bool.not_eq_true':= @Bool.not_eq_true'
def aF7:=@Nat.min_eq_left
def aF8:=@List.drop_succ_cons.{0}
def aF9:=@Nat.add_mul
def aG0:=@Bool.true_or
def aG1:=@Int.le_refl
def aG2:=@List.mem_flatMap.{0,0}
def aG3:=@Array.getElem?_modify.{0}
def aG4:=@List.drop_drop.{0}
def aG5:=@Classical.byContradiction
def aG6:=@List.head?_cons.{0}
def aG7:=@Array.length_toList.{0}
def aG8:=@List.take_succ_cons.{0}
def aG9:=@List.any_eq_true.{0}
def aH0:=@Nat.lt_succ_self
def aH1:=@Array.getElem?_eq_none.{0}
def aH2:=@List.drop_of_length_le.{0}
def aH3:=@Nat.lt_or_ge
def aH4:=@Nat.add_zero
def aH5:=@Bool.eq_iff_iff
def aH6:=@Int.tmod_eq_emod_of_nonneg
def aH7:=@List.length_drop.{0}
def aH8:=@List.flatMap_nil.{0,0}
def aH9:=@List.all_append.{0}
def aI0:=@UInt8.toNat_inj
def aI1:=@Nat.not_lt_zero
def aI2:=@Nat.le_succ
def aI3:=@Nat.add_comm
inductive AV where
 |cX (b:Bool)|cU (k:IntKind) (n:Int)|cV (s:List UInt8)|ev|c8 (o off:Nat)|em (l:List AV)|cY|fu|sl (n:Nat) (l:List AV)|eC (n:Nat) (l:List AV)|dj (o off n sz:Nat)|ec (m:Nat)|eA|ea (fn:Fn) (first captured:List AV)|ep|eb (t:TypeId) (v:AV)|ej|da (l:List AV)|df (l:List AV)
 deriving Inhabited
abbrev LA:=List AV
def AV.dT:AV:=.df []
def AV.cH:AV->LA|.da l=>l|v=>[v]
def AV.C:AV->Bool|.da _|.df _=>eF|_=>eT
structure Fz where
 b:Bool
 t:Option (TypeId×Bool)
 deriving Inhabited
abbrev FZ:Fz:=⟨eF,U⟩
inductive AO where
 |cH (l:LA) (fz:Fz)|ec (es:List (AV×AV))|eq
 deriving Inhabited
abbrev St:=List AO
abbrev Env:=LA
inductive XA where
 |t (n:Nat)|c (v:AV)|g (n:Nat)
 deriving Inhabited
inductive XI where
 |mv (x:XA)|gL (c a b:XA)|eN (z:LA) (ty:Option (TypeId×Bool))|iB (x:XA)|hA (z:LA) (parts:List (Nat×Nat×XA))|gw (z:LA) (n sz:Nat) (parts:List (Nat×Nat×XA))|ii (agg:Bool) (sz:Nat) (x:XA)|fI (sz:Nat) (a x:XA)|ip (x:XA)|e9 (op:BinOp) (ek:Nat) (cst:Bool) (x y:XA)|un (op:UnOp) (x:XA)|iv (k:IntKind) (x:XA)|kl (x:XA)|k9 (x:XA)|jn (x:XA)|lj (x:XA)|ln (x:XA)|gN (t:TypeId) (x:XA)|ia (fn:Fn) (first captured:List XA)|io|gB (z:LA) (sz bytes:Nat) (len cap:XA)|gt (x:XA) (lo hi:Option XA)|hQ (sz:Nat) (x:XA) (lo hi mx:Option XA)|gj (len sz:Nat) (x:XA) (lo hi mx:Option XA)|fW (off:Nat) (x:XA)|iu (agg:Bool) (off sz:Nat) (x:XA)|fY (len sz:Nat) (x i:XA)|ey (sz:Nat) (x i:XA)|hX (len:Nat) (agg:Bool) (sz:Nat) (x i:XA)|fa (x i:XA)|gR (z:AV) (m k:XA) (ok:Bool)|gT (m k v:XA)|hY (z:AV) (m k:XA)|gO (m s v:XA)|hG (x:XA) (i:Nat)|eG (str:Bool) (sz bytes:Nat) (ty:Option (TypeId×Bool)) (s x:XA)|dt (k:Nat) (x:XA)|iz (n:Nat)|jN (sz:Nat) (d s:XA)|hZ (mx:Bool) (x y:XA)|gM (f:FuncId) (args:List XA)|ij (f:XA) (args:List XA)|gP (x:XA) (m:String) (args:List XA)|gH|gA (k d sz:Nat) (x:XA)|eD
 deriving Inhabited
structure XOp where
 aM:Option Nat
 i:XI
 aS:Option (Nat×Bool)
 aT:List Nat:=[]
 deriving Inhabited
inductive XC where
 |eI|fe (l:List XOp)|eL (l:List XOp)|eK (a b:XC)|eJ (c:XA) (a b:XC)|eE (id:Nat) (b:XC)|fp (b:XC)|dq (id:Nat)|ef|eV (b:XC)|eD
 deriving Inhabited
inductive XR where
 |fX (t:Nat)|eS (t:Nat) (agg:Bool) (sz:Nat)
 deriving Inhabited
structure XF where
 f5:Nat
 L:Nat
 Y:List XR
 aE:XC
 deriving Inhabited
def toList{b:Type}(a:Array b):List b:=a.toList
mutual
def gJ:Value->Option AV|.bool b=>J (.cX b)|.int k n=>J (.cU k n)|.string s=>J (.cV s.data.toList)|.pointer U=>J .ev|.slice U 0 0=>J .cY|.map U=>J .eA|.func (.func f) ⟨[]⟩ ⟨[]⟩=>J (.ea (.func f) [] [])|.nilFunc=>J .ep|.nilIface=>J .ej|.agg ⟨l⟩=>(NP l).map .da|.tuple ⟨[]⟩=>J (.df [])|_=>U
def NP:List Value->Option LA|[]=>J []|v::l=>match gJ v,NP l with|J a,J b=>J (a::b)|_,_=>U
end
def cA:Operand->Option XA|.tmp t=>J (.t t)|.const v=>(gJ v).map .c|.global g=>J (.g g)|.func f=>J (.c (.ea (.func f) [] []))
def cAs:List Operand->Option (List XA)|[]=>J []|x::l=>match cA x,cAs l with|J a,J b=>J (a::b)|_,_=>U
def Dv:TypeDesc->Bool|.struct _|.array ..=>eT|_=>eF
def TL:Option Operand->Option (Option XA)|U=>J U|J x=>(cA x).map J
def Hq(P:Program)(t:TypeId):Option AV:=do gJ (<-(<-P.info? t).zero)
def QT(place:Nat->Option (Nat×Nat)):List (Nat×Operand)->Option (List (Nat×Nat×XA))|[]=>J []|(i,x)::l=>match place i,cA x,QT place l with|J (off,c),J a,J b=>J ((off,c,a)::b)|_,_,_=>U
def ac8(P:Program):Nat->List Field->Option Nat|_,[]=>J 0|i,f::fs=>if f.name != "_"&&f.offset==i then(match P.underlying f.type,ac8 P (i+1) fs with|J .string,J c=>J (3*c)|J .bool,J c=>J (3*c+1)|J (.int _),J c=>J (3*c+2)|_,_=>U)else U
def I9(P:Program)(t:TypeId):Nat:=
 match P.underlying t with
 |J .bool=>1|J (.struct fs)=>match ac8 P 0 fs.toList with|J c=>if !P.stoodInHeld t&& !P.eqGuardType P.depth t&&fs.size<1024 then fs.size+1024*c+8 else 0|U=>0
 |J (.pointer e)=>match P.info? e with|J i=>if i.size=0 then 2 else 3|U=>2
 |J (.func ..)=>4|J (.interface _)=>5|J (.map ..)=>6|J (.slice _)=>7|_=>0
def isC:Operand->Bool|.const _=>eT|_=>eF
def aaV(P:Program)(e:TypeId)(x:Bool):Option (TypeId×Bool):=
 match P.info? e with
 |J i=>match i.desc with|.int .u8=>J (e,x)|.named n _=>if n== "strings.Builder" then J (e,x)else U|_=>U
 |U=>U
def cI(P:Program)(o:Oper):Option XI:=
 match o.op with
 |.move x|.assign x=>do pure (.mv (<-cA x))
 |.pick c a b=>do pure (.gL (<-cA c) (<-cA a) (<-cA b))
 |.alloc e=>do pure (.eN (<-Hq P e).cH (aaV P e eT))
 |.box _ x=>do pure (.iB (<-cA x))
 |.build t p=>do
  let R<-Hq P t
  match<-P.underlying t with
  |.struct fs=>if !(fs.toList.all λf=>(P.info? f.type).isSome)then U else pure (.hA R.cH (<-QT (λi=>do let f<-fs[i]?;pure (f.offset,(<-P.info? f.type).size)) p.toList))
  |.array _ e=>do
   let h:=(<-P.info? e).size
   pure (.hA R.cH (<-QT (λi=>J (i*h,h)) p.toList))
  |_=>U
 |.buildSlice t n p=>do
  let .slice e<-P.underlying t|U
  let h:=(<-P.info? e).size
  if n*h>16777216 then U else do
  let R<-Hq P e
  if z R.cH=h then pure (.gw R.cH n h (<-QT (λi=>J (i*h,h)) p.toList))else U
 |.load t x=>do
  let u<-P.underlying t
  pure (.ii (Dv u) (<-P.info? t).size (<-cA x))
 |.store t a x=>do pure (.fI (<-P.info? t).size (<-cA a) (<-cA x))
 |.nilCheck x=>do pure (.ip (<-cA x))
 |.binOp op t x y _=>do
  pure (.e9 op (I9 P t) (isC x||isC y) (<-cA x) (<-cA y))
 |.unOp op _ x=>do pure (.un op (<-cA x))
 |.convert s d x=>do
  match<-P.underlying s,<-P.underlying d with
  |.int _,.int k=>pure (.iv k (<-cA x))|.string,.string=>pure (.kl (<-cA x))|.int _,.string=>pure (.k9 (<-cA x))|.slice e,.string=>match<-P.underlying e with|.int .u8=>pure (.jn (<-cA x))|_=>U
  |.string,.slice e=>match<-P.underlying e with|.int .u8=>pure (.lj (<-cA x))|.int .i32=>pure (.ln (<-cA x))|_=>U
  |_,_=>U
 |.makeInterface t x=>do
  match<-P.underlying t with
  |.interface _=>U|_=>pure (.gN t (<-cA x))
 |.makeFunc fn first g=>do pure (.ia fn (<-cAs first.toList) (<-cAs g.toList))
 |.makeMap _ U=>J .io
 |.makeSlice t l c=>do
  let .slice e<-P.underlying t|U
  let i<-P.info? e
  let R<-Hq P e
  if z R.cH=i.size then pure (.gB R.cH i.size i.bytes (<-cA l) (<-cA c))else U
 |.slice t x lo hi j=>do
  match<-P.underlying t with
  |.string=>match j with|U=>pure (.gt (<-cA x) (<-TL lo) (<-TL hi))|J _=>U
  |.slice e=>pure (.hQ (<-P.info? e).size (<-cA x) (<-TL lo) (<-TL hi) (<-TL j))|.array n e=>pure (.gj n (<-P.info? e).size (<-cA x) (<-TL lo) (<-TL hi) (<-TL j))|.pointer a=>match<-P.underlying a with|.array n e=>pure (.gj n (<-P.info? e).size (<-cA x) (<-TL lo) (<-TL hi) (<-TL j))|_=>U
  |_=>U
 |.fieldAddr t x i=>do
  let .struct fs<-P.underlying t|U
  let f<-fs[i]?
  if(<-P.info? f.type).size=0 then U else pure (.fW f.offset (<-cA x))
 |.field t x i=>do
  let .struct fs<-P.underlying t|U
  let f<-fs[i]?
  pure (.iu (Dv (<-P.underlying f.type)) f.offset (<-P.info? f.type).size (<-cA x))
 |.indexAddr t x i=>do
  match<-P.underlying t with
  |.array n e=>pure (.fY n (<-P.info? e).size (<-cA x) (<-cA i))|.slice e=>pure (.ey (<-P.info? e).size (<-cA x) (<-cA i))|_=>U
 |.index t x i=>do
  match<-P.underlying t with
  |.array n e=>pure (.hX n (Dv (<-P.underlying e)) (<-P.info? e).size (<-cA x) (<-cA i))|.string=>pure (.fa (<-cA x) (<-cA i))|_=>U
 |.lookup t m k ok=>do
  let .map q e<-P.underlying t|U
  match<-P.underlying q with
  |.string=>pure (.gR (<-Hq P e) (<-cA m) (<-cA k) ok)|_=>U
 |.mapUpdate t m k v|.insert t m k v=>do
  let .map q _<-P.underlying t|U
  match<-P.underlying q with
  |.string=>pure (.gT (<-cA m) (<-cA k) (<-cA v))|_=>U
 |.extract x i=>do pure (.hG (<-cA x) i)
 |.call c=>
  match c.callee with
  |.value (.func f)=>do pure (.gM f (<-cAs c.args.toList))
  |.value f=>do pure (.ij (<-cA f) (<-cAs c.args.toList))
  |.invoke N m=>do pure (.gP (<-cA N) m (<-cAs c.args.toList))
  |.builtin .append=>do
   match c.argTypes.toList,c.args.toList with
   |[t,u],[s,x]=>do
    let .slice e<-P.underlying t|U
    let R<-Hq P e
    match<-P.underlying u with
    |.string=>if z R.cH=(<-P.info? e).size/\(<-P.info? e).bytes<=1048576 then pure (.eG eT (<-P.info? e).size (<-P.info? e).bytes (aaV P e eF) (<-cA s) (<-cA x))else U|.slice _=>if z R.cH=(<-P.info? e).size/\(<-P.info? e).bytes<=1048576 then pure (.eG eF (<-P.info? e).size (<-P.info? e).bytes (aaV P e eF) (<-cA s) (<-cA x))else U|_=>U
   |_,_=>U
  |.builtin .len=>do
   match c.argTypes.toList,c.args.toList with
   |t::_,x::_=>do
    match<-P.underlying t with
    |.array n _=>pure (.iz n)|.pointer a=>match<-P.underlying a with|.array n _=>pure (.iz n)|_=>U
    |.string=>pure (.dt 0 (<-cA x))|.slice _=>pure (.dt 1 (<-cA x))|.map _ _=>pure (.dt 2 (<-cA x))|_=>U
   |_,_=>U
  |.builtin .copy=>do
   match c.argTypes.toList,c.args.toList with
   |t::_,[d,s]=>do
    let .slice e<-P.underlying t|U
    pure (.jN (<-P.info? e).size (<-cA d) (<-cA s))
   |_,_=>U
  |.builtin .min=>match c.args.toList with
   |[x,y]=>do pure (.hZ eF (<-cA x) (<-cA y))
   |_=>U
  |.builtin .max=>match c.args.toList with
   |[x,y]=>do pure (.hZ eT (<-cA x) (<-cA y))
   |_=>U
  |_=>U
 |_=>U
def XA.aw:XA->List Nat|.t n=>[n]|_=>[]
def xO:List XA->List Nat|[]=>[]|x::l=>x.aw++xO l
def RJ:Option XA->List Nat|U=>[]|J x=>x.aw
def N9:List (Nat×Nat×XA)->List Nat|[]=>[]|(_,_,x)::l=>x.aw++N9 l
def XI.aw:XI->List Nat|.mv x|.iB x|.ii _ _ x|.ip x|.un _ x|.iv _ x|.kl x|.k9 x|.jn x|.lj x|.ln x|.gN _ x|.fW _ x|.iu _ _ _ x|.hG x _|.dt _ x|.gA _ _ _ x=>x.aw|.gL a b c|.gT a b c|.gO a b c=>a.aw++b.aw++c.aw|.hA _ d|.gw _ _ _ d=>N9 d|.fI _ a b|.e9 _ _ _ a b|.gB _ _ _ a b|.fY _ _ a b|.ey _ a b|.hX _ _ _ a b|.fa a b|.gR _ a b _|.hY _ a b|.eG _ _ _ _ a b|.jN _ a b|.hZ _ a b=>a.aw++b.aw|.ia _ x y=>xO x++xO y|.gt x a b=>x.aw++RJ a++RJ b|.hQ _ x a b c|.gj _ _ x a b c=>x.aw++RJ a++RJ b++RJ c|.gM _ l=>xO l|.ij f l|.gP f _ l=>f.aw++xO l|.eN _ _|.io|.iz _|.gH|.eD=>[]
def XOp.aw(o:XOp):List Nat:=
 o.i.aw++(match o.aS with|J (t,_)=>[t]|U=>[])
def Bq:LA->Bool|[.cV _,.cU _ _,.ep]=>eT|_=>eF
def XI.aq:XI->Bool|.gw d _ _ _=>Bq d|.eN _ _|.iB _|.fI .. |.io|.gB .. |.gT .. |.hY .. |.gO .. |.eG .. |.jN .. |.gM .. |.ij .. |.gP .. |.gA ..=>eT|_=>eF
def XI.dl:XI->Bool|.ii .. |.jn _|.gR .. |.dt .. |.gj ..=>eT|_=>eF
def akP:List (List Nat)->List Oper->Option (List (List Nat))
 |acc,[]=>J acc
 |acc,o::l=>
  let a:=(o.after.toList.filter (Region.binds .any)).map (·.on)
  if a.all (· <z acc)then akP (acc++[(a++a.flatMap λj=>acc.getD j []).eraseDups]) l else U
def clash(x y:XOp):Bool:=
 (match x.aM with|J d=>y.aw.contains d||y.aM==J d|U=>eF)||
 (match y.aM with|J d=>x.aw.contains d|U=>eF)
def aiq(a:List (List Nat))(l:List XOp)(i j:Nat):Bool:=
 match l[i]?,l[j]? with
 |J x,J y=>
  (!(clash x y||(x.i.aq&&y.i.aq))||(a.getD j []).contains i)
 |_,_=>eF
def ahN(a:List (List Nat))(l:List XOp)(j:Nat):Bool:=
 match l[j]? with
 |J {i:=.gA k _ _ _,.. }=>(a.getD j []).contains k|_=>eT
def Ih(a:List (List Nat))(l:List XOp):Bool:=
 (List.range (z l)).all λj=>ahN a l j&&(List.range j).all λi=>aiq a l i j
def Yy(a:List (List Nat))(l:List XOp)(i:Nat):List Nat:=
 (List.range (z l)).filter λc=>(match l[c]? with|J x=>x.i.aq|U=>eF)&&c !=i&& !(a.getD i []).contains c&& !(a.getD c []).contains i
def qW(a:List (List Nat))(l:List XOp):List XOp:=
 l.zipIdx.map λ(o,i)=>if o.i.dl then{o with aT:=Yy a l i}else o
def I8(ops:Array Oper)(o:Oper):Option (Option (Nat×Bool)):=
 match o.guard with
 |U=>J U|J (j,a)=>match(ops[j]?).bind (·.dst)with|J d=>J (J (d,a))|U=>U
def Oz(o:Oper):Option (Nat×TypeId):=
 match o.dst,o.op,o.guard with
 |J d,.alloc e,U=>J (d,e)|_,_,_=>U
def PP(o:Oper):Option (TypeId×Nat×Operand):=
 match o.dst,o.op,o.guard with
 |U,.store t (.tmp d) x,U=>J (t,d,x)|_,_,_=>U
def ajV(d:Nat):Operand->Bool|.tmp t=>t==d|_=>eF
def ag6(ops:Array Oper)(d j:Nat):Bool:=
 match ops[j]? with
 |J o=>o.dst==J d||o.op.operands.toList.any (ajV d)|U=>eF
def ach(k:Nat)(o:Oper):Bool:=
 match o.guard with
 |J (q,_)=>q !=k|U=>eT
def rD(ops:Array Oper)(k:Nat):Option Nat:=
 match(ops[k]?).bind Oz with
 |J (d,e)=>
  if !(ops.toList.all (ach k))then U else
  match(List.range ops.size).filter (λj=>j !=k&&ag6 ops d j)with
  |[j]=>match(ops[j]?).bind PP with|J (t,a,x)=>if k<j&&a==d&&t==e&& !(ajV d x)then J j else U|U=>U
  |_=>U
 |U=>U
def cOp(P:Program)(b:Bool)(ops:Array Oper)(i:Nat)(o:Oper):Option XOp:=do
 let guard<-I8 ops o
 if b&&(rD ops i).isSome then(match o.op with
  |.alloc e=>match Hq P e with|J _=>J {aM:=U,i:=.gH,aS:=guard}|U=>U
  |_=>U)else
 match(if b then(List.range i).find? (λk=>rD ops k==J i)else U)with
 |J k=>match(ops[k]?).bind Oz,PP o with
  |J (d,e),J (_,_,x)=>match Hq P e,P.info? e,cA x with|J f,J inf,J a=>if z f.cH=inf.size then J {aM:=J d,i:=.gA k d inf.size a,aS:=guard}else U|_,_,_=>U
  |_,_=>U
 |U=>J {aM:=o.dst,i:=(cI P o).getD .eD,aS:=guard}
def abh(P:Program)(b:Bool)(ops:Array Oper):Nat->List Oper->Option (List XOp)|_,[]=>J []|i,o::l=>match cOp P b ops i o,abh P b ops (i+1) l with|J a,J c=>J (a::c)|_,_=>U
def adH(P:Program)(ops:Array Oper):Option (List XOp):=do
 let l<-abh P eT ops 0 ops.toList
 let a<-akP [] ops.toList
 if Ih a l then J (qW a l)else U
def xI(l:Nat):Nat:=1000001+2*l
def Ky(l:Nat):Nat:=1000000+2*l
def IE:Code->Option Nat|.goto l=>J l|.seq a b=>(IE a).or (IE b)|.cond _ a b=>(IE a).or (IE b)|.block _ b|.loop b=>IE b|_=>U
def zL(p:Nat->Bool):Code->Bool|.goto l=>p l|.seq a b=>zL p a&&zL p b|.cond _ a b=>zL p a&&zL p b|.block _ b|.loop b|.scope b=>zL p b|.rangeFunc ..=>eF|_=>eT
mutual
def cC(P:Program):Code->XC
 |.skip=>.eI|.label _=>.eI|.region _ ops d=>match(if d then adH P ops else abh P eF ops 0 ops.toList)with|J l=>if d then .eL l else .fe l|U=>.eD
 |.seq a b=>.eK (cC P a) (cC P b)|.cond c a b=>match cA c with|J c=>.eJ c (cC P a) (cC P b)|U=>.eD
 |.block id b=>if id<1000000 then .eE id (cC P b)else .eD|.loop b=>.fp (cC P b)|.scope b=>match IE b with|U=>if zL (λ_=>eF) b then .eV (cC P b)else .eD|J l=>match zL (· ==l) b,cL P b l with|eT,J c=>.eE (Ky l) (.eK (.eE (xI l) (.eK (cC P b) (.dq (Ky l)))) (.fp (.eE (xI l) (.eK c (.dq (Ky l))))))|_,_=>.eD
 |.exit id=>if id<1000000 then .dq id else .eD|.goto l=>.dq (xI l)|.ret=>.ef|_=>.eD
def cL(P:Program):Code->Nat->Option XC
 |.seq a b,l=>match cL P a l with|J d=>J (.eK d (cC P b))|U=>cL P b l
 |.label c,l=>if c==l then J .eI else U|_,_=>U
end
def cR(P:Program):List ResultVar->Option (List XR)|[]=>J []|.tmp t::l=>(cR P l).map (.fX t:: ·)|.cell t a::l=>do pure (.eS t (Dv (<-P.underlying a)) (<-P.info? a).size::(<-cR P l))
def cF(P:Program)(f:FuncId):Option XF:=do
 let fn<-P.funcs[f]?
 let b<-fn.body
 pure {f5:=fn.params.size+fn.nfree,L:=fn.ntmps,Y:=<-cR P fn.results.toList,aE:=cC P b}
structure Ctx where
 P:Program
 np:Bool:=false
 gl:Nat->Option LA
 dF:FuncId->Bool
 fs:FuncId->Option XF
 fg:FuncId->Option (LA->St->Option (AV×St))
def av(C:Ctx)(e:Env):XA->AV|.t n=>e.getD n .dT|.c v=>v|.g n=>.em ((C.gl n).getD [])
def sU(op:BinOp)(k:IntKind)(a b:Int):Option AV:=
 match op with
 |.add=>J (.cU k (k.wrap (a+b)))|.sub=>J (.cU k (k.wrap (a-b)))|.mul=>J (.cU k (k.wrap (a*b)))|.quo=>if b=0 then U else J (.cU k (k.wrap (a.tdiv b)))|.rem=>if b=0 then U else J (.cU k (a.tmod b))|.and=>J (.cU k (k.wrap (BitVec.ofInt k.bits a&&&BitVec.ofInt k.bits b).toNat))|.or=>J (.cU k (k.wrap (BitVec.ofInt k.bits a|||BitVec.ofInt k.bits b).toNat))|.xor=>J (.cU k (k.wrap (BitVec.ofInt k.bits a^^^BitVec.ofInt k.bits b).toNat))|.andNot=>J (.cU k (k.wrap (BitVec.ofInt k.bits a&&& ~~~(BitVec.ofInt k.bits b)).toNat))|.eql=>J (.cX (a==b))|.neq=>J (.cX (a !=b))|.lss=>J (.cX (a<b))|.leq=>J (.cX (a<=b))|.gtr=>J (.cX (a>b))|.geq=>J (.cX (a>=b))|_=>U
def Cf(op:BinOp)(k:IntKind)(a b:Int):Option AV:=
 if b<0 then U else
 let n:=min b.toNat k.bits
 match op with
 |.shl=>J (.cU k (k.wrap (a*2^n)))|.shr=>J (.cU k (a.fdiv (2^n)))|_=>U
def mF:LU->LU->Bool|[],[]=>eT|a::x,b::y=>a==b&&mF x y|_,_=>eF
def sV(op:BinOp)(x y:LU):Option AV:=
 match op with
 |.add=>if((z x+z y:Nat):Int)>9223372036854775807 then U else J (.cV (x++y))|.eql=>J (.cX (mF x y))|.neq=>J (.cX !(mF x y))|.lss=>J (.cX (Op.bytesLess x y))|.leq=>J (.cX (Op.bytesLess x y||mF x y))|.gtr=>J (.cX !(Op.bytesLess x y||mF x y))|.geq=>J (.cX !(Op.bytesLess x y))|_=>U
def kJ:Nat->LA->LA->Option Bool|_,[],[]=>J eT|c,.cV a::x,.cV b::y=>if c%3=0 then(kJ (c/3) x y).map (mF a b&& ·)else U|c,.cX a::x,.cX b::y=>if c%3=1 then(kJ (c/3) x y).map ((a==b)&& ·)else U|c,.cU k a::x,.cU d b::y=>if c%3=2/\k=d then(kJ (c/3) x y).map ((a==b)&& ·)else U|_,_,_=>U
mutual
def diff:AV->AV->Bool|.cX a,.cX b=>a !=b|.cU k a,.cU d b=>!(k==d&&a==b)|.cV a,.cV b=>!mF a b|.sl n l,.sl m c=>n !=m||wE l c|.sl n _,.cY=>n !=0|.cY,.sl n _=>n !=0|.da l,.da c=>wE l c|_,_=>eF
def wE:LA->LA->Bool|a::l,b::m=>diff a b||wE l m|_,_=>eF
end
def isByte:AV->Bool|.cU .u8 _=>eT|_=>eF
def Ot(l:LA):Bool:=l.any λa=>!isByte a
def dI(b:Nat)(a:Bool)(x y:AV):Option Bool:=
 match b with
 |3=>match x,y with|.ev,.ev=>J eT|.ev,.c8 .. |.ev,.em _|.c8 ..,.ev|.em _,.ev=>J eF|.em l,.em m=>if wE l m&&(Ot l&&Ot m)then J eF else U|_,_=>U
 |4=>match x,y with|.ep,.ep=>J eT|.ep,.ea .. |.ea ..,.ep=>J eF|_,_=>U
 |5=>match x,y with|.ej,.ej=>if a then J eT else U|.ej,.eb .. |.eb ..,.ej=>J eF|_,_=>U
 |6=>match x,y with|.eA,.eA=>J eT|.eA,.ec _|.ec _,.eA=>J eF|_,_=>U
 |7=>match x,y with|.cY,.cY=>J eT|.fu,.cY|.dj ..,.cY|.eC ..,.cY=>J eF|.sl n _,.cY=>if 0<n then J eF else U|_,_=>U
 |_=>U
def eqA(d:Nat)(c:Bool)(x y:AV):Option Bool:=
 match d with
 |1=>match x,y with|.cX a,.cX b=>J (a==b)|_,_=>U
 |n+8=>match x,y with|.da a,.da b=>if z a=n%1024 then kJ (n/1024) a b else U|_,_=>U
 |_=>dI d c x y
def xy(op:BinOp)(d:Option Bool):Option AV:=
 match op with
 |.eql=>d.map .cX|.neq=>d.map λd=>.cX !d|_=>U
def binOp(op:BinOp)(d:Nat)(c:Bool)(x y:AV):Option AV:=
 match x,y with
 |.cU k a,.cU e b=>match op with|.shl|.shr=>Cf op k a b|_=>if k=e then sU op k a b else U
 |.cV a,.cV b=>sV op a b|x,y=>xy op (eqA d c x y)
def headB:LA->Bool|.cU .u8 _::.cU r _::_=>eT|_=>eF
def ait(x y:AV):Bool:=match x,y with|.em l,.em m=>!(headB l&&headB m)|_,_=>eF
def Ac(np:Bool)(op:BinOp)(b:Nat)(a:Bool)(x y:AV):Option AV:=match np with|eF=>binOp op b a x y|eT=>match ait x y with|eT=>U|eF=>binOp op b a x y
def unOp(op:UnOp)(x:AV):Option AV:=
 match op,x with
 |.neg,.cU k n=>J (.cU k (k.wrap (0-n)))|.xor,.cU k n=>sU .xor k (if k.signed then-1 else k.max) n|.not,.cX b=>J (.cX !b)|_,_=>U
def splice(l:LA)(off:Nat)(v:LA):LA:=l.take off++v++l.drop (off+z v)
def CW:LA->List (Nat×Nat×AV)->Option LA
 |l,[]=>J l
 |l,(off,b,v)::a=>
  if z v.cH=b/\off+b<=z l then CW (splice l off v.cH) a else U
def rep(d:LA):Nat->LA|0=>[]|n+1=>d++rep d n
def qK:AV->Option Nat|.cU _ n=>if 0<=n then J n.toNat else U|_=>U
def iR(d:Nat):Option AV->Option Nat|U=>J d|J v=>qK v
def pt(agg:Bool)(sz:Nat)(l:LA):Option AV:=
 if agg then(if sz<=z l then J (.da (l.take sz))else U)else l.head?
def iZ(O:St)(sz:Nat):AV->Option (Nat×LA)
 |.cY=>J (0,[])|.fu=>J (0,[])|.sl n l=>if z l=n*sz then J (n,l)else U|.eC n l=>if z l=n*sz then J (n,l)else U|.dj o off n s=>match O[o]? with|J (.cH l _)=>if s=sz/\off+n*sz<=z l then J (n,(l.drop off).take (n*sz))else U|_=>U
 |_=>U
def adF:AV->Option UInt8|.cU .u8 n=>J (UInt8.ofNat n.toNat)|_=>U
def bytesOf:LA->Option LU|[]=>J []|v::l=>match adF v,bytesOf l with|J b,J bs=>J (b::bs)|_,_=>U
def ofBytes(l:LU):LA:=l.map λb=>.cU .u8 b.toNat
def runesL(s:ByteArray):Nat->Nat->List Nat|0,_=>[]|n+1,i=>if i<s.size then(Utf8.decode s i).1::runesL s n (i+(Utf8.decode s i).2)else[]
def runesOf(s:LU):List Nat:=runesL ⟨⟨s⟩⟩ (z s) 0
def xg(l:List Nat):LA:=l.map λn=>.cU .i32 (Int.ofNat n)
def jQ(O:St)(sz:Nat)(a:AV):Option (Nat×LA):=
 match a with
 |.cV s=>if sz=1 then J (z s,ofBytes s)else U|v=>iZ O sz v
def isStr:AV->Bool|.cV _=>eT|_=>eF
def Z8:AV->AV->Option Bool|.cV a,.cV b=>J (mF a b)|_,_=>U
def lZ(k:AV):List (AV×AV)->Nat->Option (Option (Nat×AV))|[],_=>J U|(b,v)::a,i=>match Z8 k b with|J eT=>J (J (i,v))|J eF=>lZ k a (i+1)|U=>U
def tX(O:St)(sz bytes:Nat)(a:Option (TypeId×Bool))(s:AV)(m:Nat)(cs:LA):Option (AV×St):=
 if m=0 then(match s with|.cY|.fu|.sl .. |.eC .. |.dj ..=>J (s,O)|_=>U)else
 match s with
 |.cY=>if m*bytes<=70368744177664/\m<=70368744177664 then J (.dj (z O) 0 m sz,O++[.cH cs ⟨eF,a⟩])else U|.eC n l=>if z l=n*sz/\(n+m)*bytes<=70368744177664/\n+m<=70368744177664 then J (.dj (z O) 0 (n+m) sz,O++[.cH (l++cs) ⟨eF,a⟩])else U
 |.dj o 0 n s=>match O[o]? with
  |J (.cH l b)=>
   if s=sz/\z l=n*sz/\(n+m)*bytes<=70368744177664/\n+m<=70368744177664 then
    J (.dj (z O) 0 (n+m) sz,O.set o .eq++[.cH (l++cs) ⟨b.b,if b.t=a then a else U⟩])
   else if s=sz/\b.b=eF/\n*sz<=z l/\(n+m)*bytes<=70368744177664/\n+m<=70368744177664 then
    J (.dj (z O) 0 (n+m) sz,O.set o .eq++[.cH (l.take (n*sz)++cs) ⟨eF,if b.t=a then a else U⟩])
   else U
  |_=>U
 |_=>U
def bP(O:St)(k:Nat)(x:AV):Option Nat:=
 match k with
 |0=>match x with|.cV s=>J (z s)|_=>U
 |1=>match x with|.cY|.fu=>J 0|.sl n _|.eC n _|.dj _ _ n _=>J n|_=>U
 |_=>match x with
  |.eA=>J 0|.ec d=>match O[d]? with|J (.ec a)=>J (z a)|_=>U
  |_=>U
def mapOf(O:St):AV->Option (List (AV×AV))
 |.eA=>J []|.ec d=>match O[d]? with|J (.ec a)=>J a|_=>U
 |_=>U
def Yz(c:Bool):AV->AV->Option AV|.cU k a,.cU _ b=>J (.cU k (if c then(if b>a then b else a)else(if b<a then b else a)))|_,_=>U
inductive Out where
 |ew (v:AV) (O:St)|fh (f:FuncId) (args:LA) (O:St)
def BX(o:Bool)(n sz:Nat)(l:LA)(O:St):Out:=match o with
 |eT=>match n with|0=>.ew (.eC 0 l) O|m+1=>.ew (.dj (z O) 0 (m+1) sz) (O++[.cH l FZ])
 |eF=>.ew (.eC n l) O
def ah8(P:Program)(t:TypeId)(ptr:Bool):Bool:=
 match P.underlying t with
 |J (.pointer _)=>ptr|J _=>!ptr|U=>eF
def methodOf(P:Program)(t:TypeId)(v:AV)(name:String):Option (FuncId×AV):=
 match P.info? t with
 |J i=>match i.methods.find? (·.name==name)with
  |J m=>if !m.path.isEmpty then U else match m.func with|J (f,p)=>if ah8 P t p then J (f,v)else U|U=>U
  |U=>U
 |U=>U
def Ic(C:Ctx)(f:AV)(args:LA)(O:St):Option Out:=
 match f with
 |.ea (.func f) first b=>J (.fh f (first++args++b) O)
 |.ea (.method name) first _=>match first++args with
  |.eb t v::a=>match methodOf C.P t v name with|J (f,d)=>J (.fh f (d::a) O)|U=>U
  |_=>U
 |.ea (.methodOf t name) first _=>match first++args with
  |v::a=>match C.P.underlying t with|J (.interface _)=>U|_=>match methodOf C.P t v name with|J (f,d)=>J (.fh f (d::a) O)|U=>U
  |_=>U
 |.ea (.via t path f ptr) first _=>match first++args with
  |v::a=>if !path.isEmpty then U else match ah8 C.P t ptr with|eT=>J (.fh f (v::a) O)|eF=>U
  |_=>U
 |_=>U
def aB(C:Ctx)(a:XA->AV)(n0:Nat)(O:St)(i:XI):Option Out:=
 match i with
 |.mv x=>J (.ew (a x) O)|.gL c x y=>match a c with|.cX b=>J (.ew (if b then a x else a y) O)|_=>U
 |.eN R A=>J (.ew (.c8 (z O) 0) (O++[.cH R ⟨eF,A⟩]))|.iB x=>J (.ew (.c8 (z O) 0) (O++[.cH (a x).cH FZ]))|.hA R w=>match CW R (w.map λ(o,s,x)=>(o,s,a x))with|J l=>J (.ew (.da l) O)|U=>U
 |.gw R n e w=>match CW (rep R n) (w.map λ(o,s,x)=>(o,s,a x))with|J l=>if z l=n*e then J (BX (Bq R) n e l O)else U|U=>U
 |.ii ag e x=>match a x with
  |.em l=>(pt ag e l).map (.ew · O)|.c8 o off=>match O[o]? with|J (.cH l _)=>(pt ag e (l.drop off)).map (.ew · O)|_=>U
  |_=>U
 |.fI e p x=>match a p with
  |.c8 o off=>match O[o]? with
   |J (.cH l ⟨eF,t⟩)=>
    let cs:=(a x).cH
    if z cs=e/\off+e<=z l/\cs.all AV.C then J (.ew .dT (O.set o (.cH (splice l off cs) ⟨eF,t⟩)))else U
   |_=>U
  |_=>U
 |.ip x=>match a x with|.c8 o f=>J (.ew (.c8 o f) O)|.em l=>J (.ew (.em l) O)|.eb t v=>J (.ew (.eb t v) O)|.ea (.func f) x y=>J (.ew (.ea (.func f) x y) O)|_=>U
 |.e9 op D u x y=>(Ac C.np op D u (a x) (a y)).map (.ew · O)|.un op x=>(unOp op (a x)).map (.ew · O)|.iv k x=>match a x with|.cU _ n=>J (.ew (.cU k (k.wrap n)) O)|_=>U
 |.kl x=>match a x with|.cV s=>J (.ew (.cV s) O)|_=>U
 |.k9 x=>match a x with|.cU _ n=>J (.ew (.cV (Utf8.encode n).data.toList) O)|_=>U
 |.jn x=>match iZ O 1 (a x)with|J (_,l)=>(bytesOf l).map λs=>.ew (.cV s) O|U=>U
 |.lj x=>match a x with|.cV s=>J (.ew (.sl (z s) (ofBytes s)) O)|_=>U
 |.ln x=>match a x with|.cV s=>if z s<=70368744177664 then J (.ew (.sl (z (runesOf s)) (xg (runesOf s))) O)else U|_=>U
 |.gN t x=>J (.ew (.eb t (a x)) O)|.ia fn first g=>J (.ew (.ea fn (first.map a) (g.map a)) O)
 |.io=>J (.ew (.ec (z O)) (O++[.ec []]))
 |.gB R e bytes l c=>match a l,a c with
  |.cU _ l,.cU _ c=>
   if 0<=l/\l<=c/\c<=9223372036854775807/\bytes*c<=140737488355328 then
    J (.ew (.dj (z O) 0 l.toNat e) (O++[.cH (rep R l.toNat) FZ]))
   else U
  |_,_=>U
 |.gt x lo hi=>match a x with
  |.cV s=>match iR 0 (lo.map a),iR (z s) (hi.map a)with|J l,J h=>if l<=h/\h<=z s then J (.ew (.cV ((s.take h).drop l)) O)else U|_,_=>U
  |_=>U
 |.hQ e x lo hi q=>
  match a x with
  |.cY=>match iR 0 (lo.map a),iR 0 (hi.map a),q with|J 0,J 0,U=>J (.ew .cY O)|_,_,_=>U
  |.eC n l=>match iR 0 (lo.map a),iR n (hi.map a),q with
   |J lo,J hi,U=>
    if lo<=hi/\hi<=n/\z l=n*e then J (.ew (.sl (hi-lo) ((l.take (hi*e)).drop (lo*e))) O)else U
   |_,_,_=>U
  |.sl n l=>match iR 0 (lo.map a),iR n (hi.map a),q with
   |J lo,J hi,U=>
    if lo<=hi/\hi<=n/\z l=n*e then
     J (.ew (.sl (hi-lo) ((l.take (hi*e)).drop (lo*e))) O)
    else U
   |_,_,_=>U
  |.dj o off n s=>match iR 0 (lo.map a),iR n (hi.map a),q with
   |J lo,J hi,U=>
    if lo<=hi/\hi<=n/\s=e then
     J (.ew (if lo=hi/\lo≠0 then .fu else .dj o (off+lo*e) (hi-lo) e) O)
    else U
   |_,_,_=>U
  |_=>U
 |.gj len e x lo hi q=>match a x with
  |.c8 o off=>match O[o]? with
   |J (.cH l _)=>match iR 0 (lo.map a),iR len (hi.map a),q with|J lo,J hi,U=>if lo<=hi/\hi<=len/\off+len*e<=z l then J (.ew (if lo=hi then .fu else .dj o (off+lo*e) (hi-lo) e) O)else U|_,_,_=>U
   |_=>U
  |_=>U
 |.fW off x=>match a x with|.c8 o f=>J (.ew (.c8 o (f+off)) O)|.em l=>if off<=z l then J (.ew (.em (l.drop off)) O)else U|_=>U
 |.iu ag off e x=>match a x with|.da l=>(pt ag e (l.drop off)).map (.ew · O)|_=>U
 |.fY len e x i=>match qK (a i),a x with|J i,.c8 o f=>if i<len then J (.ew (.c8 o (f+i*e)) O)else U|J i,.em l=>if i<len/\i*e<=z l then J (.ew (.em (l.drop (i*e))) O)else U|_,_=>U
 |.ey e x i=>match qK (a i),a x with|J i,.sl n l=>if i<n/\z l=n*e then J (.ew (.em (l.drop (i*e))) O)else U|J i,.eC n l=>if i<n/\z l=n*e then J (.ew (.em (l.drop (i*e))) O)else U|J i,.dj o off n s=>if i<n/\s=e then J (.ew (.c8 o (off+i*e)) O)else U|_,_=>U
 |.hX len ag e x i=>match qK (a i),a x with|J i,.da l=>if i<len then(pt ag e (l.drop (i*e))).map (.ew · O)else U|_,_=>U
 |.fa x i=>match qK (a i),a x with
  |J i,.cV s=>match s[i]? with|J b=>J (.ew (.cU .u8 b.toNat) O)|U=>U
  |_,_=>U
 |.gR R m k ok=>
  match mapOf O (a m)with
  |J j=>match lZ (a k) j 0 with|J (J (_,v))=>J (.ew (if ok then .df [v,.cX eT]else v) O)|J U=>J (.ew (if ok then .df [R,.cX eF]else R) O)|U=>U
  |U=>U
 |.gT m k v=>match a m with
  |.ec N=>match O[N]? with
   |J (.ec j)=>match a k with
    |.cV s=>match lZ (.cV s) j 0 with|J (J (i,_))=>J (.ew .dT (O.set N (.ec (j.set i (.cV s,a v)))))|J U=>J (.ew .dT (O.set N (.ec (j++[(.cV s,a v)]))))|U=>U
    |_=>U
   |_=>U
  |_=>U
 |.hY R m k=>match a m with
  |.ec N=>match O[N]? with
   |J (.ec j)=>match a k with
    |.cV s=>match lZ (.cV s) j 0 with|J (J (i,v))=>J (.ew (.df [v,.cU r i]) O)|J U=>J (.ew (.df [R,.cU r (z j)]) (O.set N (.ec (j++[(.cV s,R)]))))|U=>U
    |_=>U
   |_=>U
  |_=>U
 |.gO m s v=>match a m,qK (a s)with
  |.ec N,J i=>match O[N]? with
   |J (.ec j)=>match j[i]? with|J (k,_)=>J (.ew .dT (O.set N (.ec (j.set i (k,a v)))))|U=>U
   |_=>U
  |_,_=>U
 |.hG x i=>match a x with
  |.df l=>match l[i]? with|J v=>J (.ew v O)|U=>U
  |_=>U
 |.eG str e bytes A s x=>
  match jQ O e (a x)with
  |J (m,cs)=>
   if isStr (a x) !=str|| !cs.all AV.C then U else
   match tX O e bytes A (a s) m cs with
   |J (v,B)=>J (.ew v B)|U=>U
  |U=>U
 |.dt k x=>(bP O k (a x)).map λn=>.ew (.cU r n) O|.iz n=>J (.ew (.cU r n) O)
 |.jN e d s=>
  match jQ O e (a s),a d with
  |J (m,cs),.dj o off n s=>match O[o]? with
   |J (.cH l ⟨eF,t⟩)=>
    let k:=min m n
    if s=e/\off+k*e<=z l/\cs.all AV.C then
     J (.ew (.cU r k) (O.set o (.cH (splice l off (cs.take (k*e))) ⟨eF,t⟩)))
    else U
   |_=>U
  |_,_=>U
 |.hZ q x y=>(Yz q (a x) (a y)).map (.ew · O)|.gM f args=>J (.fh f (args.map a) O)|.ij f args=>Ic C (a f) (args.map a) O
 |.gP x m args=>match a x with
  |.eb t v=>match methodOf C.P t v m with|J (f,N)=>J (.fh f (N::args.map a) O)|U=>U
  |_=>U
 |.gH=>J (.ew .dT O)
 |.gA _ d e x=>
  let cs:=(a x).cH
  if d<n0/\z cs=e/\cs.all AV.C then J (.ew (.c8 (z O) 0) (O++[.cH cs FZ]))else U
 |.eD=>U
def evI(C:Ctx)(e:Env)(O:St)(i:XI):Option Out:=aB C (av C e) (z e) O i
abbrev bH:=FuncId->LA->St->Option (AV×St)
def put(e:Env)(d:Option Nat)(v:AV):Env:=
 match d with
 |J d=>e.set d v|U=>e
def pW(o:XOp)(e:Env):Bool:=
 match o.aS with
 |U=>eT|J (t,b)=>match e[t]? with|J (.cX c)=>c==b|_=>eF
def CB(C:Ctx)(call:bH)(o:XOp)(e:Env)(O:St):Option (AV×St):=
 if pW o e then
  match evI C e O o.i with
  |J (.ew v a)=>J (v,a)|J (.fh f args a)=>call f args a|U=>U
 else J (.dT,O)
def tV(C:Ctx)(call:bH):List XOp->Env->St->Option (Env×St)|[],e,O=>J (e,O)|o::l,e,O=>match CB C call o e O with|J (v,a)=>tV C call l (put e o.aM v) a|U=>U
mutual
def same:AV->AV->Bool|.cX a,.cX b=>a==b|.cU k a,.cU l b=>k==l&&a==b|.cV a,.cV b=>mF a b|.ev,.ev=>eT|.c8 a b,.c8 c d=>a==c&&b==d|.em a,.em b=>xk a b|.cY,.cY=>eT|.fu,.fu=>eT|.sl n a,.sl m b=>n==m&&xk a b|.eC n a,.eC m b=>n==m&&xk a b|.dj a b c d,.dj e g h i=>a==e&&b==g&&c==h&&d==i|.ec a,.ec b=>a==b|.eA,.eA=>eT|.ea f a b,.ea j e g=>f==j&&xk a e&&xk b g|.ep,.ep=>eT|.eb t a,.eb u b=>t==u&&same a b|.ej,.ej=>eT|.da a,.da b=>xk a b|.df a,.df b=>xk a b|_,_=>eF
def xk:LA->LA->Bool|[],[]=>eT|a::x,b::y=>same a b&&xk x y|_,_=>eF
end
def xB(C:Ctx)(call:bH):List XOp->Env->St->Option (Env×St×List (Env×AV)×List St)
 |[],e,O=>J (e,O,[],[O])
 |o::l,e,O=>match CB C call o e O with
  |J (v,b)=>match xB C call l (put e o.aM v) b with|J (c,a,rs,d)=>J (c,a,(e,v)::rs,O::d)|U=>U
  |U=>U
def Lh(C:Ctx)(o:XOp)(e:Env)(v:AV)(ss:List St):List Nat->Bool|[]=>eT|c::l=>(match ss[c]?,ss[c+1]? with|J s,J a=>(match evI C e s o.i,evI C e a o.i with|J (.ew v1 _),J (.ew v2 _)=>same v1 v&&same v2 v|_,_=>eF)|_,_=>eF)&&Lh C o e v ss l
def zA(C:Ctx)(ss:List St):List XOp->List (Env×AV)->Bool|o::l,(e,v)::rs=>(!pW o e||Lh C o e v ss o.aT)&&zA C ss l rs|_,_=>eT
def uh(C:Ctx)(call:bH)(l:List XOp)(e:Env)(O:St):Option (Env×St):=
 match xB C call l e O with
 |J (b,a,rs,c)=>if zA C c l rs then J (b,a)else U|U=>U
inductive XE where
 |dp|dq (id:Nat)|ef
 deriving DecidableEq
def sZ(body:Env->St->Option (XE×Env×St)):Nat->Env->St->Option (XE×Env×St)|0,_,_=>U|n+1,e,O=>match body e O with|J (.dp,b,a)=>sZ body n b a|d=>d
def evC(C:Ctx)(call:bH)(n:Nat):XC->Env->St->Option (XE×Env×St)
 |.eI,e,O=>J (.dp,e,O)|.fe l,e,O=>match tV C call l e O with|J (f,d)=>J (.dp,f,d)|U=>U
 |.eL l,e,O=>match uh C call l e O with|J (f,d)=>J (.dp,f,d)|U=>U
 |.eK a b,e,O=>match evC C call n a e O with|J (.dp,f,d)=>evC C call n b f d|h=>h
 |.eJ c a b,e,O=>match av C e c with|.cX eT=>evC C call n a e O|.cX eF=>evC C call n b e O|_=>U
 |.eE id b,e,O=>match evC C call n b e O with|J (.dq i,f,d)=>J (if i=id then .dp else .dq i,f,d)|h=>h
 |.fp b,e,O=>sZ (evC C call n b) n e O|.dq id,e,O=>J (.dq id,e,O)|.ef,e,O=>J (.ef,e,O)|.eV b,e,O=>evC C call n b e O|.eD,_,_=>U
mutual
def below(n:Nat):AV->Bool|.c8 o _=>o<n|.dj o _ _ _=>o<n|.ec m=>m<n|.ea _ x y=>ae n x&&ae n y|.eb _ v=>below n v|.da l|.df l=>ae n l|.em l=>ae n l|.sl _ l|.eC _ l=>ae n l|_=>eT
def ae(n:Nat):LA->Bool|[]=>eT|v::l=>below n v&&ae n l
end
def AO.below(n:Nat):AO->Bool|.cH l _=>ae n l|.ec a=>ae n (a.map (·.1))&&ae n (a.map (·.2))|.eq=>eT
mutual
def bI(O:St)(d:LA->Option (LA×List Nat)):AV->Option (AV×List Nat)
 |.cY|.fu=>J (.sl 0 [],[])|.eC n l=>match aZ O d l with|J (l,fs)=>J (.sl n l,fs)|U=>U
 |.dj o off m a=>match O[o]? with
  |J (.cH l _)=>
   if off+m*a<=z l then
    match d ((l.drop off).take (m*a))with
    |J (l,fs)=>J (.sl m l,o::fs)|U=>U
   else U
  |_=>U
 |.ea f x y=>match aZ O d x,aZ O d y with|J (x,fs),J (y,b)=>J (.ea f x y,fs++b)|_,_=>U
 |.eb t v=>match bI O d v with|J (v,fs)=>J (.eb t v,fs)|U=>U
 |.da l=>match aZ O d l with|J (l,fs)=>J (.da l,fs)|U=>U
 |.df l=>match aZ O d l with|J (l,fs)=>J (.df l,fs)|U=>U
 |v=>J (v,[])
def aZ(O:St)(d:LA->Option (LA×List Nat)):LA->Option (LA×List Nat)|[]=>J ([],[])|v::l=>match bI O d v,aZ O d l with|J (v,fs),J (l,a)=>J (v::l,fs++a)|_,_=>U
end
def dS(O:St):Nat->LA->Option (LA×List Nat)|0=>λ_=>U|n+1=>aZ O (dS O n)
def freeze(O:St):List Nat->St|[]=>O|o::fs=>match O[o]? with|J (.cH l ⟨eF,t⟩)=>freeze (O.set o (.cH l ⟨eT,t⟩)) fs|_=>freeze O fs
def hand(raw:Bool)(l:LA)(O:St):Option (LA×St):=
 if raw then J (l,O)else
 match dS O 12 l with
 |J (l,fs)=>J (l,freeze O fs)|U=>U
def V9(e:Env)(O:St):List XR->Option LA
 |[]=>J []|.fX t::l=>match V9 e O l with|J vs=>J (e.getD t .dT::vs)|U=>U
 |.eS t ag a::l=>match e.getD t .dT,V9 e O l with
  |.c8 o off,J vs=>match O[o]? with
   |J (.cH c _)=>match pt ag a (c.drop off)with|J v=>J (v::vs)|U=>U
   |_=>U
  |_,_=>U
def bW:LA->AV|[v]=>v|l=>.df l
def tidy(n:Nat)(vs:LA)(O:St):St:=
 if z O=n then O else
 if ae n vs&&(O.take n).all (AO.below n)then O.take n else O
def evF(C:Ctx):Nat->bH
 |0,_,_,_=>U
 |n+1,f,args,O=>
  match C.fg f with
  |J h=>h args O|U=>
  match C.fs f with
  |U=>U
  |J x=>
   match hand (C.dF f) args O with
   |U=>U
   |J (args,b)=>
    if z args>x.L then U else
    match evC C (evF C n) n x.aE (args++List.replicate (x.L-z args) .dT) b with
    |J (.dq _,_,_)=>U|U=>U
    |J (_,e,a)=>
     match V9 e a x.Y with
     |U=>U|J vs=>match hand (C.dF f) vs a with|U=>U|J (vs,c)=>J (bW vs,tidy (z O) vs c)
open Go.RowKit
structure Gh where
 pl:Nat->Bool
 n:Nat
 ob:Nat->Nat
 bs:Nat->Nat
 im:Nat->Nat->Option Value
structure Gh.le(g g':Gh):Prop where
 pl:g'.pl=g.pl
 n:g.n<=g'.n
 ob:∀o,o<g.n->g'.ob o=g.ob o
 bs:∀o,o<g.n->g'.bs o=g.bs o
 im:∀b i v,g.im b i=some v->g'.im b i=some v
def Gh.le.ah(g:Gh):g.le g:=⟨rfl,a06 _,λ_ _=>rfl,λ_ _=>rfl,λ_ _ _ h=>h⟩
def Gh.le.N{a b c:Gh}(h:a.le b)(k:b.le c):a.le c:=
 ⟨k.pl.trans h.pl,aB9 h.n k.n,λo d=>(k.ob o (aC9 d h.n)).trans (h.ob o d),λo d=>(k.bs o (aC9 d h.n)).trans (h.bs o d),
  λb i v hv=>k.im b i v (h.im b i v hv)⟩
mutual
inductive VR(g:Gh):AV->Value->Prop|cX (b:Bool):VR g (.cX b) (.bool b)|cU (k:IntKind) (n:Int):VR g (.cU k n) (.int k n)|cV (s:LU):VR g (.cV s) (.string ⟨⟨s⟩⟩)|ev:VR g .ev (.pointer none)|c8 (o off:Nat):o<g.n->VR g (.c8 o off) (.pointer (some ⟨g.ob o,off,none⟩))|em (l:LA) (b off:Nat):CR g l b off->VR g (.em l) (.pointer (some ⟨b,off,none⟩))|cY:VR g .cY (.slice none 0 0)|fu (a:Addr) (cap:Nat):VR g .fu (.slice (some a) 0 cap)|hD:VR g (.sl 0 []) (.slice none 0 0)|gc (a:Addr) (cap:Nat):VR g (.sl 0 []) (.slice (some a) 0 cap)|sl (n:Nat) (l:LA) (b off cap:Nat):CR g l b off->n<=cap->VR g (.sl n l) (.slice (some ⟨b,off,none⟩) n cap)|eC (n:Nat) (l:LA) (b off:Nat):CR g l b off->VR g (.eC n l) (.slice (some ⟨b,off,none⟩) n n)|dj (o off n sz cap:Nat):o<g.n->n<=cap->off+cap*sz<=g.bs o->VR g (.dj o off n sz) (.slice (some ⟨g.ob o,off,none⟩) n cap)|ec (m:Nat):m<g.n->VR g (.ec m) (.map (some (g.ob m)))|eA:VR g .eA (.map none)|ea (f:Fn) (x y:LA) (x' y':List Value):VRs g x x'->VRs g y y'->VR g (.ea f x y) (.func f ⟨x'⟩ ⟨y'⟩)|ep:VR g .ep .nilFunc|eb (t:TypeId) (v:AV) (v':Value):VR g v v'->VR g (.eb t v) (.iface t v')|ej:VR g .ej .nilIface|da (l:LA) (l':List Value):VRs g l l'->VR g (.da l) (.agg ⟨l'⟩)|df (l:LA) (l':List Value):VRs g l l'->VR g (.df l) (.tuple ⟨l'⟩)
inductive VRs(g:Gh):LA->List Value->Prop|de:VRs g [] []|cW (a:AV) (v:Value) (l:LA) (l':List Value):VR g a v->VRs g l l'->VRs g (a::l) (v::l')
inductive CR(g:Gh):LA->Nat->Nat->Prop|de (b off:Nat):CR g [] b off|cW (a:AV) (v:Value) (l:LA) (b off:Nat):g.im b off=some v->VR g a v->CR g l b (off+1)->CR g (a::l) b off
end
mutual
theorem VR.D{g g':Gh}(h:g.le g'):∀{a:AV} {v:Value},VR g a v->VR g' a v
 |_,_,.cX b=>.cX b|_,_,.cU k n=>.cU k n|_,_,.cV s=>.cV s|_,_,.ev=>.ev|_,_,.c8 o off i=>by grind [VR,Gh.le]
 |_,_,.em l b off c=>.em l b off (c.D h)|_,_,.cY=>.cY|_,_,.fu a cap=>.fu a cap|_,_,.hD=>.hD|_,_,.gc a cap=>.gc a cap|_,_,.sl n l b off cap c e=>.sl n l b off cap (c.D h) e|_,_,.eC n l b off c=>.eC n l b off (c.D h)|_,_,.dj o off n A cap i w hb=>by grind [VR,Gh.le]
 |_,_,.ec m u=>by grind [VR,Gh.le]
 |_,_,.eA=>.eA|_,_,.ea f x y p q a b=>.ea f x y p q (a.D h) (b.D h)|_,_,.ep=>.ep|_,_,.eb t v j a=>.eb t v j (a.D h)|_,_,.ej=>.ej|_,_,.da l d a=>.da l d (a.D h)|_,_,.df l d a=>.df l d (a.D h)
theorem VRs.D{g g':Gh}(h:g.le g'):∀{l:LA} {b:List Value},VRs g l b->VRs g' l b|_,_,.de=>.de|_,_,.cW a v l b x y=>.cW a v l b (x.D h) (y.D h)
theorem CR.D{g g':Gh}(h:g.le g'):∀{l:LA} {b off:Nat},CR g l b off->CR g' l b off|_,_,_,.de b off=>.de b off|_,_,_,.cW a v l b off x y d=>.cW a v l b off (h.im _ _ _ x) (y.D h) (d.D h)
end
theorem VRs.I{g:Gh}:∀{l:LA} {a:List Value},VRs g l a->z a=z l|_,_,.de=>rfl|_,_,.cW _ _ _ _ _ y=>by simp[y.I]
def VRs.b2{g:Gh}:∀{l:LA} {b:List Value},VRs g l b->∀{i:Nat} {a:AV},l[i]?=J a->∃v,b[i]?=J v/\VR g a v
 |_,_,.de,_,_,h=>by simp at h
 |_,_,.cW a v l b x y,0,_,h=>by grind
 |_,_,.cW a v l b x y,i+1,_,h=>by simp at h;simpa using y.b2 h
def VRs.cv{g:Gh}:∀{l:LA} {b:List Value} {m:LA} {c:List Value},VRs g l b->VRs g m c->VRs g (l++m) (b++c)|_,_,_,_,.de,h=>h|_,_,_,_,.cW a v l b x y,h=>.cW a v _ _ x (y.cv h)
def VRs.cj{g:Gh}:∀{l:LA} {b:List Value} (n:Nat),VRs g l b->VRs g (l.take n) (b.take n)
 |_,_,0,_=>by simp;exact .de
 |_,_,_+1,.de=>by simp;exact .de
 |_,_,n+1,.cW a v l b x y=>by simpa using .cW a v _ _ x (y.cj n)
def VRs.ci{g:Gh}:∀{l:LA} {b:List Value} (n:Nat),VRs g l b->VRs g (l.drop n) (b.drop n)
 |_,_,0,h=>by simpa using h
 |_,_,_+1,.de=>by simp;exact .de
 |_,_,n+1,.cW a v l b x y=>by simpa using y.ci n
theorem VRs.bO{g:Gh}:∀{l:LA} {b:List Value},z b=z l->(∀(i:Nat) (a:AV),l[i]?=J a->∃v,b[i]?=J v/\VR g a v)->VRs g l b|[],[],_,_=>.de|a::l,v::b,e,h=>by obtain⟨f,hv,hr⟩:=h 0 a rfl;simp at hv;subst hv;exact .cW a v l b hr (.bO (by simpa using e) λi c d=>by simpa using h (i+1) c (by simpa using d))
def VRs.co{g:Gh}:∀{l:LA} {b:List Value} (i:Nat) {a:AV} {v:Value},VRs g l b->VR g a v->VRs g (l.set i a) (b.set i v)
 |_,_,_,_,_,.de,_=>by simp;exact .de
 |_,_,0,_,_,.cW a v l b x y,h=>by simpa using .cW _ _ _ _ h y
 |_,_,i+1,_,_,.cW a v l b x y,h=>by simpa using .cW _ _ _ _ x (y.co i h)
def VRs.ec{g:Gh}{a:Type}{f:a->AV}{b:a->Value}(h:∀x,VR g (f x) (b x)):∀l:List a,VRs g (l.map f) (l.map b)|[]=>.de|x::l=>.cW _ _ _ _ (h x) (.ec h l)
def CR.b2{g:Gh}:∀{l:LA} {b off:Nat},CR g l b off->∀{i:Nat} {a:AV},l[i]?=J a->∃v,g.im b (off+i)=J v/\VR g a v
 |_,_,_,.de _ _,_,_,h=>by simp at h
 |_,_,_,.cW a v l b off x y f,0,_,h=>by grind
 |_,_,_,.cW a v l b off x y f,i+1,_,h=>by simp at h;obtain⟨d,c,h2⟩:=f.b2 h;grind
theorem CR.bO{g:Gh}:∀{l:LA} {b off:Nat},(∀(i:Nat) (a:AV),l[i]?=J a->∃v,g.im b (off+i)=J v/\VR g a v)->CR g l b off
 |[],b,off,_=>.de b off
 |a::l,b,off,h=>by
  obtain⟨v,hv,hr⟩:=h 0 a rfl;exact .cW a v l b off (by simpa using hv) hr (.bO λi c d=>by
   obtain⟨f,e,h2⟩:=h (i+1) c (by simpa using d);grind)
def CR.ci{g:Gh}{l:LA}{b off:Nat}(h:CR g l b off)(k:Nat):CR g (l.drop k) b (off+k):=
 .bO λi a d=>by rw[List.getElem?_drop]at d;obtain⟨v,e,h2⟩:=h.b2 d;grind
def CR.cj{g:Gh}{l:LA}{b off:Nat}(h:CR g l b off)(k:Nat):CR g (l.take k) b off:=
 .bO λi a c=>by
  rw[aA4]at c;split at c;·exact h.b2 c
  ·cases c
structure ER(g:Gh)(es:List (AV×AV))(ents:Array MapEntry)(clock:Nat):Prop where
 al:ents.size=es.length
 jr:clock=es.length
 lT:∀(i:Nat) (k v:AV),es[i]?=some (k,v)->∃e:MapEntry,ents[i]?=some e/\VR g k e.key/\VR g v e.val/\e.born=i
def avs(e:TypeId)(fr:Nat×Nat)(fz:Fz)(n m:Nat):Prop:=fr=(0,0)/\∀t x,fz.t=J (t,x)->e=t/\(x=eT->n=m)
def OR(g:Gh)(w:World)(o:Nat):AO->Prop
 |.cH l b=>∃c e fr,w.heap[g.ob o]?=J (.cells c e fr)/\c.size=g.bs o/\z l<=c.size/\
  (∀(i:Nat) (x:AV),l[i]?=J x->∃v,c[i]?=J v/\VR g x v)/\avs e fr b c.size (z l)/\
  (∀i v,g.im (g.ob o) i=J v->b.b=eT/\i<z l)
 |.ec d=>∃a clock,w.heap[g.ob o]?=J (.map a clock)/\ER g d a clock|.eq=>True
def AO.cB:AO->Bool|.eq=>eF|_=>eT
def asl{fr:Nat×Nat}(h:fr=(0,0))(n:Nat):∀i,i<n->(decide (fr.1<=i)&&decide (i<fr.2))=eF:=by subst h;simp
def aqB(f:Nat->Option Value):Prop:=∀j n m,f j=J (.int .u8 n)->f (j+1)≠J (.int r m)
structure WR(g:Gh)(w:World)(O:St):Prop where
 n:g.n=O.length
 im:∀b i v,g.im b i=some v->w.cell? ⟨b,i,none⟩=some v
 uf:∀b i v,g.im b i=some v->(g.pl b=false/\aqB (g.im b))\/∃c e fr,w.heap[b]?=some (.cells c e fr)/\(fr=(0,0)\/∃n,v=.int .u8 n)
 bx:∀(o:Nat) (x:AO),O[o]?=some x->OR g w o x
 inj:∀(o o':Nat) (x x':AO),O[o]?=some x->O[o']?=some x'->x.cB=true->x'.cB=true->g.ob o=g.ob o'->o=o'
def ads(g:Gh)(O:St)(b:Nat):Prop:=∀(o:Nat) (x:AO),O[o]?=J x->x.cB=eT->g.ob o≠b
structure Goes(g:Gh)(O:St)(w:World)(g':Gh)(O':St)(w':World):Prop where
 le:g.le g'
 wr:WR g' w' O'
 os:w'.os=w.os
 cO:w'.tape=w.tape
 bX:w'.output=w.output
 al:w.heap.size<=w'.heap.size
 fr:∀b,b<w.heap.size->ads g O b->ads g' O' b/\w'.heap[b]?=w.heap[b]? /\∀i,g'.im b i=g.im b i
def Goes.ah{g:Gh}{O:St}{w:World}(h:WR g w O):Goes g O w g O w:=
 ⟨.ah g,h,rfl,rfl,rfl,a06 _,λ_ _ a=>⟨a,rfl,λ_=>rfl⟩⟩
def Goes.N{a c d:Gh}{s1 s2 s3:St}{e f g:World}(h:Goes a s1 e c s2 f)(k:Goes c s2 f d s3 g):Goes a s1 e d s3 g:=
 ⟨h.le.N k.le,k.wr,k.os.trans h.os,k.cO.trans h.cO,k.bX.trans h.bX,aB9 h.al k.al,λb hb i=>by
  grind [Goes]⟩
def WR.gy{g:Gh}{w:World}{O:St}(h:WR g w O)(n:Nat):WR g {w with drawn:=n} O:=
 ⟨h.n,h.im,h.uf,λo x a=>by have:=h.bx o x a;cases x<;>exact this,h.inj⟩
def Goes.gy{g:Gh}{w:World}{O:St}(h:WR g w O)(n:Nat):Goes g O w g O {w with drawn:=n}:=
 ⟨.ah g,h.gy n,rfl,rfl,rfl,a06 _,λ_ _ a=>⟨a,rfl,λ_=>rfl⟩⟩
theorem addr_add(b o i:Nat):(⟨b,o,U⟩:Addr).add i=⟨b,o+i,U⟩:=by unfold Addr.add;split<;>simp_all
def lt_of_heap{w:World}{b:Nat}{o:Obj}(h:w.heap[b]?=J o):b<w.heap.size:=by grind
theorem cell_of_heap{w:World}{b:Nat}{c:Array Value}{e:TypeId}{fr:Nat×Nat}(h:w.heap[b]?=J (.cells c e fr))(i:Nat):w.cell? ⟨b,i,U⟩=c[i]?:=by simp[World.cell?,h]
def lt_of_cell{w:World}{b i:Nat}{v:Value}(h:w.cell? ⟨b,i,U⟩=J v):b<w.heap.size:=by grind [World.cell?]
theorem yh{w a:World}{b:Nat}(h:a.heap[b]?=w.heap[b]?)(i:Nat):a.cell? ⟨b,i,U⟩=w.cell? ⟨b,i,U⟩:=by unfold World.cell?;simp only[h]
def NY:Array Value->Nat->List Value->Array Value|c,_,[]=>c|c,o,v::d=>NY (c.setIfInBounds o v) (o+1) d
def uS:∀(vs:List Value) (c:Array Value) (o:Nat),(NY c o vs).size=c.size|[],_,_=>rfl|v::d,c,o=>by rw[NY,uS d];simp
def JG:∀(vs:List Value) (c:Array Value) (o:Nat),o+z vs<=c.size->∀i,(NY c o vs)[i]?=if o<=i/\i<o+z vs then vs[i-o]? else c[i]?
 |[],c,o,_,i=>by rw[NY,if_neg (by simp)]
 |v::d,c,o,h,i=>by simp only[a90]at h;rw[NY,JG d _ _ (by simp;omega)];grind
def zu (b:Nat):∀(vs:List Value) (o:Nat) (w:World) (c:Array Value) (e:TypeId) (fr:Nat×Nat),w.heap[b]?=J (.cells c e fr)->
  (w.setCells b o vs).heap[b]?=J (.cells (NY c o vs) e fr)
 |[],_,_,_,_,_,h=>h|v::d,o,w,c,e,fr,h=>by rw[World.setCells,NY];exact zu b d (o+1) _ _ e fr (by simp[World.setCell,aG3,h])
def uN(b:Nat):∀(vs:List Value) (o:Nat) (w:World) (k:Nat),k≠b->(w.setCells b o vs).heap[k]?=w.heap[k]?|[],_,_,_,_=>rfl|v::d,o,w,k,h=>by rw[World.setCells,uN b d _ _ k h];exact Below.heap_setCell w _ v k h
def zF(b:Nat):∀(vs:List Value) (o:Nat) (w:World),(w.setCells b o vs).os=w.os/\(w.setCells b o vs).tape=w.tape/\(w.setCells b o vs).output=w.output/\(w.setCells b o vs).heap.size=w.heap.size|[],_,_=>⟨rfl,rfl,rfl,rfl⟩|v::d,o,w=>by obtain⟨a,h2,h3,h4⟩:=zF b d (o+1) (w.setCell ⟨b,o,U⟩ v);rw[World.setCells];grind [World.setCell]
section
variable{g:Gh}{w:World}{O:St}
def WR.lt(h:WR g w O){o:Nat}{x:AO}(a:O[o]?=J x):o<g.n:=by grind [WR]
def WR.ct(h:WR g w O){b i:Nat}{v:Value}(hv:g.im b i=J v):b<w.heap.size:=lt_of_cell (h.im b i v hv)
def WR.db(h:WR g w O){o:Nat}{x:AO}(b:O[o]?=J x)(a:x.cB=eT):g.ob o<w.heap.size:=by
 have:=h.bx o x b;cases x with
 |cH l f=>obtain⟨c,e,fr,hb,_⟩:=this;exact lt_of_heap hb
 |ec d=>obtain⟨c,e,hb,_⟩:=this;exact lt_of_heap hb
 |eq=>cases a
theorem OR.D {g':Gh} {s:World} {o:Nat} {x:AO} (h:OR g w o x) (f:g.le g') (m:o<g.n) (hb:x.cB=eT->s.heap[g.ob o]?=w.heap[g.ob o]?)
  (p:x.cB=eT->∀i v,g'.im (g.ob o) i=J v->g.im (g.ob o) i=J v):OR g' s o x:=by
 cases x with
 |eq=>trivial
 |cH l y=>
  obtain⟨c,e,fr,n,h2,h3,h4,h5,h6⟩:=h;refine⟨c,e,fr,by rw[f.ob o m,hb rfl];exact n,by rw[f.bs o m];exact h2,h3,λi x t=>?_,h5,λi v hv=>?_⟩;·obtain⟨v,a,b⟩:=h4 i x t;exact⟨v,a,b.D f⟩
  ·rw[f.ob o m]at hv;exact h6 i v (p rfl i v hv)
 |ec u=>obtain⟨j,clock,n,h2,h3,h4⟩:=h;refine⟨j,clock,by rw[f.ob o m,hb rfl];exact n,h2,h3,λi k v q=>?_⟩;obtain⟨e,a,b,c,d⟩:=h4 i k v q;exact⟨e,a,b.D f,c.D f,d⟩
def yX(w:World)(o:Obj):World:={w with heap:=w.heap.push o}
theorem oV(w:World)(o:Obj){k:Nat}(h:k<w.heap.size):(yX w o).heap[k]?=w.heap[k]?:=Below.heap_alloc w o k h
def G6(w:World)(o:Obj):(yX w o).heap[w.heap.size]?=J o:=by show(w.heap.push o)[w.heap.size]?=_;rw[Array.getElem?_push,if_pos rfl]
def Gh.ab(g:Gh)(b s:Nat):Gh:={g with n:=g.n+1,ob:=λo=>if o=g.n then b else g.ob o,bs:=λo=>if o=g.n then s else g.bs o}
def Gh.cd(g:Gh)(b s:Nat):g.le (g.ab b s):=
 ⟨rfl,aI2 _,λo a=>by simp[Gh.ab];omega,λo a=>by simp[Gh.ab];omega,λ_ _ _ h=>h⟩
def Gh.an(g:Gh)(b:Nat)(c:Array Value)(k:Nat):Gh:={g with im:=λa i=>if a=b/\i<k then c[i]? else g.im a i}
def jL{O:St}{x y:AO}{o:Nat}(h:(O++[x])[o]?=J y):(o<z O/\O[o]?=J y)\/(o=z O/\y=x):=by grind
def afL(h:WR g w O)(o:Obj)(x:AO)(s:Nat)(B:OR (g.ab w.heap.size s) (yX w o) g.n x):Goes g O w (g.ab w.heap.size s) (O++[x]) (yX w o):=by
 have d:=g.cd w.heap.size s;refine⟨d,⟨by simp[Gh.ab,h.n],λb i v hv=>?_,λb i v hv=>?_,λk y c=>?_,λk C y D c j e f u=>?_⟩,rfl,rfl,rfl,by simp[yX],λb hb p=>⟨λk y c e=>?_,oV w o hb,λ_=>rfl⟩⟩;·rw[yh (oV w o (h.ct hv))];exact h.im b i v hv
 ·rw[oV w o (h.ct hv)];exact h.uf b i v hv
 ·rcases jL c with⟨_,c⟩|⟨A,rfl⟩;·exact OR.D (h.bx k y c) d (h.lt c) (λe=>oV w o (h.db c e)) (λ_ _ _ hv=>hv)
  grind [h.n]
 ·rcases jL c with⟨a,q⟩|⟨a,t⟩<;>rcases jL j with⟨m,l⟩|⟨m,n⟩;·grind [WR,Gh.le]
  ·exfalso;have:=h.db q e;grind [h.n,Gh.ab]
  ·exfalso;have:=h.db l f;grind [h.n,Gh.ab]
  ·omega
 ·rcases jL c with⟨a,c⟩|⟨a,rfl⟩;·rw[d.ob k (h.lt c)];exact p k y c e
  grind [h.n,Gh.ab]
def Ql(h:WR g w O)(c:Array Value)(e:TypeId)(fr:Nat×Nat)(o:fr=(0,0)\/∀(i:Nat) (v:Value),c[i]?=J v->∃n,v=Value.int .u8 n):Goes g O w (g.an w.heap.size c c.size) O (yX w (.cells c e fr)):=by
 have d:g.le (g.an w.heap.size c c.size):=⟨rfl,a06 _,λ_ _=>rfl,λ_ _=>rfl,λb i v hv=>by
  have:=h.ct hv;simp only[Gh.an];rw[if_neg (by omega)];exact hv⟩
 refine⟨d,⟨h.n,λb i v hv=>?_,λb i v hv=>?_,λk y f=>?_,h.inj⟩,rfl,rfl,rfl,by simp[yX],λb hb p=>⟨p,oV w _ hb,λi=>by simp only[Gh.an];rw[if_neg (by omega)]⟩⟩
 ·simp only[Gh.an]at hv;split at hv;·rename_i hb;rw[hb.1,cell_of_heap (G6 w _)];exact hv
  ·rw[yh (oV w _ (h.ct hv))];exact h.im b i v hv
 ·simp only[Gh.an]at hv;split at hv;·rename_i hb;rw[hb.1,G6];grind
  ·rw[oV w _ (h.ct hv)];have hb:=h.ct hv;exact(h.uf b i v hv).imp (λq=>⟨q.1,λj n m hj a=>q.2 j n m (by simp only[Gh.an]at hj;rwa[if_neg (by omega)]at hj) (by simp only[Gh.an]at a;rwa[if_neg (by omega)]at a)⟩) id
 ·refine OR.D (h.bx k y f) d (h.lt f) (λl=>oV w _ (h.db f l)) (λl i v hv=>?_);have:=h.db f l;simp only[Gh.an]at hv;grind
def ZQ(h:WR g w O)(c:Array Value)(e:TypeId):Goes g O w (g.an w.heap.size c c.size) O (yX w (.cells c e)):=Ql h c e (0,0) (.inl rfl)
def pO{O:St}{x y:AO}{o k:Nat}(h:(O.set o x)[k]?=J y):(k≠o/\O[k]?=J y)\/(k=o/\o<z O/\y=x):=by grind
theorem OR.eO{o i:Nat}{x:AO}{v:Value}(h:OR g w o x)(f:x.cB=eT)(d:w.cell? ⟨g.ob o,i,U⟩=J v):∃c e fr,w.heap[g.ob o]?=J (.cells c e fr)/\(fr=(0,0)\/∃n,v=.int .u8 n):=by
 cases x with
 |eq=>cases f|cH l k=>obtain⟨c,e,fr,a,h2,h3,h4,h5,h6⟩:=h;exact⟨c,e,fr,a,.inl h5.1⟩
 |ec j=>obtain⟨b,clock,a,h2⟩:=h;simp[World.cell?,a]at d
def ZR (h:WR g w O) {o:Nat} {x0:AO} (hx0:O[o]?=J x0) (c:x0.cB=eT) (x:AO) (A:x.cB=eT) (a:World) (s:a.os=w.os) (f:a.tape=w.tape) (j:a.output=w.output) (B:a.heap.size=w.heap.size)
  (d:∀k,k≠g.ob o->a.heap[k]?=w.heap[k]?) (q:∀i v,g.im (g.ob o) i=J v->a.cell? ⟨g.ob o,i,U⟩=J v) (C:OR g a o x):Goes g O w g (O.set o x) a:=by
 refine⟨.ah g,⟨by simp[h.n],λb i v hv=>?_,λb i v hv=>?_,λk y p=>?_,λk F y G p D n u E=>?_⟩,s,f,j,by omega,λb hb t=>⟨λk y p n=>?_,d b (λe=>t o x0 hx0 c e.symm),λ_=>rfl⟩⟩
 ·by_cases hb:b=g.ob o;·subst hb;exact q i v hv
  grind [yh,WR]
 ·by_cases hb:b=g.ob o;·grind [OR.eO]
  ·rw[d b hb];exact h.uf b i v hv
 ·rcases pO p with⟨m,l⟩|⟨rfl,_,rfl⟩;·refine OR.D (h.bx k y l) (.ah g) (h.lt l) (λn=>d _ λe=>m (h.inj k o y x0 l hx0 n c e)) (λ_ _ _ hv=>hv)
  ·exact C
 ·grind [WR]
 ·rcases pO p with⟨m,l⟩|⟨m,_,_⟩;·exact t k y l n
  ·subst m;exact t k x0 hx0 c
def ace(h:WR g w O)(o:Nat):Goes g O w g (O.set o .eq) w:=by
 refine⟨.ah g,⟨by simp[h.n],h.im,h.uf,λk y d=>?_,λk p y q d j a c m=>?_⟩,rfl,rfl,rfl,a06 _,λb hb n=>⟨λk y d a=>?_,rfl,λ_=>rfl⟩⟩
 ·rcases pO d with⟨f,e⟩|⟨_,_,rfl⟩;·exact h.bx k y e
  ·trivial
 ·rcases pO d with⟨f,e⟩|⟨f,_,rfl⟩
  ·rcases pO j with⟨i,l⟩|⟨i,_,rfl⟩;·exact h.inj k p y q e l a c m
   ·cases c
  ·cases a
 ·rcases pO d with⟨f,e⟩|⟨f,_,rfl⟩;·exact n k y e a
  ·cases a
def afK(h:WR g w O){o:Nat}{l:LA}{fz:Fz}(hx0:O[o]?=J (.cH l fz)):∃g',Goes g O w g' (O.set o (.cH l ⟨eT,fz.t⟩)) w/\CR g' l (g.ob o) 0:=by
 obtain⟨c,e,fr,C,h2,h3,h4,h5,h6⟩:=h.bx o _ hx0;have d:g.le (g.an (g.ob o) c (z l)):=⟨rfl,a06 _,λ_ _=>rfl,λ_ _=>rfl,λb i v hv=>by
  grind [Gh.an,cell_of_heap,WR]⟩
 refine⟨g.an (g.ob o) c (z l),⟨d,⟨by rw[a96];exact h.n,λb i v hv=>?_,λb i v hv=>?_,λk y t=>?_,λk I y K t G s E H=>?_⟩,rfl,rfl,rfl,a06 _,λb hb B=>⟨λk y t s=>?_,rfl,λi=>?_⟩⟩,?_⟩;·grind [Gh.an,cell_of_heap,WR]
 ·simp only[Gh.an]at hv;split at hv;·rename_i hb;rw[hb.1,C];exact .inr ⟨_,_,_,rfl,.inl h5.1⟩
  ·rename_i hb;have p:b≠g.ob o:=λp=>by grind
   refine(h.uf b i v hv).imp (λq=>⟨q.1,λj n m hj u=>q.2 j n m ?_ ?_⟩) id;·simp only[Gh.an]at hj;rwa[if_neg (λe=>p e.1)]at hj
   ·simp only[Gh.an]at u;rwa[if_neg (λe=>p e.1)]at u
 ·rcases pO t with⟨A,f⟩|⟨rfl,_,rfl⟩;·refine OR.D (h.bx k y f) d (h.lt f) (λ_=>rfl) (λs i v hv=>?_);simp only[Gh.an]at hv;rw[if_neg (λhb=>A (h.inj k o y _ f hx0 s rfl hb.1))]at hv;exact hv
  ·refine⟨c,e,fr,C,h2,h3,λi x F=>?_,h5,λi v hv=>⟨rfl,?_⟩⟩;·obtain⟨v,a,b⟩:=h4 i x F;exact⟨v,a,b.D d⟩
   grind [Gh.an]
 ·have f:∀(k:Nat) (y:AO),(O.set o (.cH l ⟨eT,fz.t⟩))[k]?=J y->y.cB=eT->∃N,O[k]?=J N/\N.cB=eT:=λk y t s=>by
   rcases pO t with⟨A,f⟩|⟨rfl,_,rfl⟩;·exact⟨y,f,s⟩
   ·exact⟨_,hx0,rfl⟩
  grind [WR,Gh.le]
 ·rcases pO t with⟨A,f⟩|⟨rfl,_,rfl⟩;·exact B k y f s
  ·exact B k _ hx0 rfl
 ·simp only[Gh.an];rw[if_neg (λhb=>B o _ hx0 rfl hb.1.symm)]
 ·refine CR.bO λi a D=>?_;obtain⟨v,hv,hr⟩:=h4 i a D;refine⟨v,?_,hr.D d⟩;simp only[Gh.an,az5];grind
def acf (h:WR g w O) {o:Nat} {l:LA} {fz:Fz} (hx0:O[o]?=J (.cH l fz)) (x:AO) (D:x.cB=eT) (n:World) (E:n.os=w.os) (q:n.tape=w.tape) (B:n.output=w.output) (M:n.heap.size=w.heap.size)
  (m:∀k,k≠g.ob o->n.heap[k]?=w.heap[k]?) (u:∀i v,g.im (g.ob o) i=J v->n.cell? ⟨g.ob o,i,U⟩=J v) (K:OR (g.ab (g.ob o) (g.bs o)) n g.n x):
  Goes g O w (g.ab (g.ob o) (g.bs o)) (O.set o .eq++[x]) n:=by
 have j:=g.cd (g.ob o) (g.bs o);have a:∀(k:Nat) (y:AO),(O.set o .eq++[x])[k]?=J y->y.cB=eT->(k≠o/\O[k]?=J y)\/(k=g.n/\y=x):=λk y s d=>by
  rcases jL s with⟨_,c⟩|⟨f,c⟩
  ·rcases pO c with⟨f,c⟩|⟨_,_,rfl⟩;·exact .inl ⟨f,c⟩
   ·cases d
  grind [h.n]
 refine⟨j,⟨by simp[Gh.ab,h.n],λb i v hv=>?_,λb i v hv=>?_,λk y s=>?_,λk I y L s H d A t=>?_⟩,E,q,B,by omega,λb hb F=>⟨λk y s d=>?_,m b (λe=>F o _ hx0 rfl e.symm),λ_=>rfl⟩⟩
 ·by_cases hb:b=g.ob o;·subst hb;exact u i v hv
  ·rw[yh (m b hb)];exact h.im b i v hv
 ·by_cases hb:b=g.ob o;·subst hb;have G:=OR.eO (g:=g.ab (g.ob o) (g.bs o)) (o:=g.n) (i:=i) (v:=v) K D (by simpa[Gh.ab]using u i v hv);exact .inr (by simpa[Gh.ab]using G)
  ·rw[m b hb];exact h.uf b i v hv
 ·by_cases d:y.cB=eT
  ·rcases a k y s d with⟨f,c⟩|⟨rfl,rfl⟩;·exact OR.D (h.bx k y c) j (h.lt c) (λd=>m _ λe=>f (h.inj k o y _ c hx0 d rfl e)) (λ_ _ _ hv=>hv)
   ·exact K
  ·cases y<;>simp[AO.cB]at d;trivial
 ·rcases a k y s d with⟨f,c⟩|⟨f,_⟩<;>rcases a I L H A with⟨p,C⟩|⟨p,_⟩;·grind [WR,Gh.le]
  ·exfalso;rw[j.ob k (h.lt c),p]at t;simp[Gh.ab]at t;exact f (h.inj k o y _ c hx0 d rfl t)
  ·exfalso;rw[j.ob I (h.lt C),f]at t;simp[Gh.ab]at t;exact p (h.inj I o L _ C hx0 A rfl t.symm)
  ·omega
 ·rcases a k y s d with⟨f,c⟩|⟨f,_⟩;·rw[j.ob k (h.lt c)];exact F k y c d
  ·rw[f];simp[Gh.ab];exact F o _ hx0 rfl
def Gh.aP(g:Gh)(n:Nat):Gh:={g with n:=n}
mutual
def VR.aP{g:Gh}{n:Nat}:∀{a:AV} {v:Value},VR g a v->below n a=eT->VR (g.aP n) a v
 |_,_,.cX b,_=>.cX b|_,_,.cU k n,_=>.cU k n|_,_,.cV s,_=>.cV s|_,_,.ev,_=>.ev|_,_,.c8 o off j,h=>.c8 (g:=g.aP n) o off (by simpa[below,Gh.aP]using h)|_,_,.em l b off c,h=>.em l b off (c.aP (by simpa[below]using h))|_,_,.cY,_=>.cY|_,_,.fu a cap,_=>.fu a cap|_,_,.hD,_=>.hD|_,_,.gc a cap,_=>.gc a cap|_,_,.sl n l b off cap c e,h=>.sl n l b off cap (c.aP (by simpa[below]using h)) e|_,_,.eC n l b off c,h=>.eC n l b off (c.aP (by simpa[below]using h))|_,_,.dj o off p q cap j i hb,h=>.dj (g:=g.aP n) o off p q cap (by simpa[below,Gh.aP]using h) i hb|_,_,.ec m B,h=>.ec (g:=g.aP n) m (by simpa[below,Gh.aP]using h)|_,_,.eA,_=>.eA|_,_,.ea f x y w A a b,h=>by simp only[below,a01]at h;exact .ea f x y w A (a.aP h.1) (b.aP h.2)
 |_,_,.ep,_=>.ep|_,_,.eb t v u a,h=>.eb t v u (a.aP (by simpa[below]using h))|_,_,.ej,_=>.ej|_,_,.da l d a,h=>.da l d (a.aP (by simpa[below]using h))|_,_,.df l d a,h=>.df l d (a.aP (by simpa[below]using h))
def VRs.aP{g:Gh}{n:Nat}:∀{l:LA} {b:List Value},VRs g l b->ae n l=eT->VRs (g.aP n) l b|_,_,.de,_=>.de|_,_,.cW a v l b x y,h=>by simp only[ae,a01]at h;exact .cW a v l b (x.aP h.1) (y.aP h.2)
def CR.aP{g:Gh}{n:Nat}:∀{l:LA} {b off:Nat},CR g l b off->ae n l=eT->CR (g.aP n) l b off|_,_,_,.de b off,_=>.de b off|_,_,_,.cW a v l b off x y d,h=>by simp only[ae,a01]at h;exact .cW a v l b off x (y.aP h.1) (d.aP h.2)
end
def Gj{n:Nat}:∀{l:LA} {i:Nat} {a:AV},ae n l=eT->l[i]?=J a->below n a=eT
 |[],_,_,_,h=>by simp at h
 |x::l,0,a,hb,h=>by simp at h;subst h;simp only[ae,a01]at hb;exact hb.1
 |x::l,i+1,a,hb,h=>by simp at h;simp only[ae,a01]at hb;exact Gj hb.2 h
def anH{t:Gh}{O0:St}{H:World}(j:Goes t O0 H g O w)(E:t.n=z O0)(s:(O.take (z O0)).all (AO.below (z O0))=eT):Goes t O0 H (g.aP (z O0)) (O.take (z O0)) w:=by
 have h:=j.wr;have S:z O0<=z O:=by rw[<-E,<-h.n];exact j.le.n
 have f:∀(k:Nat) (y:AO),(O.take (z O0))[k]?=J y->k<z O0/\O[k]?=J y:=λk y p=>by grind
 refine⟨⟨j.le.pl,by simp[Gh.aP,E],λo C=>j.le.ob o C,λo C=>j.le.bs o C,j.le.im⟩,⟨by simp[Gh.aP];omega,h.im,h.uf,λk y p=>?_,λk G y I p D A B L=>?_⟩,j.os,j.cO,j.bX,j.al,λb hb M=>?_⟩
 ·obtain⟨R,N⟩:=f k y p;have m:y.below (z O0)=eT:=a97.1 s y (a08 p);have:=h.bx k y N;cases y with
  |eq=>trivial|cH l Q=>obtain⟨c,e,fr,u,h2,h3,h4,h5,h6⟩:=this;refine⟨c,e,fr,u,h2,h3,λi x F=>?_,h5,h6⟩;obtain⟨v,a,b⟩:=h4 i x F;exact⟨v,a,b.aP (Gj m F)⟩
  |ec P=>obtain⟨q,clock,u,h2,h3,h4⟩:=this;simp only[AO.below,a01]at m;refine⟨q,clock,u,h2,h3,λi k v n=>?_⟩;obtain⟨e,a,b,c,d⟩:=h4 i k v n;exact⟨e,a,b.aP (Gj m.1 (i:=i) (by simp[n])),c.aP (Gj m.2 (i:=i) (by simp[n])),d⟩
 ·exact h.inj k G y I (f k y p).2 (f G I D).2 A B L
 ·obtain⟨a,K,c⟩:=j.fr b hb M;exact⟨λk y p A=>a k y (f k y p).2 A,K,c⟩
end
def Gg(P:Program)(o:Oper)(ρ:Operand->Value)(g:Gh)(O:St)(w:World):Out->Prop|.ew v b=>∃c d,Goes g O w d b c/\((∃e,(execOp ρ o).run P w=.ok (.value e) c/\VR d v e)\/(v=.dT/\(execOp ρ o).run P w=.ok .skip c))|.fh f args b=>b=O/\∃a:List Value,VRs g args a/\(execOp ρ o).run P w=(callFunc f ⟨a⟩).run P w
mutual
def sJ(g:Gh):∀(v:Value) (a:AV),gJ v=J a->VR g a v
 |.bool b,a,h=>by grind [gJ,VR]
 |.int k n,a,h=>by grind [gJ,VR]
 |.string s,a,h=>by simp[gJ]at h;subst h;exact .cV _
 |.pointer U,a,h=>by simp[gJ]at h;subst h;exact .ev
 |.pointer (J _),a,h=>by simp[gJ]at h
 |.slice U 0 0,a,h=>by simp[gJ]at h;subst h;exact .cY
 |.slice U (_+1) _,a,h=>by simp[gJ]at h
 |.slice U 0 (_+1),a,h=>by simp[gJ]at h
 |.slice (J _) _ _,a,h=>by simp[gJ]at h
 |.map U,a,h=>by grind [gJ,VR]
 |.map (J _),a,h=>by simp[gJ]at h
 |.func (.func f) ⟨[]⟩ ⟨[]⟩,a,h=>by simp[gJ]at h;subst h;exact .ea _ _ _ _ _ .de .de
 |.func (.func f) ⟨_::_⟩ _,a,h=>by simp[gJ]at h
 |.func (.func f) ⟨[]⟩ ⟨_::_⟩,a,h=>by simp[gJ]at h
 |.func (.method _) _ _,a,h=>by simp[gJ]at h
 |.func (.methodOf ..) _ _,a,h=>by simp[gJ]at h
 |.func (.via ..) _ _,a,h=>by simp[gJ]at h
 |.func (.yield _) _ _,a,h=>by simp[gJ]at h
 |.nilFunc,a,h=>by grind [gJ,VR]
 |.nilIface,a,h=>by grind [gJ,VR]
 |.agg ⟨l⟩,a,h=>by simp only[gJ,ay4]at h;obtain⟨c,d,rfl⟩:=h;exact .da _ _ (UY g l c d)
 |.tuple ⟨[]⟩,a,h=>by simp[gJ]at h;subst h;exact .df _ _ .de
 |.tuple ⟨_::_⟩,a,h=>by simp[gJ]at h
 |.float ..,a,h=>by simp[gJ]at h
 |.complex ..,a,h=>by simp[gJ]at h
 |.chan _,a,h=>by simp[gJ]at h
 |.iface ..,a,h=>by simp[gJ]at h
def UY(g:Gh):∀(l:List Value) (azs:LA),NP l=J azs->VRs g azs l
 |[],azs,h=>by simp[NP]at h;subst h;exact .de
 |v::l,azs,h=>by
  simp only[NP]at h;split at h;·rename_i a b c h2;simp at h;subst h;exact .cW _ _ _ _ (sJ g v a c) (UY g l b h2)
  ·cases h
end
def VR.cH{g:Gh}{a:AV}{v:Value}(h:VR g a v):VRs g a.cH v.cells.toList:=by cases h<;>first|assumption|exact .cW _ _ _ _ (by constructor<;>assumption) .de
def VR.bA{g:Gh}{a:AV}{v:Value}(h:VR g a v):v.cells.size=z a.cH:=by have:=h.cH.I;simpa using this
def VR.eo{g:Gh}{a:AV}{v:Value}(h:VR g a v)(hf:a.C=eT):v.oneCell'=eT:=by cases h<;>first|rfl|(simp[AV.C]at hf)
def VRs.eo{g:Gh}:∀{l:LA} {c:List Value},VRs g l c->l.all AV.C=eT->∀v∈c,v.oneCell'=eT
 |_,_,.de,_=>by simp
 |_,_,.cW a v l c x y,h=>by
  simp only[a07,a01]at h;intro u b;simp at b;rcases b with rfl|b;·exact x.eo h.1
  ·exact y.eo h.2 u b
def Cells(g:Gh)(w:World)(l:LA)(b off:Nat):Prop:=∃vs,VRs g l vs/\∀(j:Nat) (v:Value),vs[j]?=J v->w.cell? ⟨b,off+j,U⟩=J v
def CR.cH{g:Gh}{w:World}{O:St}(d:WR g w O):∀{l:LA} {b off:Nat},CR g l b off->Cells g w l b off
 |_,_,_,.de b off=>⟨[],.de,by simp⟩
 |_,_,_,.cW a v l b off x y f=>by
  obtain⟨vs,e,h2⟩:=CR.cH d f;refine⟨v::vs,.cW _ _ _ _ y e,λj u c=>?_⟩;cases j with
  |zero=>simp at c;subst c;simpa using d.im _ _ _ x|succ j=>grind
def Cells.cj{g:Gh}{w:World}{l:LA}{b off:Nat}(h:Cells g w l b off)(k:Nat):Cells g w (l.take k) b off:=by obtain⟨vs,a,h2⟩:=h;refine⟨vs.take k,a.cj k,λj v hv=>?_⟩;grind
def Cells.ci{g:Gh}{w:World}{l:LA}{b off:Nat}(h:Cells g w l b off)(k:Nat):Cells g w (l.drop k) b (off+k):=by obtain⟨vs,a,h2⟩:=h;refine⟨vs.drop k,a.ci k,λj v hv=>?_⟩;grind
def OR.cH{g:Gh}{w:World}{o:Nat}{l:LA}{fz:Fz}(h:OR g w o (.cH l fz)):Cells g w l (g.ob o) 0:=by
 obtain⟨c,e,fr,b,h2,h3,h4,h5,h6⟩:=h;refine⟨c.toList.take (z l),VRs.bO (by simp;omega) λi a d=>?_,λj v hv=>?_⟩;·grind
 ·rw[aA4]at hv;split at hv;·rw[az5,cell_of_heap b];simpa using hv
  ·cases hv
def Cells.cm{g:Gh}{w:World}{l:LA}{b off:Nat}(h:Cells g w l b off)(P:Program):∃vs,VRs g l vs/\(loadCells ⟨b,off,U⟩ (z l)).run P w=.ok ⟨vs⟩ w:=by obtain⟨vs,a,h2⟩:=h;grind [a.I,run_loadCells_list,addr_add]
def FQ{P:Program}{t:TypeId}{u:TypeDesc}(h:P.underlying t=J u)(w:World):(isAgg t).run P w=.ok (Dv u) w:=by cases u<;>simp[isAgg,Dv,run_underlying h]
def run_sizeOf{P:Program}{t:TypeId}{i:TypeInfo}(h:P.info? t=J i)(w:World):(sizeOf t).run P w=.ok i.size w:=by simp[sizeOf,typeInfo,h]
def Hf{P:Program}{t:TypeId}{i:TypeInfo}{d:Value}(h:P.info? t=J i)(a:i.zero=J d)(w:World):(zeroValue t).run P w=.ok d w:=by simp[zeroValue,typeInfo,h,a]
def aa1 {P:Program} {g:Gh} {w:World} {l:LA} {b off:Nat} (h:Cells g w l b off) {t:TypeId} {u:TypeDesc} {i:TypeInfo} (e:P.underlying t=J u) (hi:P.info? t=J i) {v:AV} (hv:pt (Dv u) i.size l=J v):
  ∃v',(loadVar t ⟨b,off,U⟩).run P w=.ok v' w/\VR g v v':=by
 unfold pt at hv;split at hv
 ·rename_i d;split at hv;·rename_i f;simp at hv;subst hv;obtain⟨vs,c,h2⟩:=(h.cj i.size).cm P;refine⟨.agg ⟨vs⟩,?_,.da _ _ c⟩;rw[aB1,aF7 f]at h2;simp[loadVar,FQ e,d,run_sizeOf hi,h2]
  ·cases hv
 ·rename_i d;cases l with
  |nil=>simp at hv
  |cons a l=>
   simp at hv;subst hv;obtain⟨vs,c,h2⟩:=h;cases c with
   |cW _ v' _ j x y=>refine⟨v',?_,x⟩;have:=h2 0 v' rfl;simp[loadVar,FQ e,d,run_load,show w.cell? ⟨b,off,U⟩=J v' from by simpa using this]
def aak {P:Program} {g:Gh} (w:World) {l:LA} {c:List Value} (h:VRs g l c) {t:TypeId} {u:TypeDesc} {i:TypeInfo} (e:P.underlying t=J u) (hi:P.info? t=J i) (off:Nat) {v:AV} (hv:pt (Dv u) i.size (l.drop off)=J v):
  ∃v',(part t ⟨c⟩ off).run P w=.ok v' w/\VR g v v':=by
 unfold pt at hv;have b:=h.ci off;split at hv
 ·rename_i d;split at hv;·rename_i j;simp at hv;subst hv;refine⟨.agg ⟨(c.drop off).take i.size⟩,?_,.da _ _ (b.cj i.size)⟩;simp[part,FQ e,d,run_sizeOf hi]
  ·cases hv
 ·rename_i d;generalize j:l.drop off=l1 at hv b;cases l1 with
  |nil=>simp at hv
  |cons a l1=>
   simp at hv;subst hv;generalize f:c.drop off=k at b;cases b with
   |cW _ v' _ m x y=>
    refine⟨v',?_,x⟩;have:c[off]?=J v':=by have:=congrArg (λq:List Value=>q[0]?) f;simpa using this
    simp[part,FQ e,d,this]
section
variable{P:Program}{g:Gh}{w:World}{O:St}
theorem vk:∀a b:LU,mF a b=(a==b)|[],[]=>rfl|[],_::_=>rfl|_::_,[]=>rfl|a::x,b::y=>by simp[mF,vk x y]
def toList_mk(s:LU):(⟨⟨s⟩⟩:ByteArray).toList=s:=by rw[Lib.toList_data]
def size_mk(s:LU):(⟨⟨s⟩⟩:ByteArray).size=z s:=rfl
def amf(op:BinOp)(a b:LU){v:AV}(h:sV op a b=J v):∃v',(Op.stringOp op ⟨⟨a⟩⟩ ⟨⟨b⟩⟩).run P w=.ok v' w/\VR g v v':=by
 cases op<;>simp only[sV]at h<;>simp only[Op.stringOp,toList_mk,vk]at h⊢<;>first|(cases h;done)|skip
 case add=>
  split at h;·cases h
  ·rename_i hs;cases h;refine⟨.string ⟨⟨a++b⟩⟩,?_,.cV _⟩;rw[if_neg (by simpa[IntKind.max,IntKind.signed,IntKind.bits,size_mk]using hs)];simp;apply ByteArray.ext;simp
 all_goals
  cases h;exact⟨_,rfl,.cX _⟩
def aln(op:BinOp)(k:IntKind)(a b:Int){v:AV}(h:sU op k a b=J v)(t:TypeId):∃v',(Go.binOp op t (.int k a) (.int k b)).run P w=.ok v' w/\VR g v v':=by
 cases op<;>simp only[sU]at h<;>first
  |(cases h;done)|(cases h;exact⟨_,by simp[Go.binOp,Op.intArith,Op.intBits,Op.intCmp];rfl,by constructor⟩)|(cases h;exact⟨_,by simp only[Go.binOp,ne_eq,not_true,if_false];rfl,by constructor⟩)
  | (split at h
     ·cases h
     ·rename_i hb;cases h;exact⟨_,by simp[Go.binOp,Op.intDiv,hb];rfl,by constructor⟩)
def agO(op:BinOp)(k d:IntKind)(a b:Int){v:AV}(h:Cf op k a b=J v)(t:TypeId)(c:op=.shl\/op=.shr):∃v',(Go.binOp op t (.int k a) (.int d b)).run P w=.ok v' w/\VR g v v':=by
 unfold Cf at h;split at h;·cases h
 ·rename_i hb;rcases c with rfl|rfl<;>(simp at h;subst h;exact⟨_,by simp[Go.binOp,Op.shift,hb];rfl,by constructor⟩)
def ac1 {c:List Value} {j:List Value}:∀(fs:List Field) (i q:Nat) {x y:LA} {b:Bool},ac8 P i fs=J q->kJ q x y=J b->z fs=z x->VRs g x (c.drop i)->VRs g y (j.drop i)->∀d w,
  (Op.eqFields (d+1) ⟨c⟩ ⟨j⟩ fs).run P w=.ok b w
 |[],i,q,x,y,b,_,e,A,l,n,d,w=>by
  cases x with
  |nil=>cases y with|nil=>simp[kJ]at e;subst e;simp[Op.eqFields]|cons _ _=>simp[kJ]at e
  |cons _ _=>simp at A
 |f::fs,i,q,x,y,b,hf,e,A,l,n,d,w=>by
  rw[ac8]at hf;by_cases t:(f.name != "_"&&f.offset==i)=eT
  case neg=>rw[if_neg t]at hf;cases hf
  rw[if_pos t]at hf;simp only[a01,bne_iff_ne,ne_eq,beq_iff_eq]at t;obtain⟨Q,h2⟩:=t;cases x with
  |nil=>simp at A
  |cons a x=>
   cases y with
   |nil=>cases a<;>simp[kJ]at e
   |cons a' y=>
    generalize L:c.drop i=ci at l;generalize p:j.drop i=O at n;cases l with
    |cW _ v _ cr Z l=>
     cases n with
     |cW _ B _ C K n=>
      have e1:c[i]?=J v:=by have:=congrArg (λdx:List Value=>dx[0]?) L;simpa using this
      have D:j[i]?=J B:=by have:=congrArg (λdx:List Value=>dx[0]?) p;simpa using this
      have e2:c.drop (i+1)=cr:=by rw[<-aG4,L];rfl
      have E:j.drop (i+1)=C:=by rw[<-aG4,p];rfl
      rw[<-e2]at l;rw[<-E]at n;have X:∀(u:TypeDesc),P.underlying f.type=J u->Dv u=eF->(part f.type ⟨c⟩ f.offset).run P w=.ok v w:=λu h k=>by simp[part,FQ h,k,h2,e1]
      have Y:∀(u:TypeDesc),P.underlying f.type=J u->Dv u=eF->(part f.type ⟨j⟩ f.offset).run P w=.ok B w:=λu h k=>by simp[part,FQ h,k,h2,D]
      have F:z fs=z x:=(by simpa using A);cases h:P.underlying f.type with
      |none=>rw[h]at hf;cases hf
      |some u=>
       rw[h]at hf;cases G:ac8 P (i+1) fs with
       |none=>rw[G]at hf;cases u<;>cases hf
       |some o=>
        rw[G]at hf;have step:∀dv I:Bool,(Op.equalIn (d+1) f.type v B).run P w=.ok dv w->kJ o x y=J I->Dv u=eF->(Op.eqFields (d+1) ⟨c⟩ ⟨j⟩ (f::fs)).run P w=.ok (dv&&I) w:=λdv I hr H k=>by
         have S:=ac1 fs (i+1) o G H F l n d w;rw[Op.eqFields];simp only[ne_eq,Q,not_false_eq_true,if_true,Sem.run_bind,X u h k,Y u h k,hr,Result.andThen_ok];cases dv;·simp
         ·simp[S]
        have done:∀(dx:Bool) (m:Nat),m<3->(if(3*o+m)%3=m then(kJ ((3*o+m)/3) x y).map (dx&& ·)else U)=J b->(Op.equalIn (d+1) f.type v B).run P w=.ok dx w->Dv u=eF->(Op.eqFields (d+1) ⟨c⟩ ⟨j⟩ (f::fs)).run P w=.ok b w:=λdx m hm e hr k=>by rw[if_pos (by omega),show(3*o+m)/3=o from by omega]at e;grind [ay4]
        cases u<;>simp only[a05,reduceCtorEq]at hf;all_goals (subst hf;cases Z<;>first|(simp[kJ]at e;done)|skip)
        all_goals cases K<;>first|(simp[kJ]at e;done)|skip
        all_goals first
         |(rename_i s N;simp only[kJ]at e;exact done _ 0 (by omega) e (by rw[run_equalIn_string w d f.type _ _ h,toList_mk,toList_mk,vk]) rfl)|(rename_i s N;simp only[kJ]at e;exact done _ 1 (by omega) e (run_equalIn_bool w d f.type s N h) rfl)|(simp only[kJ]at e;split at e; · omega; · cases e)|skip
        rename_i T M n1 V W;simp only[kJ]at e;by_cases R:M=V;·subst R;simp only[and_true]at e;exact done _ 2 (by omega) e (run_equalIn_int w d f.type M T n1 W h) rfl
        grind
def ac0 (t:TypeId):∀{k:Nat},I9 P t=k->match k with|1=>P.underlying t=J .bool|n+8=>∃fs,P.underlying t=J (.struct fs)/\ac8 P 0 fs.toList=J (n/1024)/\P.stoodInHeld t=eF/\P.eqGuardType P.depth t=eF/\fs.size=n%1024|3=>∃e i,P.underlying t=J (.pointer e)/\P.info? e=J i/\i.size≠0|4=>∃a b c,P.underlying t=J (.func a b c)|5=>∃m,P.underlying t=J (.interface m)|6=>∃a b,P.underlying t=J (.map a b)|7=>∃e,P.underlying t=J (.slice e)|_=>True:=by intro k h;subst h;unfold I9;grind
mutual
theorem Zo:∀{a e:AV} {v:Value},VR g a v->VR g e v->diff a e=eF
 |.cX a,e,v,h,d=>by cases h;cases d;simp[diff]
 |.cU k a,e,v,h,d=>by cases h;cases d;simp[diff]
 |.cV a,e,v,h,d=>by cases h;cases d;simp[diff,vk]
 |.sl n l,e,v,h,d=>by
  cases h with
  |hD=>cases d<;>simp[diff,wE]|gc a cap=>cases d<;>simp[diff,wE]
  |sl _ _ b off cap c q=>
   cases d with
   |fu=>simp[diff]|gc=>cases l<;>simp[diff,wE]|sl _ p _ _ _ f i=>simp[diff];exact Nj c f|eC=>simp[diff]|dj=>simp[diff]
 |.da l,e,v,h,d=>by
  cases h with
  |da _ p j=>cases d with|da m _ o=>simp[diff];exact TS j o
 |.ev,e,v,h,d=>by simp[diff]
 |.c8 _ _,e,v,h,d=>by simp[diff]
 |.em _,e,v,h,d=>by simp[diff]
 |.cY,e,v,h,d=>by cases h;cases d<;>simp[diff]
 |.fu,e,v,h,d=>by simp[diff]
 |.eC _ _,e,v,h,d=>by simp[diff]
 |.dj _ _ _ _,e,v,h,d=>by simp[diff]
 |.ec _,e,v,h,d=>by simp[diff]
 |.eA,e,v,h,d=>by simp[diff]
 |.ea _ _ _,e,v,h,d=>by simp[diff]
 |.ep,e,v,h,d=>by simp[diff]
 |.eb _ _,e,v,h,d=>by simp[diff]
 |.ej,e,v,h,d=>by simp[diff]
 |.df _,e,v,h,d=>by simp[diff]
theorem Nj:∀{l m:LA} {b off:Nat},CR g l b off->CR g m b off->wE l m=eF
 |[],_,_,_,_,_=>by simp[wE]
 |_::_,[],_,_,_,_=>by simp[wE]
 |a::l,i::m,b,off,h,d=>by
  cases h with
  |cW _ v _ _ _ x y q=>cases d with|cW _ j _ _ _ c e f=>rw[x]at c;cases c;simp only[wE,aE2];exact⟨Zo y e,Nj q f⟩
theorem TS:∀{l m:LA} {vs:List Value},VRs g l vs->VRs g m vs->wE l m=eF
 |[],_,_,_,_=>by simp[wE]
 |_::_,[],_,_,_=>by simp[wE]
 |a::l,e::m,_,h,b=>by
  cases h with
  |cW _ v _ _ y f=>cases b with|cW _ _ _ _ c d=>simp only[wE,aE2];exact⟨Zo y c,TS f d⟩
end
def Vq{w:World}{b:Nat}(d:∀i v,g.im b i=J v->∃c e fr,w.heap[b]?=J (.cells c e fr)/\(fr=(0,0)\/∃n,v=.int .u8 n)){l:LA}{off:Nat}(j:CR g l b off)(h:Ot l=eT):∃c e,w.heap[b]?=J (.cells c e (0,0)):=by
 unfold Ot at h;rw[aG9]at h;obtain⟨a,f,hb⟩:=h;obtain⟨i,hi,rfl⟩:=List.getElem_of_mem f;obtain⟨v,hv,hr⟩:=j.b2 (i:=i) (a02 hi);obtain⟨c,e,fr,k,m⟩:=d _ _ hv;rcases m with rfl|⟨n,rfl⟩;·exact⟨c,e,k⟩
 ·exfalso;generalize l[i]=a at hr hb;cases hr;simp[isByte]at hb
def ZX{w:World}(a:∀b i v,g.im b i=J v->(g.pl b=eF/\aqB (g.im b))\/∃c e fr,w.heap[b]?=J (.cells c e fr)/\(fr=(0,0)\/∃n,v=.int .u8 n)){l:LA}{b off:Nat}(f:CR g l b off)(h:headB l=eT\/∀b,g.pl b=eT):∀i v,g.im b i=J v->∃c e fr,w.heap[b]?=J (.cells c e fr)/\(fr=(0,0)\/∃n,v=.int .u8 n):=by
 intro i v hv;rcases a b i v hv with⟨d,h2⟩|h3
 ·exfalso;rcases h with h|h
  ·unfold headB at h;split at h
   ·cases f with
    |cW _ v _ _ _ x y q=>
     cases y;cases q with
     |cW _ m _ _ _ j k o=>cases k;exact h2 _ _ _ x j
   ·cases h
  ·rw[h b]at d;cases d
 ·exact h3
def afB(t:TypeId)(D:Bool)(x y:AV){b:Bool}(h:eqA (I9 P t) D x y=J b){M N:Value}(j:VR g x M)(o:VR g y N)(w:World)(A:∀b i v,g.im b i=J v->(g.pl b=eF/\aqB (g.im b))\/∃c e fr,w.heap[b]?=J (.cells c e fr)/\(fr=(0,0)\/∃n,v=.int .u8 n))(u:ait x y=eT->∀b,g.pl b=eT)(d:Nat)(E:0<d):(Op.equalIn (d+1) t M N).run P w=.ok b w:=by
 obtain⟨d,rfl⟩:∃Q,d=Q+1:=⟨d-1,by omega⟩;have a:=ac0 (P:=P) t rfl;unfold eqA at h;generalize I9 P t=k at h a
 match k,h,a with
 |1,h,a=>grind [run_equalIn_bool',VR]
 |3,h,a=>
  obtain⟨e,ti,f,H,G⟩:=a;simp only[dI]at h;by_cases p:∃l m,x=.em l/\y=.em m
  ·obtain⟨l,m,rfl,rfl⟩:=p;simp at h;obtain⟨E,rfl⟩:=h;have K:(headB l=eT/\headB m=eT)\/∀b,g.pl b=eT:=by
    cases R:headB l with
    |false=>exact .inr (u (by simp[ait,R]))|true=>cases h2:headB m with|false=>exact .inr (u (by simp[ait,h2]))|true=>exact .inl ⟨rfl,rfl⟩
   cases j with
   |em _ b1 B c=>
    cases o with
    |em _ O C I=>have F:(⟨b1,B,U⟩:Addr)≠⟨O,C,U⟩:=(by grind [Nj]);obtain⟨X,t1,V⟩:=Vq (ZX A c (K.imp (λq=>q.1) id)) c E.2.1;obtain⟨Y,t2,W⟩:=Vq (ZX A I (K.imp (λq=>q.2) id)) I E.2.2;rw[Op.equalIn,Sem.run_bind,run_underlying f,Result.andThen_ok];simp[sizeOf,typeInfo,H,G,run_sameAddr_other w F V W]
  ·cases j<;>first|(simp at h;done)|skip
   all_goals (cases o<;>simp at h)
   all_goals first|(subst h;rw[Op.equalIn,Sem.run_bind,run_underlying f,Result.andThen_ok];rfl)|exact absurd ⟨_,_,rfl,rfl⟩ p
 |4,h,a=>
  obtain⟨_,_,_,f⟩:=a;simp only[dI]at h;cases j<;>first|(simp at h;done)|skip
  all_goals (cases o<;>simp at h)
  all_goals (subst h;rw[Op.equalIn,Sem.run_bind,run_underlying f,Result.andThen_ok];rfl)
 |5,h,a=>
  obtain⟨_,f⟩:=a;simp only[dI]at h;cases j<;>first|(simp at h;done)|skip
  all_goals (cases o<;>simp at h)
  all_goals first
   |(subst h;rw[Op.equalIn,Sem.run_bind,run_underlying f,Result.andThen_ok];rfl)|(rw[h.2];rw[Op.equalIn,Sem.run_bind,run_underlying f,Result.andThen_ok];rfl)
 |6,h,a=>
  obtain⟨_,_,f⟩:=a;simp only[dI]at h;cases j<;>first|(simp at h;done)|skip
  all_goals (cases o<;>simp at h)
  all_goals (subst h;rw[Op.equalIn,Sem.run_bind,run_underlying f,Result.andThen_ok];rfl)
 |7,h,a=>
  obtain⟨_,f⟩:=a;simp only[dI]at h;cases j<;>first|(simp at h;done)|skip
  all_goals (cases o<;>simp at h)
  all_goals first
   |(subst h;rw[Op.equalIn,Sem.run_bind,run_underlying f,Result.andThen_ok];rfl)|(rw[h.2];rw[Op.equalIn,Sem.run_bind,run_underlying f,Result.andThen_ok];rfl)
 |0,h,_=>simp[dI]at h|2,h,_=>simp[dI]at h
 |n+8,h,a=>
  obtain⟨fs,f,hf,hs,hq,Z⟩:=a;have s:P.fieldsOf t=fs:=(by simp[Program.fieldsOf,f]);cases j with
  |da l l' S=>
   cases o with
   |da m m' T=>simp at h;obtain⟨L,h⟩:=h;rw[run_equalIn_struct w _ t _ _ (by rw[s];exact f) hs,s];exact ac1 fs.toList 0 _ hf h (by simp;omega) (by simpa using S) (by simpa using T) _ w
   |_=>simp at h
  |_=>simp at h
end
section
variable{P:Program}{g:Gh}{w:World}{O:St}
structure aqx(P:Program)(t:TypeId)(x y:Operand)(a b:Value):Prop where
 nL:Go.binOp .eql t a b=(do pure (.bool (<-Op.equal t a b)))
 n5:Go.binOp .neq t a b=(do pure (.bool (!(<-Op.equal t a b))))
 aS:∀op w,(eqGuard op t x y a b).run P w=.ok () w
def vC(op:BinOp)(t:TypeId)(x y:Operand)(a b:Value)(h:(match a,b with|.nilIface,.nilIface=>eF|.agg _,.agg _=>eF|_,_=>eT)=eT)(w:World):(eqGuard op t x y a b).run P w=.ok () w:=by unfold eqGuard;cases op<;>simp<;>(split<;>first|(simp;done)|(exfalso;simp at h;done))
def afA(t:TypeId)(x y:Operand)(f i:AV){b:Bool}(h:eqA (I9 P t) (isC x||isC y) f i=J b){j o:Value}(c:VR g f j)(d:VR g i o):aqx P t x y j o:=by
 have a:=ac0 (P:=P) t rfl;unfold eqA at h;generalize I9 P t=k at h a
 match k,h,a with
 |1,h,a=>
  cases c<;>first|(simp at h;done)|skip
  cases d<;>simp at h;exact⟨rfl,rfl,λop w=>vC op t x y _ _ rfl w⟩
 |3,h,a=>
  simp only[dI]at h;cases c<;>first|(simp at h;done)|skip
  all_goals (cases d<;>simp at h)
  all_goals exact⟨rfl,rfl,λop w=>vC op t x y _ _ rfl w⟩
 |4,h,a=>
  simp only[dI]at h;cases c<;>first|(simp at h;done)|skip
  all_goals (cases d<;>simp at h)
  all_goals exact⟨rfl,rfl,λop w=>vC op t x y _ _ rfl w⟩
 |5,h,a=>
  simp only[dI]at h;cases c<;>first|(simp at h;done)|skip
  all_goals (cases d<;>simp at h)
  all_goals first
   |exact⟨rfl,rfl,λop w=>vC op t x y _ _ rfl w⟩|skip
  refine⟨rfl,rfl,λop w=>?_⟩;have e:=h.1;unfold eqGuard;have p:((match x with|.const _=>eT|_=>eF)||(match y with|.const _=>eT|_=>eF))=eT:=by
   rcases e with e|e;·cases x<;>simp[isC]at e;rfl
   ·cases y<;>simp[isC]at e;simp
  cases op<;>simp<;>(grind)
 |6,h,a=>
  simp only[dI]at h;cases c<;>first|(simp at h;done)|skip
  all_goals (cases d<;>simp at h)
  all_goals exact⟨rfl,rfl,λop w=>vC op t x y _ _ rfl w⟩
 |7,h,a=>
  simp only[dI]at h;cases c<;>first|(simp at h;done)|skip
  all_goals (cases d<;>simp at h)
  all_goals exact⟨rfl,rfl,λop w=>vC op t x y _ _ rfl w⟩
 |0,h,_=>simp[dI]at h|2,h,_=>simp[dI]at h
 |n+8,h,a=>
  obtain⟨fs,A,hf,hs,q,v⟩:=a;cases c with
  |da l B s=>
   cases d with
   |da m C u=>refine⟨rfl,rfl,λop w=>?_⟩;unfold eqGuard;cases op<;>simp[q]|_=>simp at h
  |_=>simp at h
def akV (op:BinOp) (t:TypeId) (x y:Operand) (d f:AV) {v:AV} (h:binOp op (I9 P t) (isC x||isC y) d f=J v) {q s:Value} (o:VR g d q) (j:VR g f s) (m:∀b i v,g.im b i=J v->(g.pl b=eF/\aqB (g.im b))\/∃c e fr,w.heap[b]?=J (.cells c e fr)/\(fr=(0,0)\/∃n,v=.int .u8 n)) (l:ait d f=eT->∀b,g.pl b=eT):
  ∃v',(eqGuard op t x y q s>>=λ_=>Go.binOp op t q s).run P w=.ok v' w/\VR g v v':=by
 have other:∀{v:AV},xy op (eqA (I9 P t) (isC x||isC y) d f)=J v->
   ∃v',(eqGuard op t x y q s>>=λ_=>Go.binOp op t q s).run P w=.ok v' w/\VR g v v':=by
  intro v h;cases op<;>simp only[xy,ay4]at h<;>first|(cases h;done)|skip
  ·obtain⟨b,hb,rfl⟩:=h;have p:=afA t x y d f hb o j;refine⟨.bool b,?_,.cX b⟩;rw[Sem.run_bind,p.aS,Result.andThen_ok,p.nL];simp only[Sem.run_bind,Op.equal,Op.maxDepth];rw[show(10000:Nat)=9999+1 from rfl,afB t _ d f hb o j w m l 9999 (by omega)];rfl
  ·obtain⟨b,hb,rfl⟩:=h;have p:=afA t x y d f hb o j;refine⟨.bool !b,?_,.cX _⟩;rw[Sem.run_bind,p.aS,Result.andThen_ok,p.n5];simp only[Sem.run_bind,Op.equal,Op.maxDepth];rw[show(10000:Nat)=9999+1 from rfl,afB t _ d f hb o j w m l 9999 (by omega)];rfl
 cases o with
 |cU k a=>
  cases j with
  |cU A b=>
   rw[Sem.run_bind,vC op t x y _ _ rfl w,Result.andThen_ok];by_cases hs:op=.shl\/op=.shr;·refine agO op k A a b ?_ t hs;rcases hs with rfl|rfl<;>exact h
   ·have u:(if k=A then sU op k a b else U)=J v:=by cases op<;>first|exact h|(exact absurd (.inl rfl) hs)|(exact absurd (.inr rfl) hs)
    split at u;·rename_i B;subst B;exact aln op k a b u t
    ·cases u
  |_=>exact other h
 |cV a=>
  cases j with
  |cV b=>rw[Sem.run_bind,vC op t x y _ _ rfl w,Result.andThen_ok];have e:Go.binOp op t (.string ⟨⟨a⟩⟩) (.string ⟨⟨b⟩⟩)=Op.stringOp op ⟨⟨a⟩⟩ ⟨⟨b⟩⟩:=(by cases op<;>rfl);rw[e];exact amf op a b h|_=>exact other h
 |_=>exact other h
def aqe(op:UnOp)(x:AV){v:AV}(h:unOp op x=J v){b:Value}(a:VR g x b):∃v',(Op.unary op b).run P w=.ok v' w/\VR g v v':=by
 unfold unOp at h;split at h;·cases a;cases h;exact⟨_,rfl,.cU _ _⟩
 ·cases a;simp only[sU]at h;cases h;exact⟨_,rfl,.cU _ _⟩
 ·cases a;cases h;exact⟨_,rfl,.cX _⟩
 ·cases h
def Jk(l:LA)(off:Nat)(v:LA)(h:off+z v<=z l):z (splice l off v)=z l:=by simp[splice];omega
def aiQ(l:LA)(off:Nat)(v:LA)(h:off+z v<=z l)(i:Nat):(splice l off v)[i]?=if off<=i/\i<off+z v then v[i-off]? else l[i]?:=by unfold splice;rw[ay2,aC0];grind
def aaK {l:LA} {c:Array Value} {off:Nat} {v:LA} {v':List Value} (d:∀(i:Nat) (x:AV),l[i]?=J x->∃u,c[i]?=J u/\VR g x u) (hv:VRs g v v') (h:off+z v<=z l) (b:z l<=c.size):
  ∀(i:Nat) (x:AV),(splice l off v)[i]?=J x->∃u,(NY c off v')[i]?=J u/\VR g x u:=by
 intro i x a;rw[aiQ l off v h]at a;rw[JG v' c off (by rw[hv.I];omega),hv.I];split at a;·rename_i hi;rw[if_pos hi];exact hv.b2 a
 grind
def KQ (place:Nat->Option (Nat×Nat)) {C:Ctx} {e:Env} {ρ:Operand->Value} (j:∀x a,cA x=J a->VR g (av C e a) (ρ x)):
  ∀(t:List (Nat×Operand)) (w:List (Nat×Nat×XA)),QT place t=J w->∀(l:LA) (c:Array Value) (N:LA),VRs g l c.toList->CW l (w.map λ(o,s,x)=>(o,s,av C e x))=J N->
   ∃m,Instr.fill place c (t.map λ(i,x)=>(i,ρ x))=J m/\VRs g N m.toList
 |[],w,f,l,c,N,n,hr=>by simp[QT]at f;subst f;simp[CW]at hr;subst hr;exact⟨c,rfl,n⟩
 |(i,x)::t,w,f,l,c,N,n,hr=>by
  simp only[QT]at f;split at f
  ·rename_i off K a A E h2 h3;simp at f;subst f;simp only[az3,CW]at hr;split at hr
   ·rename_i H;have q:=j x a h2;have B:=q.cH;have F:=q.bA;have d:=n.I;simp only[aG7]at d;have D:∀(vs:List Value) (k:Nat) (c:Array Value),off+k+z vs<=c.size->((vs.zipIdx k).foldl (λcs (p:Value×Nat)=>cs.setIfInBounds (off+p.2) p.1) c)=NY c (off+k) vs:=by
     intro vs
     induction vs with
     |nil=>intro k c _;rfl|cons v vs I=>grind [List.zipIdx_cons,NY]
    have h:VRs g (splice l off (av C e a).cH) (NY c off (ρ x).cells.toList).toList:=by have hb:off+(av C e a).cH.length<=z l:=(by omega);refine VRs.bO (by rw[Jk _ _ _ hb,aG7,uS,d]) λi y G=>?_;obtain⟨u,h5,h6⟩:=aaK (c:=c) (λi x q=>by obtain⟨u,a,b⟩:=n.b2 q;exact⟨u,by simpa using a,b⟩) B hb (by omega) i y G;exact⟨u,by simpa using h5,h6⟩
    obtain⟨m,h7,h8⟩:=KQ place j t A h3 _ (NY c off (ρ x).cells.toList) N h hr;refine⟨m,?_,h8⟩;simp only[az3,Instr.fill,E];rw[if_neg (by simp;omega)];rw[<-h7];congr 1;rw[<-Array.foldl_toList,Array.toList_zipIdx];grind
   ·cases hr
  ·cases f
def aeo{d:LA}{a:List Value}(h:VRs g d a):∀n,VRs g (rep d n) (List.replicate n a).flatten
 |0=>by simp[rep];exact .de
 |n+1=>by rw[rep,List.replicate_succ,aC2];exact h.cv (aeo h n)
def acQ(d:Array Value)(n:Nat)(b:0<d.size):((Array.range (n*d.size)).map (d[· %d.size]!)).toList=(List.replicate n d.toList).flatten:=by
 induction n with
 |zero=>simp
 |succ n a=>
  rw[List.replicate_succ',List.flatten_append,<-a];simp only[Array.toList_map,Array.toList_range,aC2,List.flatten_nil,ay5];rw[show(n+1)*d.size=n*d.size+d.size by rw[aF9,Nat.one_mul],List.range_add,List.map_append,List.map_map];congr 1;apply aA9;intro i;by_cases hi:i<d.size;·have e:(n*d.size+i)%d.size=i:=(by rw[Nat.mul_comm,Nat.mul_add_mod,Nat.mod_eq_of_lt hi]);simp[hi,e]
  ·simp[hi]
end
section
variable{P:Program}{g:Gh}{w:World}{O:St}
def aaW{P:Program}{e t:TypeId}{x y:Bool}(h:aaV P e x=J (t,y)):e=t/\x=y:=by grind [aaV]
def zy (h:WR g w O) (e:TypeId) (fz:Fz) {l:LA} {c:Array Value} (d:∀t x,fz.t=J (t,x)->e=t/\(x=eT->c.size=z l)) (f:∀(i:Nat) (x:AV),l[i]?=J x->∃v,c[i]?=J v/\VR g x v) (hs:z l<=c.size):
  Goes g O w (g.ab w.heap.size c.size) (O++[.cH l fz]) (yX w (.cells c e)):=by
 refine afL h _ _ _ ⟨c,e,(0,0),?_,?_,hs,λi x j=>?_,⟨rfl,d⟩,λi v hv=>?_⟩;·simp only[Gh.ab,if_true];exact G6 w _
 ·simp[Gh.ab]
 ·obtain⟨v,a,b⟩:=f i x j;exact⟨v,a,b.D (g.cd _ _)⟩
 ·exfalso;simp only[Gh.ab,if_true]at hv;have:=h.ct hv;omega
def VRs.hn{l:LA}{c:Array Value}(h:VRs g l c.toList)(i:Nat)(x:AV)(d:l[i]?=J x):∃v,c[i]?=J v/\VR g x v:=by obtain⟨v,a,b⟩:=h.b2 d;exact⟨v,by simpa using a,b⟩
def aoK(h:WR g w O)(s:Nat):VR (g.ab w.heap.size s) (.c8 (z O) 0) (.pointer (J ⟨w.heap.size,0,U⟩)):=by have:=VR.c8 (g:=g.ab w.heap.size s) (z O) 0 (by simp[Gh.ab,h.n]);simpa[Gh.ab,h.n]using this
def Hr{t:TypeId}{d:AV}(h:Hq P t=J d):∃i v,P.info? t=J i/\i.zero=J v/\gJ v=J d:=by grind [Hq,a03]
def run_places (fs:Array Field) (h:(fs.toList.all λf=>(P.info? f.type).isSome)=eT) (w:World):
  (fs.mapM (m:=Sem) λf=>do pure (f.offset,<-sizeOf f.type)).run P w=.ok (fs.map λf=>(f.offset,((P.info? f.type).map (·.size)).getD 0)) w:=by
 obtain⟨l⟩:=fs;rw[<-Array.toArray_toList (xs:=(⟨l⟩:Array Field)),List.mapM_toArray];simp only[Sem.run_map];have a:∀f∈l,(P.info? f.type).isSome=eT:=by simpa using h
 have key:∀l:List Field,(∀f∈l,(P.info? f.type).isSome=eT)->(l.mapM (m:=Sem) λf=>do pure (f.offset,<-sizeOf f.type)).run P w=.ok (l.map λf=>(f.offset,((P.info? f.type).map (·.size)).getD 0)) w:=by
  intro l
  induction l with
  |nil=>intro _;rfl|cons f l b=>intro a;obtain⟨i,hi⟩:=aA7.1 (a f (by simp));have:=b (λf hf=>a f (by simp[hf]));simp only[List.mapM_cons,Sem.run_bind,run_sizeOf hi,Result.andThen_ok,Sem.run_pure,this,az3,hi,az2,aD7]
 rw[key l a];simp
def TK{C:Ctx}{e:Env}{ρ:Operand->Value}(b:∀x a,cA x=J a->VR g (av C e a) (ρ x)):∀(l:List Operand) (azs:List XA),cAs l=J azs->VRs g (azs.map (av C e)) (l.map ρ)
 |[],azs,h=>by simp[cAs]at h;subst h;exact .de
 |x::l,azs,h=>by
  simp only[cAs]at h;split at h;·rename_i a c d h2;simp at h;subst h;exact .cW _ _ _ _ (b x a d) (TK b l c h2)
  ·cases h
def RY (h:WR g w O) {sz n:Nat} {a:AV} {l:LA} (hs:iZ O sz a=J (n,l)) {v:Value} (hv:VR g a v):
  l.length=n*sz/\((n=0/\∃cap,v=.slice U 0 cap)\/(n=0/\∃a cap,v=.slice (J a) 0 cap)\/∃b off cap,v=.slice (J ⟨b,off,U⟩) n cap/\Cells g w l b off):=by
 cases hv<;>simp only[iZ]at hs<;>first|(cases hs;done)|skip
 case cY=>grind
 case fu a cap=>grind
 case hD=>grind
 case gc a cap=>grind
 case sl m d b off cap c f=>
  split at hs;·simp at hs;obtain⟨rfl,rfl⟩:=hs;exact⟨‹_›,.inr (.inr ⟨b,off,cap,rfl,c.cH h⟩)⟩
  ·cases hs
 case eC m d b off c=>
  split at hs;·simp at hs;obtain⟨rfl,rfl⟩:=hs;exact⟨‹_›,.inr (.inr ⟨b,off,_,rfl,c.cH h⟩)⟩
  ·cases hs
 case dj o off m s cap p k hb=>
  split at hs
  ·rename_i d i e;split at hs;·rename_i j;simp at hs;obtain⟨rfl,rfl⟩:=hs;refine⟨by simp;omega,.inr (.inr ⟨_,_,_,rfl,?_⟩)⟩;have:=((h.bx o _ e).cH.ci off).cj (m*sz);simpa using this
   ·cases hs
  ·cases hs
def Xy(s:LU):VRs g (ofBytes s) (byteCells ⟨⟨s⟩⟩):=by unfold ofBytes byteCells;exact VRs.ec (λb=>.cU .u8 _) s
def av4 (h:WR g w O) {sz n:Nat} {a:AV} {l:LA} (hs:jQ O sz a=J (n,l)) {v:Value} (hv:VR g a v) (hf:l.all AV.C=eT) (tx:TypeId)
  (d:(∃m,P.underlying tx=J (.slice m))/\(∀s,a≠ .cV s)\/P.underlying tx=J .string/\∃s,a=.cV s):∃c,VRs g l c/\Src P sz tx v n c w:=by
 rcases d with⟨⟨m,d⟩,i⟩|⟨d,s,rfl⟩
 ·have k:iZ O sz a=J (n,l):=by cases a<;>first|exact hs|(exact absurd rfl (i _))
  obtain⟨f,p⟩:=RY h k hv;rcases p with⟨rfl,cap,rfl⟩|⟨rfl,o,cap,rfl⟩|⟨b,off,cap,rfl,vs,e,h2⟩;·have:l=[]:=az0 (by omega);subst this;exact⟨[],.de,Src.ofNil w d cap⟩
  ·have:l=[]:=az0 (by omega);subst this;exact⟨[],.de,Src.ofSlice w d o 0 cap [] (by simp) (by simp) (by simp)⟩
  ·exact⟨vs,e,Src.ofSlice w d ⟨b,off,U⟩ n cap vs (by rw[e.I,f]) (λj u q=>by rw[addr_add];exact h2 j u q) (e.eo hf)⟩
 ·cases hv;simp only[jQ]at hs;split at hs;·rename_i e;simp at hs;obtain⟨rfl,rfl⟩:=hs;subst e;exact⟨_,Xy s,Src.ofString w d _⟩
  ·cases hs
end
section
variable{P:Program}{g:Gh}{w:World}{O:St}
theorem acg(n:Nat):∀(d c:Nat),c<n->Builtin.growBy n d c<=2*n+1024
 |0,c,h=>by simp[Builtin.growBy];omega
 |d+1,c,h=>by
  simp only[Builtin.growBy];split;·omega
  ·by_cases h2:c+(c+768)/4<n;·exact acg n d _ h2
   ·cases d with|zero=>simp[Builtin.growBy];omega|succ d=>simp only[Builtin.growBy];rw[if_pos (by omega)];omega
def atM(a old:Nat)(h:old<a):Builtin.nextslicecap a old<=2*a+1024:=by grind [Builtin.nextslicecap,acg]
def adR{a old bytes:Nat}(h:old<a)(hb:a*bytes<=70368744177664)(c:bytes<=1048576):Builtin.nextslicecap a old*bytes<=281474976710656:=by have b:=atM a old h;have h2:Builtin.nextslicecap a old*bytes<=(2*a+1024)*bytes:=aD1 _ b;grind
theorem VJ(w:World)(a old:Nat)(e:TypeId):a<=grownCap w a old e:=by unfold grownCap;simp[Question.cut]
def Pg (h:WR g w O) (e:TypeId) (fz:Fz) (j:∀t x,fz.t=J (t,x)->e=t/\x=eF) {l m:LA} {olds d:List Value} (u:VRs g l olds) (y:VRs g m d) (f:Array Value) (n sz cap:Nat) (A:n<=cap) (q:z (l++m)+f.size=cap*sz):
  ∃g',Goes g O w g' (O++[.cH (l++m) fz]) (yX w.drew (.cells ((olds++d).toArray++f) e))/\VR g' (.dj (z O) 0 n sz) (.slice (J ⟨w.heap.size,0,U⟩) n cap):=by
 have p:=Goes.gy h (w.drawn+1);have B:WR g w.drew O:=p.wr;have hr:=u.cv y;have o:=zy B e fz (l:=l++m) (c:=(olds++d).toArray++f) (λt x s=>⟨(j t x s).1,λk=>by rw[(j t x s).2]at k;cases k⟩) (λi x k=>by
  obtain⟨v,a,b⟩:=hr.b2 k;grind) (by grind [hr.I])
 refine⟨_,p.N o,?_⟩;have:=VR.dj (g:=g.ab w.heap.size ((olds++d).toArray++f).size) (z O) 0 n sz cap (by simp[Gh.ab,h.n]) A (by
  grind [hr.I,Gh.ab,h.n])
 simpa[Gh.ab,h.n]using this
def abb(d:Array Value)(n:Nat):(Builtin.zeroCells d n).size=n*d.size:=by simp[Builtin.zeroCells]
def akR (h:WR g w O) (t tx H e:TypeId) (i:TypeInfo) (du:Value) (I:P.underlying t=J (.slice e)) (hi:P.info? e=J i) (hz:i.zero=J du) (aw:du.cells.size=i.size) (T:i.bytes<=1048576) {tg:Option (TypeId×Bool)} (X:∀S x,tg=J (S,x)->e=S/\x=eF) {azs ax:AV} {s x:Value} (hs:VR g azs s) (B:VR g ax x)
  {m:Nat} {cs:LA} (an:jQ O i.size ax=J (m,cs)) (hf:cs.all AV.C=eT)
  (R:(∃e',P.underlying tx=J (.slice e'))/\(∀s,ax≠ .cV s)\/P.underlying tx=J .string/\∃s,ax=.cV s)
  {v:AV} {O':St} (f:tX O i.size i.bytes tg azs m cs=J (v,O')):
  ∃v' w' g',(Builtin.append_ #[t,tx] H #[s,x]).run P w=.ok v' w'/\VR g' v v'/\Goes g O w g' O' w':=by
 obtain⟨d,p,F⟩:=av4 (P:=P) h an B hf tx R;have ab:z d=m*i.size:=F.newsLen;unfold tX at f;split at f
 ·rename_i af;subst af;have ah:d=[]:=az0 (by omega);subst ah;cases hs<;>simp at f<;>obtain⟨rfl,rfl⟩:=f;·exact⟨_,_,g,run_append_nothing w t tx H e i I hi U 0 0 (a06 _) x F,.cY,.ah h⟩
  ·rename_i a cap;exact⟨_,_,g,run_append_nothing w t tx H e i I hi (J a) 0 cap (a99 _) x F,.fu a cap,.ah h⟩
  ·exact⟨_,_,g,run_append_nothing w t tx H e i I hi U 0 0 (a06 _) x F,.hD,.ah h⟩
  ·rename_i a cap;exact⟨_,_,g,run_append_nothing w t tx H e i I hi (J a) 0 cap (a99 _) x F,.gc a cap,.ah h⟩
  ·rename_i n l b off cap V ad;exact⟨_,_,g,run_append_nothing w t tx H e i I hi _ n cap ad x F,.sl n l b off cap V ad,.ah h⟩
  ·rename_i n l b off V;exact⟨_,_,g,run_append_nothing w t tx H e i I hi _ n n (a06 _) x F,.eC n l b off V,.ah h⟩
  ·rename_i o off n sz cap ho hn hb;exact⟨_,_,g,run_append_nothing w t tx H e i I hi _ n cap hn x F,.dj o off n sz cap ho hn hb,.ah h⟩
 ·rename_i af;have G:∀(n L:Nat) (l:LA),z l=n*i.size->z (l++cs)+(Builtin.zeroCells du.cells (grownCap w (n+m) L e-(n+m))).size=grownCap w (n+m) L e*i.size:=λn L l Y=>by rw[abb,aw,a04,Y,<-p.I,ab,<-aF9,<-aF9];grind [VJ]
  cases hs<;>first|(cases f;done)|skip
  case cY=>
   simp only at f;split at f
   ·rename_i hb;simp at f;obtain⟨rfl,rfl⟩:=f;obtain⟨g',K,h2⟩:=Pg h e ⟨eF,tg⟩ X (l:=[]) (m:=cs) (olds:=[]) .de p (Builtin.zeroCells du.cells (grownCap w (0+m) 0 e-(0+m))) (0+m) i.size (grownCap w (0+m) 0 e) (VJ w (0+m) 0 e) (G 0 0 [] (by simp));refine⟨_,_,g',run_append_grow_src w t tx H e i du I hi hz U 0 0 [] (by rfl) x m d F (by omega) (by omega) (adR (by omega) (by simpa using hb.1) T),?_,?_⟩;·simpa using h2
    ·simp only[az5,a98]at K⊢;exact K
   ·cases f
  case eC n l b off V=>
   simp only at f;split at f;·rename_i hb;simp at f;obtain⟨rfl,rfl⟩:=f;obtain⟨C,E,N⟩:=V.cH h;obtain⟨g',K,h2⟩:=Pg h e ⟨eF,tg⟩ X E p (Builtin.zeroCells du.cells (grownCap w (n+m) n e-(n+m))) (n+m) i.size (grownCap w (n+m) n e) (VJ w (n+m) n e) (G n n l hb.1);refine⟨_,_,g',run_append_grow_src w t tx H e i du I hi hz (J ⟨b,off,U⟩) n n C ?_ x m d F (by omega) (by omega) (adR (by omega) hb.2.1 T),h2,K⟩;exact run_firstCells_some w.drew i.size n _ n n C (by rw[E.I,hb.1]) (λj u hu=>by rw[addr_add];exact N j u hu)
   ·cases f
  case dj o off n sz cap ho hn hb=>
   cases off with
   |succ off=>cases f|zero=>
   simp only at f;split at f
   ·rename_i l fz Y;split at f
    ·rename_i V;obtain⟨rfl,W,aa,aq⟩:=V;simp at f;obtain⟨rfl,rfl⟩:=f;obtain⟨c,e0,fr,K,h2,h3,h4,h5,h6⟩:=h.bx o _ Y;obtain⟨C,E,N⟩:=(h.bx o _ Y).cH;by_cases q:n+m<=cap
     ·have ac:(n+m)*i.size<=c.size:=by rw[h2];have:(n+m)*i.size<=cap*i.size:=aD1 _ q;omega
      have au:n*i.size+z d=(n+m)*i.size:=by rw[ab,aF9]
      have A:=run_append_room_src w t tx H e i I hi (g.ob o) 0 n cap x m d F q (λj hj=>by
       rw[cell_of_heap K,aA0 (by omega)];rfl) (λj hj=>by
       have:=asl h5.1 c.size (0+n*i.size+j) (by omega);simpa[World.frozen?,K]using this)
      obtain⟨r1,r2,r3,r4⟩:=zF (g.ob o) d (0+n*i.size) w;have hh:=zu (g.ob o) d (0+n*i.size) w c e0 fr K;refine⟨_,_,_,A,?_,acf h Y (.cH (l++cs) ⟨fz.b,if fz.t=tg then tg else U⟩) rfl _ r1 r2 r3 r4 (λk R=>uN _ d _ w k R) (λi' v' D=>?_) ?_⟩;·have:=VR.dj (g:=g.ab (g.ob o) (g.bs o)) (z O) 0 (n+m) i.size cap (by simp[Gh.ab,h.n]) q (by simp[Gh.ab,h.n];omega);simpa[Gh.ab,h.n]using this
      ·have aE:=(h6 i' v' D).2;rw[cell_of_heap hh,JG _ _ _ (by omega),if_neg (by omega)];grind [cell_of_heap,WR]
      ·refine⟨NY c (0+n*i.size) d,e0,fr,?_,?_,?_,λk x B=>?_,⟨h5.1,λS x' y=>?_⟩,λk v' D=>?_⟩;·simp only[Gh.ab,if_true];exact hh
       ·rw[uS,h2];simp[Gh.ab]
       ·rw[uS,a04,W,<-p.I];omega
       ·rw[JG _ _ _ (by omega)];rw[aC0]at B;split at B;·rename_i R;rw[if_neg (by omega)];obtain⟨u,a,b⟩:=h4 k x B;exact⟨u,a,b.D (g.cd _ _)⟩
        ·rename_i R;have M:=(a00.1 B).1;have ak:=p.I;rw[if_pos (by omega)];obtain⟨u,a,b⟩:=p.b2 B;exact⟨u,by rw[<-a];congr 1;omega,b.D (g.cd _ _)⟩
       ·dsimp only at y;split at y;·rename_i he;exact⟨(h5.2 S x' (he.trans y)).1,λB=>by rw[(X S x' y).2]at B;cases B⟩
        ·cases y
       ·simp only[Gh.ab,if_true]at D;grind
     ·have hd:=ace h o;obtain⟨g',k1,k2⟩:=Pg hd.wr e ⟨fz.b,if fz.t=tg then tg else U⟩ (λS x' y=>by grind) E p (Builtin.zeroCells du.cells (grownCap w (n+m) cap e-(n+m))) (n+m) i.size (grownCap w (n+m) cap e) (VJ w (n+m) cap e) (G n cap l W);have A:=run_append_grow_src w t tx H e i du I hi hz (J ⟨g.ob o,0,U⟩) n cap C (run_firstCells_some w.drew i.size n _ n cap C (by rw[E.I,W]) (λj u hu=>by rw[addr_add];exact N j u hu)) x m d F (by omega) (by omega) (adR (by omega) aa T);exact⟨_,_,g',A,by simpa using k2,hd.N k1⟩
    ·split at f
     ·rename_i V;obtain⟨rfl,aD,W,aa,aq⟩:=V;simp at f;obtain⟨rfl,rfl⟩:=f;obtain⟨c,e0,fr,K,h2,h3,h4,h5,h6⟩:=h.bx o _ Y;obtain⟨Q,al,az⟩:=(h.bx o _ Y).cH;have M:z (l.take (n*i.size))=n*i.size:=by rw[aB1];omega
      have E:=al.cj (n*i.size);have N:∀(j:Nat) (u:Value),(Q.take (n*i.size))[j]?=J u->w.cell? ⟨g.ob o,0+j,U⟩=J u:=λj u hu=>by grind
      have Z:∀i' v',g.im (g.ob o) i'=J v'->False:=λi' v' D=>by grind
      by_cases q:n+m<=cap
      ·have ac:(n+m)*i.size<=c.size:=by rw[h2];have:(n+m)*i.size<=cap*i.size:=aD1 _ q;omega
       have au:n*i.size+z d=(n+m)*i.size:=by rw[ab,aF9]
       have A:=run_append_room_src w t tx H e i I hi (g.ob o) 0 n cap x m d F q (λj hj=>by
        rw[cell_of_heap K,aA0 (by omega)];rfl) (λj hj=>by
        have:=asl h5.1 c.size (0+n*i.size+j) (by omega);simpa[World.frozen?,K]using this)
       obtain⟨r1,r2,r3,r4⟩:=zF (g.ob o) d (0+n*i.size) w;have hh:=zu (g.ob o) d (0+n*i.size) w c e0 fr K;refine⟨_,_,_,A,?_,acf h Y (.cH (l.take (n*i.size)++cs) ⟨eF,if fz.t=tg then tg else U⟩) rfl _ r1 r2 r3 r4 (λk R=>uN _ d _ w k R) (λi' v' D=>(Z i' v' D).elim) ?_⟩;·have:=VR.dj (g:=g.ab (g.ob o) (g.bs o)) (z O) 0 (n+m) i.size cap (by simp[Gh.ab,h.n]) q (by simp[Gh.ab,h.n];omega);simpa[Gh.ab,h.n]using this
       ·refine⟨NY c (0+n*i.size) d,e0,fr,?_,?_,?_,λk x B=>?_,⟨h5.1,λS x' y=>?_⟩,λk v' D=>?_⟩;·simp only[Gh.ab,if_true];exact hh
        ·rw[uS,h2];simp[Gh.ab]
        ·rw[uS,a04,M,<-p.I];omega
        ·rw[JG _ _ _ (by omega)];rw[aC0,M]at B;split at B;·rename_i R;rw[if_neg (by omega)];rw[aA4,if_pos R]at B;obtain⟨u,a,b⟩:=h4 k x B;exact⟨u,a,b.D (g.cd _ _)⟩
         ·rename_i R;have ay:=(a00.1 B).1;have ak:=p.I;rw[if_pos (by omega)];obtain⟨u,a,b⟩:=p.b2 B;exact⟨u,by rw[<-a];congr 1;omega,b.D (g.cd _ _)⟩
        ·dsimp only at y;split at y;·rename_i he;exact⟨(h5.2 S x' (he.trans y)).1,λB=>by rw[(X S x' y).2]at B;cases B⟩
         ·cases y
        ·simp only[Gh.ab,if_true]at D;exact(Z k v' D).elim
      ·have hd:=ace h o;obtain⟨g',k1,k2⟩:=Pg hd.wr e ⟨eF,if fz.t=tg then tg else U⟩ (λS x' y=>by grind) E p (Builtin.zeroCells du.cells (grownCap w (n+m) cap e-(n+m))) (n+m) i.size (grownCap w (n+m) cap e) (VJ w (n+m) cap e) (G n cap _ M);have A:=run_append_grow_src w t tx H e i du I hi hz (J ⟨g.ob o,0,U⟩) n cap (Q.take (n*i.size)) (run_firstCells_some w.drew i.size n _ n cap _ (by rw[E.I,M]) (λj u hu=>by rw[addr_add];exact N j u hu)) x m d F (by omega) (by omega) (adR (by omega) aa T);exact⟨_,_,g',A,by simpa using k2,hd.N k1⟩
     ·cases f
   ·cases f
end
section
variable{P:Program}{g:Gh}{w:World}{O:St}
def Ou (h:WR g w O) {o:Nat} {l:LA} {tg:Option (TypeId×Bool)} (e:O[o]?=J (.cH l ⟨eF,tg⟩)) {off:Nat} {cs:LA} {vs:List Value} (d:VRs g cs vs) (hb:off+z cs<=z l) (hf:cs.all AV.C=eT):
  ∃m,(storeCells ⟨g.ob o,off,U⟩ vs).run P w=.ok () m/\Goes g O w g (O.set o (.cH (splice l off cs) ⟨eF,tg⟩)) m:=by
 obtain⟨c,e0,fr,b,h2,h3,h4,h5,h6⟩:=h.bx o _ e;have q:=d.I;have a:=run_storeCells_cells (P:=P) (g.ob o) off vs 0 w (λj hj=>by rw[cell_of_heap b,aA0 (by omega)];rfl) (λj hj=>by
  have:=asl h5.1 c.size (off+0+j) (by omega);simpa[World.frozen?,b]using this) (d.eo hf)
 obtain⟨r1,r2,r3,r4⟩:=zF (g.ob o) vs (off+0) w;have n:=zu (g.ob o) vs (off+0) w c e0 fr b;refine⟨_,a,ZR h e rfl _ rfl _ r1 r2 r3 r4 (λk p=>uN _ vs _ w k p) (λi v hv=>absurd (h6 i v hv).1 (by simp)) ?_⟩;refine⟨NY c (off+0) vs,e0,fr,n,by rw[uS];exact h2,by rw[uS,Jk _ _ _ hb];exact h3,?_,⟨h5.1,λt x f=>⟨(h5.2 t x f).1,λs=>by rw[uS,Jk _ _ _ hb];exact(h5.2 t x f).2 s⟩⟩,λi v hv=>absurd (h6 i v hv).1 (by simp)⟩;simpa using aaK h4 d hb h3
def ahE (h:WR g w O) (t tx Q e:TypeId) (v:List TypeId) (i:TypeInfo) (N:P.underlying t=J (.slice e)) (hi:P.info? e=J i) {o off n m:Nat} {l cs:LA} {tg:Option (TypeId×Bool)} {azs:AV} {s d:Value} (hs:VR g azs s)
  (K:VR g (.dj o off n i.size) d) (M:O[o]?=J (.cH l ⟨eF,tg⟩)) (c:jQ O i.size azs=J (m,cs)) (hb:off+min m n*i.size<=z l) (hf:cs.all AV.C=eT):
  ∃A,(Builtin.copy_ ⟨t::v⟩ Q #[d,s]).run P w=.ok (goInt (min m n:Nat)) A/\Goes g O w g (O.set o (.cH (splice l off (cs.take (min m n*i.size))) ⟨eF,tg⟩)) A:=by
 have f:(Builtin.lenOf s).run P w=.ok m w/\∀k,k<=m->∃vs,VRs g (cs.take (k*i.size)) vs/\z (cs.take (k*i.size))=k*i.size/\(Builtin.firstCells i.size k s).run P w=.ok ⟨vs⟩ w:=by
  by_cases j:∃b,azs=.cV b
  ·obtain⟨b,rfl⟩:=j;cases hs;simp only[jQ]at c;split at c;·rename_i x;simp at c;obtain⟨rfl,rfl⟩:=c;refine⟨rfl,λk y=>⟨(byteCells ⟨⟨b⟩⟩).take (k*i.size),(Xy b).cj _,by rw[x];simp[ofBytes];omega,?_⟩⟩;rw[x];simp[Builtin.firstCells,byteCells]
   ·cases c
  ·have p:iZ O i.size azs=J (m,cs):=by cases azs<;>first|exact c|(exact absurd ⟨_,rfl⟩ j)
   obtain⟨f,B⟩:=RY h p hs;rcases B with⟨rfl,cap,rfl⟩|⟨rfl,R,cap,rfl⟩|⟨b,H,cap,rfl,B⟩;·have:cs=[]:=az0 (by omega);subst this;refine⟨rfl,λk y=>?_⟩;obtain rfl:k=0:=(by omega);exact⟨[],by simpa using .de,by simp,rfl⟩
   ·have:cs=[]:=az0 (by omega);subst this;refine⟨rfl,λk y=>?_⟩;obtain rfl:k=0:=(by omega);exact⟨[],by simpa using .de,by simp,by simp[Builtin.firstCells,loadCells,loadCellsFrom]⟩
   ·refine⟨rfl,λk y=>?_⟩;obtain⟨vs,a,S⟩:=(B.cj (k*i.size)).cm P;have L:k*i.size<=z cs:=by rw[f];exact aD1 _ y
    have e:z (cs.take (k*i.size))=k*i.size:=by simp;omega
    grind [Builtin.firstCells]
 obtain⟨x,h2⟩:=f;obtain⟨vs,C,D,E⟩:=h2 (min m n) (Nat.min_le_left _ _);cases K with
 |dj _ _ _ _ cap V T I=>
 have q:(cs.take (min m n*i.size)).all AV.C=eT:=by grind
 obtain⟨A,F,G⟩:=Ou (P:=P) h M C (by rw[D];exact hb) q;refine⟨A,?_,G⟩;have u:Nat.min m n=min m n:=rfl;simp[Builtin.copy_,run_underlying N,run_sizeOf hi,x,u,E,F]
def aie (h:WR g w O) (t e:TypeId) (i:TypeInfo) (N:Value) (p:LA) (B:P.underlying t=J (.slice e)) (hi:P.info? e=J i) (K:i.zero=J N) (C:VRs g p N.cells.toList) (o:N.cells.size=i.size)
  (F E:IntKind) (l c:Int) (H:0<=l) (y:l<=c) (q:(i.bytes:Int)*c<=140737488355328) (s:c<=9223372036854775807):
  ∃v' G g',(Instr.makeSlice t (.int F l) (.int E c)).run P w=.ok v' G/\VR g' (.dj (z O) 0 l.toNat i.size) v'/\Goes g O w g' (O++[.cH (rep p l.toNat) FZ]) G:=by
 have hr:=run_make w t e i N B hi K F E l c H y (by omega) s;have A:(madeCells N.cells (c.toNat*i.size)).size=c.toNat*i.size:=size_madeCells _ _;have f:l.toNat<=c.toNat:=by omega
 have j:l.toNat*i.size<=c.toNat*i.size:=aD1 _ f;have n:=aeo C l.toNat
 have d:z (rep p l.toNat)=l.toNat*i.size:=by have:=n.I;rw[<-this];simp[<-o]
 have v:=zy h e FZ (l:=rep p l.toNat) (c:=madeCells N.cells (c.toNat*i.size)) (λ_ _ B=>nomatch B) (λk x D=>by
  obtain⟨u,a,b⟩:=n.b2 D;refine⟨u,?_,b⟩;have I:=(a00.1 D).1;rw[d]at I;have m:0<N.cells.size:=(by grind);have e1:=acQ N.cells l.toNat m;have e2:(madeCells N.cells (c.toNat*i.size))[k]?=((Array.range (l.toNat*N.cells.size)).map (N.cells[· %N.cells.size]!)).toList[k]?:=by simp[madeCells,o];grind
  rw[e2,e1];exact a) (by rw[d,A];exact j)
 refine⟨_,_,_,hr,?_,v⟩;have:=VR.dj (g:=g.ab w.heap.size (madeCells N.cells (c.toNat*i.size)).size) (z O) 0 l.toNat i.size c.toNat (by simp[Gh.ab,h.n]) f (by simp only[Gh.ab,h.n,if_true];omega);simpa[Gh.ab,h.n]using this
def akT (h:WR g w O) (c dst e:TypeId) (hs:P.underlying c=J (.slice e)) (he:P.underlying e=J (.int .u8)) (f:P.underlying dst=J .string) {a:AV} {v:Value} (hv:VR g a v) {n:Nat} {l:LA} (q:iZ O 1 a=J (n,l)) {s:LU} (hb:bytesOf l=J s):
  (convert c dst v).run P w=.ok (.string ⟨⟨s⟩⟩) w:=by
 obtain⟨j,p⟩:=RY h q hv;have key:∀(l:LA) (s:LU) (vs:List Value),bytesOf l=J s->VRs g l vs->∃ns:List Int,vs=ns.map (Value.int .u8)/\s=ns.map λn=>UInt8.ofNat n.toNat:=by
  intro l
  induction l with
  |nil=>intro s vs hb hv;cases hv;simp[bytesOf]at hb;subst hb;exact⟨[],rfl,rfl⟩
  |cons a l u=>
   intro s vs hb hv;simp only[bytesOf]at hb;split at hb;·rename_i b bs d h2;simp at hb;subst hb;cases hv with|cW _ B _ A x y=>obtain⟨ns,rfl,rfl⟩:=u _ _ h2 y;cases x<;>simp[adF]at d;rename_i k m;cases k<;>simp at d;subst d;exact⟨m::ns,rfl,rfl⟩
   ·cases hb
 rcases p with⟨rfl,cap,rfl⟩|⟨rfl,o,cap,rfl⟩|⟨b,off,cap,rfl,vs,d,h2⟩;·have:l=[]:=az0 (by omega);subst this;simp[bytesOf]at hb;subst hb;rw[run_convert_bytes_string w c dst e _ _ _ hs he f];rfl
 ·have:l=[]:=az0 (by omega);subst this;simp[bytesOf]at hb;subst hb;rw[run_convert_bytes_string w c dst e _ _ _ hs he f];exact run_bytesToString w o 0 cap [] (by simp[loadCells,loadCellsFrom])
 ·obtain⟨ns,rfl,rfl⟩:=key l s vs hb d;have t:z ns=n:=by have:=d.I;simp at this;omega
  have:=run_convert_bytes_arg (P:=P) w c e hs he b off n cap ns t (λi hi=>by
   grind) dst f
  rw[this];simp[strOfNums]
end
section
variable{P:Program}{g:Gh}{w:World}{O:St}
def Rh (s:LU):∀(b:List (AV×AV)) (l:List MapEntry) (i:Nat) {N:Option (Nat×AV)},lZ (.cV s) b i=J N->z l=z b->
  (∀(j:Nat) (k v:AV),b[j]?=J (k,v)->∃e:MapEntry,l[j]?=J e/\VR g k e.key/\VR g v e.val)->
  match N with
  |U=>Instr.findNow .string (.string ⟨⟨s⟩⟩) l i=J U|J (j,v)=>∃(m:Nat) (e:MapEntry),j=i+m/\b[m]?=J (.cV s,v)/\l[m]?=J e/\Instr.findNow .string (.string ⟨⟨s⟩⟩) l i=J (J (j,e.val))/\VR g v e.val
 |[],l,i,N,h,f,_=>by simp[lZ]at h;subst h;have:l=[]:=az0 (by simpa using f);subst this;rfl
 |(k,v)::b,[],i,N,h,f,_=>by simp at f
 |(k,v)::b,e::l,i,N,h,f,c=>by
  obtain⟨q,t,x,hv⟩:=c 0 k v rfl;simp at t;subst t;simp only[lZ]at h;cases k<;>simp only[Z8]at h<;>first|(cases h;done)|skip
  rename_i o;have d:e.key=.string ⟨⟨o⟩⟩:=(by grind [VR]);have a:Instr.sameNow .string (.string ⟨⟨s⟩⟩) e.key=J (mF s o):=by rw[d];simp only[Instr.sameNow,vk];rw[beq_toListBytes,toList_mk,toList_mk]
  cases hb:mF s o with
  |true=>
   rw[hb]at h a;simp at h;subst h;refine⟨0,e,rfl,?_,rfl,?_,hv⟩;·grind [vk]
   ·simp only[Instr.findNow,a]
  |false=>
   rw[hb]at h a;simp only at h;have u:=Rh s b l (i+1) h (by simpa using f) (λj k v n=>by simpa using c (j+1) k v (by simpa using n));cases N with
   |none=>simp only[Instr.findNow,a];exact u|some p=>obtain⟨j,y⟩:=p;obtain⟨m,q,w,h2,h3,h4,h5⟩:=u;exact⟨m+1,q,by omega,by simpa using h2,by simpa using h3,by simp only[Instr.findNow,a];exact h4,h5⟩
def ER.br{a:List (AV×AV)}{ents:Array MapEntry}{clock:Nat}(h:ER g a ents clock):z ents.toList=z a/\∀(j:Nat) (k v:AV),a[j]?=J (k,v)->∃e:MapEntry,ents.toList[j]?=J e/\VR g k e.key/\VR g v e.val:=
 ⟨by simpa using h.al,λj k v b=>by grind [ER]⟩
def run_checkKey{a:TypeId}(c:P.underlying a=J .string)(b:Bool)(v:Value)(w:World):(Instr.checkKey b 10000 a v).run P w=.ok () w:=by rw[show(10000:Nat)=9999+1 from rfl,Instr.checkKey,Sem.run_bind,run_underlying c];cases v<;>rfl
def Cc{a:TypeId}(b:P.underlying a=J .string){k:Value}{l:List MapEntry}{d:Option (Nat×Value)}(h:Instr.findNow .string k l 0=J d)(w:World):(Instr.findKey a k l).run P w=.ok d w:=by simp[Instr.findKey,run_underlying b,h]
def ag2(h:WR g w O){q:Nat}{j a:List (AV×AV)}(hr:O[q]?=J (.ec j)){ents:Array MapEntry}{clock:Nat}(d:ER g a ents clock):Goes g O w g (O.set q (.ec a)) {w with heap:=w.heap.setIfInBounds (g.ob q) (.map ents clock)}:=by obtain⟨c,b,f,h2⟩:=h.bx q _ hr;have e:=lt_of_heap f;refine ZR h hr rfl _ rfl _ rfl rfl rfl (by simp) (λk l=>by grind) (λi v hv=>?_) ⟨ents,clock,by simp[e],d⟩;exfalso;have:=h.im _ _ _ hv;simp[World.cell?,f]at this
def aec (h:WR g w O) (t F D:TypeId) (i:TypeInfo) (R:Value) (C:P.underlying t=J (.map F D)) (q:P.underlying F=J .string) (hi:P.info? D=J i) (E:i.zero=J R) {B:AV} (y:VR g B R)
  {am x:AV} {m k:Value} (K:VR g am m) (I:VR g x k) (ok:Bool) {f:List (AV×AV)} (b:mapOf O am=J f)
  {v:AV} (hv:(match lZ x f 0 with|J (J (_,v))=>J (if ok then AV.df [v,.cX eT]else v)|J U=>J (if ok then .df [B,.cX eF]else B)|U=>U)=J v):
  ∃v',(Instr.lookup t m k ok).run P w=.ok v' w/\VR g v v':=by
 have d:∀(a:Array MapEntry),z a.toList=z f->(∀(j:Nat) (k v:AV),f[j]?=J (k,v)->∃e:MapEntry,a.toList[j]?=J e/\VR g k e.key/\VR g v e.val)->
   (∃v',Instr.findNow .string k a.toList 0=J U/\v'=(if ok then .tuple #[R,.bool eF]else R)/\VR g v v')\/(∃j u v',Instr.findNow .string k a.toList 0=J (J (j,u))/\v'=(if ok then .tuple #[u,.bool eT]else u)/\VR g v v'):=by
  intro a h2 h3;cases hf:lZ x f 0 with
  |none=>rw[hf]at hv;cases hv
  |some N=>
   rw[hf]at hv;have A:∃s,x=.cV s\/f=[]:=by
    cases f with
    |nil=>exact⟨[],.inr rfl⟩|cons p f=>cases x<;>simp[lZ,Z8]at hf;exact⟨_,.inl rfl⟩
   have o:match N with|U=>Instr.findNow .string k a.toList 0=J U|J (j,v)=>∃v',Instr.findNow .string k a.toList 0=J (J (j,v'))/\VR g v v':=by
    obtain⟨s,rfl|rfl⟩:=A;·have:=Rh (g:=g) s f a.toList 0 hf h2 h3;grind [VR]
    ·have:a.toList=[]:=az0 (by simpa using h2);simp[lZ]at hf;subst hf;rw[this];rfl
   cases N with
   |none=>
    simp at hv;subst hv;refine .inl ⟨_,o,rfl,?_⟩;cases ok;·exact y
    ·exact .df _ _ (.cW _ _ _ _ y (.cW _ _ _ _ (.cX _) .de))
   |some p=>
    obtain⟨j,v0⟩:=p;obtain⟨v',l,hr⟩:=o;simp at hv;subst hv;refine .inr ⟨j,v',_,l,rfl,?_⟩;cases ok;·exact hr
    ·exact .df _ _ (.cW _ _ _ _ hr (.cW _ _ _ _ (.cX _) .de))
 cases K<;>simp only[mapOf]at b<;>first|(cases b;done)|skip
 ·rename_i m L;split at b
  ·rename_i G hr;cases b;obtain⟨a,clock,H,h2⟩:=h.bx m _ hr;have n:(getObj (g.ob m)).run P w=.ok (.map a clock) w:=(by simp[getObj,Sem.run,H]);rcases d a h2.br.1 h2.br.2 with⟨v',l,rfl,c⟩|⟨j,u,v',l,rfl,c⟩;·exact⟨_,by simp only[Instr.lookup,Sem.run_bind,run_underlying C,Result.andThen_ok,n,Sem.run_pure,run_checkKey q,Cc q l,Hf hi E],c⟩
   ·exact⟨_,by simp only[Instr.lookup,Sem.run_bind,run_underlying C,Result.andThen_ok,n,Sem.run_pure,run_checkKey q,Cc q l],c⟩
  ·cases b
 ·cases b;rcases d #[] rfl (by simp)with⟨v',l,rfl,c⟩|⟨j,u,v',l,rfl,c⟩;·exact⟨_,by simp only[Instr.lookup,Sem.run_bind,run_underlying C,Result.andThen_ok,Sem.run_pure,run_checkKey q,Cc q l,Hf hi E],c⟩
  ·simp[Instr.findNow]at l
def Vr (h:WR g w O) (t H K:TypeId) (G:P.underlying t=J (.map H K)) (B:P.underlying H=J .string) {co:Nat} {c:List (AV×AV)} (hr:O[co]?=J (.ec c)) {s:LU} {av:AV} {v:Value} (hv:VR g av v)
  {n:List (AV×AV)} (he:(match lZ (.cV s) c 0 with|J (J (i,_))=>J (c.set i (AV.cV s,av))|J U=>J (c++[(AV.cV s,av)])|U=>U)=J n):
  ∃I,(Instr.mapUpdate t (.map (J (g.ob co))) (.string ⟨⟨s⟩⟩) v).run P w=.ok () I/\Goes g O w g (O.set co (.ec n)) I:=by
 obtain⟨a,clock,F,h2⟩:=h.bx co _ hr;have d:(getObj (g.ob co)).run P w=.ok (.map a clock) w:=by simp[getObj,Sem.run,F]
 have f:∀o,(setObj (g.ob co) o).run P w=.ok () {w with heap:=w.heap.setIfInBounds (g.ob co) o}:=λo=>by simp[setObj,Sem.run,F]
 cases hf:lZ (.cV s) c 0 with
 |none=>rw[hf]at he;cases he
 |some q=>
  rw[hf]at he;have x:=Rh (g:=g) s c a.toList 0 hf h2.br.1 h2.br.2;cases q with
  |none=>
   simp at he;subst he;refine⟨_,?_,ag2 h hr (ents:=a.push {key:=.string ⟨⟨s⟩⟩,val:=v,born:=clock}) (clock:=clock+1) ⟨by simp[h2.al],by simp[h2.jr],λi k u b=>?_⟩⟩;·simp only[Instr.mapUpdate,Sem.run_bind,run_underlying G,Result.andThen_ok,d,run_checkKey B,Cc B x,f]
   ·rw[aC0]at b;split at b;·grind [ER]
    ·rename_i l;have hi:i-z c=0:=(by grind);rw[hi]at b;simp at b;obtain⟨rfl,rfl⟩:=b;have y:i=z c:=(by omega);exact⟨_,by rw[Array.getElem?_push,if_pos (by rw[h2.al];exact y)],.cV s,hv,by rw[h2.jr];exact y.symm⟩
  |some p=>
   obtain⟨j,v0⟩:=p;obtain⟨R,e,hj,D,L,M,_⟩:=x;simp at hj;subst hj;simp at he;subst he;have l:a[j]?=J e:=(by simpa using L);obtain⟨e2,a2,N,Q,d2⟩:=h2.lT j _ _ D;rw[l]at a2;cases a2;have A:e.key=.string ⟨⟨s⟩⟩:=(by grind [VR]);refine⟨_,?_,ag2 h hr (ents:=a.modify j λe=>{e with key:=.string ⟨⟨s⟩⟩,val:=v}) (clock:=clock) ⟨by simp[h2.al],by simp[h2.jr],λi k u b=>?_⟩⟩
   ·have m:(Instr.keyThatStays (((a[j]?).map (·.key)).getD (.string ⟨⟨s⟩⟩)) (.string ⟨⟨s⟩⟩)).run P w=.ok (.string ⟨⟨s⟩⟩) w:=by rw[l];simp only[az2,aD7,A];unfold Instr.keyThatStays;rw[if_pos (by simp[Instr.sameBits,beq_toListBytes])];rfl
    simp only[Instr.mapUpdate,Sem.run_bind,run_underlying G,Result.andThen_ok,d,run_checkKey B,Cc B M,m,f]
   grind [ER]
end
section
variable{P:Program}{g:Gh}{w:World}{O:St}
def MV{a:AV}{v:Value}(h:VR g a v){n:Nat}(b:qK a=J n):∃k m,v=.int k m/\0<=m/\m.toNat=n/\a=.cU k m:=by
 cases h<;>simp only[qK]at b<;>first|(cases b;done)|skip
 grind
def BA{a:AV}{v:Value}(h:VR g a v){n:Nat}(c:qK a=J n){y:Nat}(d:n<=y)(code:BoundsCode)(w:World):(Instr.sliceBound v y code).run P w=.ok n w:=by obtain⟨k,m,rfl,b,rfl,_⟩:=MV h c;simp[Instr.sliceBound,asIntOf,b];omega
inductive abd(g:Gh):Option AV->Option Value->Prop|gb:abd g none none|iA (a:AV) (v:Value):VR g a v->abd g (some a) (some v)
def VI {j e f:Option AV} {lo hi t:Option Value} (i:abd g j lo) (k:abd g e hi) (q:abd g f t) (s:Bool) {len cap l h m:Nat} (b:iR 0 j=J l) (d:iR len e=J h) (n:match f with|U=>m=cap|J a=>qK a=J m)
  (p:l<=h) (h2:h<=m) (h3:m<=cap) (h4:f.isSome=eT->e.isSome=eT) (w:World):(Instr.sliceBounds s len cap lo hi t).run P w=.ok (l,h,m) w:=by
 cases q with
 |gb=>
  simp only at n;subst n;cases k with
  |gb=>
   simp[iR]at d;subst d;cases i with
   |gb=>simp[iR]at b;subst b;simp[Instr.sliceBounds]|iA a v hv=>simp only[iR]at b;simp[Instr.sliceBounds,BA hv b p]
  |iA a v hv=>
   simp only[iR]at d;cases i with
   |gb=>simp[iR]at b;subst b;simp[Instr.sliceBounds,BA hv d h2]|iA u y c=>simp only[iR]at b;simp[Instr.sliceBounds,BA hv d h2,BA c b p]
 |iA a v hv=>
  simp only at n;cases k with
  |gb=>simp at h4
  |iA u y c=>
   simp only[iR]at d;cases i with
   |gb=>simp[iR]at b;subst b;simp[Instr.sliceBounds,BA hv n h3,BA c d h2]|iA x A o=>simp only[iR]at b;simp[Instr.sliceBounds,BA hv n h3,BA c d h2,BA o b p]
def ag5{b:Type}(a:Array b)(x:b)(f:b->b):(a.push x).modify a.size f=a.push (f x):=by grind
def alY (h:WR g w O) (f:TypeId) (s:LU):∃cap u g',VR g' (.sl (z s) (ofBytes s)) (.slice (J ⟨w.heap.size,0,U⟩) (z s) cap)/\
  (Conv.stringToBytes f ⟨⟨s⟩⟩).run P w=.ok (.slice (J ⟨w.heap.size,0,U⟩) (z s) cap) u/\Goes g O w g' O u:=by
 have j:z s<=(Question.appendCap (z s) 0 f).cut (w.tape w.drawn (.appendCap (z s) 0 f)):=by simp[Question.cut]
 generalize y:(Question.appendCap (z s) 0 f).cut (w.tape w.drawn (.appendCap (z s) 0 f))=cap at j;have t:=Goes.gy h (w.drawn+1);have A:WR g w.drew O:=t.wr;obtain⟨cs,l⟩:∃cs:Array Value,cs=(s.map λb=>Value.int .u8 b.toNat).toArray++Array.replicate (cap-z s) (Value.int .u8 0):=⟨_,rfl⟩;have c:cs.size=z s+(cap-z s):=by rw[l];simp
 have k:∀(i:Nat) (v:Value),cs[i]?=J v->∃n,v=Value.int .u8 n:=λi v hv=>by grind
 have o:=Ql A cs f (z s+(cap-z s),z s+(cap-z s)+1) (.inr k);refine⟨cap,_,_,?_,?_,t.N o⟩;·refine .sl _ _ _ _ _ (CR.bO λi x B=>?_) j;have hr:VRs g (ofBytes s) (s.map λb=>Value.int .u8 b.toNat):=VRs.ec (λb=>.cU .u8 _) s;obtain⟨v,a,b⟩:=hr.b2 B;have p:=(a00.1 a).1;refine⟨v,?_,b.D o.le⟩;simp only[Gh.an,az5];rw[if_pos ⟨rfl,by rw[c];simp at p;omega⟩,l,Array.getElem?_append_left (by simpa using p)];simpa using a
 ·have q:(⟨⟨s⟩⟩:ByteArray).size=z s:=rfl;have m:Array.map (λb:UInt8=>Value.int .u8 b.toNat) (⟨⟨s⟩⟩:ByteArray).data=(s.map λb=>Value.int .u8 b.toNat).toArray:=by apply aD6;simp
  unfold Conv.stringToBytes;simp only[Sem.run_bind,run_choose,Question.forced,aC3,if_false,q,y,Result.andThen_ok,newRow,run_newObj,Sem.run_pure,m];rw[<-l];have e:({w with drawn:=w.drawn+1,heap:=w.heap.push (.cells cs f)}:World).shape? w.heap.size=J (f,z s+(cap-z s)):=(by simp[World.shape?,c]);simp only[markStringish,Sem.run_bind,run_shape,e,Result.andThen_ok,run_freeze];congr 1;simp only[World.freeze];rw[if_neg (by omega)];simp only[yX,World.drew];rw[ag5];simp
def Vd(s:ByteArray):∀(n i:Nat) (acc:Array Value),Conv.runesFrom s n i acc=acc++((runesL s n i).map λd=>Value.int .i32 (Int.ofNat d)).toArray
 |0,i,acc=>by simp[Conv.runesFrom,runesL]
 |n+1,i,acc=>by
  unfold Conv.runesFrom runesL;split;·show Conv.runesFrom s n (i+(Utf8.decode s i).2) (acc.push (.int .i32 (Int.ofNat (Utf8.decode s i).1)))=_;rw[Vd s n];apply aD6;simp
  ·simp
def RS(s:ByteArray):∀(n i:Nat),z (runesL s n i)<=n
 |0,i=>by simp[runesL]
 |n+1,i=>by
  unfold runesL;split;·have:=RS s n (i+(Utf8.decode s i).2);simp;omega
  ·simp
def alZ (h:WR g w O) {j dst f:TypeId} (hs:P.underlying j=J .string) (p:P.underlying dst=J (.slice f)) (he:P.underlying f=J (.int .i32)) (s:LU) (y:z s<=70368744177664):∃cap o g',VR g' (.sl (z (runesOf s)) (xg (runesOf s))) (.slice (J ⟨w.heap.size,0,U⟩) (z (runesOf s)) cap)/\
  (convert j dst (.string ⟨⟨s⟩⟩)).run P w=.ok (.slice (J ⟨w.heap.size,0,U⟩) (z (runesOf s)) cap) o/\Goes g O w g' O o:=by
 have hr0:Conv.runesFrom ⟨⟨s⟩⟩ (⟨⟨s⟩⟩:ByteArray).size 0 #[]=((runesOf s).map λd=>Value.int .i32 (Int.ofNat d)).toArray:=by rw[Vd];simp;rfl
 have n:(Conv.runesFrom ⟨⟨s⟩⟩ (⟨⟨s⟩⟩:ByteArray).size 0 #[]).size=z (runesOf s):=by rw[hr0];simp
 have q:z (runesOf s)<=z s:=RS _ _ _;have c:=run_runes_of_string (P:=P) w j dst f ⟨⟨s⟩⟩ hs p he (by rw[n];omega);rw[n,hr0]at c;have e:z (runesOf s)<=grownCap w (z (runesOf s)) 0 f:=VJ w _ 0 f;generalize grownCap w (z (runesOf s)) 0 f=cap at c e;have k:=Goes.gy h (w.drawn+1);have t:WR g w.drew O:=k.wr;have l:=ZQ t (((runesOf s).map λd=>Value.int .i32 (Int.ofNat d)).toArray++Array.replicate (cap-z (runesOf s)) (Value.int .i32 0)) f;refine⟨cap,_,_,?_,c,k.N l⟩;refine .sl _ _ _ _ _ (CR.bO λi x u=>?_) e;have hr:VRs g (xg (runesOf s)) ((runesOf s).map λd=>Value.int .i32 (Int.ofNat d)):=VRs.ec (λb=>.cU .i32 _) _;obtain⟨v,a,b⟩:=hr.b2 u;have m:=(a00.1 a).1;refine⟨v,?_,b.D l.le⟩;simp only[Gh.an,az5];rw[if_pos ⟨rfl,by simp at m⊢;omega⟩,Array.getElem?_append_left (by simpa using m)];simpa using a
end
section
variable{C:Ctx}{g:Gh}{w:World}{O:St}{e:Env}{ρ:Operand->Value}
def BB(b:∀x a,cA x=J a->VR g (av C e a) (ρ x)){x:Option Operand}{a:Option XA}(h:TL x=J a):abd g (a.map (av C e)) (x.map ρ):=by
 cases x with
 |none=>simp[TL]at h;subst h;exact .gb|some x=>grind [TL,ay4,abd]
def bQ(a:WR g w O){o:Oper}{v:AV}{v':Value}(hr:(execOp ρ o).run C.P w=.ok (.value v') w)(hv:VR g v v'):Gg C.P o ρ g O w (.ew v O):=
 ⟨w,g,.ah a,.inl ⟨v',hr,hv⟩⟩
def akZ(y:WR g w O)(m:∀x a,cA x=J a->VR g (av C e a) (ρ x)){dst:Option Tmp}{type:TypeId}{pos:String}{after:Array Edge}{guard:Option (Nat×Bool)}{A d:TypeId}{x:Operand}{I:XI}(c:cI C.P ⟨dst,.convert A d x,type,pos,after,guard⟩=J I){out:Out}(b:evI C e O I=J out):Gg C.P ⟨dst,.convert A d x,type,pos,after,guard⟩ ρ g O w out:=by
 simp only[cI,ay3,a03,ay7]at c;obtain⟨N,j,M,i,c⟩:=c;split at c
 ·rename_i L k;simp only[a03,a05]at c;obtain⟨a,o,rfl⟩:=c;have f:=m x a o;simp only[evI,aB]at b;generalize q:av C e a=B at f b;generalize h:ρ x=D at f;cases f<;>first|(cases b;done)|skip
  cases b;exact bQ y (by simp[execOp,convert,run_underlying j,run_underlying i,h,Conv.intToInt]) (.cU _ _)
 ·simp only[a03,a05]at c;obtain⟨a,o,rfl⟩:=c;have f:=m x a o;simp only[evI,aB]at b;generalize q:av C e a=B at f b;generalize h:ρ x=D at f;cases f<;>first|(cases b;done)|skip
  cases b;exact bQ y (by simp[execOp,convert,run_underlying j,run_underlying i,h]) (.cV _)
 ·simp only[a03,a05]at c;obtain⟨a,o,rfl⟩:=c;have f:=m x a o;simp only[evI,aB]at b;generalize q:av C e a=B at f b;generalize h:ρ x=D at f;cases f<;>first|(cases b;done)|skip
  cases b;rename_i n;exact bQ y (by simp[execOp,convert,run_underlying j,run_underlying i,h,Conv.intToString]) (VR.cV (g:=g) (Utf8.encode n).data.toList)
 ·rename_i E;simp only[a03]at c;obtain⟨K,t,c⟩:=c;split at c
  ·simp only[a03,a05]at c;obtain⟨a,o,rfl⟩:=c;have f:=m x a o;simp only[evI,aB]at b;split at b;·rename_i n l G;simp only[ay4]at b;obtain⟨s,hs,rfl⟩:=b;refine bQ y (v':=.string ⟨⟨s⟩⟩) ?_ (.cV s);simp[execOp,akT y A d E j t i f G hs]
   ·cases b
  ·cases c
 ·rename_i E;simp only[a03]at c;obtain⟨K,t,c⟩:=c;split at c
  ·simp only[a03,a05]at c;obtain⟨a,o,rfl⟩:=c;have f:=m x a o;simp only[evI,aB]at b;generalize q:av C e a=B at f b;generalize h:ρ x=D at f;cases f<;>first|(cases b;done)|skip
   rename_i s;cases b;obtain⟨cap,H,F,u,p,v⟩:=alY (P:=C.P) y E s;exact⟨H,F,v,.inl ⟨_,by simp[execOp,convert,run_underlying j,run_underlying i,run_underlying t,h,p],u⟩⟩
  ·simp only[a03,a05]at c;obtain⟨a,o,rfl⟩:=c;have f:=m x a o;simp only[evI,aB]at b;generalize q:av C e a=B at f b;generalize h:ρ x=D at f;cases f<;>first|(cases b;done)|skip
   rename_i s;simp only at b;split at b;·rename_i G;cases b;obtain⟨cap,H,F,u,p,v⟩:=alZ (P:=C.P) y j i t s G;exact⟨H,F,v,.inl ⟨_,by simp[execOp,h,p],u⟩⟩
   ·cases b
  ·cases c
 ·cases c
def afg(H:WR g w O)(f:∀x a,cA x=J a->VR g (av C e a) (ρ x)){dst:Option Tmp}{type:TypeId}{pos:String}{after:Array Edge}{guard:Option (Nat×Bool)}{t:TypeId}{x y:Operand}{s:XI}(d:cI C.P ⟨dst,.makeSlice t x y,type,pos,after,guard⟩=J s){out:Out}(c:evI C e O s=J out):Gg C.P ⟨dst,.makeSlice t x y,type,pos,after,guard⟩ ρ g O w out:=by
 simp only[cI,ay3,a03,ay7]at d;obtain⟨u,G,d⟩:=d;cases u<;>first|(cases d;done)|skip
 rename_i A;simp only[a03]at d;obtain⟨i,hi,co,I,d⟩:=d;split at d
 ·rename_i p;simp only[a03,a05]at d;obtain⟨a,D,b,hb,rfl⟩:=d;obtain⟨T,v,q,h2,h3⟩:=Hr I;rw[hi]at q;cases q;have hv:=sJ g v co h3;have n:=f x a D;have o:=f y b hb;simp only[evI,aB]at c;generalize E:av C e a=R at n c;generalize k:ρ x=V at n;generalize F:av C e b=S at o c;generalize l:ρ y=W at o;cases n<;>first|(cases c;done)|skip
  rename_i K n1;cases o<;>first|(cases c;done)|skip
  rename_i L M;simp only at c;split at c;·rename_i h;cases c;obtain⟨N,Q,B,hr,m,j⟩:=aie (P:=C.P) H t A i v co.cH G hi h2 hv.cH (by rw[hv.bA];exact p) K L n1 M h.1 h.2.1 h.2.2.2 h.2.2.1;exact⟨Q,B,j,.inl ⟨N,by simp[execOp,k,l,hr],m⟩⟩
  ·cases c
 ·cases d
def aff(B:WR g w O)(j:∀x a,cA x=J a->VR g (av C e a) (ρ x)){dst:Option Tmp}{type:TypeId}{pos:String}{after:Array Edge}{guard:Option (Nat×Bool)}{t:TypeId}{x y:Operand}{L:XI}(p:cI C.P ⟨dst,.indexAddr t x y,type,pos,after,guard⟩=J L){out:Out}(c:evI C e O L=J out):Gg C.P ⟨dst,.indexAddr t x y,type,pos,after,guard⟩ ρ g O w out:=by
 simp only[cI,ay3,a03,ay7]at p;obtain⟨u,H,p⟩:=p;cases u<;>first|(cases p;done)|skip
 ·rename_i N;simp only[a03,a05]at p;obtain⟨i,hi,a,E,b,hb,rfl⟩:=p;have s:=j x a E;have I:=j y b hb;simp only[evI,aB]at c;cases q:qK (av C e b)with
  |none=>rw[q]at c;simp at c
  |some n=>
   rw[q]at c;obtain⟨k,m,h,D,rfl,_⟩:=MV I q;generalize F:av C e a=M at s c;generalize f:ρ x=K at s;have key:∀(len b off cap:Nat),K=.slice (J ⟨b,off,U⟩) len cap->m.toNat<len->(execOp ρ ⟨dst,.indexAddr t x y,type,pos,after,guard⟩).run C.P w=.ok (.value (.pointer (J ⟨b,off+m.toNat*i.size,U⟩))) w:=λlen b off cap T R=>by have A:m<len:=(by omega);subst T;simp[execOp,Instr.indexAt,run_underlying H,f,h,asIntOf,run_sizeOf hi,D,A,addr_add]
   cases s<;>first|(cases c;done)|skip
   ·rename_i n l b off cap d Q;simp only at c;split at c;·rename_i v;cases c;exact bQ B (key _ _ _ _ rfl v.1) (.em _ _ _ (d.ci _))
    ·cases c
   ·rename_i n l b off d;simp only at c;split at c;·rename_i v;cases c;exact bQ B (key _ _ _ _ rfl v.1) (.em _ _ _ (d.ci _))
    ·cases c
   ·rename_i o off n W cap G S P;simp only at c;split at c;·rename_i v;cases c;exact bQ B (key _ _ _ _ rfl v.1) (.c8 _ _ G)
    ·cases c
 ·rename_i len N;simp only[a03,a05]at p;obtain⟨i,hi,a,E,b,hb,rfl⟩:=p;have s:=j x a E;have I:=j y b hb;simp only[evI,aB]at c;cases q:qK (av C e b)with
  |none=>rw[q]at c;simp at c
  |some n=>
   rw[q]at c;obtain⟨k,m,h,D,rfl,_⟩:=MV I q;generalize F:av C e a=M at s c;generalize f:ρ x=K at s;cases s<;>first|(cases c;done)|skip
   all_goals
    simp only at c;split at c
    ·rename_i v;cases c;first
      | (rename_i o off G
         refine bQ B (v':=.pointer (J ⟨g.ob o,off+m.toNat*i.size,U⟩)) ?_ (.c8 _ _ G);have A:m<len:=(by omega);simp[execOp,Instr.indexAt,run_underlying H,f,h,asIntOf,Instr.sureAddr,run_sizeOf hi,D,A,addr_add])
      | (rename_i l b off d
         refine bQ B (v':=.pointer (J ⟨b,off+m.toNat*i.size,U⟩)) ?_ (.em _ _ _ (d.ci _));have A:m<len:=(by omega);simp[execOp,Instr.indexAt,run_underlying H,f,h,asIntOf,Instr.sureAddr,run_sizeOf hi,D,A,addr_add])
    ·cases c
def aqM(L:WR g w O)(f:∀x a,cA x=J a->VR g (av C e a) (ρ x)){dst:Option Tmp}{type:TypeId}{pos:String}{after:Array Edge}{guard:Option (Nat×Bool)}{t:TypeId}{x y:Operand}{M:XI}(h:cI C.P ⟨dst,.index t x y,type,pos,after,guard⟩=J M){out:Out}(d:evI C e O M=J out):Gg C.P ⟨dst,.index t x y,type,pos,after,guard⟩ ρ g O w out:=by
 simp only[cI,ay3,a03,ay7]at h;obtain⟨u,K,h⟩:=h;cases u<;>first|(cases h;done)|skip
 ·simp only[a03,a05]at h;obtain⟨a,E,b,hb,rfl⟩:=h;have q:=f x a E;have I:=f y b hb;simp only[evI,aB]at d;cases j:qK (av C e b)with
  |none=>rw[j]at d;simp at d
  |some n=>
   rw[j]at d;obtain⟨k,m,p,B,rfl,_⟩:=MV I j;generalize F:av C e a=N at q d;generalize o:ρ x=S at q;cases q<;>first|(cases d;done)|skip
   rename_i s;simp only at d;split at d
   ·rename_i c A;cases d;refine bQ L (v':=.int .u8 c.toNat) ?_ (.cU _ _);have G:=(a00.1 A).1;have D:(⟨⟨s⟩⟩:ByteArray)[m.toNat]?=J c:=by have e1:m.toNat<(⟨⟨s⟩⟩:ByteArray).size:=G;rw[getElem?_pos (⟨⟨s⟩⟩:ByteArray) m.toNat e1];have e2:=(a00.1 A).2;exact congrArg J e2
    simp[execOp,Instr.index,run_underlying K,o,p,asIntOf,B,D]
   ·cases d
 ·rename_i len V;simp only[a03,a05]at h;obtain⟨Y,H,i,hi,a,E,b,hb,rfl⟩:=h;have q:=f x a E;have I:=f y b hb;simp only[evI,aB]at d;cases j:qK (av C e b)with
  |none=>rw[j]at d;simp at d
  |some n=>
   rw[j]at d;obtain⟨k,m,p,B,rfl,_⟩:=MV I j;generalize F:av C e a=N at q d;generalize o:ρ x=S at q;cases q<;>first|(cases d;done)|skip
   rename_i l X R;simp only at d;split at d;·rename_i W;simp only[ay4]at d;obtain⟨v,hv,rfl⟩:=d;obtain⟨T,Q,h2⟩:=aak (P:=C.P) w R H hi (m.toNat*i.size) hv;have D:m<len:=(by omega);exact bQ L (by simp[execOp,Instr.index,run_underlying K,o,p,asIntOf,B,D,run_sizeOf hi,Q]) h2
   ·cases d
def an2(l:WR g w O)(f:∀x a,cA x=J a->VR g (av C e a) (ρ x)){dst:Option Tmp}{type:TypeId}{pos:String}{after:Array Edge}{guard:Option (Nat×Bool)}{t:TypeId}{m k:Operand}{ok:Bool}{n:XI}(c:cI C.P ⟨dst,.lookup t m k ok,type,pos,after,guard⟩=J n){out:Out}(d:evI C e O n=J out):Gg C.P ⟨dst,.lookup t m k ok,type,pos,after,guard⟩ ρ g O w out:=by
 simp only[cI,ay3,a03,ay7]at c;obtain⟨u,y,c⟩:=c;cases u<;>first|(cases c;done)|skip
 rename_i B p;simp only[a03]at c;obtain⟨D,j,c⟩:=c;cases D<;>first|(cases c;done)|skip
 simp only[a03,a05]at c;obtain⟨N,A,a,s,b,hb,rfl⟩:=c;obtain⟨i,v,q,h2,h3⟩:=Hr A;have hv:=sJ g v N h3;simp only[evI,aB]at d;split at d;·rename_i o h;have hres:∃v,out=.ew v O/\(match lZ (av C e b) o 0 with|J (J (_,v))=>J (if ok then AV.df [v,.cX eT]else v)|J U=>J (if ok then .df [N,.cX eF]else N)|U=>U)=J v:=(by grind);obtain⟨v0,rfl,hr⟩:=hres;obtain⟨E,h4,h5⟩:=aec (P:=C.P) l t B p i v y j q h2 hv (f m a s) (f k b hb) ok h hr;exact bQ l (by simp[execOp,h4]) h5
 ·cases d
def afh(L:WR g w O)(j:∀x a,cA x=J a->VR g (av C e a) (ρ x)){dst:Option Tmp}{type:TypeId}{pos:String}{after:Array Edge}{guard:Option (Nat×Bool)}{t:TypeId}{m k v:Operand}{D:XI}(f:cI C.P ⟨dst,.mapUpdate t m k v,type,pos,after,guard⟩=J D){out:Out}(d:evI C e O D=J out):Gg C.P ⟨dst,.mapUpdate t m k v,type,pos,after,guard⟩ ρ g O w out:=by
 simp only[cI,ay3,a03,ay7]at f;obtain⟨u,K,f⟩:=f;cases u<;>first|(cases f;done)|skip
 rename_i N E;simp only[a03]at f;obtain⟨Q,y,f⟩:=f;cases Q<;>first|(cases f;done)|skip
 simp only[a03,a05]at f;obtain⟨a,F,b,hb,c,n,rfl⟩:=f;have A:=j m a F;have B:=j k b hb;have M:=j v c n;simp only[evI,aB]at d;generalize G:av C e a=S at A d;generalize p:ρ m=V at A;generalize H:av C e b=T at B d;generalize q:ρ k=W at B;cases A<;>first|(cases d;done)|skip
 rename_i co hr;simp only at d;split at d
 ·rename_i l o;cases B<;>first|(cases d;done)|skip
  rename_i s;simp only at d;have hres:∃h,out=.ew .dT (O.set co (.ec h))/\(match lZ (.cV s) l 0 with|J (J (i,_))=>J (l.set i (AV.cV s,av C e c))|J U=>J (l++[(AV.cV s,av C e c)])|U=>U)=J h:=(by grind);obtain⟨h,rfl,I⟩:=hres;obtain⟨R,h4,h5⟩:=Vr (P:=C.P) L t N E K y o M I;exact⟨R,g,h5,.inr ⟨rfl,by simp[execOp,p,q,h4]⟩⟩
 ·cases d
def an1(L:WR g w O)(j:∀x a,cA x=J a->VR g (av C e a) (ρ x)){dst:Option Tmp}{type:TypeId}{pos:String}{after:Array Edge}{guard:Option (Nat×Bool)}{t:TypeId}{m k v:Operand}{D:XI}(f:cI C.P ⟨dst,.insert t m k v,type,pos,after,guard⟩=J D){out:Out}(d:evI C e O D=J out):Gg C.P ⟨dst,.insert t m k v,type,pos,after,guard⟩ ρ g O w out:=by
 simp only[cI,ay3,a03,ay7]at f;obtain⟨u,K,f⟩:=f;cases u<;>first|(cases f;done)|skip
 rename_i N E;simp only[a03]at f;obtain⟨Q,y,f⟩:=f;cases Q<;>first|(cases f;done)|skip
 simp only[a03,a05]at f;obtain⟨a,F,b,hb,c,n,rfl⟩:=f;have A:=j m a F;have B:=j k b hb;have M:=j v c n;simp only[evI,aB]at d;generalize G:av C e a=S at A d;generalize p:ρ m=V at A;generalize H:av C e b=T at B d;generalize q:ρ k=W at B;cases A<;>first|(cases d;done)|skip
 rename_i co hr;simp only at d;split at d
 ·rename_i l o;cases B<;>first|(cases d;done)|skip
  rename_i s;simp only at d;have hres:∃h,out=.ew .dT (O.set co (.ec h))/\(match lZ (.cV s) l 0 with|J (J (i,_))=>J (l.set i (AV.cV s,av C e c))|J U=>J (l++[(AV.cV s,av C e c)])|U=>U)=J h:=(by grind);obtain⟨h,rfl,I⟩:=hres;obtain⟨R,h4,h5⟩:=Vr (P:=C.P) L t N E K y o M I;exact⟨R,g,h5,.inr ⟨rfl,by simp[execOp,p,q,h4]⟩⟩
 ·cases d
end
section
variable{C:Ctx}{g:Gh}{w:World}{O:St}{e:Env}{ρ:Operand->Value}
theorem akk(t:TypeId)(v:Value)(ptr:Bool)(h:ah8 C.P t ptr=eT)(nm:Option String)(w:World):(receiverAt t (.val v) ptr nm).run C.P w=.ok v w:=by
 unfold ah8 at h;cases a:C.P.underlying t with
 |none=>rw[a]at h;cases h|some u=>rw[a]at h;cases u<;>simp only at h<;>cases ptr<;>first|(cases h;done)|simp[receiverAt,run_underlying a,Place.get]
def al2:∃n,C.P.types.size+Made.depth=n+1:=⟨C.P.types.size+Made.depth-1,by unfold Made.depth;omega⟩
def VW{t:TypeId}{av:AV}{name:String}{f:FuncId}{j:AV}(h:methodOf C.P t av name=J (f,j))(v:Value)(w:World):j=av/\(method (C.P.types.size+Made.depth) t v name).run C.P w=.ok (f,v) w:=by
 unfold methodOf at h;split at h
 ·rename_i i hi;split at h
  ·rename_i m b;split at h;·cases h
   ·rename_i e;split at h
    ·rename_i d p hf;split at h;·rename_i hv;cases h;refine⟨rfl,?_⟩;obtain⟨n,c⟩:=al2 (C:=C);have a:m.path.toList=[]:=(by grind);rw[c,method];simp only[Sem.run_bind,typeInfo,run_program,Result.andThen_ok,hi,Sem.run_pure,b,a,follow,hf,akk t v p hv]
     ·cases h
    ·cases h
  ·cases h
 ·cases h
def abj {K:AV} {L:Value} (hf:VR g K L) {args:LA} {b:List Value} (M:VRs g args b) {out:Out} (a:Ic C K args O=J out):
  ∃f azs s,out=.fh f azs O/\VRs g azs s/\(do let d<-Deferred.ofValue L ⟨b⟩;invoke d.target d.args:Sem Next).run C.P w=(callFunc f ⟨s⟩).run C.P w:=by
 cases hf<;>first|(cases a;done)|skip
 rename_i fn x y p S P Q;have e:=P.cv M;cases fn<;>simp only[Ic]at a<;>first|(cases a;done)|skip
 ·rename_i f;cases a;refine⟨_,_,_,rfl,e.cv Q,?_⟩;simp[Deferred.ofValue,invoke]
 ·rename_i name;split at a
  ·rename_i t v n c;rw[c]at e;split at a
   ·rename_i f du E;cases a;generalize A:p++b=l at e;cases e with
    |cW _ u _ k o h=>
     generalize B:AV.eb t v=q at o;cases o<;>first|(cases B;done)|skip
     cases B;rename_i j hv;obtain⟨rfl,i⟩:=VW E j w;refine⟨_,_,_,rfl,.cW _ _ _ _ hv h,?_⟩;have e1:(⟨p⟩:Array Value)++(⟨b⟩:Array Value)=⟨.iface t j::k⟩:=by apply aD6;simpa using A
     simp[Deferred.ofValue,invoke,e1,callMethod,i]
   ·cases a
  ·cases a
 ·rename_i t name;split at a
  ·rename_i v n c;rw[c]at e;split at a;·cases a
   ·rename_i G;split at a
    ·rename_i f du E;cases a;generalize A:p++b=l at e;cases e with
     |cW _ j _ k o h=>
      obtain⟨rfl,i⟩:=VW E j w;refine⟨_,_,_,rfl,.cW _ _ _ _ o h,?_⟩;have e1:(⟨p⟩:Array Value)++(⟨b⟩:Array Value)=⟨j::k⟩:=by apply aD6;simpa using A
      cases D:C.P.underlying t with
      |none=>exfalso;unfold methodOf ah8 at E;grind
      |some u=>
       have H:∀m,u≠ .interface m:=λm F=>G m (by rw[D,F]);have e2:(⟨j::k⟩:Array Value).extract 1=⟨k⟩:=by apply aD6;simp
       have e3:(⟨j::k⟩:Array Value).extract 1 (z k+1)=⟨k⟩:=by apply aD6;simp
       cases u<;>first|(exact absurd rfl (H _))|(simp[Deferred.ofValue,invoke,e1,run_underlying D,callMethod,i])
    ·cases a
  ·cases a
 ·rename_i t path f ptr;split at a
  ·rename_i v n c;rw[c]at e;split at a;·cases a
   ·rename_i R;split at a
    ·rename_i hv;cases a;generalize A:p++b=l at e;cases e with
     |cW _ j _ k o h=>
      refine⟨_,_,_,rfl,.cW _ _ _ _ o h,?_⟩;have e1:(⟨p⟩:Array Value)++(⟨b⟩:Array Value)=⟨j::k⟩:=by apply aD6;simpa using A
      have N:path.toList=[]:=(by grind);have I:(receiverVia t j path ptr).run C.P w=.ok j w:=(by grind [receiverVia,follow,akk]);simp[Deferred.ofValue,invoke,e1,I]
    ·cases a
  ·cases a
def c_call(M:WR g w O)(k:∀x a,cA x=J a->VR g (av C e a) (ρ x)){dst:Option Tmp}{type:TypeId}{pos:String}{after:Array Edge}{guard:Option (Nat×Bool)}{c:Call}{xi:XI}(h:cI C.P ⟨dst,.call c,type,pos,after,guard⟩=J xi){out:Out}(d:evI C e O xi=J out):Gg C.P ⟨dst,.call c,type,pos,after,guard⟩ ρ g O w out:=by
 obtain⟨callee,args,j⟩:=c;have hmap:args.map ρ=⟨args.toList.map ρ⟩:=by apply aD6;simp
 cases callee with
 |value f=>
  have key:∀(I:XA) (q:List XA),cA f=J I->cAs args.toList=J q->Ic C (av C e I) (q.map (av C e)) O=J out->Gg C.P ⟨dst,.call ⟨.value f,args,j⟩,type,pos,after,guard⟩ ρ g O w out:=λI q E has au=>by obtain⟨f',bs,ac,rfl,R,h2⟩:=abj (w:=w) (k f I E) (TK k _ _ has) au;refine⟨rfl,ac,R,?_⟩;grind [execOp,resolve]
  cases f with
  |func ff=>simp only[cI,ay3,a03,ay7,a05]at h;obtain⟨q,has,rfl⟩:=h;simp only[evI,aB]at d;refine key _ q rfl has ?_;simp only[av,Ic,a98,ay5];exact d
  |tmp t=>simp only[cI,ay3,a03,ay7,a05]at h;obtain⟨I,E,q,has,rfl⟩:=h;exact key I q E has d
  |const t=>simp only[cI,ay3,a03,ay7,a05]at h;obtain⟨I,E,q,has,rfl⟩:=h;exact key I q E has d
  |global t=>simp only[cI,ay3,a03,ay7,a05]at h;obtain⟨I,E,q,has,rfl⟩:=h;exact key I q E has d
 |invoke du m=>
  simp only[cI,ay3,a03,ay7,a05]at h;obtain⟨ar,ah,q,has,rfl⟩:=h;have B:=k du ar ah;have S:=TK k _ _ has;simp only[evI,aB]at d;generalize T:av C e ar=aa at B d;generalize A:ρ du=px at B;cases B<;>first|(cases d;done)|skip
  rename_i t v v' hv;simp only at d;split at d
  ·rename_i f r' hm;cases d;obtain⟨rfl,D⟩:=VW hm v' w;refine⟨rfl,v'::args.toList.map ρ,.cW _ _ _ _ hv S,?_⟩;have e1:#[ρ du]++args.map ρ=⟨.iface t v'::args.toList.map ρ⟩:=by apply aD6;simp[A]
   have e3:(args.toList.map ρ).take args.size=args.toList.map ρ:=a95 (by simp);simp[execOp,resolve,e1,invoke,callMethod,D,e3]
  ·cases d
 |builtin b=>
  have aR:args.toList.map ρ=(args.map ρ).toList:=(by simp);cases b<;>simp only[cI]at h<;>first|(cases h;done)|skip
  case append=>
   split at h
   ·rename_i t u x y R h2;simp only[ay3,a03,ay7]at h;obtain⟨ud,K,h⟩:=h;cases ud<;>first|(cases h;done)|skip
    rename_i Q;simp only[a03]at h;obtain⟨dv,hz,uu,aD,h⟩:=h;obtain⟨i,v,hi,aM,ay⟩:=Hr hz;have hv:=sJ g v dv ay;have e1:j=#[t,u]:=by apply aD6;simpa using R
    have e2:args=#[x,y]:=by apply aD6;simpa using h2
    subst e1 e2;have key:∀(str:Bool) (a b:XA),cA x=J a->cA y=J b->z dv.cH=i.size->i.bytes<=1048576->(uu=.string/\str=eT\/(∃e',uu=.slice e')/\str=eF)->evI C e O (.eG str i.size i.bytes (aaV C.P Q eF) a b)=J out->Gg C.P ⟨dst,.call ⟨.builtin .append,#[x,y],#[t,u]⟩,type,pos,after,guard⟩ ρ g O w out:=λstr a b L hb aL aq hk d=>by
     simp only[evI,aB]at d;split at d
     ·rename_i m cs H;split at d;·cases d
      ·rename_i F;simp only[aB4,bne_iff_ne,ne_eq,aF6,not_or,Decidable.not_not,Bool.not_eq_false]at F;split at d<;>first|(cases d;done)|skip
       rename_i v0 O0 ad;cases d;obtain⟨v',w',g',hr,aE,ax⟩:=akR (P:=C.P) M t u type Q i v K hi aM (by rw[hv.bA];exact aL) aq (λt' x' ab=>⟨(aaW ab).1,(aaW ab).2.symm⟩) (k x a L) (k y b hb) H F.2 (by
        rcases hk with⟨rfl,rfl⟩|⟨⟨e',rfl⟩,rfl⟩;·refine .inr ⟨aD,?_⟩;have:=F.1;cases ak:av C e b<;>simp[ak,isStr]at this;exact⟨_,rfl⟩
        grind [isStr]) ad
       exact⟨w',g',ax,.inl ⟨v',by simp[execOp,resolve,invoke,Go.builtin,hr],aE⟩⟩
     ·cases d
    cases uu<;>first|(cases h;done)|skip
    ·simp only[hi,Option.bind_some]at h;split at h;·rename_i hh;simp only[a03,a05]at h;grind
     ·cases h
    ·simp only[hi,Option.bind_some]at h;split at h;·rename_i hh;simp only[a03,a05]at h;grind
     ·cases h
   ·cases h
  case copy=>
   split at h
   ·rename_i t N x y R h2;simp only[ay3,a03,ay7]at h;obtain⟨ud,K,h⟩:=h;cases ud<;>first|(cases h;done)|skip
    rename_i Q;simp only[a03,a05]at h;obtain⟨i,hi,a,L,b,hb,rfl⟩:=h;have e1:j=⟨t::N⟩:=by apply aD6;simpa using R
    have e2:args=#[x,y]:=by apply aD6;simpa using h2
    subst e1 e2;have B:=k x a L;simp only[evI,aB]at d;split at d
    ·rename_i m cs o off n s H hd;rw[hd]at B;split at d
     ·rename_i l hl;split at d;·rename_i hh;cases d;obtain⟨rfl,al,hf⟩:=hh;obtain⟨w',h3,h4⟩:=ahE (P:=C.P) M t 0 type Q N i K hi (k y b hb) B hl H al hf;exact⟨w',g,h4,.inl ⟨_,by simp[execOp,resolve,invoke,Go.builtin,h3];rfl,.cU _ _⟩⟩
      ·cases d
     ·cases d
    ·cases d
   ·cases h
  case len=>
   split at h
   ·rename_i t ts x xs R h2;simp only[ay3,a03,ay7]at h;obtain⟨ud,K,h⟩:=h;have e1:j[0]?=J t:=by rw[<-Array.getElem?_toList,R];rfl
    have e2:(args.map ρ)[0]?=J (ρ x):=(by grind);have D:∀n,(Builtin.len_ j type (args.map ρ)).run C.P w=.ok (goInt n) w->(execOp ρ ⟨dst,.call ⟨.builtin .len,args,j⟩,type,pos,after,guard⟩).run C.P w=.ok (.value (goInt n)) w:=λn G=>by simp[execOp,resolve,invoke,Go.builtin,G]
    cases ud<;>first|(cases h;done)|skip
    case array n Q=>simp only[a05]at h;subst h;simp only[evI,aB]at d;cases d;exact bQ M (D n (by simp[Builtin.len_,e1,e2,run_underlying K])) (.cU _ _)
    case pointer p=>
     simp only[a03]at h;obtain⟨up,az,h⟩:=h;cases up<;>first|(cases h;done)|skip
     rename_i n Q;simp only[a05]at h;subst h;simp only[evI,aB]at d;cases d;exact bQ M (D n (by simp[Builtin.len_,e1,e2,run_underlying K,run_underlying az])) (.cU _ _)
    all_goals
     simp only[a03,a05]at h;obtain⟨a,L,rfl⟩:=h;have B:=k x a L;simp only[evI,aB,ay4]at d;obtain⟨n,G,rfl⟩:=d;refine bQ M (D n ?_) (.cU _ _);generalize T:av C e a=aa at B G;generalize A:ρ x=px at B
    case string=>
     cases B<;>first|(cases G;done)|skip
     cases G;simp[Builtin.len_,e1,e2,A,run_underlying K];rfl
    case slice Q=>
     cases B<;>first|(cases G;done)|skip
     all_goals (cases G;simp[Builtin.len_,e1,e2,A,run_underlying K])
    case map kt et=>
     cases B<;>first|(cases G;done)|skip
     ·rename_i m hm;simp only[bP]at G;split at G;·rename_i es aw;cases G;obtain⟨Y,clock,h3,h4⟩:=M.bx m _ aw;have Z:(getObj (g.ob m)).run C.P w=.ok (.map Y clock) w:=(by simp[getObj,Sem.run,h3]);simp[Builtin.len_,e1,e2,A,run_underlying K,Z,h4.al]
      ·cases G
     ·cases G;simp[Builtin.len_,e1,e2,A,run_underlying K]
   ·cases h
  case max=>
   split at h
   ·rename_i x y h2;simp only[ay3,a03,ay7,a05]at h;obtain⟨a,L,b,hb,rfl⟩:=h;have e2:args=#[x,y]:=by apply aD6;simpa using h2
    subst e2;have B:=k x a L;have W:=k y b hb;simp only[evI,aB,ay4]at d;obtain⟨v,hv,rfl⟩:=d;generalize T:av C e a=aa at B hv;generalize A:ρ x=px at B;generalize an:av C e b=bb at W hv;generalize V:ρ y=py at W;cases B<;>first|(cases hv;done)|skip
    cases W<;>first|(cases hv;done)|skip
    cases hv;exact bQ M (by simp[execOp,resolve,invoke,Go.builtin,A,V,Builtin.max_,Builtin.max2]) (.cU _ _)
   ·cases h
  case min=>
   split at h
   ·rename_i x y h2;simp only[ay3,a03,ay7,a05]at h;obtain⟨a,L,b,hb,rfl⟩:=h;have e2:args=#[x,y]:=by apply aD6;simpa using h2
    subst e2;have B:=k x a L;have W:=k y b hb;simp only[evI,aB,ay4]at d;obtain⟨v,hv,rfl⟩:=d;generalize T:av C e a=aa at B hv;generalize A:ρ x=px at B;generalize an:av C e b=bb at W hv;generalize V:ρ y=py at W;cases B<;>first|(cases hv;done)|skip
    cases W<;>first|(cases hv;done)|skip
    cases hv;exact bQ M (by simp[execOp,resolve,invoke,Go.builtin,A,V,Builtin.min_,Builtin.min2]) (.cU _ _)
   ·cases h
end
section
variable{C:Ctx}{g:Gh}{w:World}{O:St}{e:Env}{ρ:Operand->Value}
def abL (H:WR g w O) {m:XA} {n sz:Nat} {lo hi A:Option XA} {out:Out} (a:evI C e O (.gj n sz m lo hi A)=J out) {B:Value} (y:VR g (av C e m) B) {i f j:Option Value}
  (t:abd g (lo.map (av C e)) i) (q:abd g (hi.map (av C e)) f) (u:abd g (A.map (av C e)) j):
  ∃v b off l h,out=.ew v O/\B=.pointer (J ⟨b,off,U⟩)/\(∀k,(Instr.sliceBounds eF n n i f j).run C.P k=.ok (l,h,n) k)/\VR g v (.slice (J (if n=l then⟨b,off,U⟩else(⟨b,off,U⟩:Addr).add (l*sz))) (h-l) (n-l)):=by
 simp only[evI,aB]at a;generalize D:av C e m=I at y a;cases y<;>first|(cases a;done)|skip
 rename_i o off G;simp only at a;split at a
 ·rename_i l K E;split at a
  ·rename_i l0 x s p;split at a
   ·rename_i d;cases a;refine⟨_,_,_,l0,x,rfl,rfl,λk=>VI t q u eF s p (by simp) d.1 d.2.1 (a06 _) (by simp) k,?_⟩;split;·grind [VR]
    ·rename_i F;rw[if_neg (by omega),addr_add];obtain⟨c,e0,fr,L,h2,h3,h4,h5,h6⟩:=H.bx o _ E;refine .dj o (off+l0*sz) (x-l0) sz (n-l0) G (by omega) ?_;rw[<-h2];have:l0*sz+(n-l0)*sz=n*sz:=by rw[<-aF9];congr 1;omega
     omega
   ·cases a
  ·cases a
 ·cases a
def aqN(F:WR g w O)(j:∀x a,cA x=J a->VR g (av C e a) (ρ x)){dst:Option Tmp}{type:TypeId}{pos:String}{after:Array Edge}{guard:Option (Nat×Bool)}{t:TypeId}{x:Operand}{lo I V:Option Operand}{xi:XI}(q:cI C.P ⟨dst,.slice t x lo I V,type,pos,after,guard⟩=J xi){out:Out}(c:evI C e O xi=J out):Gg C.P ⟨dst,.slice t x lo I V,type,pos,after,guard⟩ ρ g O w out:=by
 simp only[cI,ay3,a03,ay7]at q;obtain⟨u,T,q⟩:=q;cases u<;>first|(cases q;done)|skip
 case string=>
  cases V with
  |some m=>cases q
  |none=>
   simp only[a03,a05]at q;obtain⟨a,G,S,A,R,y,rfl⟩:=q;have N:=j x a G;have W:=BB j A;have h2:=BB j y;simp only[evI,aB]at c;generalize X:av C e a=aa at N c;generalize K:ρ x=px at N;cases N<;>first|(cases c;done)|skip
   rename_i s;simp only at c;split at c
   ·rename_i l h D B;split at c
    ·rename_i d;cases c;have hb:=VI (P:=C.P) W h2 .gb eF (len:=z s) (cap:=z s) (m:=z s) D B rfl d.1 d.2 (a06 _) (by simp) w;refine bQ F (v':=.string ((⟨⟨s⟩⟩:ByteArray).extract l h)) ?_ ?_;·have ab:(⟨⟨s⟩⟩:ByteArray).size=z s:=rfl;simp[execOp,Instr.sliceAt,run_underlying T,Instr.slice,K,ab,hb]
     ·have:(⟨⟨s⟩⟩:ByteArray).extract l h=⟨⟨(s.take h).drop l⟩⟩:=by apply ByteArray.ext;grind [Lib.extract_data,List.take_drop]
      rw[this];exact .cV _
    ·cases c
   ·cases c
 case slice el=>
  simp only[a03,a05]at q;obtain⟨i,hi,a,G,S,A,R,y,am,E,rfl⟩:=q;have N:=j x a G;have W:=BB j A;have h2:=BB j y;have h3:=BB j E;simp only[evI,aB]at c;generalize X:av C e a=aa at N c;generalize K:ρ x=px at N;have key:∀(b:Option Addr) (len cap l h:Nat),px=.slice b len cap->iR 0 (S.map (av C e))=J l->iR len (R.map (av C e))=J h->am=U->l<=h->h<=cap->
    (execOp ρ ⟨dst,.slice t x lo I V,type,pos,after,guard⟩).run C.P w=.ok (.value (.slice (if cap=l then b else b.map (·.add (l*i.size))) (h-l) (cap-l))) w:=λb len cap l h Q D B hm k Y=>by
   subst Q hm;have hb:=VI (P:=C.P) W h2 h3 eT (len:=len) (cap:=cap) (m:=cap) D B rfl k Y (a06 _) (by simp) w;simp[execOp,Instr.sliceAt,run_underlying T,Instr.slice,K,hb,run_sizeOf hi]
  cases N<;>first|(cases c;done)|skip
  all_goals simp only at c
  case cY=>
   split at c;·rename_i D B;cases c;exact bQ F (key _ _ _ 0 0 rfl D B rfl (a06 _) (a06 _)) (by simpa using .cY)
   ·cases c
  case hD=>
   split at c
   ·rename_i l h D B;split at c;·rename_i d;cases c;obtain rfl:h=0:=(by omega);obtain rfl:l=0:=(by omega);exact bQ F (key _ _ _ 0 0 rfl D B rfl (a06 _) (a06 _)) (by simpa using .hD)
    ·cases c
   ·cases c
  case gc b cap=>
   split at c
   ·rename_i l h D B;split at c;·rename_i d;cases c;obtain rfl:h=0:=(by omega);obtain rfl:l=0:=(by omega);refine bQ F (key _ _ _ 0 0 rfl D B rfl (a06 _) (a99 _)) ?_;grind [VR]
    ·cases c
   ·cases c
  case sl n l b off cap H ad=>
   split at c
   ·rename_i f hj D B;split at c
    ·rename_i d;cases c;refine bQ F (key _ _ _ f hj rfl D B rfl d.1 (by omega)) ?_;by_cases k:f=hj
     ·subst k;have e0:((l.take (f*i.size)).drop (f*i.size))=[]:=(by simp);rw[e0,Nat.sub_self];split;·exact .gc _ _
      ·simp only[az2];exact .gc _ _
     ·rw[if_neg (by omega)];simp only[az2,addr_add];exact .sl _ _ _ _ _ ((H.cj _).ci _) (by omega)
    ·cases c
   ·cases c
  case eC n l b off H=>
   split at c
   ·rename_i f hj D B;split at c
    ·rename_i d;cases c;refine bQ F (key _ _ _ f hj rfl D B rfl d.1 (by omega)) ?_;by_cases k:f=hj
     ·subst k;have e0:((l.take (f*i.size)).drop (f*i.size))=[]:=(by simp);rw[e0,Nat.sub_self];split;·exact .gc _ _
      ·simp only[az2];exact .gc _ _
     ·rw[if_neg (by omega)];simp only[az2,addr_add];exact .sl _ _ _ _ _ ((H.cj _).ci _) (by omega)
    ·cases c
   ·cases c
  case dj o off n sz cap ho hn hb=>
   split at c
   ·rename_i f hj D B;split at c
    ·rename_i d;cases c;refine bQ F (key _ _ _ f hj rfl D B rfl d.1 (by omega)) ?_;by_cases k:f=hj/\f≠0
     ·obtain⟨k,Z⟩:=k;subst k;rw[if_pos ⟨rfl,Z⟩,Nat.sub_self];split;·exact .fu _ _
      ·simp only[az2];exact .fu _ _
     ·rw[if_neg k];have L:(if cap=f then J (⟨g.ob o,off,U⟩:Addr)else J ((⟨g.ob o,off,U⟩:Addr).add (f*i.size)))=J (⟨g.ob o,off+f*i.size,U⟩:Addr):=by
       split;·have:f=0:=(by omega);rw[this];simp
       ·rw[addr_add]
      simp only[az2];rw[L];obtain⟨_,_,rfl⟩:=d;refine .dj o _ (hj-f) i.size (cap-f) ho (by omega) ?_;have:f*i.size+(cap-f)*i.size=cap*i.size:=by rw[<-aF9];congr 1;omega
      omega
    ·cases c
   ·cases c
 case array n el=>simp only[a03,a05]at q;obtain⟨i,hi,a,G,S,A,R,y,am,E,rfl⟩:=q;obtain⟨v,b,off,l,h,rfl,Q,hb,M⟩:=abL F c (j x a G) (BB j A) (BB j y) (BB j E);exact bQ F (by simp[execOp,Instr.sliceAt,run_underlying T,Instr.sureAddr,Q,hb,run_sizeOf hi]) M
 case pointer p=>
  simp only[a03]at q;obtain⟨up,ac,q⟩:=q;cases up<;>first|(cases q;done)|skip
  rename_i n el;simp only[a03,a05]at q;obtain⟨i,hi,a,G,S,A,R,y,am,E,rfl⟩:=q;obtain⟨v,b,off,l,h,rfl,Q,hb,M⟩:=abL F c (j x a G) (BB j A) (BB j y) (BB j E);exact bQ F (by simp[execOp,Instr.sliceAt,run_underlying T,Instr.slice,asAddr,run_underlying ac,Q,hb,run_sizeOf hi]) M
def adI(E:WR g w O)(R:∀x a,cA x=J a->VR g (av C e a) (ρ x)){dst:Option Tmp}{type:TypeId}{pos:String}{after:Array Edge}{guard:Option (Nat×Bool)}{t:TypeId}{n:Nat}{F:Array (Nat×Operand)}{T:XI}(b:cI C.P ⟨dst,.buildSlice t n F,type,pos,after,guard⟩=J T){out:Out}(d:evI C e O T=J out):Gg C.P ⟨dst,.buildSlice t n F,type,pos,after,guard⟩ ρ g O w out:=by
 simp only[cI,ay3,a03,ay7]at b;obtain⟨u,hu,b⟩:=b;cases u<;>first|(cases b;done)|skip
 rename_i H;simp only[a03]at b;obtain⟨k,q,b⟩:=b;split at b;·cases b
 ·rename_i hn;simp only[a03]at b;obtain⟨co,hz,b⟩:=b;split at b
  ·rename_i Q;simp only[a03,a05]at b;obtain⟨qs,K,rfl⟩:=b;obtain⟨i,v,G,h2,h3⟩:=Hr hz;rw[q]at G;cases G;have hv:=sJ g v co h3;simp only[evI,aB]at d;split at d
   ·rename_i l W;split at d
    ·rename_i S;cases d;have M:v.cells.size=k.size:=by rw[hv.bA];exact Q
     have D:=aeo hv.cH n;have s:∃o:Array Value,(n*k.size=0/\o=#[]\/n*k.size≠0/\o=v.cells)/\((Array.range (n*k.size)).map (o[· %o.size]!)).toList=(List.replicate n v.cells.toList).flatten:=by
      by_cases p:n*k.size=0;·refine⟨#[],.inl ⟨p,rfl⟩,?_⟩;rw[p];have:z ((List.replicate n v.cells.toList).flatten)=0:=(by simp[M,p]);grind
      ·refine⟨v.cells,.inr ⟨p,rfl⟩,?_⟩;have:=acQ v.cells n (by
        grind)
       grind
     obtain⟨o,N,P⟩:=s;obtain⟨y,hf,hr⟩:=KQ _ R F.toList qs K _ ((Array.range (n*k.size)).map (o[· %o.size]!)) _ (by rw[P];exact D) W;have A:Instr.fill (λi=>J (i*k.size,k.size)) ((Array.range (n*k.size)).map (o[· %o.size]!)) (Array.map (λx=>(x.fst,ρ x.snd)) F).toList=J y:=(by simpa using hf);have f:=ZQ E y H;have V:y.size=z l:=by have:=hr.I;simpa using this
     have h:(execOp ρ ⟨dst,.buildSlice t n F,type,pos,after,guard⟩).run C.P w=.ok (.value (.slice (J ⟨w.heap.size,0,U⟩) n n)) (yX w (.cells y H)):=by
      have X:¬(2^24<n*k.size):=(by omega);simp only[execOp,Instr.buildSlice,Sem.run_bind,run_underlying hu,Result.andThen_ok,run_sizeOf q];rw[if_neg (by omega)];rcases N with⟨p,rfl⟩|⟨p,rfl⟩;·rw[if_pos p];simp only[Sem.run_pure,Sem.run_bind,Result.andThen_ok,A,newRow,run_newObj];rfl
      ·rw[if_neg p];simp only[Sem.run_pure,Sem.run_bind,Result.andThen_ok,Hf q h2,A,newRow,run_newObj];rfl
     cases Y:Bq co.cH with
     |true=>
      by_cases B:n=0;·subst B;refine⟨_,_,f,.inl ⟨_,h,?_⟩⟩;refine .eC 0 l w.heap.size 0 (CR.bO λj a I=>?_);grind
      ·obtain⟨m,rfl⟩:=Nat.exists_eq_add_one_of_ne_zero B;have f:=zy E H FZ (l:=l) (c:=y) (λt x Z=>by cases Z) (λi x hx=>hr.b2 hx|>λ⟨v,G,h2⟩=>⟨v,by simpa using G,h2⟩) (by omega);refine⟨_,_,f,.inl ⟨_,h,?_⟩⟩;have:=VR.dj (g:=g.ab w.heap.size y.size) (z O) 0 (m+1) k.size (m+1) (by simp[Gh.ab,E.n]) (a06 _) (by simp[Gh.ab,E.n];omega);simpa[Gh.ab,E.n]using this
     |false=>
     refine⟨_,_,f,.inl ⟨_,h,?_⟩⟩;refine .eC n l w.heap.size 0 (CR.bO λj a I=>?_);obtain⟨u,aa,L⟩:=hr.b2 I;have hj:=(a00.1 I).1;refine⟨u,?_,L.D f.le⟩;simp only[Gh.an,az5];grind
    ·cases d
   ·cases d
  ·cases b
end
end Go.Ev
