/- Contracts of library functions over this translation. No conditions. -/
import Derived.Shelf.Strings.Builder1
import Derived.Test.YtomedkaiefgbeaaGreatDoorProg
import Derived.WalkKit
import Derived.WalkLawsBesides
import Derived.WalkSpells
import Derived.Lib.Hide
import Derived.Outline
import Derived.Test.YtomedkaiefgbeaaGreatDoorUA
set_option linter.unusedVariables false
set_option linter.unusedSimpArgs false
namespace Go.Proofs.YtomedkaiefgbeaaGreatDoor
open Go.Shelf Go.Proofs
def Tryz.lays170_ren : Go.Shelf.Ren:=⟨fun | 170=>209 | n=>n,fun | 70=>252 | 3=>3 | 0=>0 | 72=>254 | 37=>208 | 5=>5 | n=>n,fun | n=>n⟩
theorem Tryz.lays170 : Go.Proofs.Lays.n170 Tryz.prog Tryz.lays170_ren:={
 mixed:=by kernel_rfl
 f170:=Tryz.func209.trans (congrArg some (by kernel_rfl))
 t0:=Tryz.underlying0
 a0:=Tryz.isAgg0
 z0:=Tryz.sizeOf0
 v0:=Tryz.zeroValue0
 t3:=Tryz.underlying3
 a3:=Tryz.isAgg3
 z3:=Tryz.sizeOf3
 v3:=Tryz.zeroValue3
 t37:=Tryz.underlying208
 a37:=Tryz.isAgg208
 z37:=Tryz.sizeOf208
 v37:=Tryz.zeroValue208
 t70:=Tryz.underlying252
 a70:=Tryz.isAgg252
 z70:=Tryz.sizeOf252
 v70:=Tryz.zeroValue252
 t72:=Tryz.underlying254
 a72:=Tryz.isAgg254
 z72:=Tryz.sizeOf254
 v72:=Tryz.zeroValue254 }
open Go.RowKit in
theorem Tryz.Builder_Len (B b : Nat) (bs : List Value) (w : World) (h : Lib.IsBuilder 254 5 B b bs w) :
  Calls Tryz.prog 209 #[.pointer (some ⟨b,0,none⟩)] w fun e w'=>e = .returned (.int .i64 bs.length) ∧ w' = w:=Any.Builder_Len Tryz.lays170 B b bs w h
def Tryz.lays169_ren : Go.Shelf.Ren:=⟨fun | 169=>136 | n=>n,fun | 70=>252 | 9=>9 | 0=>0 | 72=>254 | 37=>208 | 127=>342 | 3=>3 | 5=>5 | n=>n,fun | n=>n⟩
theorem Tryz.lays169 : Go.Proofs.Lays.n169 Tryz.prog Tryz.lays169_ren:={
 mixed:=by kernel_rfl
 f169:=Tryz.func136.trans (congrArg some (by kernel_rfl))
 t0:=Tryz.underlying0
 a0:=Tryz.isAgg0
 z0:=Tryz.sizeOf0
 v0:=Tryz.zeroValue0
 t3:=Tryz.underlying3
 a3:=Tryz.isAgg3
 z3:=Tryz.sizeOf3
 v3:=Tryz.zeroValue3
 t9:=Tryz.underlying9
 a9:=Tryz.isAgg9
 z9:=Tryz.sizeOf9
 v9:=Tryz.zeroValue9
 t37:=Tryz.underlying208
 a37:=Tryz.isAgg208
 z37:=Tryz.sizeOf208
 v37:=Tryz.zeroValue208
 t70:=Tryz.underlying252
 a70:=Tryz.isAgg252
 z70:=Tryz.sizeOf252
 v70:=Tryz.zeroValue252
 t72:=Tryz.underlying254
 a72:=Tryz.isAgg254
 z72:=Tryz.sizeOf254
 v72:=Tryz.zeroValue254
 t127:=Tryz.underlying342
 a127:=Tryz.isAgg342
 z127:=Tryz.sizeOf342
 v127:=Tryz.zeroValue342 }
theorem Tryz.Builder_Extra_169 : Builder.Extra Tryz.prog Tryz.lays169_ren:={
 sizeBuilder:=by kernel_rfl
 liesBuilder:=by kernel_rfl
 t5:=Tryz.underlying5
 a5:=Tryz.isAgg5
 z5:=Tryz.sizeOf5
 v5:=Tryz.zeroValue5
 infoByte:=by kernel_rfl
 cellsByte:=by kernel_rfl
 sizeByte:=by kernel_rfl
 neB5:=by decide }
open Go.RowKit in
theorem Tryz.Builder_String (B b : Nat) (l : List UInt8) (w : World) (h : Lib.IsBuilder 254 5 B b (Lib.byteCells l) w) (h0 : l ≠ []) :
  Calls Tryz.prog 136 #[.pointer (some ⟨b,0,none⟩)] w fun e w'=>e = .returned (.string ⟨l.toArray⟩) ∧ Below B w w':= Any.Builder_String Tryz.lays169 Tryz.Builder_Extra_169 B b l w h h0
open Go.RowKit in
theorem Tryz.Builder_String_empty (B b : Nat) (w : World) (h : Lib.IsBuilder 254 5 B b [] w) (hBw : B ≤ w.heap.size) :
  Calls Tryz.prog 136 #[.pointer (some ⟨b,0,none⟩)] w fun e w'=>e = .returned (.string ⟨#[]⟩) ∧ Below B w w':= Any.Builder_String_empty Tryz.lays169 Tryz.Builder_Extra_169 B b w h hBw
open Go.RowKit in
theorem Tryz.Builder_String_any (B b : Nat) (l : List UInt8) (w : World) (h : Lib.IsBuilder 254 5 B b (Lib.byteCells l) w) (hBw : B ≤ w.heap.size) :
  Calls Tryz.prog 136 #[.pointer (some ⟨b,0,none⟩)] w fun e w'=>e = .returned (.string ⟨l.toArray⟩) ∧ Below B w w':= Any.Builder_String_any Tryz.lays169 Tryz.Builder_Extra_169 B b l w h hBw
end Go.Proofs.YtomedkaiefgbeaaGreatDoor
namespace Go.Proofs.YtomedkaiefgbeaaGreatDoor
open Go.RowKit
set_option linter.unusedVariables false
set_option maxRecDepth 100000
theorem j4q : (Tryz.prog.info? 254).map (fun i=>i.size) = some 2:=by kernel_rfl
theorem infoByte : (Tryz.prog.info? 5).map (fun i=>(i.zero,i.size,i.bytes)) = some (some (.int .u8 0),1,1):=by kernel_rfl
theorem j5i : liesAt Tryz.prog Tryz.prog.depth 254 (2 / Tryz.prog.cellsOf 254) 0 254 1 = true:=by kernel_rfl
theorem d5a (b : Nat) (w : World) (h0 : w.cell? ⟨b,0,none⟩ = some (.pointer (some ⟨b,0,none⟩))) :
  Calls Tryz.prog 204 #[.pointer (some ⟨b,0,none⟩)] w fun e w'=>e = .returned (.tuple #[]) ∧ w = w':= by
 obtain ⟨j,hj,_⟩:=Option.map_eq_some_iff.1 j4q
 have hq:=Lib.run_neq_ptr_same (P:=Tryz.prog) w (⟨b,0,none⟩) Tryz.underlying252 hj
 go_enter Tryz.func204,Tryz.ntmps204
 go_wp2
 go_end0
 exact ⟨rfl,rfl⟩
theorem c0d (b : Nat) (w : World) (h0 : w.cell? ⟨b,0,none⟩ = some (.pointer none)) (hsh : w.shape? b = some (254,2)) (hfz : w.frozen? ⟨b,0,none⟩ = false) :
  Calls Tryz.prog 204 #[.pointer (some ⟨b,0,none⟩)] w fun e w'=>e = .returned (.tuple #[]) ∧ w' = w.setCell ⟨b,0,none⟩ (.pointer (some ⟨b,0,none⟩)):=by
 obtain ⟨j,hj,hjs⟩:=Option.map_eq_some_iff.1 j4q
 have h1:=Lib.run_to_unsafe (P:=Tryz.prog) w ⟨b,0,none⟩ Tryz.underlying252 Tryz.underlying399 hj (by rw [hjs]; decide) hsh (Nat.zero_lt_succ 1)
 have h2:=Lib.run_from_unsafe (P:=Tryz.prog) w ⟨b,0,none⟩ Tryz.underlying399 Tryz.underlying252 hj hsh j5i
 have h3 : (callFunc 267 #[.pointer (some ⟨b,0,none⟩)]).run Tryz.prog w = .ok (Next.value (.pointer (some ⟨b,0,none⟩))) w:=by
  rw [run_callFunc_extern Tryz.func267 (by kernel_rfl) (by kernel_rfl) (by kernel_rfl) (e:=Extern.AbiNoEscape.same) (by kernel_rfl),Lib.run_noEscape]; rfl
 go_enter Tryz.func204,Tryz.ntmps204
 go_wp2
 go_end0
 exact ⟨rfl,rfl⟩
theorem check_any (B b : Nat) (bs : List Value) (w : World) (h : Lib.IsBuilder 254 5 B b bs w) :
  Calls Tryz.prog 204 #[.pointer (some ⟨b,0,none⟩)] w fun e w'=>e = .returned (.tuple #[]) ∧ Lib.BuilderAt 254 5 B b (.pointer (some ⟨b,0,none⟩)) bs w' ∧ Below B w w':= by
 rcases h with h | h
 ·exact (c0d b w h.cell0 h.shape h.frozen0).mono fun e w' ⟨he,hw⟩=>⟨he,by rw [hw]; exact h.used _,by rw [hw]; exact (Below.refl B w).setCell (p:=⟨b,0,none⟩) h.1 _⟩
 ·exact (d5a b w h.cell0).mono fun e w' ⟨he,hw⟩=>⟨he,by rw [← hw]; exact h,by rw [← hw]; exact Below.refl B _⟩
theorem e7z {w1 w2 : World} {b : Nat} {row : Option Nat} {o : Obj} (h : w1.heap[b]? = some o) (hg : w1.grownBy w2 row) (hne : row ≠ some b) : w2.heap[b]? = some o:=by
 have hlt : b < w1.heap.size:=by
  rcases Nat.lt_or_ge b w1.heap.size with h' | h'
  ·exact h'
  ·simp [Array.getElem?_eq_none h'] at h
 rw [hg.block b hlt (fun e=>hne e.symm)]; exact h
set_option maxHeartbeats 1000000 in
theorem g3d (B b : Nat) (bs : List Value) (c : Int) (w : World) (h : Lib.IsBuilder 254 5 B b bs w) (hlen : bs.length + 1 ≤ 1099511627776) (hBw : B ≤ w.heap.size) :
  Calls Tryz.prog 135 #[.pointer (some ⟨b,0,none⟩),.int .u8 c] w fun e w'=>e = .returned .nilIface ∧ Lib.BuilderAt 254 5 B b (.pointer (some ⟨b,0,none⟩)) (bs ++ [.int .u8 c]) w' ∧ Below B w w':= by
 obtain ⟨i0,hi,hz0,hz1,hz2⟩:=info_parts infoByte
 go_enter Tryz.func135,Tryz.ntmps135
 go_wp2_with fail
 refine (check_any B b bs _ h).mono ?_
 rintro e w1 ⟨rfl,⟨hB,v,hbk,hown,hne⟩,hb1⟩
 have c0 : w1.cell? ⟨b,0,none⟩ = some (.pointer (some ⟨b,0,none⟩)):=by rw [Lib.cell_of_heap hbk]; rfl
 have c1 : w1.cell? ⟨b,1,none⟩ = some v:=by rw [Lib.cell_of_heap hbk]; rfl
 go_wp2_with (at_builtin; refine wpList_append_own _ rfl _ _ 208 rfl B 5 i0 (.int .u8 0) 1 1 Tryz.underlying208 hi hz0 hz1 hz2 rfl (by decide) _ _ _ rfl (hown.alloc _) ⟨w1.heap.size,0,none⟩ 1 1 [.int .u8 c] rfl rfl ?c1 ?c2 ?c3 ?c4 ?c5 ?_)
 case c1=>
  intro j u hj
  match j,hj with
  | 0,hj=>simp at hj; subst hj; simp [Addr.add]
 case c2=>intro u hu; simp at hu; subst hu; rfl
 case c3=>unfold maxLen; omega
 case c4=>omega
 case c5=>have:=hb1.size; simp; omega
 intro v' w2 hown' hgrow _
 have hgr2:=(World.grownBy_alloc w1 (.cells #[.int .u8 c] 5) v.ownBlock).trans hgrow
 have hb2:=e7z hbk hgr2 hne
 have d0 : w2.cell? ⟨b,0,none⟩ = some (.pointer (some ⟨b,0,none⟩)):=by rw [Lib.cell_of_heap hb2]; rfl
 have d1 : w2.cell? ⟨b,1,none⟩ = some v:=by rw [Lib.cell_of_heap hb2]; rfl
 have f1 : w2.frozen? ⟨b,1,none⟩ = false:=Lib.frozen_of_heap hb2 1
 obtain ⟨g,cap,rfl⟩ : ∃ g cap,v' = .slice (some ⟨g,0,none⟩) (bs.length + 1) cap:=by
  rcases hown'.2 with ⟨_,h0⟩ | ⟨g,cap,cur,hv,_⟩
  ·omega
  ·exact ⟨g,cap,hv⟩
 go_wp2
 go_ret
 refine ⟨rfl,?_,?_⟩
 ·exact Lib.BuilderAt.put hB hb2 (bs':= bs ++ [.int .u8 c]) (by simpa using hown') (by decide)
 ·exact (hb1.grown hgr2 (by have:=hb1.size; omega) (fun k hk=>(hown.lt k hk).1)).setCell (p:=⟨b,1,none⟩) hB _
set_option maxHeartbeats 1000000 in
theorem e3p (B b : Nat) (bs : List Value) (s : ByteArray) (w : World) (h : Lib.IsBuilder 254 5 B b bs w) (hlen : bs.length + s.size ≤ 1099511627776) (hBw : B ≤ w.heap.size) :
  Calls Tryz.prog 132 #[.pointer (some ⟨b,0,none⟩),.string s] w fun e w'=>e = .returned (.tuple #[.int .i64 s.size,.nilIface]) ∧ Lib.BuilderAt 254 5 B b (.pointer (some ⟨b,0,none⟩)) (bs ++ Lib.strCells s) w' ∧ Below B w w':= by
 obtain ⟨i0,hi,hz0,hz1,hz2⟩:=info_parts infoByte
 go_enter Tryz.func132,Tryz.ntmps132
 go_wp2_with fail
 refine (check_any B b bs _ h).mono ?_
 rintro e w1 ⟨rfl,⟨hB,v,hbk,hown,hne⟩,hb1⟩
 have c0 : w1.cell? ⟨b,0,none⟩ = some (.pointer (some ⟨b,0,none⟩)):=by rw [Lib.cell_of_heap hbk]; rfl
 have c1 : w1.cell? ⟨b,1,none⟩ = some v:=by rw [Lib.cell_of_heap hbk]; rfl
 go_wp2_with (at_builtin; refine Lib.wpList_append_own_string _ rfl _ _ 208 9 rfl B 5 i0 Tryz.underlying208 Tryz.underlying9 hi hz0 hz1 hz2 _ _ _ rfl hown s rfl ?c3 ?c4 ?c5 ?_)
 case c3=>unfold maxLen; omega
 case c4=>omega
 case c5=>have:=hb1.size; omega
 intro v' w2 hown' hgrow _
 have hb2:=e7z hbk hgrow hne
 have d0 : w2.cell? ⟨b,0,none⟩ = some (.pointer (some ⟨b,0,none⟩)):=by rw [Lib.cell_of_heap hb2]; rfl
 have d1 : w2.cell? ⟨b,1,none⟩ = some v:=by rw [Lib.cell_of_heap hb2]; rfl
 have f1 : w2.frozen? ⟨b,1,none⟩ = false:=Lib.frozen_of_heap hb2 1
 obtain ⟨ao,n',cap,rfl⟩ : ∃ ao n' cap,v' = .slice ao n' cap:=by
  rcases hown'.2 with ⟨hv,_⟩ | ⟨g,cap,cur,hv,_⟩
  ·exact ⟨_,_,_,hv⟩
  ·exact ⟨_,_,_,hv⟩
 go_wp2
 go_ret2
 refine ⟨rfl,?_,?_⟩
 ·exact Lib.BuilderAt.put hB hb2 (bs':= bs ++ Lib.strCells s) (by simpa [Lib.strCells_length] using hown') (by decide)
 ·exact (hb1.grown hgrow (by have:=hb1.size; omega) (fun k hk=>(hown.lt k hk).1)).setCell (p:=⟨b,1,none⟩) hB _
end Go.Proofs.YtomedkaiefgbeaaGreatDoor
namespace Go.Proofs.YtomedkaiefgbeaaGreatDoor
set_option linter.unusedVariables false
def esc (c : UInt8) : List UInt8:=if c.toNat = 34 ∨ c.toNat = 92 then [92,c] else [c]
def escs (l : List UInt8) : List UInt8:=l.flatMap esc
def i7k (l : List UInt8) : List UInt8:=34 :: (escs l ++ [34])
theorem j1t (c : UInt8) : 1 ≤ (esc c).length ∧ (esc c).length ≤ 2:=by unfold esc; split <;> simp
theorem i2h (c : UInt8) (t : List UInt8) : escs (c :: t) = esc c ++ escs t:=rfl
theorem h0h (a b : List UInt8) : escs (a ++ b) = escs a ++ escs b:=by unfold escs; exact List.flatMap_append
theorem g7j (a : List UInt8) (c : UInt8) : escs (a ++ [c]) = escs a ++ esc c:=by rw [h0h]; simp [escs]
theorem i5r (l : List UInt8) : l.length ≤ (escs l).length ∧ (escs l).length ≤ 2 * l.length:=by
 induction l with
 | nil=>simp [escs]
 | cons c t ih=>rw [i2h]; have:=j1t c; simp; omega
def c4u (l : List UInt8) : List UInt8 × Nat:=if 4096 < l.length then ([],5) else if (lenU l).isSome then (i7k l,0) else ([],12)
end Go.Proofs.YtomedkaiefgbeaaGreatDoor
namespace Go.Proofs.YtomedkaiefgbeaaGreatDoor
open Go.RowKit
set_option linter.unusedVariables false
set_option maxRecDepth 100000
structure Bd (B b : Nat) (l : List UInt8) (w : World) : Prop where
 is : Lib.IsBuilder 254 5 B b (Lib.byteCells l) w
theorem h2u (w : World) (B : Nat) (h : B ≤ w.heap.size) : Bd B w.heap.size [] (w.alloc (.cells #[.pointer none,.slice none 0 0] 254)):=
 ⟨.inl ⟨h,_,(MapKept.heap_alloc w _).1,World.ownsRow_nil _ _ _ _,by unfold Value.ownBlock; simp⟩⟩
theorem c8n {B b : Nat} {p : Value} {bs : List Value} {w w' : World} (h : Lib.BuilderAt 254 5 B b p bs w) (hg : w.grownBy w' none) : Lib.BuilderAt 254 5 B b p bs w':= by
 have hlt:=h.lt
 obtain ⟨hB,v,hb,hown,hne⟩:=h
 refine ⟨hB,v,(hg.block b hlt (by simp)).trans hb,hown.kept hg ?_,hne⟩
 cases v.ownBlock with
 | none=>exact .inl rfl
 | some k=>exact .inr (by simp)
theorem Bd.kept {B b : Nat} {l : List UInt8} {w w' : World} (h : Bd B b l w) (hg : w.grownBy w' none) : Bd B b l w':=
 ⟨h.is.elim (fun h=>.inl (c8n h hg)) (fun h=>.inr (c8n h hg))⟩
theorem Bd.lt {B b : Nat} {l : List UInt8} {w : World} (h : Bd B b l w) : B ≤ b ∧ b < w.heap.size:=
 h.is.elim (fun h=>⟨h.1,h.lt⟩) (fun h=>⟨h.1,h.lt⟩)
theorem b2t (B b : Nat) (l : List UInt8) (c : Nat) (w : World) (h : Bd B b l w) (hc : c < 256) (hlen : l.length + 1 ≤ 1099511627776) (hBw : B ≤ w.heap.size) :
  Calls Tryz.prog 135 #[.pointer (some ⟨b,0,none⟩),.int .u8 c] w fun e w'=>e = .returned .nilIface ∧ Bd B b (l ++ [b8 c]) w' ∧ Below B w w':= by
 refine (g3d B b _ c w h.is (by rw [Lib.byteCells_length]; exact hlen) hBw).mono fun e w' ⟨he,hb,hbl⟩=>⟨he,⟨.inr ?_⟩,hbl⟩
 rw [Lib.byteCells_append]
 have e1 : Lib.byteCells [b8 c] = [.int .u8 c]:=by simp [Lib.byteCells,a2o c hc]
 rw [e1]; exact hb
theorem e6q (B b : Nat) (l : List UInt8) (s : ByteArray) (w : World) (h : Bd B b l w) (hlen : l.length + s.size ≤ 1099511627776) (hBw : B ≤ w.heap.size) :
  Calls Tryz.prog 132 #[.pointer (some ⟨b,0,none⟩),.string s] w fun e w'=>e = .returned (.tuple #[.int .i64 s.size,.nilIface]) ∧ Bd B b (l ++ s.data.toList) w' ∧ Below B w w':= by
 refine (e3p B b _ s w h.is (by rw [Lib.byteCells_length]; exact hlen) hBw).mono fun e w' ⟨he,hb,hbl⟩=>⟨he,⟨.inr ?_⟩,hbl⟩
 rw [Lib.byteCells_append]
 exact hb
theorem i7u (B b : Nat) (l : List UInt8) (w : World) (h : Bd B b l w) :
  Calls Tryz.prog 209 #[.pointer (some ⟨b,0,none⟩)] w fun e w'=>e = .returned (.int .i64 l.length) ∧ w = w':=
 (Tryz.Builder_Len B b _ w h.is).mono fun e w' ⟨he,hw⟩=>⟨by rw [he,Lib.byteCells_length],hw.symm⟩
theorem g7l (B b : Nat) (l : List UInt8) (w : World) (h : Bd B b l w) (hBw : B ≤ w.heap.size) :
  Calls Tryz.prog 136 #[.pointer (some ⟨b,0,none⟩)] w fun e w'=>e = .returned (.string ⟨l.toArray⟩) ∧ Below B w w':=
 Tryz.Builder_String_any B b l w h.is hBw
def str (l : List UInt8) : ByteArray:=⟨l.toArray⟩
theorem h5h (s : ByteArray) (w : World) (hs : s.size ≤ 1099511627776) (h : 4096 < s.size) :
  Calls Tryz.prog 131 #[.string s] w fun e w'=>e = .returned (.tuple #[.string ⟨#[]⟩,.int .i64 5]) ∧ w = w':= by
 go_enter Tryz.func131,Tryz.ntmps131
 go_wp2_with fail
 go_ret2
 exact ⟨rfl,rfl⟩
theorem h8t (s : ByteArray) (w : World) (h : s.size ≤ 4096) (hv : Hid ((lenU s.data.toList).isSome = false)) :
  Calls Tryz.prog 131 #[.string s] w fun e w'=>e = .returned (.tuple #[.string ⟨#[]⟩,.int .i64 12]) ∧ Below w.heap.size w w':= by
 go_enter Tryz.func131,Tryz.ntmps131
 go_wp2_with fail
 refine (h3d _ _ _ (by omega) hv.out).mono ?_
 rintro e w1 ⟨rfl,hb1⟩
 go_wp2_with fail
 go_ret2
 exact ⟨rfl,hb1⟩
def i5s (s : ByteArray) (B b : Nat) (w0 : World) (iv : Value) (w' : World) : Prop:=
 ∃ k : Nat,k ≤ s.size ∧ iv = .int .i64 k ∧ Bd B b (34 :: escs (s.data.toList.take k)) w' ∧ Below B w0 w'
theorem i6r (s : ByteArray) (w : World) (h : s.size ≤ 4096) (hv : Hid ((lenU s.data.toList).isSome = true)) :
  Calls Tryz.prog 131 #[.string s] w fun e w'=>e = .returned (.tuple #[.string (str (i7k s.data.toList)),.int .i64 0]) ∧ Below w.heap.size w w':= by
 go_enter Tryz.func131,Tryz.ntmps131
 go_wp2_with fail
 refine (h3d _ _ _ (by omega) hv.out).mono ?_
 rintro e w1 ⟨rfl,hb1⟩
 have hd:=h2u w1 w1.heap.size (Nat.le_refl _)
 have Hd:=Bx.mk hd
 clear hd
 have hdd : decide ((4096 : Int) < s.size) = false:=by simp; omega
 go_wp2_with fail
 refine (b2t w1.heap.size w1.heap.size [] 34 _ Hd.out (by omega) (by simp) (by simp)).mono ?_
 rintro e w2 ⟨rfl,hd2,hb2⟩
 have HD2:=Bx.mk hd2
 have hz2 : w1.heap.size < w2.heap.size:=hd2.lt.2
 have hb2' : Below w1.heap.size w1 w2:=((Below.refl _ _).alloc (Nat.le_refl _) _).trans hb2
 clear hd2 hb2 Hd
 go_wp2_with fail
 go_loopw [15] (fun i w'=>i5s s w1.heap.size w1.heap.size w1 i w') (fun i _=>s.size - (intOf i).toNat)
 case atStart=>exact ⟨0,by omega,rfl,HD2.out,hb2'⟩
 case round=>
  clear HD2 hb2' hz2
  obtain ⟨k,hk,rfl,hd,hb⟩:=hrel
  have hlen : (34 :: escs (s.data.toList.take k)).length ≤ 8193:=by
   have:=i5r (s.data.toList.take k)
   simp; simp at this; omega
  by_cases hlt : k < s.size
  ·have hb8 : s[k].toNat < 256:=s[k].toNat_lt
   have hsn : s.data.toList.take (k + 1) = s.data.toList.take k ++ [s[k]]:=by
    rw [List.take_succ_eq_append_getElem (by simpa using hlt)]; rfl
   have hq : b8 s[k].toNat = s[k]:=(b8t _ _ rfl).symm
   by_cases hc : s[k].toNat = 34 ∨ s[k].toNat = 92
   ·have HE : Bx (34 :: escs (s.data.toList.take (k + 1)) = (34 :: escs (s.data.toList.take k)) ++ [b8 92] ++ [b8 s[k].toNat]):=⟨by
     rw [hsn,g7j,esc,if_pos hc,hq]; simp; rfl⟩
    have HD:=Bx.mk hd
    have HLEN:=Bx.mk hlen
    have hcc : ((s[k].toNat : Int) == 34) = true ∨ (((s[k].toNat : Int) == 34) = false ∧ ((s[k].toNat : Int) == 92) = true):=by
     rcases hc with hc | hc
     ·left; simp; omega
     ·right; constructor <;> simp <;> omega
    clear hsn hq hc hd hlen
    rcases hcc with hcc | ⟨hcc,hc2⟩
    all_goals
     go_wp2_with fail
     refine (b2t _ _ _ 92 _ HD.out (by omega) (by have:=HLEN.out; omega) hb.size).mono ?_
     rintro e w3 ⟨rfl,hd3,hb3⟩
     have HD3:=Bx.mk hd3
     clear hd3
     go_wp2_with fail
     refine (b2t _ _ _ s[k].toNat _ HD3.out hb8 (by have:=HLEN.out; simp; simp at this; omega) (Nat.le_trans hb.size hb3.size)).mono ?_
     rintro e w4 ⟨rfl,hd4,hb4⟩
     have HD4:=Bx.mk hd4
     clear hd4
     go_wp2_with fail
     go_roundw
     case rel=>exact ⟨k + 1,by omega,by go_num,by rw [HE.out]; exact HD4.out,(hb.trans hb3).trans hb4⟩
     case measure=>simp [intOf]; omega
   ·have HE : Bx (34 :: escs (s.data.toList.take (k + 1)) = (34 :: escs (s.data.toList.take k)) ++ [b8 s[k].toNat]):=⟨by
     rw [hsn,g7j,esc,if_neg hc,hq]; simp⟩
    have HD:=Bx.mk hd
    have HLEN:=Bx.mk hlen
    have hc1 : ((s[k].toNat : Int) == 34) = false:=by simp; omega
    have hc2 : ((s[k].toNat : Int) == 92) = false:=by simp; omega
    clear hsn hq hc hd hlen
    go_wp2_with fail
    refine (b2t _ _ _ s[k].toNat _ HD.out hb8 (by have:=HLEN.out; omega) hb.size).mono ?_
    rintro e w3 ⟨rfl,hd3,hb3⟩
    have HD3:=Bx.mk hd3
    clear hd3
    go_wp2_with fail
    go_roundw
    case rel=>exact ⟨k + 1,by omega,by go_num,by rw [HE.out]; exact HD3.out,hb.trans hb3⟩
    case measure=>simp [intOf]; omega
  ·have HD : Bx (Bd w1.heap.size w1.heap.size (34 :: escs s.data.toList) wr):=⟨by
    rw [List.take_of_length_le (by simp; omega)] at hd; exact hd⟩
   have HL : Bx ((34 :: escs s.data.toList).length ≤ 8193):=⟨by
    rw [List.take_of_length_le (by simp; omega)] at hlen; exact hlen⟩
   clear hd hlen
   go_wp2_with fail
   refine (b2t _ _ _ 34 _ HD.out (by omega) (by have:=HL.out; omega) hb.size).mono ?_
   rintro e w3 ⟨rfl,hd3,hb3⟩
   have HD3:=Bx.mk hd3
   clear hd3
   go_wp2_with fail
   refine (g7l _ _ _ _ HD3.out (Nat.le_trans hb.size hb3.size)).mono ?_
   rintro e w4 ⟨rfl,hb4⟩
   go_wp2_with fail
   go_ret2
   refine ⟨rfl,hb1.trans (((hb.trans hb3).trans hb4).mono hb1.size)⟩
theorem h7d (s : ByteArray) (w : World) (hs : s.size ≤ 1099511627776) :
  Calls Tryz.prog 131 #[.string s] w fun e w'=>e = .returned (.tuple #[.string (str (c4u s.data.toList).1),.int .i64 (c4u s.data.toList).2]) ∧ Below w.heap.size w w':= by
 unfold c4u
 rw [← Lib.size_eq]
 by_cases h : 4096 < s.size
 ·rw [if_pos h]
  exact (h5h s w hs h).mono fun _ _ ⟨he,hw⟩=>⟨he,by rw [← hw]; exact Below.refl _ _⟩
 ·rw [if_neg h]
  cases hv : (lenU s.data.toList).isSome
  ·exact h8t s w (by omega) hv
  ·exact i6r s w (by omega) hv
end Go.Proofs.YtomedkaiefgbeaaGreatDoor
