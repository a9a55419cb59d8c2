/- Contracts of library functions over this translation. No conditions. -/
import Derived.Shelf.Strings.Builder1
import Derived.Test.YtgpjaembafkpoaaGreatDoorProg
import Derived.WalkKit
import Derived.WalkLawsBesides
import Derived.WalkSpells
import Derived.Lib.Hide
import Derived.Outline
import Derived.Test.YtgpjaembafkpoaaGreatDoorUA
set_option linter.unusedVariables false
set_option linter.unusedSimpArgs false
/- Builder.Len and Builder.String, laid by the kit's shelf tools (lay-shelf, lay-plain), numbers by name. -/
namespace Go.Proofs.YtgpjaembafkpoaaGreatDoor
open Go.Shelf Go.Proofs
def Tryz.lays170_ren : Go.Shelf.Ren := ⟨fun | 170 => 192 | n => n,fun | 70 => 217 | 3 => 3 | 0 => 0 | 72 => 220 | 37 => 218 | 5 => 5 | n => n,fun | n => n⟩
theorem Tryz.lays170 : Go.Proofs.Lays.n170 Tryz.prog Tryz.lays170_ren := {
  mixed := by kernel_rfl
  f170 := Tryz.func192.trans (congrArg some (by kernel_rfl))
  t0 := Tryz.underlying0
  a0 := Tryz.isAgg0
  z0 := Tryz.sizeOf0
  v0 := Tryz.zeroValue0
  t3 := Tryz.underlying3
  a3 := Tryz.isAgg3
  z3 := Tryz.sizeOf3
  v3 := Tryz.zeroValue3
  t37 := Tryz.underlying218
  a37 := Tryz.isAgg218
  z37 := Tryz.sizeOf218
  v37 := Tryz.zeroValue218
  t70 := Tryz.underlying217
  a70 := Tryz.isAgg217
  z70 := Tryz.sizeOf217
  v70 := Tryz.zeroValue217
  t72 := Tryz.underlying220
  a72 := Tryz.isAgg220
  z72 := Tryz.sizeOf220
  v72 := Tryz.zeroValue220 }
open Go.RowKit in
theorem Tryz.Builder_Len (B b : Nat) (bs : List Value) (w : World) (h : Lib.IsBuilder 220 5 B b bs w) :
    Calls Tryz.prog 192 #[.pointer (some ⟨b,0,none⟩)] w fun e w' => e = .returned (.int .i64 bs.length) ∧ w' = w := Any.Builder_Len Tryz.lays170 B b bs w h
def Tryz.lays169_ren : Go.Shelf.Ren := ⟨fun | 169 => 121 | n => n,fun | 70 => 217 | 9 => 9 | 0 => 0 | 72 => 220 | 37 => 218 | 127 => 288 | 3 => 3 | 5 => 5 | n => n,fun | n => n⟩
theorem Tryz.lays169 : Go.Proofs.Lays.n169 Tryz.prog Tryz.lays169_ren := {
  mixed := by kernel_rfl
  f169 := Tryz.func121.trans (congrArg some (by kernel_rfl))
  t0 := Tryz.underlying0
  a0 := Tryz.isAgg0
  z0 := Tryz.sizeOf0
  v0 := Tryz.zeroValue0
  t3 := Tryz.underlying3
  a3 := Tryz.isAgg3
  z3 := Tryz.sizeOf3
  v3 := Tryz.zeroValue3
  t9 := Tryz.underlying9
  a9 := Tryz.isAgg9
  z9 := Tryz.sizeOf9
  v9 := Tryz.zeroValue9
  t37 := Tryz.underlying218
  a37 := Tryz.isAgg218
  z37 := Tryz.sizeOf218
  v37 := Tryz.zeroValue218
  t70 := Tryz.underlying217
  a70 := Tryz.isAgg217
  z70 := Tryz.sizeOf217
  v70 := Tryz.zeroValue217
  t72 := Tryz.underlying220
  a72 := Tryz.isAgg220
  z72 := Tryz.sizeOf220
  v72 := Tryz.zeroValue220
  t127 := Tryz.underlying288
  a127 := Tryz.isAgg288
  z127 := Tryz.sizeOf288
  v127 := Tryz.zeroValue288 }
theorem Tryz.Builder_Extra_169 : Builder.Extra Tryz.prog Tryz.lays169_ren := {
  sizeBuilder := by kernel_rfl
  liesBuilder := by kernel_rfl
  t5 := Tryz.underlying5
  a5 := Tryz.isAgg5
  z5 := Tryz.sizeOf5
  v5 := Tryz.zeroValue5
  infoByte := by kernel_rfl
  cellsByte := by kernel_rfl
  sizeByte := by kernel_rfl
  neB5 := by decide }
open Go.RowKit in
theorem Tryz.Builder_String (B b : Nat) (l : List UInt8) (w : World) (h : Lib.IsBuilder 220 5 B b (Lib.byteCells l) w) (h0 : l ≠ []) :
    Calls Tryz.prog 121 #[.pointer (some ⟨b,0,none⟩)] w fun e w' => e = .returned (.string ⟨l.toArray⟩) ∧ Below B w w' := Any.Builder_String Tryz.lays169 Tryz.Builder_Extra_169 B b l w h h0
open Go.RowKit in
theorem Tryz.Builder_String_empty (B b : Nat) (w : World) (h : Lib.IsBuilder 220 5 B b [] w) (hBw : B ≤ w.heap.size) :
    Calls Tryz.prog 121 #[.pointer (some ⟨b,0,none⟩)] w fun e w' => e = .returned (.string ⟨#[]⟩) ∧ Below B w w' := Any.Builder_String_empty Tryz.lays169 Tryz.Builder_Extra_169 B b w h hBw
open Go.RowKit in
theorem Tryz.Builder_String_any (B b : Nat) (l : List UInt8) (w : World) (h : Lib.IsBuilder 220 5 B b (Lib.byteCells l) w) (hBw : B ≤ w.heap.size) :
    Calls Tryz.prog 121 #[.pointer (some ⟨b,0,none⟩)] w fun e w' => e = .returned (.string ⟨l.toArray⟩) ∧ Below B w w' := Any.Builder_String_any Tryz.lays169 Tryz.Builder_Extra_169 B b l w h hBw
end Go.Proofs.YtgpjaembafkpoaaGreatDoor

/- Contracts of strings.Builder's writers (copyCheck, WriteByte, WriteString) over this translation. -/
namespace Go.Proofs.YtgpjaembafkpoaaGreatDoor
open Go.RowKit
set_option linter.unusedVariables false
set_option maxRecDepth 100000

theorem sizeB : (Tryz.prog.info? 220).map (fun i => i.size) = some 2 := by kernel_rfl
theorem infoByte : (Tryz.prog.info? 5).map (fun i => (i.zero,i.size,i.bytes)) = some (some (.int .u8 0),1,1) := by kernel_rfl
theorem liesB : liesAt Tryz.prog Tryz.prog.depth 220 (2 / Tryz.prog.cellsOf 220) 0 220 1 = true := by kernel_rfl

theorem check_used (b : Nat) (w : World) (h0 : w.cell? ⟨b,0,none⟩ = some (.pointer (some ⟨b,0,none⟩))) :
    Calls Tryz.prog 178 #[.pointer (some ⟨b,0,none⟩)] w fun e w' => e = .returned (.tuple #[]) ∧ w = w' := by
  obtain ⟨j,hj,_⟩ := Option.map_eq_some_iff.1 sizeB
  have hq := Lib.run_neq_ptr_same (P := Tryz.prog) w (⟨b,0,none⟩) Tryz.underlying217 hj
  go_enter Tryz.func178,Tryz.ntmps178
  go_wp2
  go_end0
  exact ⟨rfl,rfl⟩

theorem check_fresh (b : Nat) (w : World) (h0 : w.cell? ⟨b,0,none⟩ = some (.pointer none)) (hsh : w.shape? b = some (220,2)) (hfz : w.frozen? ⟨b,0,none⟩ = false) :
    Calls Tryz.prog 178 #[.pointer (some ⟨b,0,none⟩)] w fun e w' => e = .returned (.tuple #[]) ∧ w' = w.setCell ⟨b,0,none⟩ (.pointer (some ⟨b,0,none⟩)) := by
  obtain ⟨j,hj,hjs⟩ := Option.map_eq_some_iff.1 sizeB
  have h1 := Lib.run_to_unsafe (P := Tryz.prog) w ⟨b,0,none⟩ Tryz.underlying217 Tryz.underlying359 hj (by rw [hjs]; decide) hsh (Nat.zero_lt_succ 1)
  have h2 := Lib.run_from_unsafe (P := Tryz.prog) w ⟨b,0,none⟩ Tryz.underlying359 Tryz.underlying217 hj hsh liesB
  have h3 : (callFunc 245 #[.pointer (some ⟨b,0,none⟩)]).run Tryz.prog w = .ok (Next.value (.pointer (some ⟨b,0,none⟩))) w := by
    rw [run_callFunc_extern Tryz.func245 (by kernel_rfl) (by kernel_rfl) (by kernel_rfl) (e := Extern.AbiNoEscape.same) (by kernel_rfl),Lib.run_noEscape]; rfl
  go_enter Tryz.func178,Tryz.ntmps178
  go_wp2
  go_end0
  exact ⟨rfl,rfl⟩

theorem check_any (B b : Nat) (bs : List Value) (w : World) (h : Lib.IsBuilder 220 5 B b bs w) :
    Calls Tryz.prog 178 #[.pointer (some ⟨b,0,none⟩)] w fun e w' => e = .returned (.tuple #[]) ∧ Lib.BuilderAt 220 5 B b (.pointer (some ⟨b,0,none⟩)) bs w' ∧ Below B w w' := by
  rcases h with h | h
  · exact (check_fresh b w h.cell0 h.shape h.frozen0).mono fun e w' ⟨he,hw⟩ => ⟨he,by rw [hw]; exact h.used _,by rw [hw]; exact (Below.refl B w).setCell (p := ⟨b,0,none⟩) h.1 _⟩
  · exact (check_used b w h.cell0).mono fun e w' ⟨he,hw⟩ => ⟨he,by rw [← hw]; exact h,by rw [← hw]; exact Below.refl B _⟩

/-- the block of a builder behind a growth that left it alone -/
theorem kept_block {w1 w2 : World} {b : Nat} {row : Option Nat} {o : Obj} (h : w1.heap[b]? = some o) (hg : w1.grownBy w2 row) (hne : row ≠ some b) : w2.heap[b]? = some o := by
  have hlt : b < w1.heap.size := by
    rcases Nat.lt_or_ge b w1.heap.size with h' | h'
    · exact h'
    · simp [Array.getElem?_eq_none h'] at h
  rw [hg.block b hlt (fun e => hne e.symm)]; exact h

set_option maxHeartbeats 1000000 in
theorem writeByte_any (B b : Nat) (bs : List Value) (c : Int) (w : World) (h : Lib.IsBuilder 220 5 B b bs w) (hlen : bs.length + 1 ≤ 1099511627776) (hBw : B ≤ w.heap.size) :
    Calls Tryz.prog 120 #[.pointer (some ⟨b,0,none⟩),.int .u8 c] w fun e w' => e = .returned .nilIface ∧ Lib.BuilderAt 220 5 B b (.pointer (some ⟨b,0,none⟩)) (bs ++ [.int .u8 c]) w' ∧ Below B w w' := by
  obtain ⟨i0,hi,hz0,hz1,hz2⟩ := info_parts infoByte
  go_enter Tryz.func120,Tryz.ntmps120
  go_wp2_with fail
  refine (check_any B b bs _ h).mono ?_
  rintro e w1 ⟨rfl,⟨hB,v,hbk,hown,hne⟩,hb1⟩
  have c0 : w1.cell? ⟨b,0,none⟩ = some (.pointer (some ⟨b,0,none⟩)) := by rw [Lib.cell_of_heap hbk]; rfl
  have c1 : w1.cell? ⟨b,1,none⟩ = some v := by rw [Lib.cell_of_heap hbk]; rfl
  go_wp2_with (at_builtin; refine wpList_append_own _ rfl _ _ 218 rfl B 5 i0 (.int .u8 0) 1 1 Tryz.underlying218 hi hz0 hz1 hz2 rfl (by decide) _ _ _ rfl (hown.alloc _) ⟨w1.heap.size,0,none⟩ 1 1 [.int .u8 c] rfl rfl ?c1 ?c2 ?c3 ?c4 ?c5 ?_)
  case c1 =>
    intro j u hj
    match j,hj with
    | 0,hj => simp at hj; subst hj; simp [Addr.add]
  case c2 => intro u hu; simp at hu; subst hu; rfl
  case c3 => unfold maxLen; omega
  case c4 => omega
  case c5 => have := hb1.size; simp; omega
  intro v' w2 hown' hgrow _
  have hgr2 := (World.grownBy_alloc w1 (.cells #[.int .u8 c] 5) v.ownBlock).trans hgrow
  have hb2 := kept_block hbk hgr2 hne
  have d0 : w2.cell? ⟨b,0,none⟩ = some (.pointer (some ⟨b,0,none⟩)) := by rw [Lib.cell_of_heap hb2]; rfl
  have d1 : w2.cell? ⟨b,1,none⟩ = some v := by rw [Lib.cell_of_heap hb2]; rfl
  have f1 : w2.frozen? ⟨b,1,none⟩ = false := Lib.frozen_of_heap hb2 1
  obtain ⟨g,cap,rfl⟩ : ∃ g cap,v' = .slice (some ⟨g,0,none⟩) (bs.length + 1) cap := by
    rcases hown'.2 with ⟨_,h0⟩ | ⟨g,cap,cur,hv,_⟩
    · omega
    · exact ⟨g,cap,hv⟩
  go_wp2
  go_ret
  refine ⟨rfl,?_,?_⟩
  · exact Lib.BuilderAt.put hB hb2 (bs' := bs ++ [.int .u8 c]) (by simpa using hown') (by decide)
  · exact (hb1.grown hgr2 (by have := hb1.size; omega) (fun k hk => (hown.lt k hk).1)).setCell (p := ⟨b,1,none⟩) hB _

set_option maxHeartbeats 1000000 in
theorem writeString_any (B b : Nat) (bs : List Value) (s : ByteArray) (w : World) (h : Lib.IsBuilder 220 5 B b bs w) (hlen : bs.length + s.size ≤ 1099511627776) (hBw : B ≤ w.heap.size) :
    Calls Tryz.prog 117 #[.pointer (some ⟨b,0,none⟩),.string s] w fun e w' => e = .returned (.tuple #[.int .i64 s.size,.nilIface]) ∧ Lib.BuilderAt 220 5 B b (.pointer (some ⟨b,0,none⟩)) (bs ++ Lib.strCells s) w' ∧ Below B w w' := by
  obtain ⟨i0,hi,hz0,hz1,hz2⟩ := info_parts infoByte
  go_enter Tryz.func117,Tryz.ntmps117
  go_wp2_with fail
  refine (check_any B b bs _ h).mono ?_
  rintro e w1 ⟨rfl,⟨hB,v,hbk,hown,hne⟩,hb1⟩
  have c0 : w1.cell? ⟨b,0,none⟩ = some (.pointer (some ⟨b,0,none⟩)) := by rw [Lib.cell_of_heap hbk]; rfl
  have c1 : w1.cell? ⟨b,1,none⟩ = some v := by rw [Lib.cell_of_heap hbk]; rfl
  go_wp2_with (at_builtin; refine Lib.wpList_append_own_string _ rfl _ _ 218 9 rfl B 5 i0 Tryz.underlying218 Tryz.underlying9 hi hz0 hz1 hz2 _ _ _ rfl hown s rfl ?c3 ?c4 ?c5 ?_)
  case c3 => unfold maxLen; omega
  case c4 => omega
  case c5 => have := hb1.size; omega
  intro v' w2 hown' hgrow _
  have hb2 := kept_block hbk hgrow hne
  have d0 : w2.cell? ⟨b,0,none⟩ = some (.pointer (some ⟨b,0,none⟩)) := by rw [Lib.cell_of_heap hb2]; rfl
  have d1 : w2.cell? ⟨b,1,none⟩ = some v := by rw [Lib.cell_of_heap hb2]; rfl
  have f1 : w2.frozen? ⟨b,1,none⟩ = false := Lib.frozen_of_heap hb2 1
  obtain ⟨ao,n',cap,rfl⟩ : ∃ ao n' cap,v' = .slice ao n' cap := by
    rcases hown'.2 with ⟨hv,_⟩ | ⟨g,cap,cur,hv,_⟩
    · exact ⟨_,_,_,hv⟩
    · exact ⟨_,_,_,hv⟩
  go_wp2
  go_ret2
  refine ⟨rfl,?_,?_⟩
  · exact Lib.BuilderAt.put hB hb2 (bs' := bs ++ Lib.strCells s) (by simpa [Lib.strCells_length] using hown') (by decide)
  · exact (hb1.grown hgrow (by have := hb1.size; omega) (fun k hk => (hown.lt k hk).1)).setCell (p := ⟨b,1,none⟩) hB _
end Go.Proofs.YtgpjaembafkpoaaGreatDoor

/- Plain: the canonical form of a text. -/
namespace Go.Proofs.YtgpjaembafkpoaaGreatDoor
set_option linter.unusedVariables false

/-- a byte in a canonical form -/
def esc (c : UInt8) : List UInt8 := if c.toNat = 34 ∨ c.toNat = 92 then [92,c] else [c]
def escs (l : List UInt8) : List UInt8 := l.flatMap esc
/-- the canonical form -/
def quoteL (l : List UInt8) : List UInt8 := 34 :: (escs l ++ [34])
theorem esc_len (c : UInt8) : 1 ≤ (esc c).length ∧ (esc c).length ≤ 2 := by unfold esc; split <;> simp
theorem escs_cons (c : UInt8) (t : List UInt8) : escs (c :: t) = esc c ++ escs t := rfl
theorem escs_append (a b : List UInt8) : escs (a ++ b) = escs a ++ escs b := by unfold escs; exact List.flatMap_append
theorem escs_snoc (a : List UInt8) (c : UInt8) : escs (a ++ [c]) = escs a ++ esc c := by rw [escs_append]; simp [escs]
theorem escs_len (l : List UInt8) : l.length ≤ (escs l).length ∧ (escs l).length ≤ 2 * l.length := by
  induction l with
  | nil => simp [escs]
  | cons c t ih => rw [escs_cons]; have := esc_len c; simp; omega
/-- what Quote tells: the form, the error -/
def quoteR (l : List UInt8) : List UInt8 × Nat := if 4096 < l.length then ([],5) else if (lenU l).isSome then (quoteL l,0) else ([],12)
end Go.Proofs.YtgpjaembafkpoaaGreatDoor

/- Contract of quote.Quote, of legateref05.Quote. -/
namespace Go.Proofs.YtgpjaembafkpoaaGreatDoor
open Go.RowKit
set_option linter.unusedVariables false
set_option maxRecDepth 100000

/-- a Builder of the call's own that holds these bytes -/
structure Bd (B b : Nat) (l : List UInt8) (w : World) : Prop where
  is : Lib.IsBuilder 220 5 B b (Lib.byteCells l) w
theorem bd_fresh (w : World) (B : Nat) (h : B ≤ w.heap.size) : Bd B w.heap.size [] (w.alloc (.cells #[.pointer none,.slice none 0 0] 220)) :=
  ⟨.inl ⟨h,_,(MapKept.heap_alloc w _).1,World.ownsRow_nil _ _ _ _,by unfold Value.ownBlock; simp⟩⟩
theorem builderAt_kept {B b : Nat} {p : Value} {bs : List Value} {w w' : World} (h : Lib.BuilderAt 220 5 B b p bs w) (hg : w.grownBy w' none) : Lib.BuilderAt 220 5 B b p bs w' := by
  have hlt := h.lt
  obtain ⟨hB,v,hb,hown,hne⟩ := h
  refine ⟨hB,v,(hg.block b hlt (by simp)).trans hb,hown.kept hg ?_,hne⟩
  cases v.ownBlock with
  | none => exact .inl rfl
  | some k => exact .inr (by simp)
/-- a Builder stays what it is while new memory is made -/
theorem Bd.kept {B b : Nat} {l : List UInt8} {w w' : World} (h : Bd B b l w) (hg : w.grownBy w' none) : Bd B b l w' :=
  ⟨h.is.elim (fun h => .inl (builderAt_kept h hg)) (fun h => .inr (builderAt_kept h hg))⟩
theorem Bd.lt {B b : Nat} {l : List UInt8} {w : World} (h : Bd B b l w) : B ≤ b ∧ b < w.heap.size :=
  h.is.elim (fun h => ⟨h.1,h.lt⟩) (fun h => ⟨h.1,h.lt⟩)

theorem bd_writeByte (B b : Nat) (l : List UInt8) (c : Nat) (w : World) (h : Bd B b l w) (hc : c < 256) (hlen : l.length + 1 ≤ 1099511627776) (hBw : B ≤ w.heap.size) :
    Calls Tryz.prog 120 #[.pointer (some ⟨b,0,none⟩),.int .u8 c] w fun e w' => e = .returned .nilIface ∧ Bd B b (l ++ [b8 c]) w' ∧ Below B w w' := by
  refine (writeByte_any B b _ c w h.is (by rw [Lib.byteCells_length]; exact hlen) hBw).mono fun e w' ⟨he,hb,hbl⟩ => ⟨he,⟨.inr ?_⟩,hbl⟩
  rw [Lib.byteCells_append]
  have e1 : Lib.byteCells [b8 c] = [.int .u8 c] := by simp [Lib.byteCells,b8_toNat c hc]
  rw [e1]; exact hb
theorem bd_writeString (B b : Nat) (l : List UInt8) (s : ByteArray) (w : World) (h : Bd B b l w) (hlen : l.length + s.size ≤ 1099511627776) (hBw : B ≤ w.heap.size) :
    Calls Tryz.prog 117 #[.pointer (some ⟨b,0,none⟩),.string s] w fun e w' => e = .returned (.tuple #[.int .i64 s.size,.nilIface]) ∧ Bd B b (l ++ s.data.toList) w' ∧ Below B w w' := by
  refine (writeString_any B b _ s w h.is (by rw [Lib.byteCells_length]; exact hlen) hBw).mono fun e w' ⟨he,hb,hbl⟩ => ⟨he,⟨.inr ?_⟩,hbl⟩
  rw [Lib.byteCells_append]
  exact hb
theorem bd_len (B b : Nat) (l : List UInt8) (w : World) (h : Bd B b l w) :
    Calls Tryz.prog 192 #[.pointer (some ⟨b,0,none⟩)] w fun e w' => e = .returned (.int .i64 l.length) ∧ w = w' :=
  (Tryz.Builder_Len B b _ w h.is).mono fun e w' ⟨he,hw⟩ => ⟨by rw [he,Lib.byteCells_length],hw.symm⟩
theorem bd_string (B b : Nat) (l : List UInt8) (w : World) (h : Bd B b l w) (hBw : B ≤ w.heap.size) :
    Calls Tryz.prog 121 #[.pointer (some ⟨b,0,none⟩)] w fun e w' => e = .returned (.string ⟨l.toArray⟩) ∧ Below B w w' :=
  Tryz.Builder_String_any B b l w h.is hBw

/-- the bytes of a string, as a string -/
def str (l : List UInt8) : ByteArray := ⟨l.toArray⟩
theorem quote_long (s : ByteArray) (w : World) (hs : s.size ≤ 1099511627776) (h : 4096 < s.size) :
    Calls Tryz.prog 116 #[.string s] w fun e w' => e = .returned (.tuple #[.string ⟨#[]⟩,.int .i64 5]) ∧ w = w' := by
  go_enter Tryz.func116,Tryz.ntmps116
  go_wp2_with fail
  go_ret2
  exact ⟨rfl,rfl⟩
theorem quote_bad (s : ByteArray) (w : World) (h : s.size ≤ 4096) (hv : Hid ((lenU s.data.toList).isSome = false)) :
    Calls Tryz.prog 116 #[.string s] w fun e w' => e = .returned (.tuple #[.string ⟨#[]⟩,.int .i64 12]) ∧ Below w.heap.size w w' := by
  go_enter Tryz.func116,Tryz.ntmps116
  go_wp2_with fail
  refine (valid_is _ _ _ (by omega) hv.out).mono ?_
  rintro e w1 ⟨rfl,hb1⟩
  go_wp2_with fail
  go_ret2
  exact ⟨rfl,hb1⟩

def QuoteRel (s : ByteArray) (B b : Nat) (w0 : World) (iv : Value) (w' : World) : Prop :=
  ∃ k : Nat,k ≤ s.size ∧ iv = .int .i64 k ∧ Bd B b (34 :: escs (s.data.toList.take k)) w' ∧ Below B w0 w'

theorem quote_ok (s : ByteArray) (w : World) (h : s.size ≤ 4096) (hv : Hid ((lenU s.data.toList).isSome = true)) :
    Calls Tryz.prog 116 #[.string s] w fun e w' => e = .returned (.tuple #[.string (str (quoteL s.data.toList)),.int .i64 0]) ∧ Below w.heap.size w w' := by
  go_enter Tryz.func116,Tryz.ntmps116
  go_wp2_with fail
  refine (valid_is _ _ _ (by omega) hv.out).mono ?_
  rintro e w1 ⟨rfl,hb1⟩
  have hd := bd_fresh w1 w1.heap.size (Nat.le_refl _)
  have Hd := Bx.mk hd
  clear hd
  have hdd : decide ((4096 : Int) < s.size) = false := by simp; omega
  go_wp2_with fail
  refine (bd_writeByte w1.heap.size w1.heap.size [] 34 _ Hd.out (by omega) (by simp) (by simp)).mono ?_
  rintro e w2 ⟨rfl,hd2,hb2⟩
  have HD2 := Bx.mk hd2
  have hz2 : w1.heap.size < w2.heap.size := hd2.lt.2
  have hb2' : Below w1.heap.size w1 w2 := ((Below.refl _ _).alloc (Nat.le_refl _) _).trans hb2
  clear hd2 hb2 Hd
  go_wp2_with fail
  go_loopw [15] (fun i w' => QuoteRel s w1.heap.size w1.heap.size w1 i w') (fun i _ => s.size - (intOf i).toNat)
  case atStart => exact ⟨0,by omega,rfl,HD2.out,hb2'⟩
  case round =>
    clear HD2 hb2' hz2
    obtain ⟨k,hk,rfl,hd,hb⟩ := hrel
    have hlen : (34 :: escs (s.data.toList.take k)).length ≤ 8193 := by
      have := escs_len (s.data.toList.take k)
      simp; simp at this; omega
    by_cases hlt : k < s.size
    · have hb8 : s[k].toNat < 256 := s[k].toNat_lt
      have hsn : s.data.toList.take (k + 1) = s.data.toList.take k ++ [s[k]] := by
        rw [List.take_succ_eq_append_getElem (by simpa using hlt)]; rfl
      have hq : b8 s[k].toNat = s[k] := (b8_of _ _ rfl).symm
      by_cases hc : s[k].toNat = 34 ∨ s[k].toNat = 92
      · have HE : Bx (34 :: escs (s.data.toList.take (k + 1)) = (34 :: escs (s.data.toList.take k)) ++ [b8 92] ++ [b8 s[k].toNat]) := ⟨by
          rw [hsn,escs_snoc,esc,if_pos hc,hq]; simp; rfl⟩
        have HD := Bx.mk hd
        have HLEN := Bx.mk hlen
        have hcc : ((s[k].toNat : Int) == 34) = true ∨ (((s[k].toNat : Int) == 34) = false ∧ ((s[k].toNat : Int) == 92) = true) := by
          rcases hc with hc | hc
          · left; simp; omega
          · right; constructor <;> simp <;> omega
        clear hsn hq hc hd hlen
        rcases hcc with hcc | ⟨hcc,hc2⟩
        all_goals
          go_wp2_with fail
          refine (bd_writeByte _ _ _ 92 _ HD.out (by omega) (by have := HLEN.out; omega) hb.size).mono ?_
          rintro e w3 ⟨rfl,hd3,hb3⟩
          have HD3 := Bx.mk hd3
          clear hd3
          go_wp2_with fail
          refine (bd_writeByte _ _ _ s[k].toNat _ HD3.out hb8 (by have := HLEN.out; simp; simp at this; omega) (Nat.le_trans hb.size hb3.size)).mono ?_
          rintro e w4 ⟨rfl,hd4,hb4⟩
          have HD4 := Bx.mk hd4
          clear hd4
          go_wp2_with fail
          go_roundw
          case rel => exact ⟨k + 1,by omega,by go_num,by rw [HE.out]; exact HD4.out,(hb.trans hb3).trans hb4⟩
          case measure => simp [intOf]; omega
      · have HE : Bx (34 :: escs (s.data.toList.take (k + 1)) = (34 :: escs (s.data.toList.take k)) ++ [b8 s[k].toNat]) := ⟨by
          rw [hsn,escs_snoc,esc,if_neg hc,hq]; simp⟩
        have HD := Bx.mk hd
        have HLEN := Bx.mk hlen
        have hc1 : ((s[k].toNat : Int) == 34) = false := by simp; omega
        have hc2 : ((s[k].toNat : Int) == 92) = false := by simp; omega
        clear hsn hq hc hd hlen
        go_wp2_with fail
        refine (bd_writeByte _ _ _ s[k].toNat _ HD.out hb8 (by have := HLEN.out; omega) hb.size).mono ?_
        rintro e w3 ⟨rfl,hd3,hb3⟩
        have HD3 := Bx.mk hd3
        clear hd3
        go_wp2_with fail
        go_roundw
        case rel => exact ⟨k + 1,by omega,by go_num,by rw [HE.out]; exact HD3.out,hb.trans hb3⟩
        case measure => simp [intOf]; omega
    · have HD : Bx (Bd w1.heap.size w1.heap.size (34 :: escs s.data.toList) wr) := ⟨by
        rw [List.take_of_length_le (by simp; omega)] at hd; exact hd⟩
      have HL : Bx ((34 :: escs s.data.toList).length ≤ 8193) := ⟨by
        rw [List.take_of_length_le (by simp; omega)] at hlen; exact hlen⟩
      clear hd hlen
      go_wp2_with fail
      refine (bd_writeByte _ _ _ 34 _ HD.out (by omega) (by have := HL.out; omega) hb.size).mono ?_
      rintro e w3 ⟨rfl,hd3,hb3⟩
      have HD3 := Bx.mk hd3
      clear hd3
      go_wp2_with fail
      refine (bd_string _ _ _ _ HD3.out (Nat.le_trans hb.size hb3.size)).mono ?_
      rintro e w4 ⟨rfl,hb4⟩
      go_wp2_with fail
      go_ret2
      refine ⟨rfl,hb1.trans (((hb.trans hb3).trans hb4).mono hb1.size)⟩

theorem quote_any (s : ByteArray) (w : World) (hs : s.size ≤ 1099511627776) :
    Calls Tryz.prog 116 #[.string s] w fun e w' => e = .returned (.tuple #[.string (str (quoteR s.data.toList).1),.int .i64 (quoteR s.data.toList).2]) ∧ Below w.heap.size w w' := by
  unfold quoteR
  rw [← Lib.size_eq]
  by_cases h : 4096 < s.size
  · rw [if_pos h]
    exact (quote_long s w hs h).mono fun _ _ ⟨he,hw⟩ => ⟨he,by rw [← hw]; exact Below.refl _ _⟩
  · rw [if_neg h]
    cases hv : (lenU s.data.toList).isSome
    · exact quote_bad s w (by omega) hv
    · exact quote_ok s w (by omega) hv
end Go.Proofs.YtgpjaembafkpoaaGreatDoor

