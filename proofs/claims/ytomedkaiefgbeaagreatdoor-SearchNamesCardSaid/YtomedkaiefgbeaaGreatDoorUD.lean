/- Contracts of library functions over this translation. No conditions. -/
import Derived.Test.YtomedkaiefgbeaaGreatDoorUB
import Derived.Shelf.Strings.Repeat
set_option linter.unusedVariables false
set_option linter.unusedSimpArgs false
namespace Go.Proofs.YtomedkaiefgbeaaGreatDoor
open Go.RowKit Go.Shelf Go.Lib
set_option linter.unusedVariables false
set_option maxRecDepth 1000000
theorem i9m (B b : Nat) (bs : List Value) (w : World) (h : Lib.IsBuilderF 254 5 B b bs w) :
  Calls Tryz.prog 204 #[.pointer (some ⟨b,0,none⟩)] w fun e w'=>e = .returned (.tuple #[]) ∧ Lib.BuilderAtF 254 5 B b (.pointer (some ⟨b,0,none⟩)) bs w' ∧ Below B w w':= by
 rcases h with h | h
 ·exact (c0d b w h.cell0 h.shape h.frozen0).mono fun e w' ⟨he,hw⟩=>⟨he,by rw [hw]; exact h.used _,by rw [hw]; exact (Below.refl B w).setCell (p:=⟨b,0,none⟩) h.1 _⟩
 ·exact (d5a b w h.cell0).mono fun e w' ⟨he,hw⟩=>⟨he,by rw [← hw]; exact h,by rw [← hw]; exact Below.refl B _⟩
set_option maxHeartbeats 1000000 in
theorem d2d (B b : Nat) (bs : List Value) (s : ByteArray) (w : World) (h : Lib.IsBuilderF 254 5 B b bs w) (hlen : bs.length + s.size ≤ 1099511627776) (hBw : B ≤ w.heap.size) :
  Calls Tryz.prog 132 #[.pointer (some ⟨b,0,none⟩),.string s] w fun e w'=>e = .returned (.tuple #[.int .i64 s.size,.nilIface]) ∧ Lib.BuilderAtF 254 5 B b (.pointer (some ⟨b,0,none⟩)) (bs ++ Lib.strCells s) w' ∧ Below B w w':= by
 obtain ⟨i0,hi,hz0,hz1,hz2⟩:=info_parts infoByte
 go_enter Tryz.func132,Tryz.ntmps132
 go_wp2_with fail
 refine (i9m B b bs _ h).mono ?_
 rintro e w1 ⟨rfl,h1,hb1⟩
 obtain ⟨hB,v,hbk,hown,hne⟩:=h1
 have c0 : w1.cell? ⟨b,0,none⟩ = some (.pointer (some ⟨b,0,none⟩)):=by rw [Lib.cell_of_heap hbk]; rfl
 have c1 : w1.cell? ⟨b,1,none⟩ = some v:=by rw [Lib.cell_of_heap hbk]; rfl
 go_wp2_with (at_builtin; refine Lib.wpList_append_own_stringF _ rfl _ _ 208 9 rfl B 5 i0 Tryz.underlying208 Tryz.underlying9 hi hz0 hz1 hz2 _ _ _ rfl hown s rfl ?c3 ?c4 ?c5 ?_)
 case c3=>unfold maxLen; omega
 case c4=>omega
 case c5=>have:=hb1.size; omega
 intro v' w2 hown' hgrow _
 have hlt : b < w1.heap.size:=by
  rcases Nat.lt_or_ge b w1.heap.size with h' | h'
  ·exact h'
  ·simp [Array.getElem?_eq_none h'] at hbk
 have hb2 : w2.heap[b]? = some (.cells #[.pointer (some ⟨b,0,none⟩),v] 254 (0,0)):=by
  rw [hgrow.block b hlt (fun e=>hne e.symm)]
  exact hbk
 have d0 : w2.cell? ⟨b,0,none⟩ = some (.pointer (some ⟨b,0,none⟩)):=by rw [Lib.cell_of_heap hb2]; rfl
 have d1 : w2.cell? ⟨b,1,none⟩ = some v:=by rw [Lib.cell_of_heap hb2]; rfl
 have f1 : w2.frozen? ⟨b,1,none⟩ = false:=Lib.frozen_of_heap hb2 1
 obtain ⟨ao,n',cap,rfl⟩ : ∃ ao n' cap,v' = .slice ao n' cap:=by
  rcases hown'.2 with ⟨hv,_⟩ | ⟨g,cap,cur,fz,hv,_⟩
  ·exact ⟨_,_,_,hv⟩
  ·exact ⟨_,_,_,hv⟩
 go_wp2
 go_ret2
 refine ⟨rfl,?_,?_⟩
 ·exact Lib.BuilderAtF.put (T:=254) (e:=5) hB hb2 (bs':= bs ++ Lib.strCells s) (by simpa [Lib.strCells_length] using hown') (by decide)
 ·exact (hb1.grown hgrow (by have:=hb1.size; omega) (fun k hk=>(hown.lt k hk).1)).setCell (p:=⟨b,1,none⟩) hB _
theorem g3b (w : World) (o : Obj) (b i : Nat) (v : Value) (h : b < w.heap.size) : (w.alloc o).setCell ⟨b,i,none⟩ v = (w.setCell ⟨b,i,none⟩ v).alloc o:=by
 have hp : ∀ f,(w.heap.push o).modify b f = (w.heap.modify b f).push o:=fun f=>by
  apply Array.ext_getElem?
  intro k
  rw [Array.getElem?_modify,Array.getElem?_push,Array.getElem?_push,Array.getElem?_modify,Array.size_modify]
  split <;> split <;> first | rfl | omega
 simp only [World.setCell,World.alloc,hp]
theorem sizeByte : (Tryz.prog.info? 5).map (fun i=>i.size) = some 1:=by kernel_rfl
set_option maxHeartbeats 2000000 in
theorem h6q (B b n : Nat) (w : World) (hB : B ≤ b) (hbk : w.heap[b]? = some (.cells #[.pointer (some ⟨b,0,none⟩),.slice none 0 0] 254 (0,0))) (hBw : B ≤ w.heap.size) (hn : n ≤ 1099511627776) :
  Calls Tryz.prog 271 #[.pointer (some ⟨b,0,none⟩),.int .i64 n] w fun e w'=>e = .returned (.tuple #[]) ∧ (Lib.BuilderAt 254 5 B b (.pointer (some ⟨b,0,none⟩)) [] w' ∧ Below B w w'):=by
 obtain ⟨cs,hrun,hle,hmax⟩:=Lib.run_makeNoZero (P:=Tryz.prog) w.drew #[3] 208 5 Tryz.underlying208 n (by omega)
 have hw : IntKind.i64.wrap (IntKind.i64.wrap 0 + (n : Int)) = n:=by
  rw [IntKind.wrap_i64,IntKind.wrap_i64]
  omega
 have hcall : (callFunc 305 #[.int .i64 (IntKind.i64.wrap (IntKind.i64.wrap 0 + (n : Int)))]).run Tryz.prog w.drew = .ok (.value (.slice (some ⟨w.drew.heap.size,0,none⟩) n cs.size)) (w.drew.drew.drew.alloc (.cells cs 5)):=by
  rw [hw,run_callFunc_extern Tryz.func305 (by kernel_rfl) (by kernel_rfl) (by kernel_rfl) (e:=Extern.BytealgMakeNoZero.makeNoZero #[3] #[208]) (by kernel_rfl),hrun]
  rfl
 have hlt : b < w.heap.size:=by
  rcases Nat.lt_or_ge b w.heap.size with h' | h'
  ·exact h'
  ·simp [Array.getElem?_eq_none h'] at hbk
 have c1 : w.drew.cell? ⟨b,1,none⟩ = some (.slice none 0 0):=by
  have : w.drew.heap[b]? = _:=hbk
  rw [Lib.cell_of_heap this]; rfl
 have c2 : (w.alloc (.cells cs 5)).cell? ⟨b,1,none⟩ = some (.slice none 0 0):=by
  have : (w.alloc (.cells cs 5)).heap[b]? = _:=(Lib.alloc_old w _ b hlt).trans hbk
  rw [Lib.cell_of_heap this]; rfl
 have f2 : (w.alloc (.cells cs 5)).frozen? ⟨b,1,none⟩ = false:=Lib.frozen_of_heap ((Lib.alloc_old w _ b hlt).trans hbk) 1
 have hcopy : ∀ W : World,(Builtin.copy_ #[208,208] 3 #[.slice (some ⟨w.heap.size,0,none⟩) 0 cs.size,.slice none 0 0]).run Tryz.prog W = .ok (goInt 0) W:=
  fun W=>run_copy_none W 208 208 3 5 _ _ 0 cs.size 0 0 Tryz.underlying208 Tryz.Builder_Extra_169.sizeByte rfl
 clear hw
 have hfin:=Lib.grown_fresh (T:=254) (e:=5) (cs:=cs) hB hbk hBw (hmax (by unfold maxLen; omega)) (by decide)
 go_enter Tryz.func271,Tryz.ntmps271
 have hcomm : ∀ v,(w.alloc (.cells cs 5)).setCell ⟨b,1,none⟩ v = (w.setCell ⟨b,1,none⟩ v).alloc (.cells cs 5):=fun v=>g3b w _ b 1 v hlt
 rw [hcomm] at hfin
 go_wp2
 go_region
 all_goals (go_wp2; go_end0; exact ⟨rfl,hfin⟩)
set_option maxHeartbeats 2000000 in
theorem h6z (B b n : Nat) (w : World) (hB : B ≤ b) (hbk : w.heap[b]? = some (.cells #[.pointer none,.slice none 0 0] 254 (0,0))) (hBw : B ≤ w.heap.size) (hn : n ≤ 1099511627776) :
  Calls Tryz.prog 208 #[.pointer (some ⟨b,0,none⟩),.int .i64 n] w fun e w'=>e = .returned (.tuple #[]) ∧ (Lib.BuilderAt 254 5 B b (.pointer (some ⟨b,0,none⟩)) [] w' ∧ Below B w w'):=by
 have hbk1 : (w.setCell ⟨b,0,none⟩ (.pointer (some ⟨b,0,none⟩))).heap[b]? = some (.cells #[.pointer (some ⟨b,0,none⟩),.slice none 0 0] 254 (0,0)):=by
  simp [World.setCell,Array.getElem?_modify,hbk]
 have c1 : (w.setCell ⟨b,0,none⟩ (.pointer (some ⟨b,0,none⟩))).cell? ⟨b,1,none⟩ = some (.slice none 0 0):=by rw [Lib.cell_of_heap hbk1]; rfl
 have hb1 : Below B w (w.setCell ⟨b,0,none⟩ (.pointer (some ⟨b,0,none⟩))):=(Below.refl B w).setCell (p:=⟨b,0,none⟩) hB _
 have hU : Lib.BuilderAt 254 5 B b (.pointer (some ⟨b,0,none⟩)) [] (w.setCell ⟨b,0,none⟩ (.pointer (some ⟨b,0,none⟩))):=⟨hB,.slice none 0 0,hbk1,World.ownsRow_nil _ _ _ _,by simp [Value.ownBlock]⟩
 have c1' : (w.setCell ⟨b,0,none⟩ (.pointer (some ⟨b,0,none⟩))).drew.cell? ⟨b,1,none⟩ = some (.slice none 0 0):=c1
 have hn0 : ¬ ((n : Int) < 0):=by omega
 go_enter Tryz.func208,Tryz.ntmps208
 go_wp2_with (refine (c0d b w (by rw [Lib.cell_of_heap hbk]; rfl) (by simp [World.shape?,hbk]) (Lib.frozen_of_heap hbk 0)).mono ?_; rintro e w' ⟨rfl,rfl⟩)
 go_region
 all_goals go_wp2_with (refine (h6q B b n (w.setCell ⟨b,0,none⟩ (.pointer (some ⟨b,0,none⟩))).drew hB hbk1 (by simpa [World.setCell,World.drew,-World.drew_eq] using hBw) hn).mono ?_; rintro e w' ⟨rfl,h1,h2⟩)
 all_goals first
  | (go_end0; exact ⟨rfl,h1,hb1.drew.trans h2⟩)
  | (go_end0; exact ⟨rfl,hU.drew,hb1.drew⟩)
end Go.Proofs.YtomedkaiefgbeaaGreatDoor
