/- The walk of UtfNames. -/
import Derived.Test.YtchnhhioamkdgaaUtfParts
import Derived.Maps.StringElems
import Derived.Maps.RangeWalk
namespace Go.Proofs.Ytchnhhioamkdgaa
open Go.RowKit Go.Maps
set_option linter.unusedVariables false
set_option maxRecDepth 100000

/-- each entry is a rune and its bytes -/
def GoodD (D : DataW Unit) : Prop := ∀ (x : Int) (y : DataW Unit), (∀ zd, D.atKey (.int .i64 x) zd = y) → ∃ r : Nat, x = r ∧ Utf8.valid r = true ∧ y = .lit (.string (enc r))
def OwnsGood (w : World) (b n : Nat) : Prop := ∃ D : DataW Unit, w.ownsMap Try.prog 3 (plainElem Try.prog 9) b n D ∧ Maps.IsMap D ∧ GoodD D
theorem law3 : Keyed Try.prog 3 := int_keyed Try.underlying3

theorem made_good (w : World) : OwnsGood (w.alloc (.map #[] 0)) w.heap.size 0 :=
  ⟨.map [], World.ownsMap_made w _ _ _, Maps.isMap_empty, fun x y h => by
    have h1 := h .nil
    have h2 := h (.lit (.bool true))
    rw [← h1] at h2; cases h2⟩
theorem ins_good (w : World) (b n r : Nat) (E : ByteArray) (h : OwnsGood w b n) (hn : n < 100) (hv : Utf8.valid r = true) (hE : E.data.toList = enc r) :
    ∃ w', (Instr.mapUpdate 35 (.map (some b)) (.int .i64 r) (.string E)).run Try.prog w = .ok () w' ∧ OwnsGood w' b (n + 1) ∧ w.grownBy w' (some b) := by
  obtain ⟨D, hown, hm, hg⟩ := h
  have hr := (valid_iff r).1 hv
  have hEs : E.size ≤ maxLen := by
    rw [Lib.size_eq, hE]; have := enc_len r hv; unfold maxLen; omega
  obtain ⟨w', hrun, ho, hgr⟩ := hown.update law3 Try.underlying35 (by unfold maxLen; omega) (keyOf_int_mk Try.underlying3 (a := (r : Int)) (WalkArith.wf_i64 (by omega))) (plainElem_string Try.underlying9 hEs)
  refine ⟨w', hrun, ⟨_, ho, hm.put _ _, ?_⟩, hgr⟩
  intro x y hy
  by_cases hx : x = r
  · refine ⟨r, hx, hv, ?_⟩
    have := hy .nil
    rw [hx, Maps.atKey_put_same hm (k := .int .i64 (r : Int)) trivial] at this
    rw [← this, hE]
  · refine hg x y (fun zd => ?_)
    have := hy zd
    rw [Maps.atKey_put_other (by intro e; cases e; exact hx rfl)] at this
    exact this

theorem below_of_grown {w w' : World} {B r : Nat} (h : w.grownBy w' (some r)) (hB : B ≤ w.heap.size) (hr : B ≤ r) : Below B w w' :=
  (Below.refl B w).grown h hB (fun k hk => by cases hk; exact hr)
theorem grown_of_below {w w' : World} (h : Below w.heap.size w w') : w.grownBy w' none := ⟨h.os, h.tape, h.output, h.size, fun k hk _ => h.block k hk⟩

/-- the map, filled, and the iterator over it, made ahead of the walk -/
theorem fill_map (w : World) : ∃ wf D, (∃ w1 w2 w3 w4 w5 w6 w7 w8 w9 w10 : World,
    (Instr.mapUpdate 35 (.map (some w.heap.size)) (.int .i64 0) (.string ⟨#[0]⟩)).run Try.prog (w.alloc (.map #[] 0)) = .ok () w1 ∧
    (Instr.mapUpdate 35 (.map (some w.heap.size)) (.int .i64 127) (.string ⟨#[127]⟩)).run Try.prog w1 = .ok () w2 ∧
    (Instr.mapUpdate 35 (.map (some w.heap.size)) (.int .i64 128) (.string ⟨#[194, 128]⟩)).run Try.prog w2 = .ok () w3 ∧
    (Instr.mapUpdate 35 (.map (some w.heap.size)) (.int .i64 2047) (.string ⟨#[223, 191]⟩)).run Try.prog w3 = .ok () w4 ∧
    (Instr.mapUpdate 35 (.map (some w.heap.size)) (.int .i64 2048) (.string ⟨#[224, 160, 128]⟩)).run Try.prog w4 = .ok () w5 ∧
    (Instr.mapUpdate 35 (.map (some w.heap.size)) (.int .i64 55295) (.string ⟨#[237, 159, 191]⟩)).run Try.prog w5 = .ok () w6 ∧
    (Instr.mapUpdate 35 (.map (some w.heap.size)) (.int .i64 57344) (.string ⟨#[238, 128, 128]⟩)).run Try.prog w6 = .ok () w7 ∧
    (Instr.mapUpdate 35 (.map (some w.heap.size)) (.int .i64 65535) (.string ⟨#[239, 191, 191]⟩)).run Try.prog w7 = .ok () w8 ∧
    (Instr.mapUpdate 35 (.map (some w.heap.size)) (.int .i64 65536) (.string ⟨#[240, 144, 128, 128]⟩)).run Try.prog w8 = .ok () w9 ∧
    (Instr.mapUpdate 35 (.map (some w.heap.size)) (.int .i64 1114111) (.string ⟨#[244, 143, 191, 191]⟩)).run Try.prog w9 = .ok () w10 ∧
    (Instr.range 35 (.map (some w.heap.size))).run Try.prog w10 = .ok (.pointer (some ⟨w10.heap.size, 0, none⟩)) wf ∧
    wf.ranges Try.prog 3 (plainElem Try.prog 9) w.heap.size w10.heap.size 10 D (Maps.has D) (Maps.size D) ∧ Below w.heap.size w wf ∧ w.heap.size ≤ w10.heap.size) ∧ GoodD D := by
  obtain ⟨w1, hr1, ho1, hg1⟩ := ins_good _ w.heap.size 0 0 ⟨#[0]⟩ (made_good w) (by omega) (by decide +kernel) (by decide +kernel)
  obtain ⟨w2, hr2, ho2, hg2⟩ := ins_good w1 w.heap.size 1 127 ⟨#[127]⟩ ho1 (by omega) (by decide +kernel) (by decide +kernel)
  obtain ⟨w3, hr3, ho3, hg3⟩ := ins_good w2 w.heap.size 2 128 ⟨#[194, 128]⟩ ho2 (by omega) (by decide +kernel) (by decide +kernel)
  obtain ⟨w4, hr4, ho4, hg4⟩ := ins_good w3 w.heap.size 3 2047 ⟨#[223, 191]⟩ ho3 (by omega) (by decide +kernel) (by decide +kernel)
  obtain ⟨w5, hr5, ho5, hg5⟩ := ins_good w4 w.heap.size 4 2048 ⟨#[224, 160, 128]⟩ ho4 (by omega) (by decide +kernel) (by decide +kernel)
  obtain ⟨w6, hr6, ho6, hg6⟩ := ins_good w5 w.heap.size 5 55295 ⟨#[237, 159, 191]⟩ ho5 (by omega) (by decide +kernel) (by decide +kernel)
  obtain ⟨w7, hr7, ho7, hg7⟩ := ins_good w6 w.heap.size 6 57344 ⟨#[238, 128, 128]⟩ ho6 (by omega) (by decide +kernel) (by decide +kernel)
  obtain ⟨w8, hr8, ho8, hg8⟩ := ins_good w7 w.heap.size 7 65535 ⟨#[239, 191, 191]⟩ ho7 (by omega) (by decide +kernel) (by decide +kernel)
  obtain ⟨w9, hr9, ho9, hg9⟩ := ins_good w8 w.heap.size 8 65536 ⟨#[240, 144, 128, 128]⟩ ho8 (by omega) (by decide +kernel) (by decide +kernel)
  obtain ⟨w10, hr10, ho10, hg10⟩ := ins_good w9 w.heap.size 9 1114111 ⟨#[244, 143, 191, 191]⟩ ho9 (by omega) (by decide +kernel) (by decide +kernel)
  obtain ⟨D, hown, hm, hgd⟩ := ho10
  obtain ⟨wf, hrun, hrg, hgr, hsz⟩ := hown.range law3 Try.underlying35
  have b0 : Below w.heap.size w (w.alloc (.map #[] 0)) := (Below.refl _ _).alloc (Nat.le_refl _) _
  have b1 := b0.trans (below_of_grown hg1 b0.size (Nat.le_refl _))
  have b2 := b1.trans (below_of_grown hg2 b1.size (Nat.le_refl _))
  have b3 := b2.trans (below_of_grown hg3 b2.size (Nat.le_refl _))
  have b4 := b3.trans (below_of_grown hg4 b3.size (Nat.le_refl _))
  have b5 := b4.trans (below_of_grown hg5 b4.size (Nat.le_refl _))
  have b6 := b5.trans (below_of_grown hg6 b5.size (Nat.le_refl _))
  have b7 := b6.trans (below_of_grown hg7 b6.size (Nat.le_refl _))
  have b8 := b7.trans (below_of_grown hg8 b7.size (Nat.le_refl _))
  have b9 := b8.trans (below_of_grown hg9 b8.size (Nat.le_refl _))
  have b10 := b9.trans (below_of_grown hg10 b9.size (Nat.le_refl _))
  have bf : Below w.heap.size w wf := b10.trans ((Below.refl _ _).grown hgr b10.size (fun k hk => by cases hk))
  exact ⟨wf, D, ⟨w1, w2, w3, w4, w5, w6, w7, w8, w9, w10, hr1, hr2, hr3, hr4, hr5, hr6, hr7, hr8, hr9, hr10, hrun, hrg, bf, b10.size⟩, hgd⟩

def tab2 : List ByteArray := [⟨#[128]⟩, ⟨#[191]⟩, ⟨#[193, 191]⟩, ⟨#[224, 159, 191]⟩, ⟨#[224, 128]⟩, ⟨#[237, 191, 191]⟩, ⟨#[240, 143, 191, 191]⟩, ⟨#[244, 144, 128, 128]⟩, ⟨#[245]⟩, ⟨#[248]⟩, ⟨#[255]⟩, ⟨#[194, 65]⟩, ⟨#[226, 130, 65]⟩, ⟨#[240, 144, 128, 192]⟩, ⟨#[240, 144, 65]⟩]
def tab3 : List ByteArray := [⟨#[]⟩, ⟨#[194]⟩, ⟨#[224]⟩, ⟨#[224, 160]⟩, ⟨#[237, 159]⟩, ⟨#[240, 144, 128]⟩, ⟨#[244, 143, 191]⟩, ⟨#[244]⟩]
def tab4 : List Int := [-1, 55296, 56319, 56320, 57343, 1114112, 4611686018427387904, -9223372036854775808]

theorem tab_cell (w : World) (tab : List ByteArray) (t : TypeId) (k : Nat) (hk : k < tab.length) : (w.alloc (.cells (tab.map Value.string).toArray t)).cell? ⟨w.heap.size, k, none⟩ = some (.string tab[k]) := by
  rw [World.cell?_alloc_mark]; simp [hk]
theorem tab_cell_int (w : World) (tab : List Int) (t : TypeId) (k : Nat) (hk : k < tab.length) : (w.alloc (.cells (tab.map (Value.int .i64)).toArray t)).cell? ⟨w.heap.size, k, none⟩ = some (.int .i64 tab[k]) := by
  rw [World.cell?_alloc_mark]; simp [hk]
theorem tab2_ok : ∀ k, (h : k < tab2.length) → tab2[k].size ≤ 4 ∧ nxAt tab2[k].data.toList 0 = (0, 0, 12) ∧ (lenU tab2[k].data.toList).isSome = false ∧ (lenU (97 :: tab2[k].data.toList)).isSome = false := by decide +kernel
theorem tab3_ok : ∀ k, (h : k < tab3.length) → tab3[k].size ≤ 4 ∧ nxAt tab3[k].data.toList 0 = (0, 0, 4) ∧ (lenU tab3[k].data.toList).isSome = tab3[k].data.toList.isEmpty := by decide +kernel
theorem tab4_ok : ∀ k, (h : k < tab4.length) → Utf8.valid tab4[k] = false := by decide +kernel

/-- what a loop over a table knows: how far it is; nothing below has turned -/
def TabRel (n B : Nat) (w : World) (x i : Value) (wr : World) : Prop :=
  x = .bool false ∧ ∃ k : Nat, k ≤ n ∧ i = .int .i64 k ∧ Below B w wr

def MapRel (w : World) (b r : Nat) (x : Value) (wr : World) : Prop :=
  x = .bool false ∧ ∃ (D : DataW Unit) (left : Lit → Bool) (cnt : Nat), wr.ranges Try.prog 3 (plainElem Try.prog 9) b r 10 D left cnt ∧ GoodD D ∧ Below w.heap.size w wr

set_option maxHeartbeats 2000000 in
theorem names_walk (w : World) :
    Calls Try.prog 7 #[] w fun e w' => e = .returned (.bool true) ∧ Below w.heap.size w w' := by
  obtain ⟨wf, D, ⟨w1, w2, w3, w4, w5, w6, w7, w8, w9, w10, hr1, hr2, hr3, hr4, hr5, hr6, hr7, hr8, hr9, hr10, hrun, hrg, hbf, hsz⟩, hgd⟩ := fill_map w
  have hmm := @run_makeMap Try.prog
  have HRG := Bx.mk hrg
  have HGD := Bx.mk hgd
  have HBF := Bx.mk hbf
  have HSZ := Bx.mk hsz
  clear hrg hgd hbf hsz
  go_enter Try.func7, Try.ntmps7
  go_wp2_with fail
  refine (awake4 _).mono ?_
  rintro e w' ⟨rfl, rfl⟩
  go_wp2_with fail
  clear hr1 hr2 hr3 hr4 hr5 hr6 hr7 hr8 hr9 hr10 hrun hmm
  go_loopw [0] (fun x wr => MapRel w w.heap.size w10.heap.size x wr) (fun _ wr => wr.rangeLeft w.heap.size w10.heap.size)
  case atStart => exact ⟨rfl, D, _, _, HRG.out, HGD.out, HBF.out⟩
  case round =>
    clear HRG HGD HBF
    obtain ⟨rfl, D', left, cnt, hrg, hgd, hbel⟩ := hrel
    go_wp2_with (first
      | (at_next; refine wpList_next_ranges_is _ rfl _ rfl 3 9 .i64 law3 Try.underlying3 Try.underlying9 w.heap.size w10.heap.size 10 _ _ _ rfl hrg ?_ ?_)
      | fail)
    · intro _ hl0
      obtain ⟨wo, rfl⟩ : ∃ wo : World, wo = wr := ⟨_, rfl⟩
      clear hrg hgd hl0
      go_wp2_with fail
      obtain ⟨wz, hwz⟩ : ∃ wz : World, wz = wo.alloc (Obj.cells #[Value.string ⟨#[128]⟩, Value.string ⟨#[191]⟩, Value.string ⟨#[193, 191]⟩, Value.string ⟨#[224, 159, 191]⟩, Value.string ⟨#[224, 128]⟩, Value.string ⟨#[237, 191, 191]⟩, Value.string ⟨#[240, 143, 191, 191]⟩, Value.string ⟨#[244, 144, 128, 128]⟩, Value.string ⟨#[245]⟩, Value.string ⟨#[248]⟩, Value.string ⟨#[255]⟩, Value.string ⟨#[194, 65]⟩, Value.string ⟨#[226, 130, 65]⟩, Value.string ⟨#[240, 144, 128, 192]⟩, Value.string ⟨#[240, 144, 65]⟩] 9) := ⟨_, rfl⟩
      have HC : Bx (∀ k, (hk : k < tab2.length) → wz.cell? ⟨wo.heap.size, k, none⟩ = some (.string tab2[k])) := ⟨fun k hk => by rw [hwz]; exact tab_cell wo tab2 9 k hk⟩
      have hsz : wo.heap.size < wz.heap.size := by rw [hwz]; simp
      have hbz : Below w.heap.size w wz := by rw [hwz]; exact hbel.alloc hbel.size _
      rw [← hwz]
      clear hwz hbel
      go_loopw [0, 69] (fun x i w' => TabRel 15 wz.heap.size wz x i w') (fun _ i _ => 15 - (intOf i).toNat)
      case atStart => exact ⟨rfl, 0, by omega, rfl, Below.refl _ _⟩
      case round =>
        obtain ⟨rfl, k, hk, rfl, hb⟩ := hrel
        by_cases hlt : k < 15
        · have hcell := (hb.cell (p := ⟨wo.heap.size, k, none⟩) hsz).trans (HC.out k hlt)
          obtain ⟨q1, q2, q3, q4⟩ := tab2_ok k hlt
          generalize tab2[k]'hlt = c at *
          have HX := Bx.mk q2
          have HV := Bx.mk q3
          have HW : Bx ((lenU ((⟨#[97]⟩ : ByteArray) ++ c).data.toList).isSome = false) := ⟨by rw [app_data]; exact q4⟩
          have HS : Bx (((⟨#[97]⟩ : ByteArray) ++ c).size ≤ 1099511627776) := ⟨by rw [app_size, show (⟨#[97]⟩ : ByteArray).size = 1 from rfl]; omega⟩
          clear q2 q3 q4
          go_wp2_with fail
          refine (is_true _ 0 0 12 _ (by omega) HX.out).mono ?_
          rintro e w' ⟨rfl, rfl⟩
          go_wp2_with fail
          refine (valid_is _ _ _ (by omega) HV.out).mono ?_
          rintro e wa ⟨rfl, ba⟩
          go_wp2_with fail
          refine (valid_is _ _ _ HS.out HW.out).mono ?_
          rintro e wb ⟨rfl, bb⟩
          go_wp2_with fail
          go_roundw
          case rel =>
            have h1 := hb.trans (ba.mono hb.size)
            exact ⟨rfl, k + 1, by omega, by go_num, h1.trans (bb.mono h1.size)⟩
          case measure => simp [intOf]; omega
        · have hb2 : Below w.heap.size w wr := hbz.trans (hb.mono hbz.size)
          obtain ⟨kv10, hkv⟩ : ∃ kv : Int, (k : Int) = kv := ⟨_, rfl⟩
          have hge10 : 15 ≤ kv10 := by omega
          rw [hkv]
          clear hkv
          obtain ⟨wp, rfl⟩ : ∃ wp : World, wp = wr := ⟨_, rfl⟩
          clear hb HC hbz hsz hlt hk
          go_wp2_with fail
          obtain ⟨wy, hwy⟩ : ∃ wy : World, wy = wp.alloc (Obj.cells #[Value.string ⟨#[]⟩, Value.string ⟨#[194]⟩, Value.string ⟨#[224]⟩, Value.string ⟨#[224, 160]⟩, Value.string ⟨#[237, 159]⟩, Value.string ⟨#[240, 144, 128]⟩, Value.string ⟨#[244, 143, 191]⟩, Value.string ⟨#[244]⟩] 9) := ⟨_, rfl⟩
          have HC : Bx (∀ k, (hk : k < tab3.length) → wy.cell? ⟨wp.heap.size, k, none⟩ = some (.string tab3[k])) := ⟨fun k hk => by rw [hwy]; exact tab_cell wp tab3 9 k hk⟩
          have hsz : wp.heap.size < wy.heap.size := by rw [hwy]; simp
          have hby : Below w.heap.size w wy := by rw [hwy]; exact hb2.alloc hb2.size _
          rw [← hwy]
          clear hwy hb2
          go_loopw [0, 88] (fun x i w' => TabRel 8 wy.heap.size wy x i w') (fun _ i _ => 8 - (intOf i).toNat)
          case atStart => exact ⟨rfl, 0, by omega, rfl, Below.refl _ _⟩
          case round =>
            obtain ⟨rfl, k, hk, rfl, hb⟩ := hrel
            by_cases hlt : k < 8
            · have hcell := (hb.cell (p := ⟨wp.heap.size, k, none⟩) hsz).trans (HC.out k hlt)
              obtain ⟨q1, q2, q3⟩ := tab3_ok k hlt
              generalize tab3[k]'hlt = c at *
              have HX := Bx.mk q2
              have HV := Bx.mk q3
              have he : c.toList.isEmpty = c.data.toList.isEmpty := by rw [Lib.toList_data]
              have HE := Bx.mk he
              clear q2 q3 he
              go_wp2_with fail
              refine (is_true _ 0 0 4 _ (by omega) HX.out).mono ?_
              rintro e w' ⟨rfl, rfl⟩
              go_wp2_with fail
              refine (valid_is _ _ _ (by omega) HV.out).mono ?_
              rintro e wa ⟨rfl, ba⟩
              rw [← HE.out]
              go_wp2_with fail
              go_roundw
              case rel => exact ⟨rfl, k + 1, by omega, by go_num, hb.trans (ba.mono hb.size)⟩
              case measure => simp [intOf]; omega
            · have hb3 : Below w.heap.size w wr := hby.trans (hb.mono hby.size)
              obtain ⟨kv14, hkv⟩ : ∃ kv : Int, (k : Int) = kv := ⟨_, rfl⟩
              have hge14 : 8 ≤ kv14 := by omega
              rw [hkv]
              clear hkv
              obtain ⟨wq, rfl⟩ : ∃ wq : World, wq = wr := ⟨_, rfl⟩
              clear hb HC hby hsz hlt hk
              go_wp2_with fail
              obtain ⟨wx, hwx⟩ : ∃ wx : World, wx = wq.alloc (Obj.cells #[Value.int .i64 (-1), Value.int .i64 (55296), Value.int .i64 (56319), Value.int .i64 (56320), Value.int .i64 (57343), Value.int .i64 (1114112), Value.int .i64 (4611686018427387904), Value.int .i64 (-9223372036854775808)] 3) := ⟨_, rfl⟩
              have HC : Bx (∀ k, (hk : k < tab4.length) → wx.cell? ⟨wq.heap.size, k, none⟩ = some (.int .i64 tab4[k])) := ⟨fun k hk => by rw [hwx]; exact tab_cell_int wq tab4 3 k hk⟩
              have hsz : wq.heap.size < wx.heap.size := by rw [hwx]; simp
              have hbx : Below w.heap.size w wx := by rw [hwx]; exact hb3.alloc hb3.size _
              rw [← hwx]
              clear hwx hb3
              go_loopw [0, 105] (fun x i w' => TabRel 8 wx.heap.size wx x i w') (fun _ i _ => 8 - (intOf i).toNat)
              case atStart => exact ⟨rfl, 0, by omega, rfl, Below.refl _ _⟩
              case round =>
                obtain ⟨rfl, k, hk, rfl, hb⟩ := hrel
                by_cases hlt : k < 8
                · have hcell := (hb.cell (p := ⟨wq.heap.size, k, none⟩) hsz).trans (HC.out k hlt)
                  have q1 := tab4_ok k hlt
                  generalize tab4[k]'hlt = c at *
                  have HV := Bx.mk q1
                  clear q1
                  go_wp2_with fail
                  refine (put_no _ _ HV.out).mono ?_
                  rintro e w' ⟨rfl, rfl⟩
                  go_wp2_with fail
                  go_roundw
                  case rel => exact ⟨rfl, k + 1, by omega, by go_num, hb⟩
                  case measure => simp [intOf]; omega
                · have hb4 : Below w.heap.size w wr := hbx.trans (hb.mono hbx.size)
                  obtain ⟨kv18, hkv⟩ : ∃ kv : Int, (k : Int) = kv := ⟨_, rfl⟩
                  have hge18 : 8 ≤ kv18 := by omega
                  rw [hkv]
                  clear hkv
                  clear hb HC hbx hsz hlt hk
                  go_wp2_with fail
                  refine (len_is _ 3 true _ (by decide) (by decide +kernel) (by decide +kernel)).mono ?_
                  rintro e wa ⟨rfl, ba⟩
                  go_wp2_with fail
                  refine (len_is _ 0 false _ (by decide) (by decide +kernel) (by decide +kernel)).mono ?_
                  rintro e wb ⟨rfl, bb⟩
                  go_wp2_with fail
                  refine (next_is _ _ 0 0 1 _ (by decide) (by decide +kernel)).mono ?_
                  rintro e w' ⟨rfl, rfl⟩
                  go_wp2_with fail
                  go_ret
                  have h1 := hb4.trans (ba.mono hb4.size)
                  exact ⟨rfl, h1.trans (bb.mono h1.size)⟩
    · intro x c w1' cnt1 hwx hwc hlx hat hrg1 hlt hg1 hs1 hen
      obtain ⟨r, rfl, hv, hy⟩ := hgd x _ hat
      have hc : c.data.toList = enc r := by
        have := DataW.lit.inj hy
        exact Lit.string.inj this
      have hcE : Utf8.encode (r : Int) = c := ba_ext (by rw [hc, enc_data])
      have hcs : c.size = (enc r).length := by rw [Lib.size_eq, hc]
      have hm := enc_len r hv
      have hX : nxAt (c ++ ⟨#[255]⟩).data.toList 0 = (r, (enc r).length, 0) := by
        have := nxAt_mid [] [255] r hv
        rw [app_data, hc]; exact this
      have hV1 : (lenU c.data.toList).isSome = true := by
        have := lenU_enc r hv []
        rw [List.append_nil, lenU_nil] at this
        rw [hc, this]; rfl
      have hV2 : (lenU (c ++ ⟨#[255]⟩).data.toList).isSome = false := by
        rw [app_data, hc, lenU_enc r hv, lenU_bad [255] (by simp) (by decide +kernel)]; rfl
      have hS : (c ++ ⟨#[255]⟩).size ≤ 1099511627776 := by rw [app_size, hcs]; have : (⟨#[255]⟩ : ByteArray).size = 1 := rfl; omega
      have HX := Bx.mk hX
      have HV1 := Bx.mk hV1
      have HV2 := Bx.mk hV2
      have HS := Bx.mk hS
      have HV := Bx.mk hv
      have HE := Bx.mk hcE
      generalize (enc r).length = m at *
      have hbel1 := hbel.trans (below_of_grown hg1 hbel.size HSZ.out)
      have HRG1 := Bx.mk hrg1
      have HRG := Bx.mk hrg
      have HGD := Bx.mk hgd
      clear hX hV1 hV2 hS hv hcE hc hy hat hgd hwx hwc hlx hrg1 hrg hbel hg1
      go_wp2_with fail
      refine (put_val _ c _ HV.out HE.out).mono ?_
      rintro e w' ⟨rfl, rfl⟩
      go_wp2_with fail
      refine (is_true _ r m 0 _ HS.out HX.out).mono ?_
      rintro e w' ⟨rfl, rfl⟩
      go_wp2_with fail
      refine (valid_is _ _ _ (by omega) HV1.out).mono ?_
      rintro e wa ⟨rfl, ba⟩
      go_wp2_with fail
      refine (valid_is _ _ _ HS.out HV2.out).mono ?_
      rintro e wb ⟨rfl, bb⟩
      go_wp2_with fail
      have hab := ba.trans (bb.mono ba.size)
      have hrgb := HRG1.out.kept (grown_of_below hab) (by simp) (by simp)
      go_roundw
      case rel => exact ⟨rfl, _, _, cnt1, hrgb, HGD.out, hbel1.trans (hab.mono hbel1.size)⟩
      case measure => rw [hrgb.left_eq, HRG.out.left_eq]; exact hlt
end Go.Proofs.Ytchnhhioamkdgaa
