/- Contract of legateref04.begins. (Printed by gen_begins.py.) -/
import Derived.Test.YtchnhhioamkdgaaUtfRefPlain
import Derived.Test.YtchnhhioamkdgaaUtfRef
import Derived.Deep.QuietTactic
import Derived.BigQuiet
import Derived.IntWalk
namespace Go.Proofs.Ytchnhhioamkdgaa
open Go.RowKit
set_option linter.unusedVariables false
set_option maxRecDepth 100000

def BgRel (s : ByteArray) (w0 : World) (sz : Nat) (R : Option (Int × Int)) (x lov hiv iv : Value) (w' : World) : Prop :=
  ∃ (lo hi : Int) (i : Nat), 1 ≤ i ∧ i ≤ sz ∧ 0 ≤ lo ∧ lo < 32 * 64 ^ (i - 1) ∧ 0 ≤ hi ∧ hi < 32 * 64 ^ (i - 1) ∧ x = .bool false ∧ lov = .int .i64 lo ∧ hiv = .int .i64 hi ∧ iv = .int .i64 i ∧
    bgGo (sz - i) (s.data.toList.drop i) lo hi = R ∧ Below w0.heap.size w0 w'

theorem bound_of (i : Nat) (x : Int) (h : 1 ≤ i ∧ i ≤ 4) (hx : x < 32 * 64 ^ (i - 1)) : x < 8388608 := by
  obtain rfl | rfl | rfl | rfl : i = 1 ∨ i = 2 ∨ i = 3 ∨ i = 4 := by omega
  all_goals simp at hx; omega
theorem bound_up (i : Nat) (x c : Int) (h : 1 ≤ i) (hx : x < 32 * 64 ^ (i - 1)) (hc : c < 64) : 64 * x + c < 32 * 64 ^ (i + 1 - 1) := by
  obtain ⟨k, rfl⟩ : ∃ k, i = k + 1 := ⟨i - 1, by omega⟩
  simp only [Nat.add_sub_cancel] at hx ⊢
  rw [Int.pow_succ]
  generalize (64 : Int) ^ k = p at *
  omega
theorem bgEnd_iff (sz : Nat) (lo hi : Int) : bgEnd sz (some (lo, hi)) = true ↔ ¬ (55296 ≤ max lo (leastN sz) ∧ min hi 1114111 ≤ 57343) ∧ max lo (leastN sz) ≤ min hi 1114111 := by
  constructor
  · intro h
    by_cases g : (55296 ≤ max lo (leastN sz) ∧ min hi 1114111 ≤ 57343) ∨ ¬ max lo (leastN sz) ≤ min hi 1114111
    · rw [bgEnd_false _ _ _ g] at h; cases h
    · omega
  · intro h
    exact bgEnd_true _ _ _ h.1 h.2
theorem drewN_below (w : World) (n : Nat) : Below w.heap.size w (w.drewN n) := ⟨rfl, rfl, rfl, Nat.le_refl _, fun _ _ => rfl⟩

theorem begins_2 (s : ByteArray) (w : World) (h1 : 1 ≤ s.size) (h4 : s.size ≤ 4) (hlo : 192 ≤ s[0].toNat ∧ s[0].toNat < 224) (R : Bool)
    (hR : Hid (bgN 2 s.data.toList = R)) :
    Calls Try.prog 33 #[.string s, .int .i64 2] w fun e w' => e = .returned (.bool R) ∧ Below w.heap.size w w' := by
  have hl : s.data.toList = s[0] :: s.data.toList.drop 1 := drop_cons s 0 (by omega)
  have hb2 : s[0].toNat < 256 := s[0].toNat_lt
  have hS : Hid (bgEnd 2 (bgGo (2 - 1) (s.data.toList.drop 1) ((s[0].toNat : Int) - 192) (s[0].toNat - 192)) = R) := by
    show _ = _
    rw [← hR.out, hl, bgN]; rfl
  clear hR hl
  have hp0 : 0 < s.size := by omega
  go_enter Try.func33, Try.ntmps33
  go_wp2_with fail
  go_quiet (fail)
  go_wp2_with fail
  go_loopw [4, 5, 6, 7] (fun x lo hi i w' => BgRel s w 2 (bgGo (2 - 1) (s.data.toList.drop 1) ((s[0].toNat : Int) - 192) (s[0].toNat - 192)) x lo hi i w') (fun _ _ _ i _ => 2 - (intOf i).toNat)
  case atStart => exact ⟨_, _, 1, by omega, by omega, by omega, by omega, by omega, by omega, rfl, rfl, rfl, rfl, rfl, drewN_below _ _⟩
  case round =>
    obtain ⟨lo, hi, i, hi1, hi2, hlo0, hlo1, hhi0, hhi1, rfl, rfl, rfl, rfl, hG, hbel⟩ := hrel
    have hlo2 := bound_of i lo (by omega) hlo1
    have hhi2 := bound_of i hi (by omega) hhi1
    have HG := Lib.hid hG
    have Hlo1 := Lib.hid hlo1
    have Hhi1 := Lib.hid hhi1
    clear hG hlo1 hhi1
    by_cases hm : i < 2
    · obtain ⟨q, hq⟩ : ∃ q, 2 - i = q + 1 := ⟨2 - 1 - i, by omega⟩
      have HQ := Lib.hid hq
      clear hq
      by_cases hi3 : i < s.size
      · have hG := HG.out
        rw [HQ.out, drop_cons s i hi3] at hG
        by_cases hc : s[i].toNat < 128 ∨ 191 < s[i].toNat
        · simp only [bgGo] at hG
          rw [if_pos hc] at hG
          have hfin : Hid (false = R) := by
            show _ = _
            rw [← hS.out, ← hG]; rfl
          clear hG hS HG HQ
          rcases hc with hc | hc
          all_goals
            go_wp2_with fail
            go_ret
            exact ⟨ret_bool hfin.out, hbel⟩
        · simp only [bgGo] at hG
          rw [if_neg hc] at hG
          have hc1 : 128 ≤ s[i].toNat := by omega
          have hc2 : s[i].toNat ≤ 191 := by omega
          have HG2 := Lib.hid hG
          clear hG HG hc
          go_wp2_with fail
          go_quiet (fail)
          go_wp2_with fail
          refine ⟨⟨64 * lo + (s[i].toNat - 128), 64 * hi + (s[i].toNat - 128), i + 1, by omega, by omega, by omega, bound_up i lo _ hi1 Hlo1.out (by omega), by omega, bound_up i hi _ hi1 Hhi1.out (by omega), rfl, rfl, rfl, by go_num, ?_, hbel.trans ((drewN_below _ _).mono hbel.size)⟩, ?_⟩
          · rw [show 2 - (i + 1) = q by have := HQ.out; omega]
            exact HG2.out
          · simp [intOf]; omega
      · have hG := HG.out
        rw [HQ.out, drop_end s i (by omega)] at hG
        simp only [bgGo] at hG
        have HG2 := Lib.hid hG
        clear hG HG
        go_wp2_with fail
        go_roundw
        case rel =>
          refine ⟨64 * lo, 64 * hi + 63, i + 1, by omega, by omega, by omega, by have := bound_up i lo 0 hi1 Hlo1.out (by omega); omega, by omega, bound_up i hi 63 hi1 Hhi1.out (by omega), rfl, rfl, rfl, by go_num, ?_, hbel⟩
          rw [show 2 - (i + 1) = q by have := HQ.out; omega, drop_end s _ (by omega)]
          exact HG2.out
        case measure => simp [intOf]; omega
    · have hG := HG.out
      rw [show 2 - i = 0 by omega] at hG
      have hE : Hid (bgEnd 2 (some (lo, hi)) = R) := by
        show _ = _
        rw [← hS.out, ← hG]; rfl
      clear hG HG hS Hlo1 Hhi1
      go_wp2_with fail
      all_goals
        go_ret
        refine ⟨ret_bool ?_, hbel.alloc hbel.size _⟩
        rw [← hE.out, Bool.eq_iff_iff, bgEnd_iff, show leastN 2 = 128 from rfl]
        first | (simp only [decide_eq_true_eq]; omega) | (simp only [true_iff]; omega) | (simp only [Bool.false_eq_true, false_iff]; omega)

theorem begins_3 (s : ByteArray) (w : World) (h1 : 1 ≤ s.size) (h4 : s.size ≤ 4) (hlo : 224 ≤ s[0].toNat ∧ s[0].toNat < 256) (R : Bool)
    (hR : Hid (bgN 3 s.data.toList = R)) :
    Calls Try.prog 33 #[.string s, .int .i64 3] w fun e w' => e = .returned (.bool R) ∧ Below w.heap.size w w' := by
  have hl : s.data.toList = s[0] :: s.data.toList.drop 1 := drop_cons s 0 (by omega)
  have hb2 : s[0].toNat < 256 := s[0].toNat_lt
  have hS : Hid (bgEnd 3 (bgGo (3 - 1) (s.data.toList.drop 1) ((s[0].toNat : Int) - 224) (s[0].toNat - 224)) = R) := by
    show _ = _
    rw [← hR.out, hl, bgN]; rfl
  clear hR hl
  have hp0 : 0 < s.size := by omega
  go_enter Try.func33, Try.ntmps33
  go_wp2_with fail
  go_quiet (fail)
  go_wp2_with fail
  go_loopw [4, 5, 6, 7] (fun x lo hi i w' => BgRel s w 3 (bgGo (3 - 1) (s.data.toList.drop 1) ((s[0].toNat : Int) - 224) (s[0].toNat - 224)) x lo hi i w') (fun _ _ _ i _ => 3 - (intOf i).toNat)
  case atStart => exact ⟨_, _, 1, by omega, by omega, by omega, by omega, by omega, by omega, rfl, rfl, rfl, rfl, rfl, drewN_below _ _⟩
  case round =>
    obtain ⟨lo, hi, i, hi1, hi2, hlo0, hlo1, hhi0, hhi1, rfl, rfl, rfl, rfl, hG, hbel⟩ := hrel
    have hlo2 := bound_of i lo (by omega) hlo1
    have hhi2 := bound_of i hi (by omega) hhi1
    have HG := Lib.hid hG
    have Hlo1 := Lib.hid hlo1
    have Hhi1 := Lib.hid hhi1
    clear hG hlo1 hhi1
    by_cases hm : i < 3
    · obtain ⟨q, hq⟩ : ∃ q, 3 - i = q + 1 := ⟨3 - 1 - i, by omega⟩
      have HQ := Lib.hid hq
      clear hq
      by_cases hi3 : i < s.size
      · have hG := HG.out
        rw [HQ.out, drop_cons s i hi3] at hG
        by_cases hc : s[i].toNat < 128 ∨ 191 < s[i].toNat
        · simp only [bgGo] at hG
          rw [if_pos hc] at hG
          have hfin : Hid (false = R) := by
            show _ = _
            rw [← hS.out, ← hG]; rfl
          clear hG hS HG HQ
          rcases hc with hc | hc
          all_goals
            go_wp2_with fail
            go_ret
            exact ⟨ret_bool hfin.out, hbel⟩
        · simp only [bgGo] at hG
          rw [if_neg hc] at hG
          have hc1 : 128 ≤ s[i].toNat := by omega
          have hc2 : s[i].toNat ≤ 191 := by omega
          have HG2 := Lib.hid hG
          clear hG HG hc
          go_wp2_with fail
          go_quiet (fail)
          go_wp2_with fail
          refine ⟨⟨64 * lo + (s[i].toNat - 128), 64 * hi + (s[i].toNat - 128), i + 1, by omega, by omega, by omega, bound_up i lo _ hi1 Hlo1.out (by omega), by omega, bound_up i hi _ hi1 Hhi1.out (by omega), rfl, rfl, rfl, by go_num, ?_, hbel.trans ((drewN_below _ _).mono hbel.size)⟩, ?_⟩
          · rw [show 3 - (i + 1) = q by have := HQ.out; omega]
            exact HG2.out
          · simp [intOf]; omega
      · have hG := HG.out
        rw [HQ.out, drop_end s i (by omega)] at hG
        simp only [bgGo] at hG
        have HG2 := Lib.hid hG
        clear hG HG
        go_wp2_with fail
        go_roundw
        case rel =>
          refine ⟨64 * lo, 64 * hi + 63, i + 1, by omega, by omega, by omega, by have := bound_up i lo 0 hi1 Hlo1.out (by omega); omega, by omega, bound_up i hi 63 hi1 Hhi1.out (by omega), rfl, rfl, rfl, by go_num, ?_, hbel⟩
          rw [show 3 - (i + 1) = q by have := HQ.out; omega, drop_end s _ (by omega)]
          exact HG2.out
        case measure => simp [intOf]; omega
    · have hG := HG.out
      rw [show 3 - i = 0 by omega] at hG
      have hE : Hid (bgEnd 3 (some (lo, hi)) = R) := by
        show _ = _
        rw [← hS.out, ← hG]; rfl
      clear hG HG hS Hlo1 Hhi1
      go_wp2_with fail
      all_goals
        go_ret
        refine ⟨ret_bool ?_, hbel.alloc hbel.size _⟩
        rw [← hE.out, Bool.eq_iff_iff, bgEnd_iff, show leastN 3 = 2048 from rfl]
        first | (simp only [decide_eq_true_eq]; omega) | (simp only [true_iff]; omega) | (simp only [Bool.false_eq_true, false_iff]; omega)

theorem begins_4 (s : ByteArray) (w : World) (h1 : 1 ≤ s.size) (h4 : s.size ≤ 4) (hlo : 240 ≤ s[0].toNat ∧ s[0].toNat < 272) (R : Bool)
    (hR : Hid (bgN 4 s.data.toList = R)) :
    Calls Try.prog 33 #[.string s, .int .i64 4] w fun e w' => e = .returned (.bool R) ∧ Below w.heap.size w w' := by
  have hl : s.data.toList = s[0] :: s.data.toList.drop 1 := drop_cons s 0 (by omega)
  have hb2 : s[0].toNat < 256 := s[0].toNat_lt
  have hS : Hid (bgEnd 4 (bgGo (4 - 1) (s.data.toList.drop 1) ((s[0].toNat : Int) - 240) (s[0].toNat - 240)) = R) := by
    show _ = _
    rw [← hR.out, hl, bgN]; rfl
  clear hR hl
  have hp0 : 0 < s.size := by omega
  go_enter Try.func33, Try.ntmps33
  go_wp2_with fail
  go_quiet (fail)
  go_wp2_with fail
  go_loopw [4, 5, 6, 7] (fun x lo hi i w' => BgRel s w 4 (bgGo (4 - 1) (s.data.toList.drop 1) ((s[0].toNat : Int) - 240) (s[0].toNat - 240)) x lo hi i w') (fun _ _ _ i _ => 4 - (intOf i).toNat)
  case atStart => exact ⟨_, _, 1, by omega, by omega, by omega, by omega, by omega, by omega, rfl, rfl, rfl, rfl, rfl, drewN_below _ _⟩
  case round =>
    obtain ⟨lo, hi, i, hi1, hi2, hlo0, hlo1, hhi0, hhi1, rfl, rfl, rfl, rfl, hG, hbel⟩ := hrel
    have hlo2 := bound_of i lo (by omega) hlo1
    have hhi2 := bound_of i hi (by omega) hhi1
    have HG := Lib.hid hG
    have Hlo1 := Lib.hid hlo1
    have Hhi1 := Lib.hid hhi1
    clear hG hlo1 hhi1
    by_cases hm : i < 4
    · obtain ⟨q, hq⟩ : ∃ q, 4 - i = q + 1 := ⟨4 - 1 - i, by omega⟩
      have HQ := Lib.hid hq
      clear hq
      by_cases hi3 : i < s.size
      · have hG := HG.out
        rw [HQ.out, drop_cons s i hi3] at hG
        by_cases hc : s[i].toNat < 128 ∨ 191 < s[i].toNat
        · simp only [bgGo] at hG
          rw [if_pos hc] at hG
          have hfin : Hid (false = R) := by
            show _ = _
            rw [← hS.out, ← hG]; rfl
          clear hG hS HG HQ
          rcases hc with hc | hc
          all_goals
            go_wp2_with fail
            go_ret
            exact ⟨ret_bool hfin.out, hbel⟩
        · simp only [bgGo] at hG
          rw [if_neg hc] at hG
          have hc1 : 128 ≤ s[i].toNat := by omega
          have hc2 : s[i].toNat ≤ 191 := by omega
          have HG2 := Lib.hid hG
          clear hG HG hc
          go_wp2_with fail
          go_quiet (fail)
          go_wp2_with fail
          refine ⟨⟨64 * lo + (s[i].toNat - 128), 64 * hi + (s[i].toNat - 128), i + 1, by omega, by omega, by omega, bound_up i lo _ hi1 Hlo1.out (by omega), by omega, bound_up i hi _ hi1 Hhi1.out (by omega), rfl, rfl, rfl, by go_num, ?_, hbel.trans ((drewN_below _ _).mono hbel.size)⟩, ?_⟩
          · rw [show 4 - (i + 1) = q by have := HQ.out; omega]
            exact HG2.out
          · simp [intOf]; omega
      · have hG := HG.out
        rw [HQ.out, drop_end s i (by omega)] at hG
        simp only [bgGo] at hG
        have HG2 := Lib.hid hG
        clear hG HG
        go_wp2_with fail
        go_roundw
        case rel =>
          refine ⟨64 * lo, 64 * hi + 63, i + 1, by omega, by omega, by omega, by have := bound_up i lo 0 hi1 Hlo1.out (by omega); omega, by omega, bound_up i hi 63 hi1 Hhi1.out (by omega), rfl, rfl, rfl, by go_num, ?_, hbel⟩
          rw [show 4 - (i + 1) = q by have := HQ.out; omega, drop_end s _ (by omega)]
          exact HG2.out
        case measure => simp [intOf]; omega
    · have hG := HG.out
      rw [show 4 - i = 0 by omega] at hG
      have hE : Hid (bgEnd 4 (some (lo, hi)) = R) := by
        show _ = _
        rw [← hS.out, ← hG]; rfl
      clear hG HG hS Hlo1 Hhi1
      go_wp2_with fail
      all_goals
        go_ret
        refine ⟨ret_bool ?_, hbel.alloc hbel.size _⟩
        rw [← hE.out, Bool.eq_iff_iff, bgEnd_iff, show leastN 4 = 65536 from rfl]
        first | (simp only [decide_eq_true_eq]; omega) | (simp only [true_iff]; omega) | (simp only [Bool.false_eq_true, false_iff]; omega)
end Go.Proofs.Ytchnhhioamkdgaa
