/- Contracts of quote.four, coded. -/
import Derived.Test.YtchnhhioamkdgaaRead1
namespace Go.Proofs.Ytchnhhioamkdgaa
open Go.RowKit
set_option linter.unusedVariables false
set_option maxRecDepth 100000

/-- a cell of the second of two new blocks -/
theorem cell_second (w : World) (o : Obj) (C : Array Value) (t : TypeId) (j : Nat) : ((w.alloc o).alloc (.cells C t)).cell? ⟨w.heap.size + 1, j, none⟩ = C[j]? := by
  have e : (w.alloc o).heap.size = w.heap.size + 1 := by simp
  rw [← e, World.cell?_alloc_mark]

def FourRel (s : ByteArray) (i : Nat) (w : World) (R : Nat × Nat) (a b kv : Value) (w' : World) : Prop :=
  ∃ (k x0 x1 x2 x3 : Nat), k ≤ 4 ∧ a = .int .i64 0 ∧ b = .int .i64 0 ∧ kv = .int .i64 k ∧ x0 < 16 ∧ x1 < 16 ∧ x2 < 16 ∧ x3 < 16 ∧
    w' = w.alloc (.cells #[.int .i64 x0, .int .i64 x1, .int .i64 x2, .int .i64 x3] 69) ∧ fourGo (4 - k) (numL ([x0, x1, x2, x3].take k)) (s.data.toList.drop (i + k)) = R

theorem four_in (s : ByteArray) (i : Nat) (w : World) (hs : s.size ≤ 1099511627776) (hi : i ≤ s.size) (R : Nat × Nat) (hR : Hid (fourL (s.data.toList.drop i) = R)) :
    Calls Try.prog 47 #[.string s, .int .i64 i] w fun e w' => e = .returned (.tuple #[.int .i64 R.1, .int .i64 R.2]) ∧ Below w.heap.size w w' := by
  go_enter Try.func47, Try.ntmps47
  go_wp2_with fail
  go_loopw [4, 5, 10] (fun a b k w' => FourRel s i w R a b k w') (fun _ _ k _ => 4 - (intOf k).toNat)
  case atStart => exact ⟨0, 0, 0, 0, 0, by omega, rfl, rfl, rfl, by omega, by omega, by omega, by omega, rfl, hR.out⟩
  case round =>
    clear hR
    obtain ⟨k, x0, x1, x2, x3, hk, rfl, rfl, rfl, h0, h1, h2, h3, rfl, hG⟩ := hrel
    obtain rfl | rfl | rfl | rfl | rfl : k = 0 ∨ k = 1 ∨ k = 2 ∨ k = 3 ∨ k = 4 := by omega
    · simp only [Nat.reduceSub, Nat.add_zero, List.take_zero] at hG
      by_cases hlt : i < s.size
      · rw [drop_cons s (i) hlt] at hG
        cases hd : digV s[i].toNat with
        | none =>
          have hf : Hid ((0, 3) = R) := by
            show _ = _
            rw [← hG]; simp only [fourGo, hd]
          have HD : Bx ((digV s[i].toNat).getD 0 = 0 ∧ (digV s[i].toNat).isSome = false) := ⟨by rw [hd]; exact ⟨rfl, rfl⟩⟩
          clear hG hd
          go_wp2_with fail
          refine (digit_in s (i) _ hs hlt 0 false HD).mono ?_
          rintro e w' ⟨rfl, rfl⟩
          go_wp2_with fail
          go_ret2
          rw [← hf.out]
          exact ⟨rfl, (Below.refl _ _).alloc (Nat.le_refl _) _⟩
        | some d =>
          have hd16 := digV_lt _ _ hd
          have HD : Bx ((digV s[i].toNat).getD 0 = d ∧ (digV s[i].toNat).isSome = true) := ⟨by rw [hd]; exact ⟨rfl, rfl⟩⟩
          simp only [fourGo, hd] at hG
          have HG := Lib.hid hG
          clear hG hd
          go_wp2_with fail
          refine (digit_in s (i) _ hs hlt d true HD).mono ?_
          rintro e w' ⟨rfl, rfl⟩
          go_wp2_with fail
          go_roundw
          case rel => exact ⟨1, d, x1, x2, x3, by omega, rfl, rfl, by go_num, hd16, h1, h2, h3, rfl, HG.out⟩
          case measure => simp [intOf]
      · rw [drop_end s (i) (by omega)] at hG
        have hf : Hid ((0, 4) = R) := hG
        clear hG
        go_wp2_with fail
        go_ret2
        rw [← hf.out]
        exact ⟨rfl, (Below.refl _ _).alloc (Nat.le_refl _) _⟩
    · simp only [Nat.reduceSub, List.take_succ_cons, List.take_zero] at hG
      by_cases hlt : i + 1 < s.size
      · rw [drop_cons s (i + 1) hlt] at hG
        cases hd : digV s[i + 1].toNat with
        | none =>
          have hf : Hid ((0, 3) = R) := by
            show _ = _
            rw [← hG]; simp only [fourGo, hd]
          have HD : Bx ((digV s[i + 1].toNat).getD 0 = 0 ∧ (digV s[i + 1].toNat).isSome = false) := ⟨by rw [hd]; exact ⟨rfl, rfl⟩⟩
          clear hG hd
          go_wp2_with fail
          refine (digit_in s (i + 1) _ hs hlt 0 false HD).mono ?_
          rintro e w' ⟨rfl, rfl⟩
          go_wp2_with fail
          go_ret2
          rw [← hf.out]
          exact ⟨rfl, (Below.refl _ _).alloc (Nat.le_refl _) _⟩
        | some d =>
          have hd16 := digV_lt _ _ hd
          have HD : Bx ((digV s[i + 1].toNat).getD 0 = d ∧ (digV s[i + 1].toNat).isSome = true) := ⟨by rw [hd]; exact ⟨rfl, rfl⟩⟩
          simp only [fourGo, hd] at hG
          have HG := Lib.hid hG
          clear hG hd
          go_wp2_with fail
          refine (digit_in s (i + 1) _ hs hlt d true HD).mono ?_
          rintro e w' ⟨rfl, rfl⟩
          go_wp2_with fail
          go_roundw
          case rel => exact ⟨2, x0, d, x2, x3, by omega, rfl, rfl, by go_num, h0, hd16, h2, h3, rfl, HG.out⟩
          case measure => simp [intOf]
      · rw [drop_end s (i + 1) (by omega)] at hG
        have hf : Hid ((0, 4) = R) := hG
        clear hG
        go_wp2_with fail
        go_ret2
        rw [← hf.out]
        exact ⟨rfl, (Below.refl _ _).alloc (Nat.le_refl _) _⟩
    · simp only [Nat.reduceSub, List.take_succ_cons, List.take_zero] at hG
      by_cases hlt : i + 2 < s.size
      · rw [drop_cons s (i + 2) hlt] at hG
        cases hd : digV s[i + 2].toNat with
        | none =>
          have hf : Hid ((0, 3) = R) := by
            show _ = _
            rw [← hG]; simp only [fourGo, hd]
          have HD : Bx ((digV s[i + 2].toNat).getD 0 = 0 ∧ (digV s[i + 2].toNat).isSome = false) := ⟨by rw [hd]; exact ⟨rfl, rfl⟩⟩
          clear hG hd
          go_wp2_with fail
          refine (digit_in s (i + 2) _ hs hlt 0 false HD).mono ?_
          rintro e w' ⟨rfl, rfl⟩
          go_wp2_with fail
          go_ret2
          rw [← hf.out]
          exact ⟨rfl, (Below.refl _ _).alloc (Nat.le_refl _) _⟩
        | some d =>
          have hd16 := digV_lt _ _ hd
          have HD : Bx ((digV s[i + 2].toNat).getD 0 = d ∧ (digV s[i + 2].toNat).isSome = true) := ⟨by rw [hd]; exact ⟨rfl, rfl⟩⟩
          simp only [fourGo, hd] at hG
          have HG := Lib.hid hG
          clear hG hd
          go_wp2_with fail
          refine (digit_in s (i + 2) _ hs hlt d true HD).mono ?_
          rintro e w' ⟨rfl, rfl⟩
          go_wp2_with fail
          go_roundw
          case rel => exact ⟨3, x0, x1, d, x3, by omega, rfl, rfl, by go_num, h0, h1, hd16, h3, rfl, HG.out⟩
          case measure => simp [intOf]
      · rw [drop_end s (i + 2) (by omega)] at hG
        have hf : Hid ((0, 4) = R) := hG
        clear hG
        go_wp2_with fail
        go_ret2
        rw [← hf.out]
        exact ⟨rfl, (Below.refl _ _).alloc (Nat.le_refl _) _⟩
    · simp only [Nat.reduceSub, List.take_succ_cons, List.take_zero] at hG
      by_cases hlt : i + 3 < s.size
      · rw [drop_cons s (i + 3) hlt] at hG
        cases hd : digV s[i + 3].toNat with
        | none =>
          have hf : Hid ((0, 3) = R) := by
            show _ = _
            rw [← hG]; simp only [fourGo, hd]
          have HD : Bx ((digV s[i + 3].toNat).getD 0 = 0 ∧ (digV s[i + 3].toNat).isSome = false) := ⟨by rw [hd]; exact ⟨rfl, rfl⟩⟩
          clear hG hd
          go_wp2_with fail
          refine (digit_in s (i + 3) _ hs hlt 0 false HD).mono ?_
          rintro e w' ⟨rfl, rfl⟩
          go_wp2_with fail
          go_ret2
          rw [← hf.out]
          exact ⟨rfl, (Below.refl _ _).alloc (Nat.le_refl _) _⟩
        | some d =>
          have hd16 := digV_lt _ _ hd
          have HD : Bx ((digV s[i + 3].toNat).getD 0 = d ∧ (digV s[i + 3].toNat).isSome = true) := ⟨by rw [hd]; exact ⟨rfl, rfl⟩⟩
          simp only [fourGo, hd] at hG
          have HG := Lib.hid hG
          clear hG hd
          go_wp2_with fail
          refine (digit_in s (i + 3) _ hs hlt d true HD).mono ?_
          rintro e w' ⟨rfl, rfl⟩
          go_wp2_with fail
          go_roundw
          case rel => exact ⟨4, x0, x1, x2, d, by omega, rfl, rfl, by go_num, h0, h1, h2, hd16, rfl, HG.out⟩
          case measure => simp [intOf]
      · rw [drop_end s (i + 3) (by omega)] at hG
        have hf : Hid ((0, 4) = R) := hG
        clear hG
        go_wp2_with fail
        go_ret2
        rw [← hf.out]
        exact ⟨rfl, (Below.refl _ _).alloc (Nat.le_refl _) _⟩
    · have hf : Hid ((numL [x0, x1, x2, x3], 0) = R) := hG
      clear hG
      go_wp2_with fail
      refine (number4 [x0, x1, x2, x3] rfl (by intro d hd; simp at hd; omega) _ _ ?_).mono ?_
      · intro k hk
        obtain rfl | rfl | rfl | rfl : k = 0 ∨ k = 1 ∨ k = 2 ∨ k = 3 := by omega
        all_goals exact cell_second w _ _ _ _
      · rintro e w' ⟨rfl, rfl⟩
        go_wp2_with fail
        go_ret2
        rw [← hf.out]
        exact ⟨rfl, ((Below.refl _ _).alloc (Nat.le_refl _) _).alloc (by simp) _⟩
end Go.Proofs.Ytchnhhioamkdgaa
