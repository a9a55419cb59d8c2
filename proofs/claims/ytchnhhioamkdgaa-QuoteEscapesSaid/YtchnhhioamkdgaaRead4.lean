/- Contract of quote.item. -/
import Derived.Test.YtchnhhioamkdgaaRead3
namespace Go.Proofs.Ytchnhhioamkdgaa
open Go.RowKit
set_option linter.unusedVariables false
set_option maxRecDepth 100000

theorem item_low (s : ByteArray) (i : Nat) (w : World) (hs : s.size ≤ 1099511627776) (hi : i < s.size) (hc : s[i].toNat < 32) :
    Calls Try.prog 37 #[.string s, .int .i64 i] w fun e' w' => e' = .returned (.tuple #[.int .i64 0, .int .i64 0, .int .i64 3]) ∧ w = w' := by
  go_enter Try.func37, Try.ntmps37
  go_wp2_with fail
  go_ret3
  exact ⟨rfl, rfl⟩
theorem item_next (s : ByteArray) (i : Nat) (w : World) (hs : s.size ≤ 1099511627776) (hi : i < s.size) (hc : 32 ≤ s[i].toNat) (hc2 : s[i].toNat ≠ 92) (r n e : Nat) (hn : n ≤ 4) (hx : Bx (nxAt s.data.toList i = (r, n, e))) (he : e ≠ 0 → r = 0 ∧ n = 0) :
    Calls Try.prog 37 #[.string s, .int .i64 i] w fun e' w' => e' = .returned (.tuple #[.int .i64 r, .int .i64 (nextN i (r, n, e)), .int .i64 e]) ∧ w = w' := by
  have hq : ((s[i].toNat : Int) != 92) = true := by rw [bne_iff_ne]; omega
  clear hc2
  by_cases h0 : e = 0
  · subst h0
    have hN : Bx (((nextN i (r, n, 0) : Nat) : Int) = (i : Int) + n) := ⟨by simp [nextN]⟩
    clear he
    go_enter Try.func37, Try.ntmps37
    go_wp2_with fail
    refine (next_is s i r n 0 _ hs hx.out).mono ?_
    rintro e w' ⟨rfl, rfl⟩
    go_wp2_with fail
    go_ret3
    rw [hN.out]
    exact ⟨rfl, rfl⟩
  · obtain ⟨rfl, rfl⟩ := he h0
    have hN : Bx (((nextN i (0, 0, e) : Nat) : Int) = 0) := ⟨by simp [nextN, h0]⟩
    have hee : ((e : Int) != 0) = true := by rw [bne_iff_ne]; omega
    clear he h0
    go_enter Try.func37, Try.ntmps37
    go_wp2_with fail
    refine (next_is s i 0 0 e _ hs hx.out).mono ?_
    rintro e w' ⟨rfl, rfl⟩
    go_wp2_with fail
    go_ret3
    rw [hN.out]
    exact ⟨rfl, rfl⟩
theorem item_short (s : ByteArray) (i : Nat) (w : World) (hs : s.size ≤ 1099511627776) (hi : i < s.size) (hc : s[i].toNat = 92) (h1 : i + 1 = s.size) :
    Calls Try.prog 37 #[.string s, .int .i64 i] w fun e' w' => e' = .returned (.tuple #[.int .i64 0, .int .i64 0, .int .i64 4]) ∧ w = w' := by
  have hq : ((s[i].toNat : Int) != 92) = false := by rw [bne_eq_false_iff_eq]; omega
  have hq1 : ((i : Int) + 1 == s.size) = true := by simp; omega
  have hq2 : 32 ≤ s[i].toNat := by omega
  clear hc h1
  go_enter Try.func37, Try.ntmps37
  go_wp2_with fail
  go_ret3
  exact ⟨rfl, rfl⟩

theorem eql_func_nil (f : Fn) (c : Array Value) (w : World) : (binOp .eql 28 (.func f #[] c) .nilFunc).run Try.prog w = .ok (.bool false) w := by kernel_rfl
theorem eql_nil_nil (w : World) : (binOp .eql 28 .nilFunc .nilFunc).run Try.prog w = .ok (.bool true) w := by kernel_rfl

theorem decoder_u (w : World) : Calls Try.prog 42 #[.int .u8 117] w fun e w' => e = .returned (.func (Fn.func 46) #[] #[]) ∧ w = w' := by
  go_enter Try.func42, Try.ntmps42
  go_wp2
  go_ret
  exact ⟨rfl, rfl⟩
theorem decoder_no (c : Int) (w : World) (h : ∀ x ∈ [34, 92, 47, 98, 102, 110, 114, 116, 117], (c == x) = false) : Calls Try.prog 42 #[.int .u8 c] w fun e w' => e = .returned .nilFunc ∧ w = w' := by
  simp only [List.mem_cons, List.not_mem_nil, or_false, forall_eq_or_imp, forall_eq] at h
  obtain ⟨h1, h2, h3, h4, h5, h6, h7, h8, h9⟩ := h
  go_enter Try.func42, Try.ntmps42
  go_wp2
  go_ret
  exact ⟨rfl, rfl⟩
set_option maxHeartbeats 1000000 in
theorem decoder_v (c v : Int) (w : World) (hc : (c = 34 ∧ v = 34) ∨ (c = 92 ∧ v = 92) ∨ (c = 47 ∧ v = 47) ∨ (c = 98 ∧ v = 8) ∨ (c = 102 ∧ v = 12) ∨ (c = 110 ∧ v = 10) ∨ (c = 114 ∧ v = 13) ∨ (c = 116 ∧ v = 9)) :
    Calls Try.prog 42 #[.int .u8 c] w fun e w' => e = .returned (.func (Fn.func 45) #[] #[.pointer (some ⟨w.heap.size, 0, none⟩)]) ∧ w' = w.alloc (.cells #[.int .i64 v] 3) := by
  rcases hc with ⟨rfl, rfl⟩ | ⟨rfl, rfl⟩ | ⟨rfl, rfl⟩ | ⟨rfl, rfl⟩ | ⟨rfl, rfl⟩ | ⟨rfl, rfl⟩ | ⟨rfl, rfl⟩ | ⟨rfl, rfl⟩
  all_goals
    go_enter Try.func42, Try.ntmps42
    go_wp2
    go_ret
    exact ⟨rfl, rfl⟩
theorem escV_cases (c v : Nat) (h : escV c = some v) : (c = 34 ∧ v = 34) ∨ (c = 92 ∧ v = 92) ∨ (c = 47 ∧ v = 47) ∨ (c = 98 ∧ v = 8) ∨ (c = 102 ∧ v = 12) ∨ (c = 110 ∧ v = 10) ∨ (c = 114 ∧ v = 13) ∨ (c = 116 ∧ v = 9) := by
  unfold escV at h
  split at h
  · cases h; omega
  · split at h
    · cases h; omega
    · split at h
      · cases h; omega
      · split at h
        · cases h; omega
        · split at h
          · cases h; omega
          · split at h
            · cases h; omega
            · cases h
theorem decoder_is (c : Nat) (v : Nat) (w : World) (h : escV c = some v) : Calls Try.prog 42 #[.int .u8 c] w fun e w' => e = .returned (.func (Fn.func 45) #[] #[.pointer (some ⟨w.heap.size, 0, none⟩)]) ∧ w' = w.alloc (.cells #[.int .i64 v] 3) :=
  decoder_v c v w (by rcases escV_cases c v h with ⟨rfl, rfl⟩ | ⟨rfl, rfl⟩ | ⟨rfl, rfl⟩ | ⟨rfl, rfl⟩ | ⟨rfl, rfl⟩ | ⟨rfl, rfl⟩ | ⟨rfl, rfl⟩ | ⟨rfl, rfl⟩ <;> simp)
theorem closure_is (s : ByteArray) (i v : Int) (b : Nat) (w : World) (h : w.cell? ⟨b, 0, none⟩ = some (.int .i64 v)) :
    Calls Try.prog 45 #[.string s, .int .i64 i, .pointer (some ⟨b, 0, none⟩)] w fun e w' => e = .returned (.tuple #[.int .i64 v, .int .i64 i, .int .i64 0]) ∧ w = w' := by
  go_enter Try.func45, Try.ntmps45
  go_wp2
  go_ret3
  exact ⟨rfl, rfl⟩

theorem item_u (s : ByteArray) (i : Nat) (w : World) (hs : s.size ≤ 1099511627776) (hi : i < s.size) (hc : s[i].toNat = 92) (h1 : i + 1 < s.size) (hd : s[i + 1].toNat = 117) (R : Nat × Nat × Nat) (hR : Bx (codedL (s.data.toList.drop (i + 2)) = R)) :
    Calls Try.prog 37 #[.string s, .int .i64 i] w fun e' w' => e' = .returned (.tuple #[.int .i64 R.1, .int .i64 (nextN (i + 2) R), .int .i64 R.2.2]) ∧ Below w.heap.size w w' := by
  have hq : ((s[i].toNat : Int) != 92) = false := by rw [bne_eq_false_iff_eq]; omega
  have hq1 : ((i : Int) + 1 == s.size) = false := by simp; omega
  have hq2 : 32 ≤ s[i].toNat := by omega
  have hd2 : (s[i + 1].toNat : Int) = 117 := by omega
  have HD := Lib.hid hd2
  have hef := eql_func_nil (Fn.func 46) #[]
  clear hc hd hd2
  go_enter Try.func37, Try.ntmps37
  go_wp2_with fail
  rw [HD.out]
  refine (decoder_u _).mono ?_
  rintro e w' ⟨rfl, rfl⟩
  go_wp2_with fail
  rw [show ((i : Int) + 2) = ((i + 2 : Nat) : Int) by omega]
  refine (coded_in s (i + 2) _ hs (by omega) R hR.out).mono ?_
  rintro e w1 ⟨rfl, hb⟩
  go_wp2_with fail
  go_ret3
  exact ⟨rfl, hb⟩
theorem item_no (s : ByteArray) (i : Nat) (w : World) (hs : s.size ≤ 1099511627776) (hi : i < s.size) (hc : s[i].toNat = 92) (h1 : i + 1 < s.size) (hd : Bx (∀ x ∈ [34, 92, 47, 98, 102, 110, 114, 116, 117], ((s[i + 1].toNat : Int) == x) = false)) :
    Calls Try.prog 37 #[.string s, .int .i64 i] w fun e' w' => e' = .returned (.tuple #[.int .i64 0, .int .i64 0, .int .i64 3]) ∧ w = w' := by
  have hq : ((s[i].toNat : Int) != 92) = false := by rw [bne_eq_false_iff_eq]; omega
  have hq1 : ((i : Int) + 1 == s.size) = false := by simp; omega
  have hq2 : 32 ≤ s[i].toNat := by omega
  have hef := eql_nil_nil
  clear hc
  go_enter Try.func37, Try.ntmps37
  go_wp2_with fail
  refine (decoder_no _ _ hd.out).mono ?_
  rintro e w' ⟨rfl, rfl⟩
  go_wp2_with fail
  go_ret3
  exact ⟨rfl, rfl⟩
theorem item_esc (s : ByteArray) (i : Nat) (w : World) (hs : s.size ≤ 1099511627776) (hi : i < s.size) (hc : s[i].toNat = 92) (h1 : i + 1 < s.size) (v : Nat) (hd : Bx (escV s[i + 1].toNat = some v)) :
    Calls Try.prog 37 #[.string s, .int .i64 i] w fun e' w' => e' = .returned (.tuple #[.int .i64 v, .int .i64 (i + 2 : Nat), .int .i64 0]) ∧ Below w.heap.size w w' := by
  have hq : ((s[i].toNat : Int) != 92) = false := by rw [bne_eq_false_iff_eq]; omega
  have hq1 : ((i : Int) + 1 == s.size) = false := by simp; omega
  have hq2 : 32 ≤ s[i].toNat := by omega
  have hef := eql_func_nil (Fn.func 45) #[.pointer (some ⟨w.heap.size, 0, none⟩)]
  clear hc
  go_enter Try.func37, Try.ntmps37
  go_wp2_with fail
  refine (decoder_is _ v _ hd.out).mono ?_
  rintro e w' ⟨rfl, rfl⟩
  go_wp2_with fail
  refine (closure_is s _ v w.heap.size _ (by simp)).mono ?_
  rintro e w' ⟨rfl, rfl⟩
  go_wp2_with fail
  go_ret3
  exact ⟨ret3 rfl (by omega) rfl, (Below.refl _ _).alloc (Nat.le_refl _) _⟩
end Go.Proofs.Ytchnhhioamkdgaa
