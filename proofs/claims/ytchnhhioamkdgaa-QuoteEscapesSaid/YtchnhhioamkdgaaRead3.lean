/- Contract of quote.coded. -/
import Derived.Test.YtchnhhioamkdgaaRead2
namespace Go.Proofs.Ytchnhhioamkdgaa
open Go.RowKit
set_option linter.unusedVariables false
set_option maxRecDepth 100000

theorem fourGo_ok (k n : Nat) (l : List UInt8) (h : (fourGo k n l).2 = 0) : k ≤ l.length := by
  induction k generalizing n l with
  | zero => omega
  | succ k ih =>
    match l with
    | [] => simp [fourGo] at h
    | c :: t =>
      simp only [fourGo] at h
      split at h
      · simp at h
      · have := ih _ _ h; simp; omega
theorem fourL_ok (l : List UInt8) (h : (fourL l).2 = 0) : 4 ≤ l.length := fourGo_ok 4 0 l h

/-- the place behind, or 0 -/
def nextN (i : Nat) (R : Nat × Nat × Nat) : Nat := if R.2.2 = 0 then i + R.2.1 else 0

theorem four_is (s : ByteArray) (i : Int) (w : World) (hs : s.size ≤ 1099511627776) (a : Int) (e : Nat) (k : Nat) (hik : i = k) (hi : k ≤ s.size) (h : ((fourL (s.data.toList.drop k)).1 : Int) = a ∧ (fourL (s.data.toList.drop k)).2 = e) :
    Calls Try.prog 47 #[.string s, .int .i64 i] w fun e' w' => e' = .returned (.tuple #[.int .i64 a, .int .i64 e]) ∧ Below w.heap.size w w' := by
  subst hik
  obtain ⟨rfl, rfl⟩ := h
  exact four_in s k w hs hi _ rfl

def FourIs (s : ByteArray) (k : Nat) (a : Int) (e : Nat) : Prop := ((fourL (s.data.toList.drop k)).1 : Int) = a ∧ (fourL (s.data.toList.drop k)).2 = e

theorem coded_1 (s : ByteArray) (i : Nat) (w : World) (hs : s.size ≤ 1099511627776) (hi : i ≤ s.size) (a : Int) (e : Nat) (h : Bx (FourIs s i a e)) (he : ((e : Int) != 0) = true) :
    Calls Try.prog 46 #[.string s, .int .i64 i] w fun e' w' => e' = .returned (.tuple #[.int .i64 0, .int .i64 0, .int .i64 e]) ∧ Below w.heap.size w w' := by
  go_enter Try.func46, Try.ntmps46
  go_wp2_with fail
  refine (four_is s i _ hs a e i rfl hi h.out).mono ?_
  rintro e w1 ⟨rfl, hb⟩
  go_wp2_with fail
  go_ret3
  exact ⟨rfl, hb⟩
theorem coded_2 (s : ByteArray) (i : Nat) (w : World) (hs : s.size ≤ 1099511627776) (hi : i ≤ s.size) (a : Int) (h : Bx (FourIs s i a 0)) (ha : a < 55296 ∨ (55296 ≤ a ∧ 57343 < a)) :
    Calls Try.prog 46 #[.string s, .int .i64 i] w fun e' w' => e' = .returned (.tuple #[.int .i64 a, .int .i64 (i + 4 : Nat), .int .i64 0]) ∧ Below w.heap.size w w' := by
  rcases ha with ha | ⟨ha, ha2⟩
  all_goals
    go_enter Try.func46, Try.ntmps46
    go_wp2_with fail
    refine (four_is s i _ hs a 0 i rfl hi h.out).mono ?_
    rintro e w1 ⟨rfl, hb⟩
    go_wp2_with fail
    go_ret3
    exact ⟨by go_num, hb⟩
theorem coded_3 (s : ByteArray) (i : Nat) (w : World) (hs : s.size ≤ 1099511627776) (hi : i ≤ s.size) (a : Int) (h : Bx (FourIs s i a 0)) (ha : 56320 ≤ a) (ha2 : a ≤ 57343) :
    Calls Try.prog 46 #[.string s, .int .i64 i] w fun e' w' => e' = .returned (.tuple #[.int .i64 0, .int .i64 0, .int .i64 12]) ∧ Below w.heap.size w w' := by
  go_enter Try.func46, Try.ntmps46
  go_wp2_with fail
  refine (four_is s i _ hs a 0 i rfl hi h.out).mono ?_
  rintro e w1 ⟨rfl, hb⟩
  go_wp2_with fail
  go_ret3
  exact ⟨rfl, hb⟩
/-- a first half, cut short behind it -/
theorem coded_4 (s : ByteArray) (i : Nat) (w : World) (hs : s.size ≤ 1099511627776) (hi : i + 4 = s.size) (a : Int) (h : Bx (FourIs s i a 0)) (ha : 55296 ≤ a) (ha2 : a < 56320) :
    Calls Try.prog 46 #[.string s, .int .i64 i] w fun e' w' => e' = .returned (.tuple #[.int .i64 0, .int .i64 0, .int .i64 4]) ∧ Below w.heap.size w w' := by
  have hq : ((i : Int) + 4 == s.size) = true := by simp; omega
  have hi2 : i ≤ s.size := by omega
  clear hi
  go_enter Try.func46, Try.ntmps46
  go_wp2_with fail
  refine (four_is s i _ hs a 0 i rfl hi2 h.out).mono ?_
  rintro e w1 ⟨rfl, hb⟩
  go_wp2_with fail
  refine wp_loop_rounds 1 ?_; rw [rounds_succ]
  go_wp2_with fail
  go_ret3
  exact ⟨rfl, hb.alloc hb.size _⟩
theorem coded_5 (s : ByteArray) (i : Nat) (w : World) (hs : s.size ≤ 1099511627776) (hi : i + 4 < s.size) (a : Int) (h : Bx (FourIs s i a 0)) (ha : 55296 ≤ a) (ha2 : a < 56320) (hc : s[i + 4].toNat ≠ 92) :
    Calls Try.prog 46 #[.string s, .int .i64 i] w fun e' w' => e' = .returned (.tuple #[.int .i64 0, .int .i64 0, .int .i64 12]) ∧ Below w.heap.size w w' := by
  have hq : ((i : Int) + 4 == s.size) = false := by simp; omega
  have hq2 : ((s[i + 4].toNat : Int) != 92) = true := by rw [bne_iff_ne]; omega
  clear hc
  go_enter Try.func46, Try.ntmps46
  go_wp2_with fail
  refine (four_is s i _ hs a 0 i rfl (by omega) h.out).mono ?_
  rintro e w1 ⟨rfl, hb⟩
  go_wp2_with fail
  refine wp_loop_rounds 1 ?_; rw [rounds_succ]
  go_wp2_with fail
  go_ret3
  exact ⟨rfl, hb.alloc hb.size _⟩
theorem coded_6 (s : ByteArray) (i : Nat) (w : World) (hs : s.size ≤ 1099511627776) (hi : i + 4 < s.size) (hi5 : i + 5 = s.size) (a : Int) (h : Bx (FourIs s i a 0)) (ha : 55296 ≤ a) (ha2 : a < 56320) (hc : s[i + 4].toNat = 92) :
    Calls Try.prog 46 #[.string s, .int .i64 i] w fun e' w' => e' = .returned (.tuple #[.int .i64 0, .int .i64 0, .int .i64 4]) ∧ Below w.heap.size w w' := by
  have hq : ((i : Int) + 4 == s.size) = false := by simp; omega
  have hq3 : ((i : Int) + 4 + 1 == s.size) = true := by simp; omega
  have hq2 : ((s[i + 4].toNat : Int) != 92) = false := by rw [bne_eq_false_iff_eq]; omega
  clear hc hi5
  go_enter Try.func46, Try.ntmps46
  go_wp2_with fail
  refine (four_is s i _ hs a 0 i rfl (by omega) h.out).mono ?_
  rintro e w1 ⟨rfl, hb⟩
  go_wp2_with fail
  refine wp_loop_rounds 2 ?_; rw [rounds_succ]
  go_wp2_with fail
  rw [rounds_succ]
  go_wp2_with fail
  go_ret3
  exact ⟨rfl, hb.alloc hb.size _⟩
theorem coded_7 (s : ByteArray) (i : Nat) (w : World) (hs : s.size ≤ 1099511627776) (hi : i + 4 < s.size) (hi5 : i + 5 < s.size) (a : Int) (h : Bx (FourIs s i a 0)) (ha : 55296 ≤ a) (ha2 : a < 56320) (hc : s[i + 4].toNat = 92) (hd : s[i + 4 + 1].toNat ≠ 117) :
    Calls Try.prog 46 #[.string s, .int .i64 i] w fun e' w' => e' = .returned (.tuple #[.int .i64 0, .int .i64 0, .int .i64 12]) ∧ Below w.heap.size w w' := by
  have hq : ((i : Int) + 4 == s.size) = false := by simp; omega
  have hq3 : ((i : Int) + 4 + 1 == s.size) = false := by simp; omega
  have hq2 : ((s[i + 4].toNat : Int) != 92) = false := by rw [bne_eq_false_iff_eq]; omega
  have hq4 : ((s[i + 4 + 1].toNat : Int) != 117) = true := by rw [bne_iff_ne]; omega
  clear hc hd
  go_enter Try.func46, Try.ntmps46
  go_wp2_with fail
  refine (four_is s i _ hs a 0 i rfl (by omega) h.out).mono ?_
  rintro e w1 ⟨rfl, hb⟩
  go_wp2_with fail
  refine wp_loop_rounds 2 ?_; rw [rounds_succ]
  go_wp2_with fail
  rw [rounds_succ]
  go_wp2_with fail
  go_ret3
  exact ⟨rfl, hb.alloc hb.size _⟩
/-- both halves' digits are there to be read -/
theorem ret3 {a b c a' b' c' : Int} (h1 : a = a') (h2 : b = b') (h3 : c = c') : Ending.returned (.tuple #[.int .i64 a, .int .i64 b, .int .i64 c]) = .returned (.tuple #[.int .i64 a', .int .i64 b', .int .i64 c']) := by rw [h1, h2, h3]
set_option maxHeartbeats 1000000 in
theorem coded_8 (s : ByteArray) (i : Nat) (w : World) (hs : s.size ≤ 1099511627776) (hi : i + 4 < s.size) (hi5 : i + 5 < s.size) (a : Int) (h : Bx (FourIs s i a 0)) (ha : 55296 ≤ a) (ha2 : a < 56320) (hc : s[i + 4].toNat = 92) (hd : s[i + 4 + 1].toNat = 117)
    (b : Int) (e : Nat) (h2 : Bx (FourIs s (i + 6) b e)) (r n f : Int) (hcase : (((e : Int) != 0) = true ∧ r = 0 ∧ n = 0 ∧ f = e) ∨ (e = 0 ∧ b < 56320 ∧ r = 0 ∧ n = 0 ∧ f = 12) ∨ (e = 0 ∧ 56320 ≤ b ∧ 57343 < b ∧ r = 0 ∧ n = 0 ∧ f = 12) ∨ (e = 0 ∧ 56320 ≤ b ∧ b ≤ 57343 ∧ r = 65536 + (a - 55296) * 1024 + (b - 56320) ∧ n = i + 10 ∧ f = 0)) :
    Calls Try.prog 46 #[.string s, .int .i64 i] w fun e' w' => e' = .returned (.tuple #[.int .i64 r, .int .i64 n, .int .i64 f]) ∧ Below w.heap.size w w' := by
  have hq : ((i : Int) + 4 == s.size) = false := by simp; omega
  have hq3 : ((i : Int) + 4 + 1 == s.size) = false := by simp; omega
  have hq2 : ((s[i + 4].toNat : Int) != 92) = false := by rw [bne_eq_false_iff_eq]; omega
  have hq4 : ((s[i + 4 + 1].toNat : Int) != 117) = false := by rw [bne_eq_false_iff_eq]; omega
  clear hc hd
  rcases hcase with ⟨he, rfl, rfl, rfl⟩ | ⟨rfl, hb1, rfl, rfl, rfl⟩ | ⟨rfl, hb1, hb2, rfl, rfl, rfl⟩ | ⟨rfl, hb1, hb2, hr, hn, rfl⟩
  case' inr.inr.inr => have HR := Bx.mk hr; have HN := Bx.mk hn; clear hr hn
  all_goals
    go_enter Try.func46, Try.ntmps46
    go_wp2_with fail
    refine (four_is s i _ hs a 0 i rfl (by omega) h.out).mono ?_
    rintro e w1 ⟨rfl, hbl⟩
    go_wp2_with fail
    refine wp_loop_rounds 3 ?_; rw [rounds_succ]
    go_wp2_with fail
    rw [rounds_succ]
    go_wp2_with fail
    rw [rounds_succ]
    go_wp2_with fail
    refine (four_is s _ _ hs b _ (i + 6) (by omega) (by omega) h2.out).mono ?_
    rintro e w2 ⟨rfl, hbl2⟩
    have hbl3 := (hbl.alloc hbl.size _).trans (hbl2.mono (by have := hbl.size; simp; omega))
    go_wp2_with fail
    go_ret3
  · refine ⟨?_, hbl3⟩
    rw [HR.out, HN.out]
    exact ret3 rfl (by omega) rfl
  · exact ⟨rfl, hbl3⟩
  · exact ⟨rfl, hbl3⟩
  · exact ⟨rfl, hbl3⟩

theorem coded_in (s : ByteArray) (i : Nat) (w : World) (hs : s.size ≤ 1099511627776) (hi : i ≤ s.size) (R : Nat × Nat × Nat) (hR : codedL (s.data.toList.drop i) = R) :
    Calls Try.prog 46 #[.string s, .int .i64 i] w fun e' w' => e' = .returned (.tuple #[.int .i64 R.1, .int .i64 (nextN i R), .int .i64 R.2.2]) ∧ Below w.heap.size w w' := by
  obtain ⟨a, e, hF⟩ : ∃ a e, fourL (s.data.toList.drop i) = (a, e) := ⟨_, _, rfl⟩
  have hlt := fourL_lt (s.data.toList.drop i)
  have hF2 : FourIs s i a e := by unfold FourIs; rw [hF]; exact ⟨rfl, rfl⟩
  unfold codedL at hR
  rw [hF] at hR hlt
  simp only at hR hlt
  by_cases he : e ≠ 0
  · rw [if_pos he] at hR
    subst hR
    have := coded_1 s i w hs hi a e ⟨hF2⟩ (by rw [bne_iff_ne]; omega)
    simpa [nextN, he] using this
  rw [if_neg he] at hR
  obtain rfl : e = 0 := by omega
  have h4 : i + 4 ≤ s.size := by
    have := fourL_ok (s.data.toList.drop i) (by rw [hF])
    simp at this; omega
  by_cases ha : a < 55296 ∨ 57343 < a
  · rw [if_pos ha] at hR
    subst hR
    exact coded_2 s i w hs hi a ⟨hF2⟩ (by omega)
  rw [if_neg ha] at hR
  by_cases ha2 : 56320 ≤ a
  · rw [if_pos ha2] at hR
    subst hR
    exact coded_3 s i w hs hi a ⟨hF2⟩ (by omega) (by omega)
  rw [if_neg ha2, List.drop_drop] at hR
  by_cases h4' : i + 4 = s.size
  · rw [drop_end s _ (by omega)] at hR
    subst hR
    exact coded_4 s i w hs h4' a ⟨hF2⟩ (by omega) (by omega)
  have hl4 : i + 4 < s.size := by omega
  rw [drop_cons s _ hl4] at hR
  simp only at hR
  by_cases hc : s[i + 4].toNat ≠ 92
  · rw [if_pos hc] at hR
    subst hR
    exact coded_5 s i w hs hl4 a ⟨hF2⟩ (by omega) (by omega) hc
  rw [if_neg hc] at hR
  by_cases h5' : i + 5 = s.size
  · rw [drop_end s _ (by omega)] at hR
    subst hR
    exact coded_6 s i w hs hl4 h5' a ⟨hF2⟩ (by omega) (by omega) (by omega)
  have hl5 : i + 4 + 1 < s.size := by omega
  rw [drop_cons s _ hl5] at hR
  simp only at hR
  by_cases hd : s[i + 4 + 1].toNat ≠ 117
  · rw [if_pos hd] at hR
    subst hR
    exact coded_7 s i w hs hl4 hl5 a ⟨hF2⟩ (by omega) (by omega) (by omega) hd
  rw [if_neg hd] at hR
  obtain ⟨b, f, hG⟩ : ∃ b f, fourL (s.data.toList.drop (i + 6)) = (b, f) := ⟨_, _, rfl⟩
  have hG2 : FourIs s (i + 6) b f := by unfold FourIs; rw [hG]; exact ⟨rfl, rfl⟩
  rw [show i + 4 + 1 + 1 = i + 6 by omega, hG] at hR
  simp only at hR
  by_cases hf : f ≠ 0
  · rw [if_pos hf] at hR
    subst hR
    have := coded_8 s i w hs hl4 hl5 a ⟨hF2⟩ (by omega) (by omega) (by omega) (by omega) b f ⟨hG2⟩ 0 0 f (.inl ⟨by rw [bne_iff_ne]; omega, rfl, rfl, rfl⟩)
    simpa [nextN, hf] using this
  rw [if_neg hf] at hR
  obtain rfl : f = 0 := by omega
  by_cases hb : b < 56320 ∨ 57343 < b
  · rw [if_pos hb] at hR
    subst hR
    exact coded_8 s i w hs hl4 hl5 a ⟨hF2⟩ (by omega) (by omega) (by omega) (by omega) b 0 ⟨hG2⟩ 0 0 12 (by omega)
  rw [if_neg hb] at hR
  subst hR
  have := coded_8 s i w hs hl4 hl5 a ⟨hF2⟩ (by omega) (by omega) (by omega) (by omega) b 0 ⟨hG2⟩ (65536 + ((a : Int) - 55296) * 1024 + (b - 56320)) (i + 10) 0 (by omega)
  have e1 : ((65536 + (a - 55296) * 1024 + (b - 56320) : Nat) : Int) = 65536 + ((a : Int) - 55296) * 1024 + (b - 56320) := by omega
  have e2 : ((nextN i (65536 + (a - 55296) * 1024 + (b - 56320), 10, 0) : Nat) : Int) = (i : Int) + 10 := by simp [nextN]
  rw [e1, e2]
  exact this
end Go.Proofs.Ytchnhhioamkdgaa
