/- Contracts of package utf (Put, lead, Next). -/
import Derived.Test.YtchnhhioamkdgaaProg
import Derived.Test.YtchnhhioamkdgaaUtfPlain
import Derived.WalkKit
import Derived.WalkLawsBesides
import Derived.WalkSpells
import Derived.Lib.Hide
import Derived.Outline
namespace Go.Proofs.Ytchnhhioamkdgaa
open Go.RowKit
set_option linter.unusedVariables false

theorem put_yes (r : Int) (w : World) (h : Utf8.valid r = true) :
    Calls Try.prog 16 #[.int .i64 r] w fun e w' => e = .returned (.tuple #[.string (Utf8.encode r), .int .i64 0]) ∧ w = w' := by
  have hv : (0 ≤ r ∧ r < 55296) ∨ (57344 ≤ r ∧ r ≤ 1114111) := by
    simp [Utf8.valid] at h; omega
  clear h
  rcases hv with hv | hv
  all_goals
    go_enter Try.func16, Try.ntmps16
    go_wp2
    go_ret2
    exact ⟨rfl, rfl⟩

theorem put_no (r : Int) (w : World) (h : Utf8.valid r = false) :
    Calls Try.prog 16 #[.int .i64 r] w fun e w' => e = .returned (.tuple #[.string ⟨#[]⟩, .int .i64 1]) ∧ w = w' := by
  have hv : r < 0 ∨ (1114111 < r) ∨ (55296 ≤ r ∧ r ≤ 57343) := by
    simp [Utf8.valid] at h; omega
  clear h
  rcases hv with hv | hv | hv
  all_goals
    go_enter Try.func16, Try.ntmps16
    go_wp2
    go_ret2
    exact ⟨rfl, rfl⟩

set_option maxRecDepth 100000 in
theorem lead_any (c : Nat) (w : World) (h : c < 256) :
    Calls Try.prog 32 #[.int .u8 c] w fun e w' => e = .returned (.tuple #[.int .i64 (leadN c).1, .int .u8 (leadN c).2.1, .int .u8 (leadN c).2.2]) ∧ w = w' := by
  by_cases h0 : c < 128
  · have e : leadN c = (1, 0, 0) := by unfold leadN; rw [if_pos h0]
    rw [e]; clear e
    go_enter Try.func32, Try.ntmps32
    go_wp2
    go_ret3
    exact ⟨rfl, rfl⟩
  by_cases h1 : c < 194
  · have e : leadN c = (0, 0, 0) := by unfold leadN; rw [if_neg h0, if_pos h1]
    rw [e]; clear e
    go_enter Try.func32, Try.ntmps32
    go_wp2
    go_ret3
    exact ⟨rfl, rfl⟩
  by_cases h2 : c < 224
  · have e : leadN c = (2, 128, 191) := by unfold leadN; rw [if_neg h0, if_neg h1, if_pos h2]
    rw [e]; clear e
    go_enter Try.func32, Try.ntmps32
    go_wp2
    go_ret3
    exact ⟨rfl, rfl⟩
  by_cases h3 : c = 224
  · have e : leadN c = (3, 160, 191) := by unfold leadN; rw [if_neg h0, if_neg h1, if_neg h2, if_pos h3]
    rw [e]; clear e
    subst h3
    go_enter Try.func32, Try.ntmps32
    go_wp2
    go_ret3
    exact ⟨rfl, rfl⟩
  by_cases h4 : c = 237
  · have e : leadN c = (3, 128, 159) := by unfold leadN; rw [if_neg h0, if_neg h1, if_neg h2, if_neg h3, if_pos h4]
    rw [e]; clear e
    subst h4
    go_enter Try.func32, Try.ntmps32
    go_wp2
    go_ret3
    exact ⟨rfl, rfl⟩
  by_cases h5 : c < 240
  · have e : leadN c = (3, 128, 191) := by unfold leadN; rw [if_neg h0, if_neg h1, if_neg h2, if_neg h3, if_neg h4, if_pos h5]
    rw [e]; clear e
    go_enter Try.func32, Try.ntmps32
    go_wp2
    go_ret3
    exact ⟨rfl, rfl⟩
  by_cases h6 : c = 240
  · have e : leadN c = (4, 144, 191) := by unfold leadN; rw [if_neg h0, if_neg h1, if_neg h2, if_neg h3, if_neg h4, if_neg h5, if_pos h6]
    rw [e]; clear e
    subst h6
    go_enter Try.func32, Try.ntmps32
    go_wp2
    go_ret3
    exact ⟨rfl, rfl⟩
  by_cases h7 : c < 244
  · have e : leadN c = (4, 128, 191) := by unfold leadN; rw [if_neg h0, if_neg h1, if_neg h2, if_neg h3, if_neg h4, if_neg h5, if_neg h6, if_pos h7]
    rw [e]; clear e
    go_enter Try.func32, Try.ntmps32
    go_wp2
    go_ret3
    exact ⟨rfl, rfl⟩
  by_cases h8 : c = 244
  · have e : leadN c = (4, 128, 143) := by unfold leadN; rw [if_neg h0, if_neg h1, if_neg h2, if_neg h3, if_neg h4, if_neg h5, if_neg h6, if_neg h7, if_pos h8]
    rw [e]; clear e
    subst h8
    go_enter Try.func32, Try.ntmps32
    go_wp2
    go_ret3
    exact ⟨rfl, rfl⟩
  have e : leadN c = (0, 0, 0) := by unfold leadN; rw [if_neg h0, if_neg h1, if_neg h2, if_neg h3, if_neg h4, if_neg h5, if_neg h6, if_neg h7, if_neg h8]
  rw [e]; clear e
  go_enter Try.func32, Try.ntmps32
  go_wp2
  go_ret3
  exact ⟨rfl, rfl⟩


theorem i64_join6 (x y : Int) (hx₀ : 0 ≤ x) (hx : x % 64 = 0) (hx₁ : x < 4611686018427387904) (h₀ : 0 ≤ y) (h₁ : y < 64) : bits .or .i64 x y = x + y :=
  bits_join .i64 62 (by decide) (fun n h0 h1 => by rw [IntKind.wrap_i64]; omega) 6 x y hx₀ hx hx₁ h₀ h₁ (by omega)

/-- 'at' lies outside -/
theorem next_arg (s : ByteArray) (i : Int) (w : World) (hs : s.size ≤ 1099511627776) (h : i < 0 ∨ s.size < i) :
    Calls Try.prog 20 #[.string s, .int .i64 i] w fun e w' => e = .returned (.tuple #[.int .i64 0, .int .i64 0, .int .i64 1]) ∧ w = w' := by
  rcases h with h | h
  all_goals
    go_enter Try.func20, Try.ntmps20
    go_wp2_with fail
    go_ret3
    exact ⟨rfl, rfl⟩

theorem next_end (s : ByteArray) (w : World) (hs : s.size ≤ 1099511627776) :
    Calls Try.prog 20 #[.string s, .int .i64 s.size] w fun e w' => e = .returned (.tuple #[.int .i64 0, .int .i64 0, .int .i64 4]) ∧ w = w' := by
  go_enter Try.func20, Try.ntmps20
  go_wp2_with fail
  go_ret3
  exact ⟨rfl, rfl⟩

theorem i64_mask (x : Int) (k : Nat) (hk : k ≤ 62) (h0 : 0 ≤ x) (h1 : x < 256) (m : Int) (hm : m = 2 ^ k - 1) : bits .and .i64 x m = x % 2 ^ k := by
  subst hm
  exact bits_mask .i64 62 (by decide) (fun n h0 h1 => by rw [IntKind.wrap_i64]; omega) k hk x h0 (by omega)
theorem mask_of (x sz : Nat) (hz : 2 ≤ sz ∧ sz ≤ 4) (hx : x < 256) : bits .and .i64 (x : Int) (255 / 2 ^ (sz + 1)) = ((x % 2 ^ (7 - sz) : Nat) : Int) := by
  obtain rfl | rfl | rfl : sz = 2 ∨ sz = 3 ∨ sz = 4 := by omega
  · rw [i64_mask _ 5 (by omega) (by omega) (by omega) _ (by decide)]; simp
  · rw [i64_mask _ 4 (by omega) (by omega) (by omega) _ (by decide)]; simp
  · rw [i64_mask _ 3 (by omega) (by omega) (by omega) _ (by decide)]; simp
theorem mod_small (x sz : Nat) (hz : 2 ≤ sz ∧ sz ≤ 4) : x % 2 ^ (7 - sz) < 128 := by
  obtain rfl | rfl | rfl : sz = 2 ∨ sz = 3 ∨ sz = 4 := by omega
  all_goals simp; omega

theorem drop_cons (s : ByteArray) (k : Nat) (h : k < s.size) : s.data.toList.drop k = s[k] :: s.data.toList.drop (k + 1) :=
  List.drop_eq_getElem_cons (by simpa using h)
theorem drop_end (s : ByteArray) (k : Nat) (h : s.size ≤ k) : s.data.toList.drop k = [] :=
  List.drop_eq_nil_of_le (by simpa using h)

/-- what holds at the head of each round of Next's loop -/
def NextRel (s : ByteArray) (i sz : Nat) (R : Nat × Nat × Nat) (rv zv ev lov hiv iv : Value) : Prop :=
  ∃ (r j lo hi : Nat), j < sz ∧ i + 1 + j ≤ s.size ∧ r < 128 * 64 ^ j ∧ lo < 256 ∧ hi < 256 ∧ rv = .int .i64 r ∧ zv = .int .i64 sz ∧ ev = .int .i64 0 ∧ lov = .int .u8 lo ∧ hiv = .int .u8 hi ∧
    iv = .int .i64 (i + 1 + j) ∧ nxGo (sz - 1 - j) sz r lo hi (s.data.toList.drop (i + 1 + j)) = R

set_option maxRecDepth 100000 in
theorem next_one (s : ByteArray) (i : Nat) (w : World) (hs : s.size ≤ 1099511627776) (hi : i < s.size) (lo hh : Nat)
    (hL : Hid (leadN s[i].toNat = (1, lo, hh))) (hlo : lo < 256) (hhh : hh < 256) :
    Calls Try.prog 20 #[.string s, .int .i64 i] w fun e w' => e = .returned (.tuple #[.int .i64 s[i].toNat, .int .i64 1, .int .i64 0]) ∧ w = w' := by
  have hne : ((i : Int) == (s.size : Int)) = false := by simp; omega
  have hb : s[i].toNat < 256 := s[i].toNat_lt
  have hi0 : decide ((i : Int) < 0) = false := by simp
  go_enter Try.func20, Try.ntmps20
  go_wp2_with fail
  refine (lead_any _ _ hb).mono ?_
  rintro e w' ⟨rfl, rfl⟩
  rw [hL.out]
  go_wp2_with fail
  refine wp_loop_rounds 1 ?_; rw [rounds_succ]
  go_wp2_with fail
  go_ret3
  exact ⟨rfl, rfl⟩

set_option maxRecDepth 100000 in
theorem next_core (s : ByteArray) (i : Nat) (w : World) (hs : s.size ≤ 1099511627776) (hi : i < s.size) (sz lo hh : Nat) (hz : 2 ≤ sz ∧ sz ≤ 4)
    (R : Nat × Nat × Nat) (hL : Hid (leadN s[i].toNat = (sz, lo, hh))) (hlo : lo < 256) (hhh : hh < 256)
    (hR : Hid (nxGo (sz - 1) sz (s[i].toNat % 2 ^ (7 - sz)) lo hh (s.data.toList.drop (i + 1)) = R)) :
    Calls Try.prog 20 #[.string s, .int .i64 i] w fun e w' => e = .returned (.tuple #[.int .i64 R.1, .int .i64 R.2.1, .int .i64 R.2.2]) ∧ w = w' := by
  have hne : ((i : Int) == (s.size : Int)) = false := by simp; omega
  have hb : s[i].toNat < 256 := s[i].toNat_lt
  have hsz : ((sz : Int) == 0) = false := by simp; omega
  have hi0 : decide ((i : Int) < 0) = false := by simp
  have hd : decide ((1 : Int) < sz) = true := by simp; omega
  have hS : NextRel s i sz R (.int .i64 (bits .and .i64 s[i].toNat (255 / 2 ^ (sz + 1)))) (.int .i64 sz) (.int .i64 0) (.int .u8 lo) (.int .u8 hh) (.int .i64 (i + 1)) :=
    ⟨s[i].toNat % 2 ^ (7 - sz), 0, lo, hh, by omega, by omega, by have := mod_small s[i].toNat sz hz; omega, hlo, hhh, by rw [mask_of _ _ hz hb], rfl, rfl, rfl, rfl, by simp, by simpa using hR.out⟩
  have HS := Lib.hid hS; clear hS
  go_enter Try.func20, Try.ntmps20
  go_wp2_with fail
  refine (lead_any _ _ hb).mono ?_
  rintro e w' ⟨rfl, rfl⟩
  rw [hL.out]
  go_wp2_with fail
  go_loop [4, 5, 6, 7, 8, 9] (fun rv zv ev lov hiv iv => NextRel s i sz R rv zv ev lov hiv iv) (fun _ _ _ _ _ iv => i + sz - (intOf iv).toNat)
  case atStart => exact HS.out
  case round =>
    obtain ⟨r, j, lo', hi', hj, hle, hr, hlo', hhi', rfl, rfl, rfl, rfl, rfl, rfl, hN⟩ := hrel
    have hr' : r < 33554432 := by
      obtain rfl | rfl | rfl | rfl : j = 0 ∨ j = 1 ∨ j = 2 ∨ j = 3 := by omega
      all_goals omega
    by_cases hm : j + 1 < sz
    · obtain ⟨q, hq⟩ : ∃ q, sz - 1 - j = q + 1 := ⟨sz - 2 - j, by omega⟩
      rw [hq] at hN
      by_cases he : i + 1 + j = s.size
      · rw [drop_end s _ (by omega)] at hN
        have HN : Hid ((0, 0, 4) = R) := hN
        have he' : ((i : Int) + 1 + j == s.size) = true := by simp; omega
        clear hN he hq HS
        go_wp2_with fail
        go_ret3
        rw [← HN.out]
        exact ⟨rfl, rfl⟩
      · have hlt : i + 1 + j < s.size := by omega
        have he' : ((i : Int) + 1 + j == s.size) = false := by simp; omega
        rw [drop_cons s _ hlt] at hN
        have hN' : (if s[i + 1 + j].toNat < lo' ∨ hi' < s[i + 1 + j].toNat then (0, 0, 12) else nxGo q sz (r * 64 + s[i + 1 + j].toNat % 64) 128 191 (s.data.toList.drop (i + 1 + j + 1))) = R := hN
        clear hN he
        by_cases hc : s[i + 1 + j].toNat < lo' ∨ hi' < s[i + 1 + j].toNat
        · rw [if_pos hc] at hN'
          have HN := Lib.hid hN'
          clear hN' hq HS
          rcases hc with hc | hc
          · go_wp2_with fail
            go_ret3
            rw [← HN.out]
            exact ⟨rfl, rfl⟩
          · by_cases hc2 : s[i + 1 + j].toNat < lo'
            all_goals
              go_wp2_with fail
              go_ret3
              rw [← HN.out]
              exact ⟨rfl, rfl⟩
        · rw [if_neg hc] at hN'
          have HQ := Lib.hid hq
          have hc1 : ¬ s[i + 1 + j].toNat < lo' := fun h => hc (.inl h)
          have hc2 : ¬ hi' < s[i + 1 + j].toNat := fun h => hc (.inr h)
          have hb2 : s[i + 1 + j].toNat < 256 := s[i + 1 + j].toNat_lt
          have HN := Lib.hid hN'
          clear hN' hq hc HS
          go_wp2_with fail
          refine ⟨⟨r * 64 + s[i + 1 + j].toNat % 64, j + 1, 128, 191, by omega, by omega, ?_, by omega, by omega, ?_, rfl, rfl, rfl, rfl, ?_, ?_⟩, ?_⟩
          · rw [Nat.pow_succ]; omega
          · rw [i64_join6 _ _ (by omega) (by omega) (by omega) (by omega) (by omega)]; go_num
          · go_num
          · have e1 : sz - 1 - (j + 1) = q := by have := HQ.out; omega
            rw [e1]; exact HN.out
          · simp [intOf]; omega
    · have hq : sz - 1 - j = 0 := by omega
      rw [hq] at hN
      have HN : Hid ((r, sz, 0) = R) := hN
      clear hN hq HS
      go_wp2_with fail
      go_ret3
      rw [← HN.out]
      exact ⟨rfl, rfl⟩
end Go.Proofs.Ytchnhhioamkdgaa
