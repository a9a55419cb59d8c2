/- Contracts of hex.Digit, quote.digit, number, four, coded. -/
import Derived.Test.YtchnhhioamkdgaaQuote
import Derived.Test.YtchnhhioamkdgaaReadPlain
namespace Go.Proofs.Ytchnhhioamkdgaa
open Go.RowKit
set_option linter.unusedVariables false
set_option maxRecDepth 100000

theorem hexDigit_no (s : ByteArray) (i : Int) (w : World) (hs : s.size ≤ 1099511627776) (h : i < 0 ∨ s.size ≤ i) :
    Calls Try.prog 50 #[.string s, .int .i64 i] w fun e w' => e = .returned (.tuple #[.int .i64 0, .bool false]) ∧ w = w' := by
  rcases h with h | h
  all_goals
    go_enter Try.func50, Try.ntmps50
    go_wp2_with fail
    go_ret2
    exact ⟨rfl, rfl⟩
theorem hexDigit_in (s : ByteArray) (i : Nat) (w : World) (hs : s.size ≤ 1099511627776) (h : i < s.size) (d : Nat) (b : Bool) (hd : Bx ((hexV s[i].toNat).getD 0 = d ∧ (hexV s[i].toNat).isSome = b)) :
    Calls Try.prog 50 #[.string s, .int .i64 i] w fun e w' => e = .returned (.tuple #[.int .i64 d, .bool b]) ∧ w = w' := by
  have hc := s[i].toNat_lt
  obtain ⟨h1, h2⟩ := hd.out
  clear hd
  by_cases g1 : 48 ≤ s[i].toNat ∧ s[i].toNat ≤ 57
  · unfold hexV at h1 h2
    rw [if_pos g1] at h1 h2
    simp at h1 h2
    obtain ⟨g1, g2⟩ := g1
    have hd2 : ((s[i].toNat : Int) - 48) = d := by omega
    have H := Lib.hid hd2
    subst h2
    clear h1 hd2
    go_enter Try.func50, Try.ntmps50
    go_wp2_with fail
    go_ret2
    rw [H.out]
    exact ⟨rfl, rfl⟩
  · by_cases g2 : 97 ≤ s[i].toNat ∧ s[i].toNat ≤ 102
    · unfold hexV at h1 h2
      rw [if_neg g1, if_pos g2] at h1 h2
      simp at h1 h2
      obtain ⟨g2, g3⟩ := g2
      have hd2 : ((s[i].toNat : Int) - 97 + 10) = d := by omega
      have H := Lib.hid hd2
      subst h2
      clear h1 hd2
      have g1' : ¬ s[i].toNat ≤ 57 := by omega
      clear g1
      go_enter Try.func50, Try.ntmps50
      go_wp2_with fail
      go_ret2
      rw [H.out]
      exact ⟨rfl, rfl⟩
    · unfold hexV at h1 h2
      rw [if_neg g1, if_neg g2] at h1 h2
      simp at h1 h2
      subst h1 h2
      go_enter Try.func50, Try.ntmps50
      go_wp2_with fail
      all_goals
        go_ret2
        exact ⟨rfl, rfl⟩

theorem digit_in (s : ByteArray) (i : Nat) (w : World) (hs : s.size ≤ 1099511627776) (h : i < s.size) (d : Nat) (b : Bool) (hd : Bx ((digV s[i].toNat).getD 0 = d ∧ (digV s[i].toNat).isSome = b)) :
    Calls Try.prog 48 #[.string s, .int .i64 i] w fun e w' => e = .returned (.tuple #[.int .i64 d, .bool b]) ∧ w = w' := by
  have hc := s[i].toNat_lt
  obtain ⟨h1, h2⟩ := hd.out
  clear hd
  unfold digV at h1 h2
  by_cases g1 : 65 ≤ s[i].toNat ∧ s[i].toNat ≤ 70
  · rw [if_pos g1] at h1 h2
    simp at h1 h2
    obtain ⟨g1, g2⟩ := g1
    have hd2 : ((s[i].toNat : Int) - 65 + 10) = d := by omega
    have H := Lib.hid hd2
    subst h2
    clear h1 hd2
    go_enter Try.func48, Try.ntmps48
    go_wp2_with fail
    go_ret2
    rw [H.out]
    exact ⟨rfl, rfl⟩
  · rw [if_neg g1] at h1 h2
    have H : Bx ((hexV s[i].toNat).getD 0 = d ∧ (hexV s[i].toNat).isSome = b) := ⟨⟨h1, h2⟩⟩
    clear h1 h2
    have g2 : s[i].toNat < 65 ∨ (65 ≤ s[i].toNat ∧ 70 < s[i].toNat) := by omega
    clear g1
    rcases g2 with g2 | ⟨g2, g3⟩
    all_goals
      go_enter Try.func48, Try.ntmps48
      go_wp2_with fail
      refine (hexDigit_in s i _ hs h d b H).mono ?_
      rintro e w' ⟨rfl, rfl⟩
      go_wp2_with fail
      go_ret2
      exact ⟨rfl, rfl⟩

theorem i64_join4 (x y : Int) (hx₀ : 0 ≤ x) (hx : x % 16 = 0) (hx₁ : x < 4611686018427387904) (h₀ : 0 ≤ y) (h₁ : y < 16) : bits .or .i64 x y = x + y :=
  bits_join .i64 62 (by decide) (fun n h0 h1 => by rw [IntKind.wrap_i64]; omega) 4 x y hx₀ hx hx₁ h₀ h₁ (by omega)

/-- the number of some digits -/
def numL (ds : List Nat) : Nat := ds.foldl (fun n d => n * 16 + d) 0
theorem numL_snoc (ds : List Nat) (d : Nat) : numL (ds ++ [d]) = numL ds * 16 + d := by simp [numL]
theorem numL_take (ds : List Nat) (h : ∀ d ∈ ds, d < 16) (k : Nat) (hk : k ≤ 4) : numL (ds.take k) < 65536 := by
  have key : ∀ (l : List Nat), (∀ d ∈ l, d < 16) → ∀ n, (l.foldl (fun n d => n * 16 + d) n) < (n + 1) * 16 ^ l.length := by
    intro l
    induction l with
    | nil => intro _ n; simp
    | cons a t ih =>
      intro hl n
      have := ih (fun d hd => hl d (by simp [hd])) (n * 16 + a)
      have ha := hl a (by simp)
      have h2 : (n * 16 + a + 1) * 16 ^ t.length ≤ (n + 1) * 16 * 16 ^ t.length := Nat.mul_le_mul_right _ (by omega)
      simp only [List.foldl_cons, List.length_cons]
      rw [Nat.pow_succ, Nat.mul_comm (16 ^ t.length) 16, ← Nat.mul_assoc]
      omega
  have h1 := key (ds.take k) (fun d hd => h d (List.mem_of_mem_take hd)) 0
  have h2 : (ds.take k).length ≤ 4 := by simp; omega
  have h3 : 16 ^ (ds.take k).length ≤ 16 ^ 4 := Nat.pow_le_pow_right (by omega) h2
  unfold numL; omega

theorem number4 (ds : List Nat) (hl : ds.length = 4) (hd : ∀ d ∈ ds, d < 16) (b : Nat) (w : World) (hcell : ∀ k, k < 4 → w.cell? ⟨b, k, none⟩ = some (.int .i64 (ds.getD k 0 : Nat))) :
    Calls Try.prog 49 #[.slice (some ⟨b, 0, none⟩) 4 4] w fun e w' => e = .returned (.int .i64 (numL ds)) ∧ w = w' := by
  have HC := Bx.mk hcell
  have HD := Bx.mk hd
  have HL := Bx.mk hl
  clear hcell hd hl
  go_enter Try.func49, Try.ntmps49
  go_wp2_with fail
  go_loop [3, 8] (fun n i => ∃ k : Nat, k ≤ 4 ∧ i = .int .i64 k ∧ n = .int .i64 (numL (ds.take k))) (fun _ i => 4 - (intOf i).toNat)
  case atStart => exact ⟨0, by omega, rfl, rfl⟩
  case round =>
    obtain ⟨k, hk, rfl, rfl⟩ := hrel
    have hn := numL_take ds HD.out k hk
    by_cases hlt : k < 4
    · have hc := HC.out k hlt
      have hlen := HL.out
      have hg : ds.getD k 0 = ds[k]'(by omega) := by simp [List.getD_eq_getElem?_getD, hlen, hlt]
      have hdk : ds.getD k 0 < 16 := by rw [hg]; exact HD.out _ (List.getElem_mem _)
      have HN : Bx (numL (ds.take (k + 1)) = numL (ds.take k) * 16 + ds.getD k 0) := ⟨by
        rw [List.take_succ_eq_append_getElem (by omega), numL_snoc, hg]⟩
      clear hlen hg
      generalize numL (ds.take k) = n at *
      generalize ds.getD k 0 = d at *
      go_wp2_with fail
      go_round
      case rel => exact ⟨k + 1, by omega, by go_num, by rw [HN.out, i64_join4 _ _ (by omega) (by omega) (by omega) (by omega) (by omega)]; go_num⟩
      case measure => simp [intOf]; omega
    · have HE : Bx (numL (ds.take k) = numL ds) := ⟨by rw [List.take_of_length_le (by have := HL.out; omega)]⟩
      go_wp2_with fail
      go_ret
      rw [HE.out]
      exact ⟨rfl, rfl⟩
end Go.Proofs.Ytchnhhioamkdgaa
