/- The walk of QuoteUnlike. -/
import Derived.Test.YtchnhhioamkdgaaQuoteLaws
import Derived.Deep.QuietTactic
import Derived.BigQuiet
namespace Go.Proofs.Ytchnhhioamkdgaa
open Go.RowKit
set_option linter.unusedVariables false
set_option maxRecDepth 100000

theorem unlike_low (s t : ByteArray) (w : World) (hs : s.size ≤ maxLen) (ht : t.size ≤ maxLen) (h : 3000 < s.size ∨ (s.size ≤ 3000 ∧ 3000 < t.size)) :
    Calls Try.prog 12 #[.string s, .string t] w fun e w' => e = .returned (.bool true) ∧ Below w.heap.size w w' := by
  unfold maxLen at hs ht
  rcases h with h | h
  all_goals
    go_enter Try.func12, Try.ntmps12
    go_wp2_with fail
    refine (awake5 _).mono ?_
    rintro e w1 ⟨rfl, h1⟩
    go_wp2_with fail
    go_ret
    exact ⟨rfl, h1⟩
theorem unlike_err (s t : ByteArray) (w : World) (hs : s.size ≤ 3000) (ht : t.size ≤ 3000) (a b : List UInt8) (e f : Nat) (hE : Bx (quoteR s.data.toList = (a, e))) (hF : Bx (quoteR t.data.toList = (b, f)))
    (h : ((e : Int) != 0) = true ∨ (e = 0 ∧ ((f : Int) != 0) = true)) :
    Calls Try.prog 12 #[.string s, .string t] w fun e w' => e = .returned (.bool true) ∧ Below w.heap.size w w' := by
  rcases h with h | ⟨rfl, h⟩
  all_goals
    go_enter Try.func12, Try.ntmps12
    go_wp2_with fail
    refine (awake5 _).mono ?_
    rintro e' w1 ⟨rfl, h1⟩
    go_wp2_with fail
    refine (quote_is s a _ _ (by omega) hE.out).mono ?_
    rintro e' w2 ⟨rfl, h2⟩
    go_wp2_with fail
    refine (quote_is t b f _ (by omega) hF.out).mono ?_
    rintro e' w3 ⟨rfl, h3⟩
    go_wp2_with fail
    go_ret
    have k2 := h1.trans (h2.mono h1.size)
    exact ⟨rfl, k2.trans (h3.mono k2.size)⟩
theorem quote_to (s : ByteArray) (A : ByteArray) (w : World) (hs : s.size ≤ 1099511627776) (h : ∃ q, quoteR s.data.toList = (q, 0) ∧ str q = A) :
    Calls Try.prog 27 #[.string s] w fun e' w' => e' = .returned (.tuple #[.string A, .int .i64 0]) ∧ Below w.heap.size w w' := by
  obtain ⟨q, hq, rfl⟩ := h
  exact quote_is s q 0 w hs hq
/-- like texts -/
theorem unlike_same (s : ByteArray) (w : World) (hs : s.size ≤ 3000) (A : ByteArray) (hA : Bx (∃ q, quoteR s.data.toList = (q, 0) ∧ str q = A)) (hAs : A.size ≤ 8194) :
    Calls Try.prog 12 #[.string s, .string s] w fun e w' => e = .returned (.bool true) ∧ Below w.heap.size w w' := by
  go_enter Try.func12, Try.ntmps12
  go_wp2_with fail
  refine (awake5 _).mono ?_
  rintro e' w1 ⟨rfl, h1⟩
  go_wp2_with fail
  refine (quote_to s A _ (by omega) hA.out).mono ?_
  rintro e' w2 ⟨rfl, h2⟩
  go_wp2_with fail
  refine (quote_to s A _ (by omega) hA.out).mono ?_
  rintro e' w3 ⟨rfl, h3⟩
  have k2 := h1.trans (h2.mono h1.size)
  have k3 := k2.trans (h3.mono k2.size)
  clear h1 h2 h3 k2
  have hq1 : (s.toList == s.toList) = true := by simp
  have hq2 : (A.toList == A.toList) = true := by simp
  go_wp2_with fail
  go_quiet (fail)
  go_wp2_with fail
  go_ret
  exact ⟨rfl, k3.trans ((drewN_below _ _).mono k3.size)⟩
theorem unlike_other (s t : ByteArray) (w : World) (hs : s.size ≤ 3000) (ht : t.size ≤ 3000) (A B : ByteArray) (hA : Bx (∃ q, quoteR s.data.toList = (q, 0) ∧ str q = A)) (hB : Bx (∃ q, quoteR t.data.toList = (q, 0) ∧ str q = B)) (hAs : A.size ≤ 8194) (hBs : B.size ≤ 8194)
    (hst : (s.toList == t.toList) = false) (hab : (A.toList == B.toList) = false) (n : Nat) (hmin : min (A.size : Int) (B.size : Int) = (n : Int)) (hnA : n ≤ A.size) (hnB : n ≤ B.size) (hcut : ((A.extract 0 n).toList == (B.extract 0 n).toList) = false) :
    Calls Try.prog 12 #[.string s, .string t] w fun e w' => e = .returned (.bool true) ∧ Below w.heap.size w w' := by
  go_enter Try.func12, Try.ntmps12
  go_wp2_with fail
  refine (awake5 _).mono ?_
  rintro e' w1 ⟨rfl, h1⟩
  go_wp2_with fail
  refine (quote_to s A _ (by omega) hA.out).mono ?_
  rintro e' w2 ⟨rfl, h2⟩
  go_wp2_with fail
  refine (quote_to t B _ (by omega) hB.out).mono ?_
  rintro e' w3 ⟨rfl, h3⟩
  have k2 := h1.trans (h2.mono h1.size)
  have k3 := k2.trans (h3.mono k2.size)
  clear h1 h2 h3 k2
  go_wp2_with fail
  go_quiet (fail)
  go_wp2_with fail
  go_ret
  exact ⟨rfl, k3.trans ((drewN_below _ _).mono k3.size)⟩

theorem unlike_walk (s t : ByteArray) (w : World) (hs : s.size ≤ maxLen) (ht : t.size ≤ maxLen) :
    Calls Try.prog 12 #[.string s, .string t] w fun e w' => e = .returned (.bool true) ∧ Below w.heap.size w w' := by
  by_cases h : 3000 < s.size ∨ (s.size ≤ 3000 ∧ 3000 < t.size)
  · exact unlike_low s t w hs ht h
  obtain ⟨a, e, hE⟩ : ∃ a e, quoteR s.data.toList = (a, e) := ⟨_, _, rfl⟩
  obtain ⟨b, f, hF⟩ : ∃ b f, quoteR t.data.toList = (b, f) := ⟨_, _, rfl⟩
  by_cases he : e = 0
  · by_cases hf : f = 0
    · subst he hf
      have quo : ∀ (x : ByteArray) (y : List UInt8), quoteR x.data.toList = (y, 0) → y = quoteL x.data.toList := fun x y hq => by
        unfold quoteR at hq
        split at hq
        · cases hq
        · split at hq
          · cases hq; rfl
          · cases hq
      have ha := quo s a hE
      have hb := quo t b hF
      have len : ∀ (x : ByteArray), x.size ≤ 3000 → (str (quoteL x.data.toList)).size ≤ 8194 := fun x hx => by
        rw [str_size, quoteL_len]; have := escs_len x.data.toList; rw [← Lib.size_eq] at this; omega
      by_cases hst : s = t
      · subst hst
        exact unlike_same s w (by omega) (str a) ⟨⟨a, hE, rfl⟩⟩ (by rw [ha]; exact len s (by omega))
      · have hne : s.data.toList ≠ t.data.toList := fun h2 => hst (ba_ext h2)
        have key : ∀ n, n = (str a).size ∨ n = (str b).size → n ≤ (str a).size → n ≤ (str b).size → (str a).data.toList.take n ≠ (str b).data.toList.take n := by
          intro n hn hna hnb heq
          rw [str_data, str_data] at heq
          rw [str_size] at hn hna
          rw [str_size] at hn hnb
          rw [ha, hb] at heq
          rw [ha, hb] at hn
          rcases hn with hn | hn
          · rw [List.take_of_length_le (by omega)] at heq
            have hp : quoteL s.data.toList <+: quoteL t.data.toList := heq ▸ List.take_prefix _ _
            unfold quoteL at hp
            exact hne (escs_prefix _ _ (List.cons_prefix_cons.1 hp).2)
          · rw [List.take_of_length_le (l := quoteL t.data.toList) (by omega)] at heq
            have hp : quoteL t.data.toList <+: quoteL s.data.toList := heq ▸ List.take_prefix _ _
            unfold quoteL at hp
            exact hne (escs_prefix _ _ (List.cons_prefix_cons.1 hp).2).symm
        have hst2 : (s.toList == t.toList) = false := by
          rw [beq_eq_false_iff_ne, Lib.toList_data, Lib.toList_data]; exact hne
        have hab : (str a).toList ≠ (str b).toList := by
          rw [Lib.toList_data, Lib.toList_data]
          intro h2
          have hs2 : (str a).size = (str b).size := by rw [Lib.size_eq, Lib.size_eq, h2]
          exact key (str a).size (.inl rfl) (Nat.le_refl _) (by omega) (by rw [h2])
        obtain ⟨n, hmin, hnA, hnB, hn⟩ : ∃ n : Nat, min ((str a).size : Int) ((str b).size : Int) = (n : Int) ∧ n ≤ (str a).size ∧ n ≤ (str b).size ∧ (n = (str a).size ∨ n = (str b).size) :=
          ⟨min (str a).size (str b).size, by omega, by omega, by omega, by omega⟩
        refine unlike_other s t w (by omega) (by omega) (str a) (str b) ⟨⟨a, hE, rfl⟩⟩ ⟨⟨b, hF, rfl⟩⟩ (by rw [ha]; exact len s (by omega)) (by rw [hb]; exact len t (by omega)) hst2 (beq_eq_false_iff_ne.2 hab) n hmin hnA hnB ?_
        rw [beq_eq_false_iff_ne, Lib.extract_toList, Lib.extract_toList]
        simp only [List.drop_zero, Nat.sub_zero]
        exact key n hn hnA hnB
    · subst he
      exact unlike_err s t w (by omega) (by omega) a b 0 f ⟨hE⟩ ⟨hF⟩ (.inr ⟨rfl, by rw [bne_iff_ne]; omega⟩)
  · exact unlike_err s t w (by omega) (by omega) a b e f ⟨hE⟩ ⟨hF⟩ (.inl (by rw [bne_iff_ne]; omega))
end Go.Proofs.Ytchnhhioamkdgaa
