/- The walks of QuoteWithin, QuoteCut. -/
import Derived.Test.YtchnhhioamkdgaaReadView
import Derived.Test.YtchnhhioamkdgaaQuoteAwake
namespace Go.Proofs.Ytchnhhioamkdgaa
open Go.RowKit
set_option linter.unusedVariables false
set_option maxRecDepth 100000

theorem within_low (s : ByteArray) (i : Int) (w : World) (hs : s.size ≤ maxLen) (h : 5000 < s.size) :
    Calls Try.prog 14 #[.string s, .int .i64 i] w fun e w' => e = .returned (.bool true) ∧ Below w.heap.size w w' := by
  unfold maxLen at hs
  go_enter Try.func14, Try.ntmps14
  go_wp2_with fail
  refine (awake5 _).mono ?_
  rintro e w1 ⟨rfl, h1⟩
  go_wp2_with fail
  go_ret
  exact ⟨rfl, h1⟩
theorem within_err (s : ByteArray) (i : Int) (w : World) (hs : s.size ≤ 5000) (e : Nat) (he : ((e : Int) != 0) = true) (hR : Bx (readR s.data.toList i = ([], 0, e)))
    (hcase : (e = 1 ∧ i < 0) ∨ (e = 1 ∧ 0 ≤ i ∧ (s.size : Int) < i) ∨ (((e : Int) == 1) = false ∧ 0 ≤ i ∧ i ≤ s.size)) :
    Calls Try.prog 14 #[.string s, .int .i64 i] w fun e w' => e = .returned (.bool true) ∧ Below w.heap.size w w' := by
  have hst := str_toList
  rcases hcase with ⟨rfl, hc⟩ | ⟨rfl, hc, hc2⟩ | ⟨hc, hc1, hc2⟩
  all_goals
    go_enter Try.func14, Try.ntmps14
    go_wp2_with fail
    refine (awake5 _).mono ?_
    rintro e' w1 ⟨rfl, h1⟩
    go_wp2_with fail
    refine (read_is s i [] 0 _ _ (by omega) hR.out).mono ?_
    rintro e' w2 ⟨rfl, h2⟩
    go_wp2_with fail
    go_ret
    exact ⟨ret_bool (by first | rfl | (simp; omega)), h1.trans (h2.mono h1.size)⟩
theorem within_ok (s : ByteArray) (k m : Nat) (w : World) (hs : s.size ≤ 5000) (x : List UInt8) (hR : Bx (readR s.data.toList (k : Int) = (x, k + 1 + m, 0))) (hk : k < s.size) (hc : s[k].toNat = 34) (hm : 1 ≤ m) (hkm : k + 1 + m ≤ s.size)
    (hd : (s[k + m]'(by omega)).toNat = 34) (hx : x.length ≤ 4096) (hxm : x.length ≤ m - 1) (hv : Bx ((lenU (str x).data.toList).isSome = true)) :
    Calls Try.prog 14 #[.string s, .int .i64 k] w fun e w' => e = .returned (.bool true) ∧ Below w.heap.size w w' := by
  have hst := str_toList
  have hxs := str_size x
  have hq : ((s[k].toNat : Int) == 34) = true := by rw [beq_iff_eq]; omega
  have hkm2 : k + m < s.size := by omega
  have hq2 : ((s[k + m].toNat : Int) == 34) = true := by rw [beq_iff_eq]; omega
  clear hc hd
  go_enter Try.func14, Try.ntmps14
  go_wp2_with fail
  refine (awake5 _).mono ?_
  rintro e' w1 ⟨rfl, h1⟩
  go_wp2_with fail
  refine (read_is s k x _ 0 _ (by omega) hR.out).mono ?_
  rintro e' w2 ⟨rfl, h2⟩
  go_wp2_with fail
  refine (valid_is _ _ _ (by omega) hv.out).mono ?_
  rintro e' w3 ⟨rfl, h3⟩
  go_wp2_with fail
  go_ret
  have k2 := h1.trans (h2.mono h1.size)
  exact ⟨rfl, k2.trans (h3.mono k2.size)⟩
theorem getD_of (s : ByteArray) (k : Nat) (c : UInt8) (h : s.data.toList[k]? = some c) : ∃ hk : k < s.size, s[k] = c := by
  have hk : k < s.data.toList.length := by
    rcases Nat.lt_or_ge k s.data.toList.length with h' | h'
    · exact h'
    · rw [List.getElem?_eq_none h'] at h; cases h
  rw [List.getElem?_eq_getElem hk] at h
  exact ⟨by simpa using hk, Option.some.inj h⟩
theorem within_walk (s : ByteArray) (i : Int) (w : World) (hs : s.size ≤ maxLen) (_wi : (Lit.int .i64 i).wf = true) :
    Calls Try.prog 14 #[.string s, .int .i64 i] w fun e w' => e = .returned (.bool true) ∧ Below w.heap.size w w' := by
  by_cases h : 5000 < s.size
  · exact within_low s i w hs h
  have hlen : s.data.toList.length = s.size := by simp
  cases readView s.data.toList i with
  | err e he hi hR =>
    rw [hlen] at hi
    refine within_err s i w (by omega) e (by rw [bne_iff_ne]; omega) ⟨hR⟩ ?_
    by_cases h1 : e = 1
    · have := hi.1 h1
      by_cases h2 : i < 0
      · exact .inl ⟨h1, h2⟩
      · exact .inr (.inl ⟨h1, by omega, by omega⟩)
    · have : ¬ (i < 0 ∨ (s.size : Int) < i) := fun h2 => h1 (hi.2 h2)
      exact .inr (.inr ⟨by rw [beq_eq_false_iff_ne]; omega, by omega, by omega⟩)
  | ok k m c x hik hck hc hrd hx hR =>
    subst hik
    obtain ⟨hk, rfl⟩ := getD_of s k c hck
    obtain ⟨h1, h2, h3, h4, d, h5, h6⟩ := rd_len _ _ _ hrd
    rw [List.getElem?_drop] at h5
    obtain ⟨hd, rfl⟩ := getD_of s _ d h5
    simp at h2
    have e1 : k + 1 + (m - 1) = k + m := by omega
    exact within_ok s k m w (by omega) x ⟨hR⟩ hk hc h1 (by omega) (by simp only [← e1]; exact h6) hx h3 ⟨h4⟩

theorem cut_low (s : ByteArray) (i c : Int) (w : World) (hs : s.size ≤ maxLen) (h : 5000 < s.size) :
    Calls Try.prog 15 #[.string s, .int .i64 i, .int .i64 c] w fun e w' => e = .returned (.bool true) ∧ Below w.heap.size w w' := by
  unfold maxLen at hs
  go_enter Try.func15, Try.ntmps15
  go_wp2_with fail
  refine (awake5 _).mono ?_
  rintro e w1 ⟨rfl, h1⟩
  go_wp2_with fail
  go_ret
  exact ⟨rfl, h1⟩
theorem cut_err (s : ByteArray) (i c : Int) (w : World) (hs : s.size ≤ 5000) (e : Nat) (he : ((e : Int) != 0) = true) (hR : Bx (readR s.data.toList i = ([], 0, e))) :
    Calls Try.prog 15 #[.string s, .int .i64 i, .int .i64 c] w fun e w' => e = .returned (.bool true) ∧ Below w.heap.size w w' := by
  go_enter Try.func15, Try.ntmps15
  go_wp2_with fail
  refine (awake5 _).mono ?_
  rintro e' w1 ⟨rfl, h1⟩
  go_wp2_with fail
  refine (read_is s i [] 0 _ _ (by omega) hR.out).mono ?_
  rintro e' w2 ⟨rfl, h2⟩
  go_wp2_with fail
  go_ret
  exact ⟨rfl, h1.trans (h2.mono h1.size)⟩
theorem cut_ok (s : ByteArray) (k m : Nat) (c : Int) (w : World) (hs : s.size ≤ 5000) (x : List UInt8) (hR : Bx (readR s.data.toList (k : Int) = (x, k + 1 + m, 0))) (hk : k < s.size) (hm : 1 ≤ m) (hkm : k + 1 + m ≤ s.size)
    (j : Nat) (hj : (IntKind.u64.wrap c).tmod ((k : Int) + 1 + m - k) = (j : Int)) (hjm : j < 1 + m) (hcut : Bx (readR (s.extract 0 (k + j)).data.toList (k : Int) = ([], 0, 4))) :
    Calls Try.prog 15 #[.string s, .int .i64 k, .int .i64 c] w fun e w' => e = .returned (.bool true) ∧ Below w.heap.size w w' := by
  go_enter Try.func15, Try.ntmps15
  go_wp2_with fail
  refine (awake5 _).mono ?_
  rintro e' w1 ⟨rfl, h1⟩
  go_wp2_with fail
  refine (read_is s k x _ 0 _ (by omega) hR.out).mono ?_
  rintro e' w2 ⟨rfl, h2⟩
  go_wp2_with fail
  refine (read_is _ k [] 0 4 _ (by simp; omega) hcut.out).mono ?_
  rintro e' w3 ⟨rfl, h3⟩
  go_wp2_with fail
  go_ret
  have k2 := h1.trans (h2.mono h1.size)
  exact ⟨rfl, k2.trans (h3.mono k2.size)⟩
theorem wrap_u64 (c : Int) : 0 ≤ IntKind.u64.wrap c := by
  unfold IntKind.wrap; simp [IntKind.bits, IntKind.signed]; omega
theorem cut_walk (s : ByteArray) (i c : Int) (w : World) (hs : s.size ≤ maxLen) (_wi : (Lit.int .i64 i).wf = true) (_wc : (Lit.int .i64 c).wf = true) :
    Calls Try.prog 15 #[.string s, .int .i64 i, .int .i64 c] w fun e w' => e = .returned (.bool true) ∧ Below w.heap.size w w' := by
  by_cases h : 5000 < s.size
  · exact cut_low s i c w hs h
  have hlen : s.data.toList.length = s.size := by simp
  cases readView s.data.toList i with
  | err e he hi hR => exact cut_err s i c w (by omega) e (by rw [bne_iff_ne]; omega) ⟨hR⟩
  | ok k m d x hik hck hc hrd hx hR =>
    subst hik
    obtain ⟨hk, rfl⟩ := getD_of s k d hck
    obtain ⟨h1, h2, h3, h4, d, h5, h6⟩ := rd_len _ _ _ hrd
    simp at h2
    have hw := wrap_u64 c
    obtain ⟨j, hj, hjm⟩ : ∃ j : Nat, (IntKind.u64.wrap c).tmod ((k : Int) + 1 + m - k) = (j : Int) ∧ j < 1 + m := by
      generalize IntKind.u64.wrap c = y at hw
      have e1 : (k : Int) + 1 + m - k = 1 + m := by omega
      rw [e1, Int.tmod_eq_emod_of_nonneg hw]
      have h1 := Int.emod_nonneg y (show (1 + m : Int) ≠ 0 by omega)
      have h2 := Int.emod_lt_of_pos y (show (0 : Int) < 1 + m by omega)
      exact ⟨(y % (1 + m)).toNat, by omega, by omega⟩
    refine cut_ok s k m c w (by omega) x ⟨hR⟩ hk h1 (by omega) j hj hjm ⟨?_⟩
    rw [Lib.extract_data]
    simp only [List.drop_zero, Nat.sub_zero]
    have hl2 : (s.data.toList.take (k + j)).length = k + j := by simp; omega
    have hx : readR (s.data.toList.take (k + j)) (k : Int) = ((readL ((s.data.toList.take (k + j)).drop k)).1, nextR k (readL ((s.data.toList.take (k + j)).drop k)), (readL ((s.data.toList.take (k + j)).drop k)).2.2) := by
      unfold readR; rw [if_neg (by rw [hl2]; omega)]; simp
    have hd : (s.data.toList.take (k + j)).drop k = (s.data.toList.drop k).take j := by
      rw [List.drop_take]; congr 1; omega
    have hr : readL ((s.data.toList.drop k).take j) = ([], 0, 4) := by
      rw [drop_cons s k hk]
      cases j with
      | zero => rfl
      | succ j =>
        simp only [List.take_succ_cons, readL]
        rw [if_neg (by omega)]
        exact rd_cut _ _ _ hrd _ 1 j [] (by omega) (by simpa using ‹x.length ≤ 4096›)
    rw [hx, hd, hr]; rfl
end Go.Proofs.Ytchnhhioamkdgaa
