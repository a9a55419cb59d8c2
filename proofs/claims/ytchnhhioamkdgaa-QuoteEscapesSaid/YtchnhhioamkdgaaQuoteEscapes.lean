/- The walk of QuoteEscapes. -/
import Derived.Test.YtchnhhioamkdgaaQuoteEscPlain
import Derived.BigRegion
namespace Go.Proofs.Ytchnhhioamkdgaa
open Go.RowKit
set_option linter.unusedVariables false
set_option maxRecDepth 100000

theorem i64_m (x : Int) (k : Nat) (hk : k ≤ 62) (h0 : 0 ≤ x) (h1 : x < 4611686018427387904) : bits .and .i64 x (2 ^ k - 1) = x % 2 ^ k :=
  bits_mask .i64 62 (by decide) (fun n h0 h1 => by rw [IntKind.wrap_i64]; omega) k hk x h0 (by omega)
theorem i64_15 (x : Int) (h0 : 0 ≤ x) (h1 : x < 4611686018427387904) : bits .and .i64 x 15 = x % 16 := i64_m x 4 (by omega) h0 h1
theorem i64_1023 (x : Int) (h0 : 0 ≤ x) (h1 : x < 4611686018427387904) : bits .and .i64 x 1023 = x % 1024 := i64_m x 10 (by omega) h0 h1
theorem conv4d (w : World) (a b c d : Int) : (convert 40 9 (.slice (some ⟨w.heap.size, 0, none⟩) 4 4)).run Try.prog (w.alloc (.cells #[.int .u8 a, .int .u8 b, .int .u8 c, .int .u8 d] 5)).drew =
    .ok (.string (strOfNums [a, b, c, d])) (w.alloc (.cells #[.int .u8 a, .int .u8 b, .int .u8 c, .int .u8 d] 5)).drew :=
  run_convert_bytes_arg _ 40 5 Try.underlying40 Try.underlying5 _ 0 _ _ [a, b, c, d] rfl (fun i hi => by
    show (w.alloc _).cell? _ = _
    rw [World.cell?_alloc_mark]
    simp
    match i, hi with
    | 0, _ => rfl
    | 1, _ => rfl
    | 2, _ => rfl
    | 3, _ => rfl) 9 Try.underlying9
theorem hex_false : ∀ d, d < 16 → ∀ h : d < (⟨#[48, 49, 50, 51, 52, 53, 54, 55, 56, 57, 97, 98, 99, 100, 101, 102]⟩ : ByteArray).size, (⟨#[48, 49, 50, 51, 52, 53, 54, 55, 56, 57, 97, 98, 99, 100, 101, 102]⟩ : ByteArray)[d] = hexc false d := by
  intro d hd h
  have : ∀ d : Fin 16, (⟨#[48, 49, 50, 51, 52, 53, 54, 55, 56, 57, 97, 98, 99, 100, 101, 102]⟩ : ByteArray).data[d.val]? = some (hexc false d.val) := by decide +kernel
  have h2 := this ⟨d, hd⟩
  obtain ⟨h3, h4⟩ := Array.getElem?_eq_some_iff.1 h2
  exact h4
theorem hex_true : ∀ d, d < 16 → ∀ h : d < (⟨#[48, 49, 50, 51, 52, 53, 54, 55, 56, 57, 65, 66, 67, 68, 69, 70]⟩ : ByteArray).size, (⟨#[48, 49, 50, 51, 52, 53, 54, 55, 56, 57, 65, 66, 67, 68, 69, 70]⟩ : ByteArray)[d] = hexc true d := by
  intro d hd h
  have : ∀ d : Fin 16, (⟨#[48, 49, 50, 51, 52, 53, 54, 55, 56, 57, 65, 66, 67, 68, 69, 70]⟩ : ByteArray).data[d.val]? = some (hexc true d.val) := by decide +kernel
  have h2 := this ⟨d, hd⟩
  obtain ⟨h3, h4⟩ := Array.getElem?_eq_some_iff.1 h2
  exact h4
def digS (big : Bool) (n : Int) : ByteArray := str (digL big n.toNat)
theorem digS_size (big : Bool) (n : Int) : (digS big n).size = 4 := rfl
theorem ret_strv {s t : ByteArray} (h : s = t) : Ending.returned (.string s) = .returned (.string t) := by rw [h]
theorem below_of_alloc_drew (w : World) (o : Obj) : Below w.heap.size w (w.alloc o).drew := by
  have hb : Below w.heap.size w (w.alloc o) := (Below.refl _ _).alloc (Nat.le_refl _) _
  exact hb.trans ((drewN_below _ _).mono hb.size)
theorem dig_at (X : ByteArray) (n : Int) (big : Bool) (q : Nat) (d : Nat) (h0 : 0 ≤ n) (h1 : n ≤ 1114111) (hX : ∀ d, d < 16 → ∀ h : d < X.size, X[d] = hexc big d) (i : Int) (hi : bits .and .i64 i 15 = (d : Int)) (hd : d < 16) (h : (bits .and .i64 i 15).toNat < X.size) :
    UInt8.ofNat ((X[(bits .and .i64 i 15).toNat].toNat : Int)).toNat = hexc big d := by
  have e : (bits .and .i64 i 15).toNat = d := by omega
  have h2 := hX d hd (by omega)
  simp only [e, Int.toNat_natCast]
  rw [h2]; simp
theorem dig_eq (X : ByteArray) (n : Int) (big : Bool) (h0 : 0 ≤ n) (h1 : n ≤ 1114111) (hX : ∀ d, d < 16 → ∀ h : d < X.size, X[d] = hexc big d)
    (ha : (bits .and .i64 (n / 4096) 15).toNat < X.size) (hb : (bits .and .i64 (n / 256) 15).toNat < X.size) (hc : (bits .and .i64 (n / 16) 15).toNat < X.size) (hd : (bits .and .i64 n 15).toNat < X.size) :
    strOfNums [(X[(bits .and .i64 (n / 4096) 15).toNat].toNat : Int), (X[(bits .and .i64 (n / 256) 15).toNat].toNat : Int), (X[(bits .and .i64 (n / 16) 15).toNat].toNat : Int), (X[(bits .and .i64 n 15).toNat].toNat : Int)] = digS big n := by
  apply ba_ext
  rw [strOfNums_data]
  simp only [List.map_cons, List.map_nil]
  obtain ⟨m, rfl⟩ : ∃ m : Nat, n = m := ⟨n.toNat, by omega⟩
  rw [dig_at X m big 0 (m / 4096 % 16) h0 h1 hX _ (by rw [i64_15 _ (by omega) (by omega)]; omega) (by omega) ha,
    dig_at X m big 0 (m / 256 % 16) h0 h1 hX _ (by rw [i64_15 _ (by omega) (by omega)]; omega) (by omega) hb,
    dig_at X m big 0 (m / 16 % 16) h0 h1 hX _ (by rw [i64_15 _ (by omega) (by omega)]; omega) (by omega) hc,
    dig_at X m big 0 (m % 16) h0 h1 hX _ (by rw [i64_15 _ (by omega) (by omega)]; omega) (by omega) hd]
  rfl

theorem digits_is (n : Int) (big : Bool) (w : World) (h0 : 0 ≤ n) (h1 : n ≤ 1114111) :
    Calls Try.prog 31 #[.int .i64 n, .bool big] w fun e w' => e = .returned (.string (digS big n)) ∧ Below w.heap.size w w' := by
  cases big
  · go_enter Try.func31, Try.ntmps31
    go_wp2_with fail
    generalize hX : (⟨#[48, 49, 50, 51, 52, 53, 54, 55, 56, 57, 97, 98, 99, 100, 101, 102]⟩ : ByteArray) = X
    have hs : X.size = 16 := by rw [← hX]; rfl
    have HX : Bx (∀ d, d < 16 → ∀ h : d < X.size, X[d] = hexc false d) := ⟨by subst hX; exact hex_false⟩
    clear hX
    have a1 : bits .and .i64 (n / 4096) 15 < X.size := by rw [i64_15 _ (by omega) (by omega)]; omega
    have b1 : bits .and .i64 (n / 256) 15 < X.size := by rw [i64_15 _ (by omega) (by omega)]; omega
    have c1 : bits .and .i64 (n / 16) 15 < X.size := by rw [i64_15 _ (by omega) (by omega)]; omega
    have d1 : bits .and .i64 n 15 < X.size := by rw [i64_15 _ (by omega) (by omega)]; omega
    have a0 : 0 ≤ bits .and .i64 (n / 4096) 15 := by rw [i64_15 _ (by omega) (by omega)]; omega
    have b0 : 0 ≤ bits .and .i64 (n / 256) 15 := by rw [i64_15 _ (by omega) (by omega)]; omega
    have c0 : 0 ≤ bits .and .i64 (n / 16) 15 := by rw [i64_15 _ (by omega) (by omega)]; omega
    have d0 : 0 ≤ bits .and .i64 n 15 := by rw [i64_15 _ (by omega) (by omega)]; omega
    clear hs
    have hcv := conv4d
    go_region
    clear hcv
    go_wp2_with fail
    go_ret
    exact ⟨ret_strv (dig_eq X n false h0 h1 HX.out _ _ _ _), below_of_alloc_drew _ _⟩
  · go_enter Try.func31, Try.ntmps31
    go_wp2_with fail
    generalize hX : (⟨#[48, 49, 50, 51, 52, 53, 54, 55, 56, 57, 65, 66, 67, 68, 69, 70]⟩ : ByteArray) = X
    have hs : X.size = 16 := by rw [← hX]; rfl
    have HX : Bx (∀ d, d < 16 → ∀ h : d < X.size, X[d] = hexc true d) := ⟨by subst hX; exact hex_true⟩
    clear hX
    have a1 : bits .and .i64 (n / 4096) 15 < X.size := by rw [i64_15 _ (by omega) (by omega)]; omega
    have b1 : bits .and .i64 (n / 256) 15 < X.size := by rw [i64_15 _ (by omega) (by omega)]; omega
    have c1 : bits .and .i64 (n / 16) 15 < X.size := by rw [i64_15 _ (by omega) (by omega)]; omega
    have d1 : bits .and .i64 n 15 < X.size := by rw [i64_15 _ (by omega) (by omega)]; omega
    have a0 : 0 ≤ bits .and .i64 (n / 4096) 15 := by rw [i64_15 _ (by omega) (by omega)]; omega
    have b0 : 0 ≤ bits .and .i64 (n / 256) 15 := by rw [i64_15 _ (by omega) (by omega)]; omega
    have c0 : 0 ≤ bits .and .i64 (n / 16) 15 := by rw [i64_15 _ (by omega) (by omega)]; omega
    have d0 : 0 ≤ bits .and .i64 n 15 := by rw [i64_15 _ (by omega) (by omega)]; omega
    clear hs
    have hcv := conv4d
    go_region
    clear hcv
    go_wp2_with fail
    go_ret
    exact ⟨ret_strv (dig_eq X n true h0 h1 HX.out _ _ _ _), below_of_alloc_drew _ _⟩

theorem quote_at (s Q : ByteArray) (e : Int) (w : World) (hs : s.size ≤ 1099511627776) (h : Bx (∃ q k, quoteR s.data.toList = (q, k) ∧ str q = Q ∧ e = (k : Nat))) :
    Calls Try.prog 27 #[.string s] w fun e' w' => e' = .returned (.tuple #[.string Q, .int .i64 e]) ∧ Below w.heap.size w w' := by
  obtain ⟨q, k, hq, rfl, rfl⟩ := h.out
  exact quote_is s q k w hs hq
theorem put_at (n : Int) (R : ByteArray) (g : Int) (w : World) (h : Bx ((Utf8.valid n = true ∧ Utf8.encode n = R ∧ g = 0) ∨ (Utf8.valid n = false ∧ R = ⟨#[]⟩ ∧ g = 1))) :
    Calls Try.prog 16 #[.int .i64 n] w fun e w' => e = .returned (.tuple #[.string R, .int .i64 g]) ∧ w = w' := by
  rcases h.out with ⟨h', rfl, rfl⟩ | ⟨h', rfl, rfl⟩
  · exact put_yes n w h'
  · exact put_no n w h'

theorem escapes_long (s t : ByteArray) (n : Int) (big : Bool) (c : Int) (w : World) (hs : s.size ≤ maxLen) (ht : t.size ≤ maxLen) (h : 1500 < s.size ∨ (s.size ≤ 1500 ∧ 1500 < t.size)) :
    Calls Try.prog 13 #[.string s, .string t, .int .i64 n, .bool big, .int .u8 c] w fun e w' => e = .returned (.bool true) ∧ Below w.heap.size w w' := by
  unfold maxLen at hs ht
  rcases h with h | h
  all_goals
    go_enter Try.func13, Try.ntmps13
    go_wp2_with fail
    refine (awake5 _).mono ?_
    rintro e w1 ⟨rfl, h1⟩
    go_wp2_with fail
    go_ret
    exact ⟨rfl, h1⟩
theorem escapes_low (s t : ByteArray) (n : Int) (big : Bool) (c : Int) (w : World) (hs : s.size ≤ 1500) (ht : t.size ≤ 1500) (h : Bx (s.data.toList.any isLow = true) ∨ (Bx (s.data.toList.any isLow = false) ∧ Bx (t.data.toList.any isLow = true))) :
    Calls Try.prog 13 #[.string s, .string t, .int .i64 n, .bool big, .int .u8 c] w fun e w' => e = .returned (.bool true) ∧ Below w.heap.size w w' := by
  rcases h with h | ⟨h, h'⟩
  · go_enter Try.func13, Try.ntmps13
    go_wp2_with fail
    refine (low_any s _ _ (by omega) h).mono ?_
    rintro e w' ⟨rfl, rfl⟩
    go_wp2_with fail
    refine (awake5 _).mono ?_
    rintro e w1 ⟨rfl, h1⟩
    go_wp2_with fail
    go_ret
    exact ⟨rfl, h1⟩
  · go_enter Try.func13, Try.ntmps13
    go_wp2_with fail
    refine (low_any s _ _ (by omega) h).mono ?_
    rintro e w' ⟨rfl, rfl⟩
    go_wp2_with fail
    refine (low_any t _ _ (by omega) h').mono ?_
    rintro e w' ⟨rfl, rfl⟩
    go_wp2_with fail
    refine (awake5 _).mono ?_
    rintro e w1 ⟨rfl, h1⟩
    go_wp2_with fail
    go_ret
    exact ⟨rfl, h1⟩
theorem escapes_err (s t : ByteArray) (n : Int) (big : Bool) (c : Int) (w : World) (hs : s.size ≤ 1500) (ht : t.size ≤ 1500) (hl : Bx (s.data.toList.any isLow = false)) (hl' : Bx (t.data.toList.any isLow = false))
    (A B R : ByteArray) (e f g : Int) (hA : Bx (∃ q k, quoteR s.data.toList = (q, k) ∧ str q = A ∧ e = (k : Nat))) (hB : Bx (∃ q k, quoteR t.data.toList = (q, k) ∧ str q = B ∧ f = (k : Nat)))
    (hR : Bx ((Utf8.valid n = true ∧ Utf8.encode n = R ∧ g = 0) ∨ (Utf8.valid n = false ∧ R = ⟨#[]⟩ ∧ g = 1))) (h : e = 12 ∨ (e = 0 ∧ f = 12) ∨ (e = 0 ∧ f = 0 ∧ g = 1)) :
    Calls Try.prog 13 #[.string s, .string t, .int .i64 n, .bool big, .int .u8 c] w fun e w' => e = .returned (.bool true) ∧ Below w.heap.size w w' := by
  go_enter Try.func13, Try.ntmps13
  go_wp2_with fail
  refine (low_any s _ _ (by omega) hl).mono ?_
  rintro e w' ⟨rfl, rfl⟩
  go_wp2_with fail
  refine (low_any t _ _ (by omega) hl').mono ?_
  rintro e w' ⟨rfl, rfl⟩
  go_wp2_with fail
  refine (awake5 _).mono ?_
  rintro e w1 ⟨rfl, h1⟩
  go_wp2_with fail
  refine (quote_at s A _ _ (by omega) hA).mono ?_
  rintro e w2 ⟨rfl, h2⟩
  go_wp2_with fail
  refine (quote_at t B _ _ (by omega) hB).mono ?_
  rintro e w3 ⟨rfl, h3⟩
  go_wp2_with fail
  refine (put_at n R _ _ hR).mono ?_
  rintro e w' ⟨rfl, rfl⟩
  have k2 := h1.trans (h2.mono h1.size)
  have k3 := k2.trans (h3.mono k2.size)
  clear h1 h2 h3 k2 hA hB hR
  rcases h with rfl | ⟨rfl, rfl⟩ | ⟨rfl, rfl, rfl⟩
  all_goals
    go_wp2_with fail
    go_ret
    exact ⟨rfl, k3⟩
end Go.Proofs.Ytchnhhioamkdgaa
