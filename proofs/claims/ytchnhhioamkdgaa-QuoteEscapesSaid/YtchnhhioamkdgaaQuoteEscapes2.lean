/- The walk of QuoteEscapes, where all is right (printed by gen_escapes.py). -/
import Derived.Test.YtchnhhioamkdgaaQuoteEscapes
import Derived.BigQuiet
namespace Go.Proofs.Ytchnhhioamkdgaa
open Go.RowKit
set_option linter.unusedVariables false
set_option maxRecDepth 100000
theorem lo_eq (n : Int) (h : 65535 < n) (h1 : n ≤ 1114111) : wrap64 (56320 + bits .and .i64 (n - 65536) 1023) = 56320 + (n - 65536) % 1024 := by
  rw [i64_1023 _ (by omega) (by omega)]
  exact IntWalk.wrap64_in _ (by omega)

set_option maxHeartbeats 1000000 in
theorem escapes_one (s t : ByteArray) (n : Int) (big : Bool) (c : Int) (w : World) (hs : s.size ≤ 1500) (ht : t.size ≤ 1500) (hl : Bx (s.data.toList.any isLow = false)) (hl' : Bx (t.data.toList.any isLow = false))
    (A B R : ByteArray) (hA : Bx (∃ q, quoteR s.data.toList = (q, 0) ∧ str q = A)) (hB : Bx (∃ q, quoteR t.data.toList = (q, 0) ∧ str q = B))
    (hR : Bx (Utf8.valid n = true ∧ Utf8.encode n = R))
    (a : Nat) (hA1 : (A.size : Int) - 1 = (a : Int)) (hA3 : a ≤ A.size) (hA2 : A.size ≤ 3002) (hB1 : 1 ≤ B.size) (hB2 : B.size ≤ 3002) (hR2 : R.size ≤ 4) (hc0 : 0 ≤ c) (hc1 : c < 256) (h : 0 ≤ n ∧ n ≤ 65535)
    (X Y Z : ByteArray) (hXs : X.size ≤ 12) (hYs : Y.size ≤ 2) (hZs : Z.size ≤ 1) (hX : Bx ((⟨#[92, 117]⟩ : ByteArray) ++ digS big n = X)) (hY : Bx ((⟨#[92]⟩ : ByteArray) ++ (⟨#[34, 92, 47, 98, 102, 110, 114, 116]⟩ : ByteArray).extract (c % 8).toNat (c % 8 + 1).toNat = Y))
    (hZ : Bx ((⟨#[34, 92, 47, 8, 12, 10, 13, 9]⟩ : ByteArray).extract (c % 8).toNat (c % 8 + 1).toNat = Z)) (T L : ByteArray) (hL : Bx (A.extract 0 a ++ X ++ Y ++ B.extract 1 B.size = L)) (hLs : L.size ≤ 1099511627776)
    (hRd : Bx (∃ t', readR L.data.toList 0 = (t', L.size, 0) ∧ str t' = T)) (hT : Bx (s ++ R ++ Z ++ t = T)) :
    Calls Try.prog 13 #[.string s, .string t, .int .i64 n, .bool big, .int .u8 c] w fun e w' => e = .returned (.bool true) ∧ Below w.heap.size w w' := by
  go_enter Try.func13, Try.ntmps13
  go_wp2_with fail
  refine (low_any s _ _ (by omega) hl).mono ?_
  rintro e w' ⟨rfl, rfl⟩
  go_wp2_with fail
  refine (low_any t _ _ (by omega) hl').mono ?_
  rintro e w' ⟨rfl, rfl⟩
  go_wp2_with fail
  refine (awake5 _).mono ?_
  rintro e w1 ⟨rfl, h1⟩
  go_wp2_with fail
  refine (quote_to s A _ (by omega) hA.out).mono ?_
  rintro e w2 ⟨rfl, h2⟩
  go_wp2_with fail
  refine (quote_to t B _ (by omega) hB.out).mono ?_
  rintro e w3 ⟨rfl, h3⟩
  go_wp2_with fail
  refine (put_val n R _ hR.out.1 hR.out.2).mono ?_
  rintro e w' ⟨rfl, rfl⟩
  have k2 := h1.trans (h2.mono h1.size)
  have k3 := k2.trans (h3.mono k2.size)
  clear h1 h2 h3 k2 hA hB hR
  go_wp2_with fail
  refine (digits_is n big _ (by omega) (by omega)).mono ?_
  rintro e w4 ⟨rfl, h4⟩
  have k4 := k3.trans (h4.mono k3.size)
  clear h4 k3
  have hD := digS_size big
  go_wp2_with fail
  rw [hX.out, hY.out, hZ.out]
  clear hX hY hZ hD
  have v3 : (1 : Int) ≤ B.size := by omega
  have v4 : (A.extract 0 a).size = a := by simp; omega
  have v5 : (B.extract 1 B.size).size = B.size - 1 := by simp
  go_region
  rw [hL.out]
  clear hL v3 v4 v5
  go_wp2_with fail
  refine (read_to L _ T _ 0 _ hLs hRd.out).mono ?_
  rintro e w9 ⟨rfl, h9⟩
  have hq : (T.toList == (s ++ R ++ Z ++ t).toList) = true := by rw [hT.out]; simp
  have k7 := k4.trans ((drewN_below _ 1).mono k4.size)
  have k8 := k7.trans (h9.mono k7.size)
  clear hT k4 k7 h9
  go_wp2_with fail
  go_ret
  exact ⟨rfl, k8⟩

set_option maxHeartbeats 1000000 in
theorem escapes_two (s t : ByteArray) (n : Int) (big : Bool) (c : Int) (w : World) (hs : s.size ≤ 1500) (ht : t.size ≤ 1500) (hl : Bx (s.data.toList.any isLow = false)) (hl' : Bx (t.data.toList.any isLow = false))
    (A B R : ByteArray) (hA : Bx (∃ q, quoteR s.data.toList = (q, 0) ∧ str q = A)) (hB : Bx (∃ q, quoteR t.data.toList = (q, 0) ∧ str q = B))
    (hR : Bx (Utf8.valid n = true ∧ Utf8.encode n = R))
    (a : Nat) (hA1 : (A.size : Int) - 1 = (a : Int)) (hA3 : a ≤ A.size) (hA2 : A.size ≤ 3002) (hB1 : 1 ≤ B.size) (hB2 : B.size ≤ 3002) (hR2 : R.size ≤ 4) (hc0 : 0 ≤ c) (hc1 : c < 256) (h : 65535 < n ∧ n ≤ 1114111)
    (X Y Z : ByteArray) (hXs : X.size ≤ 12) (hYs : Y.size ≤ 2) (hZs : Z.size ≤ 1) (hX : Bx ((⟨#[92, 117]⟩ : ByteArray) ++ digS big (55296 + (n - 65536) / 1024) ++ (⟨#[92, 117]⟩ : ByteArray) ++ digS big (56320 + (n - 65536) % 1024) = X)) (hY : Bx ((⟨#[92]⟩ : ByteArray) ++ (⟨#[34, 92, 47, 98, 102, 110, 114, 116]⟩ : ByteArray).extract (c % 8).toNat (c % 8 + 1).toNat = Y))
    (hZ : Bx ((⟨#[34, 92, 47, 8, 12, 10, 13, 9]⟩ : ByteArray).extract (c % 8).toNat (c % 8 + 1).toNat = Z)) (T L : ByteArray) (hL : Bx (A.extract 0 a ++ X ++ Y ++ B.extract 1 B.size = L)) (hLs : L.size ≤ 1099511627776)
    (hRd : Bx (∃ t', readR L.data.toList 0 = (t', L.size, 0) ∧ str t' = T)) (hT : Bx (s ++ R ++ Z ++ t = T)) :
    Calls Try.prog 13 #[.string s, .string t, .int .i64 n, .bool big, .int .u8 c] w fun e w' => e = .returned (.bool true) ∧ Below w.heap.size w w' := by
  go_enter Try.func13, Try.ntmps13
  go_wp2_with fail
  refine (low_any s _ _ (by omega) hl).mono ?_
  rintro e w' ⟨rfl, rfl⟩
  go_wp2_with fail
  refine (low_any t _ _ (by omega) hl').mono ?_
  rintro e w' ⟨rfl, rfl⟩
  go_wp2_with fail
  refine (awake5 _).mono ?_
  rintro e w1 ⟨rfl, h1⟩
  go_wp2_with fail
  refine (quote_to s A _ (by omega) hA.out).mono ?_
  rintro e w2 ⟨rfl, h2⟩
  go_wp2_with fail
  refine (quote_to t B _ (by omega) hB.out).mono ?_
  rintro e w3 ⟨rfl, h3⟩
  go_wp2_with fail
  refine (put_val n R _ hR.out.1 hR.out.2).mono ?_
  rintro e w' ⟨rfl, rfl⟩
  have k2 := h1.trans (h2.mono h1.size)
  have k3 := k2.trans (h3.mono k2.size)
  clear h1 h2 h3 k2 hA hB hR
  go_wp2_with fail
  refine (digits_is n big _ (by omega) (by omega)).mono ?_
  rintro e w4 ⟨rfl, h4⟩
  have k4 := k3.trans (h4.mono k3.size)
  clear h4 k3
  have hD := digS_size big
  go_wp2_with fail
  refine (digits_is _ big _ (by omega) (by omega)).mono ?_
  rintro e w5 ⟨rfl, h5⟩
  have k5 := k4.trans (h5.mono k4.size)
  clear h5 k4
  go_wp2_with fail
  rw [lo_eq n (by omega) (by omega)]
  refine (digits_is _ big _ (by omega) (by omega)).mono ?_
  rintro e w6 ⟨rfl, h6⟩
  have k4 := k5.trans (h6.mono k5.size)
  clear h6 k5
  go_wp2_with fail
  rw [hX.out, hY.out, hZ.out]
  clear hX hY hZ hD
  have v3 : (1 : Int) ≤ B.size := by omega
  have v4 : (A.extract 0 a).size = a := by simp; omega
  have v5 : (B.extract 1 B.size).size = B.size - 1 := by simp
  go_region
  rw [hL.out]
  clear hL v3 v4 v5
  go_wp2_with fail
  refine (read_to L _ T _ 0 _ hLs hRd.out).mono ?_
  rintro e w9 ⟨rfl, h9⟩
  have hq : (T.toList == (s ++ R ++ Z ++ t).toList) = true := by rw [hT.out]; simp
  have k7 := k4.trans ((drewN_below _ 1).mono k4.size)
  have k8 := k7.trans (h9.mono k7.size)
  clear hT k4 k7 h9
  go_wp2_with fail
  go_ret
  exact ⟨rfl, k8⟩

end Go.Proofs.Ytchnhhioamkdgaa
