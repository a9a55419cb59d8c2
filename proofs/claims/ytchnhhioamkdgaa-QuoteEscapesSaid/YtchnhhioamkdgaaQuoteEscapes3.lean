/- QuoteEscapes: the walk and the plain law. -/
import Derived.Test.YtchnhhioamkdgaaQuoteEscapes2
namespace Go.Proofs.Ytchnhhioamkdgaa
open Go.RowKit
set_option linter.unusedVariables false
set_option maxRecDepth 100000

theorem ext1 (x : ByteArray) (f : Nat → UInt8) (j : Nat) (h : ∀ j : Fin 8, (x.data.toList.drop j.val).take (j.val + 1 - j.val) = [f j.val]) (hj : j < 8) : x.extract j (j + 1) = str [f j] := by
  apply ba_ext
  rw [Lib.extract_data, str_data]
  exact h ⟨j, hj⟩
theorem ext_y (j : Nat) (h : j < 8) : (⟨#[34, 92, 47, 98, 102, 110, 114, 116]⟩ : ByteArray).extract j (j + 1) = str [escY j] := ext1 _ escY j (by decide +kernel) h
theorem ext_z (j : Nat) (h : j < 8) : (⟨#[34, 92, 47, 8, 12, 10, 13, 9]⟩ : ByteArray).extract j (j + 1) = str [escZ j] := ext1 _ escZ j (by decide +kernel) h
theorem str_app (a b : List UInt8) : str a ++ str b = str (a ++ b) := by
  apply ba_ext; rw [app_data, str_data, str_data, str_data]

theorem escapes_walk (s t : ByteArray) (n : Int) (big : Bool) (c : Int) (w : World) (hs : s.size ≤ maxLen) (ht : t.size ≤ maxLen) (_wn : (Lit.int .i64 n).wf = true) (_wc : (Lit.int .u8 c).wf = true) :
    Calls Try.prog 13 #[.string s, .string t, .int .i64 n, .bool big, .int .u8 c] w fun e w' => e = .returned (.bool true) ∧ Below w.heap.size w w' := by
  by_cases h : 1500 < s.size ∨ (s.size ≤ 1500 ∧ 1500 < t.size)
  · exact escapes_long s t n big c w hs ht h
  have hs5 : s.size ≤ 1500 := by omega
  have ht5 : t.size ≤ 1500 := by omega
  have hsl : s.data.toList.length = s.size := by simp
  have htl : t.data.toList.length = t.size := by simp
  cases hl : s.data.toList.any isLow with
  | true => exact escapes_low s t n big c w hs5 ht5 (.inl ⟨hl⟩)
  | false =>
  cases hl' : t.data.toList.any isLow with
  | true => exact escapes_low s t n big c w hs5 ht5 (.inr ⟨⟨hl⟩, ⟨hl'⟩⟩)
  | false =>
  obtain ⟨R, g, hR⟩ : ∃ (R : ByteArray) (g : Int), (Utf8.valid n = true ∧ Utf8.encode n = R ∧ g = 0) ∨ (Utf8.valid n = false ∧ R = ⟨#[]⟩ ∧ g = 1) := by
    cases hv : Utf8.valid n
    · exact ⟨_, _, .inr ⟨rfl, rfl, rfl⟩⟩
    · exact ⟨_, _, .inl ⟨rfl, rfl, rfl⟩⟩
  rcases quoteR_cases s.data.toList (by omega) with ⟨hv, hq⟩ | ⟨hv, hq⟩
  · obtain ⟨q, k, hq2⟩ : ∃ q k, quoteR t.data.toList = (q, k) := ⟨_, _, rfl⟩
    exact escapes_err s t n big c w hs5 ht5 ⟨hl⟩ ⟨hl'⟩ _ _ R 12 k g ⟨⟨[], 12, hq, rfl, rfl⟩⟩ ⟨⟨q, k, hq2, rfl, rfl⟩⟩ ⟨hR⟩ (.inl rfl)
  rcases quoteR_cases t.data.toList (by omega) with ⟨hv', hq'⟩ | ⟨hv', hq'⟩
  · exact escapes_err s t n big c w hs5 ht5 ⟨hl⟩ ⟨hl'⟩ _ _ R 0 12 g ⟨⟨_, 0, hq, rfl, rfl⟩⟩ ⟨⟨[], 12, hq', rfl, rfl⟩⟩ ⟨hR⟩ (.inr (.inl ⟨rfl, rfl⟩))
  rcases hR.symm with ⟨hn, rfl, rfl⟩ | ⟨hn, rfl, rfl⟩
  · exact escapes_err s t n big c w hs5 ht5 ⟨hl⟩ ⟨hl'⟩ _ _ _ 0 0 1 ⟨⟨_, 0, hq, rfl, rfl⟩⟩ ⟨⟨_, 0, hq', rfl, rfl⟩⟩ ⟨.inr ⟨hn, rfl, rfl⟩⟩ (.inr (.inr ⟨rfl, rfl, rfl⟩))
  clear hR
  have hn0 : 0 ≤ n ∧ n ≤ 1114111 := by simp [Utf8.valid] at hn; omega
  have hc : 0 ≤ c ∧ c < 256 := by
    have e1 : IntKind.u8.min = 0 := rfl
    have e2 : IntKind.u8.max = 255 := rfl
    simp [Lit.wf] at _wc; omega
  obtain ⟨m, rfl⟩ : ∃ m : Nat, n = m := ⟨n.toNat, by omega⟩
  obtain ⟨j, hj, hj8⟩ : ∃ j : Nat, c % 8 = j ∧ j < 8 := ⟨(c % 8).toNat, by omega, by omega⟩
  have hj1 : (c % 8).toNat = j := by omega
  have hj2 : (c % 8 + 1).toNat = j + 1 := by omega
  have hQ : (str (quoteL s.data.toList)).size = (escs s.data.toList).length + 2 := by rw [str_size, quoteL_len]
  have hQ' : (str (quoteL t.data.toList)).size = (escs t.data.toList).length + 2 := by rw [str_size, quoteL_len]
  have hE := escs_len s.data.toList
  have hE' := escs_len t.data.toList
  have hrd := read_escs s.data.toList t.data.toList big m j (by omega) (by omega) hv hv' hl hl' hn hj8
  have hA : (str (quoteL s.data.toList)).extract 0 ((escs s.data.toList).length + 1) = str (34 :: escs s.data.toList) := by
    apply ba_ext; rw [Lib.extract_data, str_data, str_data]
    unfold quoteL
    simp
  have hB : (str (quoteL t.data.toList)).extract 1 (str (quoteL t.data.toList)).size = str (escs t.data.toList ++ [34]) := by
    apply ba_ext; rw [Lib.extract_data, str_data, str_data, hQ']
    unfold quoteL
    simp only [List.drop_succ_cons, List.drop_zero]
    exact List.take_of_length_le (by simp)
  have hY : (⟨#[92]⟩ : ByteArray) ++ (⟨#[34, 92, 47, 98, 102, 110, 114, 116]⟩ : ByteArray).extract (c % 8).toNat (c % 8 + 1).toNat = str [92, escY j] := by
    rw [hj1, hj2, ext_y j hj8]; exact str_app [92] [escY j]
  have hZ : (⟨#[34, 92, 47, 8, 12, 10, 13, 9]⟩ : ByteArray).extract (c % 8).toNat (c % 8 + 1).toNat = str [escZ j] := by
    rw [hj1, hj2, ext_z j hj8]
  have hL : str (34 :: escs s.data.toList) ++ str (uniL big m) ++ str [92, escY j] ++ str (escs t.data.toList ++ [34]) = str ((34 :: escs s.data.toList) ++ uniL big m ++ [92, escY j] ++ (escs t.data.toList ++ [34])) := by
    rw [str_app, str_app, str_app]
  have hul := uni_len big m
  have hus : (str (uniL big m)).size ≤ 12 := by rw [str_size, hul]; split <;> omega
  have hT : s ++ Utf8.encode (m : Int) ++ str [escZ j] ++ t = str (s.data.toList ++ enc m ++ [escZ j] ++ t.data.toList) := by
    apply ba_ext; rw [app_data, app_data, app_data, str_data, str_data]; simp only [enc]
  have hRs : (Utf8.encode (m : Int)).size ≤ 4 := by
    have h4 := (enc_len m hn).2
    simp only [enc] at h4
    rw [Lib.size_eq]; exact h4
  have hLs : (str ((34 :: escs s.data.toList) ++ uniL big m ++ [92, escY j] ++ (escs t.data.toList ++ [34]))).size ≤ 1099511627776 := by
    rw [str_size]
    rw [str_size] at hus
    simp only [List.length_append, List.length_cons, List.length_nil]; omega
  have hfin : ∃ t', readR (str ((34 :: escs s.data.toList) ++ uniL big m ++ [92, escY j] ++ (escs t.data.toList ++ [34]))).data.toList 0 = (t', (str ((34 :: escs s.data.toList) ++ uniL big m ++ [92, escY j] ++ (escs t.data.toList ++ [34]))).size, 0) ∧ str t' = str (s.data.toList ++ enc m ++ [escZ j] ++ t.data.toList) :=
    ⟨_, by rw [str_data, str_size]; exact hrd, rfl⟩
  have hLL : (str (quoteL s.data.toList)).extract 0 ((escs s.data.toList).length + 1) ++ str (uniL big m) ++ str [92, escY j] ++ (str (quoteL t.data.toList)).extract 1 (str (quoteL t.data.toList)).size = str ((34 :: escs s.data.toList) ++ uniL big m ++ [92, escY j] ++ (escs t.data.toList ++ [34])) := by
    rw [hA, hB, hL]
  by_cases h6 : m ≤ 65535
  · refine escapes_one s t m big c w hs5 ht5 ⟨hl⟩ ⟨hl'⟩ _ _ _ ⟨⟨_, hq, rfl⟩⟩ ⟨⟨_, hq', rfl⟩⟩ ⟨hn, rfl⟩ ((escs s.data.toList).length + 1) (by omega) (by omega) (by omega) (by omega) (by omega) hRs hc.1 hc.2 (by omega)
      _ _ _ hus (by rw [str_size]; simp) (by rw [str_size]; simp) ⟨?_⟩ ⟨hY⟩ ⟨hZ⟩ _ _ ⟨hLL⟩ hLs ⟨hfin⟩ ⟨hT⟩
    have e : uniL big m = [92, 117] ++ digL big m := by unfold uniL; rw [if_pos h6]; rfl
    rw [e, ← str_app]; rfl
  · refine escapes_two s t m big c w hs5 ht5 ⟨hl⟩ ⟨hl'⟩ _ _ _ ⟨⟨_, hq, rfl⟩⟩ ⟨⟨_, hq', rfl⟩⟩ ⟨hn, rfl⟩ ((escs s.data.toList).length + 1) (by omega) (by omega) (by omega) (by omega) (by omega) hRs hc.1 hc.2 (by omega)
      _ _ _ hus (by rw [str_size]; simp) (by rw [str_size]; simp) ⟨?_⟩ ⟨hY⟩ ⟨hZ⟩ _ _ ⟨hLL⟩ hLs ⟨hfin⟩ ⟨hT⟩
    have e : uniL big m = [92, 117] ++ digL big (55296 + (m - 65536) / 1024) ++ [92, 117] ++ digL big (56320 + (m - 65536) % 1024) := by unfold uniL; rw [if_neg h6]; simp
    have e1 : (55296 + ((m : Int) - 65536) / 1024).toNat = 55296 + (m - 65536) / 1024 := by omega
    have e2 : (56320 + ((m : Int) - 65536) % 1024).toNat = 56320 + (m - 65536) % 1024 := by omega
    unfold digS
    rw [e, e1, e2, ← str_app, ← str_app, ← str_app]; rfl
end Go.Proofs.Ytchnhhioamkdgaa
