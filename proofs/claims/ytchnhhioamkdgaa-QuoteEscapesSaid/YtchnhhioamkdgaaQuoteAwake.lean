/- law05: awake; legateref05.Quote; QuoteWrites. -/
import Derived.Test.YtchnhhioamkdgaaRead5
namespace Go.Proofs.Ytchnhhioamkdgaa
open Go.RowKit
set_option linter.unusedVariables false
set_option maxRecDepth 100000

theorem quote_is (s : ByteArray) (q : List UInt8) (e : Nat) (w : World) (hs : s.size ≤ 1099511627776) (h : quoteR s.data.toList = (q, e)) :
    Calls Try.prog 27 #[.string s] w fun e' w' => e' = .returned (.tuple #[.string (str q), .int .i64 e]) ∧ Below w.heap.size w w' := by
  have := quote_any s w hs
  rw [h] at this
  exact this
theorem read_is (s : ByteArray) (i : Int) (t : List UInt8) (n e : Nat) (w : World) (hs : s.size ≤ 1099511627776) (h : readR s.data.toList i = (t, n, e)) :
    Calls Try.prog 29 #[.string s, .int .i64 i] w fun e' w' => e' = .returned (.tuple #[.string (str t), .int .i64 n, .int .i64 e]) ∧ Below w.heap.size w w' := by
  have := read_any s i w hs
  rw [h] at this
  exact this

theorem str_toList (l : List UInt8) : (str l).toList = l := by rw [Lib.toList_data]; rfl

theorem awake5 (w : World) : Calls Try.prog 26 #[] w fun e w' => e = .returned (.bool true) ∧ Below w.heap.size w w' := by
  have hst := str_toList
  go_enter Try.func26, Try.ntmps26
  go_wp2_with fail
  refine (quote_is _ [34, 97, 92, 34, 98, 92, 92, 34] 0 _ (by decide) (by decide +kernel)).mono ?_
  rintro e w1 ⟨rfl, h1⟩
  go_wp2_with fail
  refine (quote_is _ [] 12 _ (by decide) (by decide +kernel)).mono ?_
  rintro e w2 ⟨rfl, h2⟩
  go_wp2_with fail
  refine (read_is _ _ [97, 195, 169, 10] 11 0 _ (by decide) (by decide +kernel)).mono ?_
  rintro e w3 ⟨rfl, h3⟩
  go_wp2_with fail
  refine (read_is _ _ [240, 159, 152, 128] 14 0 _ (by decide) (by decide +kernel)).mono ?_
  rintro e w4 ⟨rfl, h4⟩
  go_wp2_with fail
  refine (read_is _ _ [] 0 12 _ (by decide) (by decide +kernel)).mono ?_
  rintro e w5 ⟨rfl, h5⟩
  go_wp2_with fail
  refine (read_is _ _ [] 0 3 _ (by decide) (by decide +kernel)).mono ?_
  rintro e w6 ⟨rfl, h6⟩
  go_wp2_with fail
  go_ret
  have k2 := h1.trans (h2.mono h1.size)
  have k3 := k2.trans (h3.mono k2.size)
  have k4 := k3.trans (h4.mono k3.size)
  have k5 := k4.trans (h5.mono k4.size)
  exact ⟨rfl, k5.trans (h6.mono k5.size)⟩

theorem refquote_low (s : ByteArray) (w : World) (hs : s.size ≤ 1099511627776) (h : 4096 < s.size) :
    Calls Try.prog 28 #[.string s] w fun e w' => e = .returned (.tuple #[.string ⟨#[]⟩, .int .i64 5]) ∧ w = w' := by
  go_enter Try.func28, Try.ntmps28
  go_wp2_with fail
  go_ret2
  exact ⟨rfl, rfl⟩
theorem reflen_is (s : ByteArray) (n : Nat) (b : Bool) (w : World) (hs : s.size ≤ 1099511627776) (h1 : (lenU s.data.toList).getD 0 = n) (h2 : (lenU s.data.toList).isSome = b) :
    Calls Try.prog 23 #[.string s] w fun e w' => e = .returned (.tuple #[.int .i64 n, .bool b]) ∧ Below w.heap.size w w' := by
  subst h1 h2; exact reflen_any s w hs
theorem refquote_bad (s : ByteArray) (w : World) (h : s.size ≤ 4096) (hv : Hid ((lenU s.data.toList).isSome = false)) :
    Calls Try.prog 28 #[.string s] w fun e w' => e = .returned (.tuple #[.string ⟨#[]⟩, .int .i64 12]) ∧ Below w.heap.size w w' := by
  go_enter Try.func28, Try.ntmps28
  go_wp2_with fail
  refine (reflen_is s _ _ _ (by omega) rfl hv.out).mono ?_
  rintro e w1 ⟨rfl, hb1⟩
  go_wp2_with fail
  go_ret2
  exact ⟨rfl, hb1⟩
def RQuoteRel (s : ByteArray) (w0 : World) (ov iv : Value) (w' : World) : Prop :=
  ∃ (k : Nat) (O : ByteArray), k ≤ s.size ∧ iv = .int .i64 k ∧ ov = .string O ∧ O.data.toList = 34 :: escs (s.data.toList.take k) ∧ w' = w0
theorem refquote_ok (s : ByteArray) (w : World) (h : s.size ≤ 4096) (hv : Hid ((lenU s.data.toList).isSome = true)) :
    Calls Try.prog 28 #[.string s] w fun e w' => e = .returned (.tuple #[.string (str (quoteL s.data.toList)), .int .i64 0]) ∧ Below w.heap.size w w' := by
  have hdd : decide ((4096 : Int) < s.size) = false := by simp; omega
  go_enter Try.func28, Try.ntmps28
  go_wp2_with fail
  refine (reflen_is s _ _ _ (by omega) rfl hv.out).mono ?_
  rintro e w1 ⟨rfl, hb1⟩
  go_wp2_with fail
  go_loopw [6, 7] (fun o i w' => RQuoteRel s w1 o i w') (fun _ i _ => s.size - (intOf i).toNat)
  case atStart => exact ⟨0, _, by omega, rfl, rfl, rfl, rfl⟩
  case round =>
    obtain ⟨k, O, hk, rfl, rfl, hO, rfl⟩ := hrel
    have hos : O.size ≤ 8193 := by
      rw [Lib.size_eq, hO]
      have := escs_len (s.data.toList.take k)
      simp; simp at this; omega
    have HO := Bx.mk hO
    clear hO
    by_cases hlt : k < s.size
    · have hb8 : s[k].toNat < 256 := s[k].toNat_lt
      have hsn : s.data.toList.take (k + 1) = s.data.toList.take k ++ [s[k]] := by
        rw [List.take_succ_eq_append_getElem (by simpa using hlt)]; rfl
      have hex : (s.extract k (k + 1)).data.toList = [s[k]] := by
        rw [Lib.extract_data, drop_cons s k hlt]; simp
      have hexs : (s.extract k (k + 1)).size = 1 := by rw [Lib.size_eq, hex]; rfl
      have h92 : (⟨#[92]⟩ : ByteArray).size = 1 := rfl
      by_cases hc : s[k].toNat = 34 ∨ s[k].toNat = 92
      · have HE : Bx ((O ++ ⟨#[92]⟩ ++ s.extract k (k + 1)).data.toList = 34 :: escs (s.data.toList.take (k + 1))) := ⟨by
          rw [app_data, app_data, HO.out, hex, hsn, escs_snoc, esc, if_pos hc]; simp⟩
        have hcc : ((s[k].toNat : Int) == 34) = true ∨ (((s[k].toNat : Int) == 34) = false ∧ ((s[k].toNat : Int) == 92) = true) := by
          rcases hc with hc | hc
          · left; simp; omega
          · right; constructor <;> simp <;> omega
        have happ : (O ++ ⟨#[92]⟩ : ByteArray).size = O.size + 1 := by rw [app_size]; rfl
        clear hsn hc HO hex
        rcases hcc with hcc | ⟨hcc, hc2⟩
        all_goals
          go_wp2_with fail
          go_roundw
          case rel => exact ⟨k + 1, _, by omega, by go_num, rfl, HE.out, rfl⟩
          case measure => simp [intOf]; omega
      · have HE : Bx ((O ++ s.extract k (k + 1)).data.toList = 34 :: escs (s.data.toList.take (k + 1))) := ⟨by
          rw [app_data, HO.out, hex, hsn, escs_snoc, esc, if_neg hc]; simp⟩
        have hc1 : ((s[k].toNat : Int) == 34) = false := by simp; omega
        have hc2 : ((s[k].toNat : Int) == 92) = false := by simp; omega
        clear hsn hc HO hex
        go_wp2_with fail
        go_roundw
        case rel => exact ⟨k + 1, _, by omega, by go_num, rfl, HE.out, rfl⟩
        case measure => simp [intOf]; omega
    · have HF : Bx (O ++ ⟨#[34]⟩ = str (quoteL s.data.toList)) := ⟨ba_ext (by
        rw [app_data, HO.out, List.take_of_length_le (by simp; omega)]; simp [str, quoteL])⟩
      clear HO
      go_wp2_with fail
      go_ret2
      rw [HF.out]
      exact ⟨rfl, hb1⟩
theorem refquote_any (s : ByteArray) (w : World) (hs : s.size ≤ 1099511627776) :
    Calls Try.prog 28 #[.string s] w fun e w' => e = .returned (.tuple #[.string (str (quoteR s.data.toList).1), .int .i64 (quoteR s.data.toList).2]) ∧ Below w.heap.size w w' := by
  unfold quoteR
  rw [← Lib.size_eq]
  by_cases h : 4096 < s.size
  · rw [if_pos h]
    exact (refquote_low s w hs h).mono below_of_eq
  · rw [if_neg h]
    cases hv : (lenU s.data.toList).isSome
    · exact refquote_bad s w (by omega) hv
    · exact refquote_ok s w (by omega) hv

theorem writes_walk (s : ByteArray) (w : World) (hs : s.size ≤ maxLen) :
    Calls Try.prog 10 #[.string s] w fun e w' => e = .returned (.bool true) ∧ Below w.heap.size w w' := by
  unfold maxLen at hs
  by_cases h : 3000 < s.size
  · go_enter Try.func10, Try.ntmps10
    go_wp2_with fail
    refine (awake5 _).mono ?_
    rintro e w1 ⟨rfl, h1⟩
    go_wp2_with fail
    go_ret
    exact ⟨rfl, h1⟩
  · have hs2 : s.size ≤ 1099511627776 := by omega
    obtain ⟨q, e, hQ⟩ : ∃ q e, quoteR s.data.toList = (q, e) := ⟨_, _, rfl⟩
    have HQ := Bx.mk hQ
    clear hQ
    go_enter Try.func10, Try.ntmps10
    go_wp2_with fail
    refine (quote_is s q e _ hs2 HQ.out).mono ?_
    rintro e' w1 ⟨rfl, h1⟩
    go_wp2_with fail
    refine (refquote_any s _ hs2).mono ?_
    rintro e' w2 ⟨rfl, h2⟩
    rw [HQ.out]
    go_wp2_with fail
    refine (awake5 _).mono ?_
    rintro e' w3 ⟨rfl, h3⟩
    go_wp2_with fail
    go_ret
    have k2 := h1.trans (h2.mono h1.size)
    exact ⟨rfl, k2.trans (h3.mono k2.size)⟩
end Go.Proofs.Ytchnhhioamkdgaa
