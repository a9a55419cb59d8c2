/- law04: is, awake. -/
import Derived.Test.YtchnhhioamkdgaaUtfRef
namespace Go.Proofs.Ytchnhhioamkdgaa
open Go.RowKit
set_option linter.unusedVariables false
set_option maxRecDepth 100000

theorem next_is (s : ByteArray) (i : Int) (r z e : Nat) (w : World) (hs : s.size ≤ 1099511627776) (h : nxAt s.data.toList i = (r, z, e)) :
    Calls Try.prog 20 #[.string s, .int .i64 i] w fun e' w' => e' = .returned (.tuple #[.int .i64 r, .int .i64 z, .int .i64 e]) ∧ w = w' := by
  have := next_any s i w hs
  rw [h] at this
  exact this

theorem is_true (s : ByteArray) (r z e : Nat) (w : World) (hs : s.size ≤ 1099511627776) (h : nxAt s.data.toList 0 = (r, z, e)) :
    Calls Try.prog 25 #[.string s, .int .i64 r, .int .i64 z, .int .i64 e] w fun e' w' => e' = .returned (.bool true) ∧ w = w' := by
  have H := Lib.hid h; clear h
  go_enter Try.func25, Try.ntmps25
  go_wp2_with fail
  refine (next_is s 0 r z e _ hs H.out).mono ?_
  rintro e w' ⟨rfl, rfl⟩
  go_wp2_with fail
  go_ret
  exact ⟨rfl, rfl⟩

theorem awake4 (w : World) : Calls Try.prog 18 #[] w fun e w' => e = .returned (.bool true) ∧ w = w' := by
  go_enter Try.func18, Try.ntmps18
  go_wp2_with fail
  refine (next_is _ _ 0 0 4 _ (by decide) (by decide +kernel)).mono ?_
  rintro e w' ⟨rfl, rfl⟩
  go_wp2_with fail
  refine (next_is _ _ 0 0 1 _ (by decide) (by decide +kernel)).mono ?_
  rintro e w' ⟨rfl, rfl⟩
  go_wp2_with fail
  refine (put_no _ _ (by decide +kernel)).mono ?_
  rintro e w' ⟨rfl, rfl⟩
  go_wp2_with fail
  refine (is_true _ 8364 3 0 _ (by decide) (by decide +kernel)).mono ?_
  rintro e w' ⟨rfl, rfl⟩
  go_wp2_with fail
  refine (is_true _ 0 0 4 _ (by decide) (by decide +kernel)).mono ?_
  rintro e w' ⟨rfl, rfl⟩
  go_wp2_with fail
  refine (is_true _ 0 0 12 _ (by decide) (by decide +kernel)).mono ?_
  rintro e w' ⟨rfl, rfl⟩
  go_wp2_with fail
  refine (is_true _ 0 0 12 _ (by decide) (by decide +kernel)).mono ?_
  rintro e w' ⟨rfl, rfl⟩
  go_wp2_with fail
  refine (is_true _ 0 0 12 _ (by decide) (by decide +kernel)).mono ?_
  rintro e w' ⟨rfl, rfl⟩
  go_wp2_with fail
  refine (is_true _ 0 0 12 _ (by decide) (by decide +kernel)).mono ?_
  rintro e w' ⟨rfl, rfl⟩
  go_wp2_with fail
  go_ret
  exact ⟨rfl, rfl⟩
end Go.Proofs.Ytchnhhioamkdgaa
