/- Contracts of legateref04 (the document's answer of layer 4). -/
import Derived.Test.YtchnhhioamkdgaaUtfWalk
import Derived.Laws.BytesArg
namespace Go.Proofs.Ytchnhhioamkdgaa
open Go.RowKit
set_option linter.unusedVariables false
set_option maxRecDepth 100000

theorem ref_rune_is (r : Int) (b : Bool) (w : World) (h : Utf8.valid r = b) :
    Calls Try.prog 19 #[.int .i64 r] w fun e w' => e = .returned (.bool b) ∧ w = w' := by
  have hv : (0 ≤ r ∧ r < 55296 ∧ b = true) ∨ (57344 ≤ r ∧ r ≤ 1114111 ∧ b = true) ∨ (r < 0 ∧ b = false) ∨ (1114111 < r ∧ b = false) ∨ (55296 ≤ r ∧ r ≤ 57343 ∧ b = false) := by
    cases b
    · simp [Utf8.valid] at h ⊢; omega
    · simp [Utf8.valid] at h ⊢; omega
  clear h
  rcases hv with ⟨h1, h2, rfl⟩ | ⟨h1, h2, rfl⟩ | ⟨h1, rfl⟩ | ⟨h1, rfl⟩ | ⟨h1, h2, rfl⟩
  all_goals
    go_enter Try.func19, Try.ntmps19
    go_wp2
    go_ret
    exact ⟨ret_bool (by first | rfl | (simp; omega)), rfl⟩

theorem ref_put_no (r : Int) (w : World) (h : Utf8.valid r = false) :
    Calls Try.prog 17 #[.int .i64 r] w fun e w' => e = .returned (.tuple #[.string ⟨#[]⟩, .int .i64 1]) ∧ Below w.heap.size w w' := by
  have H := Lib.hid h; clear h
  go_enter Try.func17, Try.ntmps17
  go_wp2_with fail
  refine (ref_rune_is _ false _ H.out).mono ?_
  rintro e w' ⟨rfl, rfl⟩
  go_wp2_with fail
  go_ret2
  exact ⟨rfl, Below.refl _ _⟩

/-- '[]byte{..}' made just now, as a string -/
theorem conv_fresh (w : World) (xs : List Int) : (convert 40 9 (.slice (some ⟨w.heap.size, 0, none⟩) xs.length xs.length)).run Try.prog (w.alloc (.cells (xs.map (Value.int .u8)).toArray 5)) =
    .ok (.string (strOfNums xs)) (w.alloc (.cells (xs.map (Value.int .u8)).toArray 5)) :=
  run_convert_bytes_arg _ 40 5 Try.underlying40 Try.underlying5 _ 0 _ _ xs rfl (fun i hi => by
    rw [World.cell?_alloc_mark]
    simp [hi]) 9 Try.underlying9

theorem conv1 (w : World) (a : Int) : (convert 40 9 (.slice (some ⟨w.heap.size, 0, none⟩) 1 1)).run Try.prog (w.alloc (.cells #[.int .u8 a] 5)) =
    .ok (.string (strOfNums [a])) (w.alloc (.cells #[.int .u8 a] 5)) := conv_fresh w [a]
theorem conv2 (w : World) (a b : Int) : (convert 40 9 (.slice (some ⟨w.heap.size, 0, none⟩) 2 2)).run Try.prog (w.alloc (.cells #[.int .u8 a, .int .u8 b] 5)) =
    .ok (.string (strOfNums [a, b])) (w.alloc (.cells #[.int .u8 a, .int .u8 b] 5)) := conv_fresh w [a, b]
theorem conv3 (w : World) (a b c : Int) : (convert 40 9 (.slice (some ⟨w.heap.size, 0, none⟩) 3 3)).run Try.prog (w.alloc (.cells #[.int .u8 a, .int .u8 b, .int .u8 c] 5)) =
    .ok (.string (strOfNums [a, b, c])) (w.alloc (.cells #[.int .u8 a, .int .u8 b, .int .u8 c] 5)) := conv_fresh w [a, b, c]
theorem conv4 (w : World) (a b c d : Int) : (convert 40 9 (.slice (some ⟨w.heap.size, 0, none⟩) 4 4)).run Try.prog (w.alloc (.cells #[.int .u8 a, .int .u8 b, .int .u8 c, .int .u8 d] 5)) =
    .ok (.string (strOfNums [a, b, c, d])) (w.alloc (.cells #[.int .u8 a, .int .u8 b, .int .u8 c, .int .u8 d] 5)) := conv_fresh w [a, b, c, d]

theorem ret_str {s t : ByteArray} {e : Int} (h : t = s) : Ending.returned (.tuple #[.string s, .int .i64 e]) = .returned (.tuple #[.string t, .int .i64 e]) := by rw [h]

theorem ref_put_1 (r : Int) (w : World) (E : ByteArray) (h : Hid (Utf8.valid r = true)) (hE : Hid (E = strOfNums [r])) (h1 : 0 ≤ r ∧ r < 128) :
    Calls Try.prog 17 #[.int .i64 r] w fun e w' => e = .returned (.tuple #[.string E, .int .i64 0]) ∧ Below w.heap.size w w' := by
  have hcv := conv1
  go_enter Try.func17, Try.ntmps17
  go_wp2_with fail
  refine (ref_rune_is _ true _ h.out).mono ?_
  rintro e w' ⟨rfl, rfl⟩
  go_wp2_with fail
  go_ret2
  exact ⟨ret_str hE.out, (Below.refl _ _).alloc (Nat.le_refl _) _⟩
theorem ref_put_2 (r : Int) (w : World) (E : ByteArray) (h : Hid (Utf8.valid r = true)) (hE : Hid (E = strOfNums [192 + r / 64, 128 + r % 64])) (h1 : 128 ≤ r ∧ r < 2048) :
    Calls Try.prog 17 #[.int .i64 r] w fun e w' => e = .returned (.tuple #[.string E, .int .i64 0]) ∧ Below w.heap.size w w' := by
  have hcv := conv2
  go_enter Try.func17, Try.ntmps17
  go_wp2_with fail
  refine (ref_rune_is _ true _ h.out).mono ?_
  rintro e w' ⟨rfl, rfl⟩
  go_wp2_with fail
  go_ret2
  exact ⟨ret_str hE.out, (Below.refl _ _).alloc (Nat.le_refl _) _⟩
theorem ref_put_3 (r : Int) (w : World) (E : ByteArray) (h : Hid (Utf8.valid r = true)) (hE : Hid (E = strOfNums [224 + r / 4096, 128 + r / 64 % 64, 128 + r % 64])) (h1 : 2048 ≤ r ∧ r < 65536) :
    Calls Try.prog 17 #[.int .i64 r] w fun e w' => e = .returned (.tuple #[.string E, .int .i64 0]) ∧ Below w.heap.size w w' := by
  have hcv := conv3
  go_enter Try.func17, Try.ntmps17
  go_wp2_with fail
  refine (ref_rune_is _ true _ h.out).mono ?_
  rintro e w' ⟨rfl, rfl⟩
  go_wp2_with fail
  go_ret2
  exact ⟨ret_str hE.out, (Below.refl _ _).alloc (Nat.le_refl _) _⟩
theorem ref_put_4 (r : Int) (w : World) (E : ByteArray) (h : Hid (Utf8.valid r = true)) (hE : Hid (E = strOfNums [240 + r / 262144, 128 + r / 4096 % 64, 128 + r / 64 % 64, 128 + r % 64])) (h1 : 65536 ≤ r ∧ r ≤ 1114111) :
    Calls Try.prog 17 #[.int .i64 r] w fun e w' => e = .returned (.tuple #[.string E, .int .i64 0]) ∧ Below w.heap.size w w' := by
  have hcv := conv4
  go_enter Try.func17, Try.ntmps17
  go_wp2_with fail
  refine (ref_rune_is _ true _ h.out).mono ?_
  rintro e w' ⟨rfl, rfl⟩
  go_wp2_with fail
  go_ret2
  exact ⟨ret_str hE.out, (Below.refl _ _).alloc (Nat.le_refl _) _⟩

theorem ba_ext {a b : ByteArray} (h : a.data.toList = b.data.toList) : a = b := by
  obtain ⟨⟨a⟩⟩ := a; obtain ⟨⟨b⟩⟩ := b; simp at h; rw [h]

theorem ref_put_yes (r : Int) (w : World) (h : Utf8.valid r = true) :
    Calls Try.prog 17 #[.int .i64 r] w fun e w' => e = .returned (.tuple #[.string (Utf8.encode r), .int .i64 0]) ∧ Below w.heap.size w w' := by
  have hv : (0 ≤ r ∧ r < 55296) ∨ (57344 ≤ r ∧ r ≤ 1114111) := by
    simp [Utf8.valid] at h; omega
  obtain ⟨n, rfl⟩ := Int.eq_ofNat_of_zero_le (show 0 ≤ r by omega)
  have he := enc_eq n h
  have hE : (Utf8.encode (n : Int)).data.toList = enc n := by unfold enc; rfl
  rw [he] at hE
  by_cases h1 : n < 128
  · rw [if_pos h1] at hE
    exact ref_put_1 _ w _ h (ba_ext (by rw [hE, strOfNums_data]; rfl)) (by omega)
  rw [if_neg h1] at hE
  by_cases h2 : n < 2048
  · rw [if_pos h2] at hE
    exact ref_put_2 _ w _ h (ba_ext (by rw [hE, strOfNums_data]; rfl)) (by omega)
  rw [if_neg h2] at hE
  by_cases h3 : n < 65536
  · rw [if_pos h3] at hE
    exact ref_put_3 _ w _ h (ba_ext (by rw [hE, strOfNums_data]; rfl)) (by omega)
  rw [if_neg h3] at hE
  exact ref_put_4 _ w _ h (ba_ext (by rw [hE, strOfNums_data]; rfl)) (by omega)
end Go.Proofs.Ytchnhhioamkdgaa
