/- The walk of UtfStray. -/
import Derived.Test.YtchnhhioamkdgaaUtfLaws2
import Derived.OpenShut
namespace Go.Proofs.Ytchnhhioamkdgaa
open Go.RowKit
set_option linter.unusedVariables false
set_option maxRecDepth 100000

/-- a byte that stands in no UTF-8 -/
def noByte (b : UInt8) : Prop := b.toNat = 192 ∨ b.toNat = 193 ∨ 245 ≤ b.toNat
theorem enc_noByte (r : Nat) (h : Utf8.valid r = true) (b : UInt8) (hb : b ∈ enc r) : ¬ noByte b := by
  have hv := (valid_iff r).1 h
  rw [enc_map r h] at hb
  obtain ⟨n, hn, rfl⟩ := List.mem_map.1 hb
  have hl := b8_toNat n (encN_lt r h n hn)
  unfold noByte
  rw [hl]
  cases encView r <;> rename_i e <;> rw [e] at hn <;> simp at hn <;> omega
theorem lenU_noByte (l : List UInt8) (b : UInt8) (hb : b ∈ l) (h : noByte b) : lenU l = none := by
  revert hb
  refine utf_ind (fun l => b ∈ l → lenU l = none) ?_ ?_ ?_ l
  · intro hb; cases hb
  · intro l hl hx _; exact lenU_bad l hl hx
  · intro r t hv ih hb
    rw [lenU_enc r hv t]
    rcases List.mem_append.1 hb with hb | hb
    · exact absurd h (enc_noByte r hv b hb)
    · rw [ih hb]; rfl
theorem nxAt_at (a c : List UInt8) : nxAt (a ++ c) (a.length : Int) = nx c := by
  unfold nxAt
  rw [if_neg (by simp; omega), Int.toNat_natCast, List.drop_left]

theorem valid_is (s : ByteArray) (b : Bool) (w : World) (hs : s.size ≤ 1099511627776) (h : (lenU s.data.toList).isSome = b) :
    Calls Try.prog 24 #[.string s] w fun e w' => e = .returned (.bool b) ∧ Below w.heap.size w w' := by
  subst h; exact valid_below s w hs

/-- a string of one byte -/
def one (b : Int) : ByteArray := strOfNums [b]
theorem conv_one (w : World) (a : Int) : (convert 40 9 (.slice (some ⟨w.heap.size, 0, none⟩) 1 1)).run Try.prog (w.alloc (.cells #[.int .u8 a] 5)) =
    .ok (.string (one a)) (w.alloc (.cells #[.int .u8 a] 5)) := conv_fresh w [a]
theorem one_data (b : Nat) : (one b).data.toList = [b8 b] := by unfold one; rw [strOfNums_data]; rfl
theorem one_size (b : Int) : (one b).size = 1 := by unfold one; rw [strOfNums_size]; rfl

theorem stray_low (s : ByteArray) (b : Nat) (w : World) (hs : s.size ≤ maxLen) (h : 20000 < s.size) :
    Calls Try.prog 9 #[.string s, .int .u8 b] w fun e w' => e = .returned (.bool true) ∧ Below w.heap.size w w' := by
  unfold maxLen at hs
  go_enter Try.func9, Try.ntmps9
  go_wp2_with fail
  refine (awake4 _).mono ?_
  rintro e w' ⟨rfl, rfl⟩
  go_wp2_with fail
  go_ret
  exact ⟨rfl, Below.refl _ _⟩

theorem stray_1 (s : ByteArray) (b : Nat) (w : World) (hs : s.size ≤ 20000) (hb : b < 128) :
    Calls Try.prog 9 #[.string s, .int .u8 b] w fun e w' => e = .returned (.bool true) ∧ Below w.heap.size w w' := by
  have hcv := conv_one
  have h1s := one_size (b : Int)
  have HX : Hid (nxAt (s ++ one b).data.toList (s.size : Int) = (b, 1, 0)) := by
    show _ = _
    have e := b8_toNat b (by omega)
    rw [app_data, one_data, Lib.size_eq, nxAt_at, nx1 _ _ (by omega), e]
  have HS : Hid ((s ++ one b).size ≤ 1099511627776) := by
    show _ ≤ _
    rw [app_size, one_size]; omega
  go_enter Try.func9, Try.ntmps9
  go_wp2_with fail
  refine (awake4 _).mono ?_
  rintro e w' ⟨rfl, rfl⟩
  go_wp2_with fail
  refine (next_is _ _ b 1 0 _ HS.out HX.out).mono ?_
  rintro e w' ⟨rfl, rfl⟩
  go_wp2_with fail
  go_ret
  exact ⟨rfl, (Below.refl _ _).alloc (Nat.le_refl _) _⟩

theorem stray_2 (s : ByteArray) (b : Nat) (w : World) (hs : s.size ≤ 20000) (hb : 194 ≤ b ∧ b ≤ 244) :
    Calls Try.prog 9 #[.string s, .int .u8 b] w fun e w' => e = .returned (.bool true) ∧ Below w.heap.size w w' := by
  go_enter Try.func9, Try.ntmps9
  go_wp2_with fail
  refine (awake4 _).mono ?_
  rintro e w' ⟨rfl, rfl⟩
  go_wp2_with fail
  go_ret
  exact ⟨rfl, Below.refl _ _⟩

set_option maxHeartbeats 1000000 in
theorem stray_3 (s : ByteArray) (b : Nat) (w : World) (hs : s.size ≤ 20000) (hb : (128 ≤ b ∧ b < 194) ∨ (244 < b ∧ b < 256)) :
    Calls Try.prog 9 #[.string s, .int .u8 b] w fun e w' => e = .returned (.bool true) ∧ Below w.heap.size w w' := by
  have hcv := conv_one
  have h1s := one_size (b : Int)
  have hs2 : s.size ≤ 1099511627776 := by omega
  have e8 := b8_toNat b (by omega)
  have hn : nx (b8 b :: s.data.toList) = (0, 0, 12) := nx0 _ _ (by omega)
  have hdat : (s ++ one b ++ s).data.toList = s.data.toList ++ (b8 b :: s.data.toList) := by
    rw [app_data, app_data, one_data]; simp
  have HX : Hid (nxAt (s ++ one b ++ s).data.toList (s.size : Int) = (0, 0, 12)) := by
    show _ = _
    rw [hdat, Lib.size_eq, nxAt_at, hn]
  have HS : Hid ((s ++ one b ++ s).size ≤ 1099511627776) := by
    show _ ≤ _
    rw [app_size, app_size, one_size]; omega
  have HV : Hid ((lenU s.data.toList).isSome = true → (lenU (s ++ one b ++ s).data.toList).isSome = false) := fun h => by
    obtain ⟨n, hn2⟩ := Option.isSome_iff_exists.1 h
    rw [hdat, lenU_append _ _ n hn2, lenU_bad _ (by simp) (by rw [hn]; simp)]; rfl
  have HW : Hid (¬ b < 192 → (lenU (s ++ one b ++ s).data.toList).isSome = false) := fun h => by
    rw [lenU_noByte _ (b8 b) (by rw [hdat]; simp) (by unfold noByte; omega)]; rfl
  clear hdat hn e8
  have hd1 : decide ((b : Int) < 128) = false := by simp; omega
  have hb1 : ¬ (b : Int) < 128 := by omega
  have hb2 : ¬ (194 ≤ b ∧ b ≤ 244) := by omega
  by_cases h192 : b < 192
  · have hb3 : b < 194 := by omega
    cases hv : (lenU s.data.toList).isSome
    · have HVS := Lib.hid hv
      clear hv hb HV HW
      go_enter Try.func9, Try.ntmps9
      go_wp2_with fail
      refine (awake4 _).mono ?_
      rintro e w' ⟨rfl, rfl⟩
      go_wp2_with fail
      refine (next_is _ _ 0 0 12 _ HS.out HX.out).mono ?_
      rintro e w' ⟨rfl, rfl⟩
      go_wp2_with fail
      refine (valid_is _ _ _ hs2 HVS.out).mono ?_
      rintro e w1 ⟨rfl, hbl⟩
      go_wp2_with fail
      go_ret
      exact ⟨rfl, ((Below.refl _ _).alloc (Nat.le_refl _) _).trans (hbl.mono (by simp))⟩
    · have HVT := Lib.hid (HV.out hv)
      have HVS := Lib.hid hv
      clear hv hb HV HW
      go_enter Try.func9, Try.ntmps9
      go_wp2_with fail
      refine (awake4 _).mono ?_
      rintro e w' ⟨rfl, rfl⟩
      go_wp2_with fail
      refine (next_is _ _ 0 0 12 _ HS.out HX.out).mono ?_
      rintro e w' ⟨rfl, rfl⟩
      go_wp2_with fail
      refine (valid_is _ _ _ hs2 HVS.out).mono ?_
      rintro e w1 ⟨rfl, hbl⟩
      go_wp2_with fail
      refine (valid_is _ _ _ HS.out HVT.out).mono ?_
      rintro e w2 ⟨rfl, hbl2⟩
      go_wp2_with fail
      go_ret
      have h1 := ((Below.refl w.heap.size w).alloc (Nat.le_refl _) _).trans (hbl.mono (by simp))
      exact ⟨rfl, h1.trans (hbl2.mono h1.size)⟩
  · have HVT := Lib.hid (HW.out h192)
    rcases hb with hb | hb
    all_goals
      cases hv : (lenU s.data.toList).isSome
      · have HVS := Lib.hid hv
        clear hv HV HW
        go_enter Try.func9, Try.ntmps9
        go_wp2_with fail
        refine (awake4 _).mono ?_
        rintro e w' ⟨rfl, rfl⟩
        go_wp2_with fail
        refine (next_is _ _ 0 0 12 _ HS.out HX.out).mono ?_
        rintro e w' ⟨rfl, rfl⟩
        go_wp2_with fail
        refine (valid_is _ _ _ HS.out HVT.out).mono ?_
        rintro e w1 ⟨rfl, hbl⟩
        go_wp2_with fail
        refine (valid_is _ _ _ hs2 HVS.out).mono ?_
        rintro e w2 ⟨rfl, hbl2⟩
        go_wp2_with fail
        go_ret
        have h1 := ((Below.refl w.heap.size w).alloc (Nat.le_refl _) _).trans (hbl.mono (by simp))
        exact ⟨rfl, h1.trans (hbl2.mono h1.size)⟩
      · have HVS := Lib.hid hv
        clear hv HV HW
        go_enter Try.func9, Try.ntmps9
        go_wp2_with fail
        refine (awake4 _).mono ?_
        rintro e w' ⟨rfl, rfl⟩
        go_wp2_with fail
        refine (next_is _ _ 0 0 12 _ HS.out HX.out).mono ?_
        rintro e w' ⟨rfl, rfl⟩
        go_wp2_with fail
        refine (valid_is _ _ _ HS.out HVT.out).mono ?_
        rintro e w1 ⟨rfl, hbl⟩
        go_wp2_with fail
        refine (valid_is _ _ _ hs2 HVS.out).mono ?_
        rintro e w2 ⟨rfl, hbl2⟩
        go_wp2_with fail
        refine (valid_is _ _ _ HS.out HVT.out).mono ?_
        rintro e w3 ⟨rfl, hbl3⟩
        go_wp2_with fail
        go_ret
        have h1 := ((Below.refl w.heap.size w).alloc (Nat.le_refl _) _).trans (hbl.mono (by simp))
        have h2 := h1.trans (hbl2.mono h1.size)
        exact ⟨rfl, h2.trans (hbl3.mono h2.size)⟩

theorem stray_walk (s : ByteArray) (b : Int) (w : World) (hs : s.size ≤ maxLen) (wb : (Lit.int .u8 b).wf = true) :
    Calls Try.prog 9 #[.string s, .int .u8 b] w fun e w' => e = .returned (.bool true) ∧ Below w.heap.size w w' := by
  have hb : 0 ≤ b ∧ b < 256 := by
    have := bounds_u8 wb; omega
  obtain ⟨n, rfl⟩ := Int.eq_ofNat_of_zero_le hb.1
  by_cases h : 20000 < s.size
  · exact stray_low s n w hs h
  by_cases h1 : n < 128
  · exact stray_1 s n w (by omega) h1
  by_cases h2 : 194 ≤ n ∧ n ≤ 244
  · exact stray_2 s n w (by omega) h2
  · exact stray_3 s n w (by omega) (by omega)
end Go.Proofs.Ytchnhhioamkdgaa
