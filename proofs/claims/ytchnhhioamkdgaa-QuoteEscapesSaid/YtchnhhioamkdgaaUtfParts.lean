/- The walk of UtfParts. -/
import Derived.Test.YtchnhhioamkdgaaUtfStray
namespace Go.Proofs.Ytchnhhioamkdgaa
open Go.RowKit
set_option linter.unusedVariables false
set_option maxRecDepth 100000

theorem len_is (s : ByteArray) (n : Nat) (b : Bool) (w : World) (hs : s.size ≤ 1099511627776) (h1 : (lenU s.data.toList).getD 0 = n) (h2 : (lenU s.data.toList).isSome = b) :
    Calls Try.prog 22 #[.string s] w fun e w' => e = .returned (.tuple #[.int .i64 n, .bool b]) ∧ Below w.heap.size w w' := by
  subst h1 h2; exact len_below s w hs

/-- a rune that is cut short -/
theorem nx_cut (r : Nat) (h : Utf8.valid r = true) (k : Nat) (hk : 1 ≤ k ∧ k < (enc r).length) : nx ((enc r).take k) = (0, 0, 4) := by
  have hv := (valid_iff r).1 h
  rw [enc_map r h] at hk ⊢
  have hlt := encN_lt r h
  cases encView r with
  | one _ e => rw [e] at hk; simp at hk; omega
  | two h1 h2 e =>
    rw [e] at hk hlt ⊢
    simp at hk
    obtain rfl : k = 1 := by omega
    have e1 := b8_toNat (192 + r / 64) (by omega)
    show nx [b8 (192 + r / 64)] = _
    rw [nx2 _ _ (by omega)]; rfl
  | three h1 h2 e =>
    rw [e] at hk ⊢
    simp at hk
    have e1 := b8_toNat (224 + r / 4096) (by omega)
    have e2 := b8_toNat (128 + r / 64 % 64) (by omega)
    obtain rfl | rfl : k = 1 ∨ k = 2 := by omega
    · show nx [b8 (224 + r / 4096)] = _
      rw [nx3 _ _ (by omega)]; rfl
    · show nx [b8 (224 + r / 4096), b8 (128 + r / 64 % 64)] = _
      rw [nx3 _ _ (by omega), nxGo_good _ _ _ _ _ _ _ (by rw [e1, e2]; split <;> split <;> omega)]; rfl
  | four h1 e =>
    rw [e] at hk ⊢
    simp at hk
    have e1 := b8_toNat (240 + r / 262144) (by omega)
    have e2 := b8_toNat (128 + r / 4096 % 64) (by omega)
    have e3 := b8_toNat (128 + r / 64 % 64) (by omega)
    obtain rfl | rfl | rfl : k = 1 ∨ k = 2 ∨ k = 3 := by omega
    · show nx [b8 (240 + r / 262144)] = _
      rw [nx4 _ _ (by omega)]; rfl
    · show nx [b8 (240 + r / 262144), b8 (128 + r / 4096 % 64)] = _
      rw [nx4 _ _ (by omega), nxGo_good _ _ _ _ _ _ _ (by rw [e1, e2]; split <;> split <;> omega)]; rfl
    · show nx [b8 (240 + r / 262144), b8 (128 + r / 4096 % 64), b8 (128 + r / 64 % 64)] = _
      rw [nx4 _ _ (by omega), nxGo_good _ _ _ _ _ _ _ (by rw [e1, e2]; split <;> split <;> omega), nxGo_good _ _ _ _ _ _ _ (by omega)]; rfl

def PartsRel (s : ByteArray) (w0 : World) (xv atv lv : Value) (w' : World) : Prop :=
  ∃ (pos left j : Nat), pos ≤ s.size ∧ left ≤ s.size ∧ xv = .bool false ∧ atv = .int .i64 pos ∧ lv = .int .i64 left ∧ lenU (s.data.toList.drop pos) = some left ∧ lenU (s.data.toList.take pos) = some j ∧ Below w0.heap.size w0 w'
def CutRel (m : Nat) (w0 : World) (xv cv : Value) (w' : World) : Prop :=
  ∃ c : Nat, 1 ≤ c ∧ c ≤ m ∧ xv = .bool false ∧ cv = .int .i64 c ∧ Below w0.heap.size w0 w'

/-- what a round knows of the place at which it stands -/
theorem parts_step (s : ByteArray) (pos left j : Nat) (hp : pos < s.size) (h1 : lenU (s.data.toList.drop pos) = some left) (h2 : lenU (s.data.toList.take pos) = some j) :
    ∃ (r m l' : Nat), left = l' + 1 ∧ 1 ≤ m ∧ m ≤ 4 ∧ pos + m ≤ s.size ∧ nxAt s.data.toList (pos : Int) = (r, m, 0) ∧ lenU (s.data.toList.drop (pos + m)) = some l' ∧ lenU (s.data.toList.take (pos + m)) = some (1 + j) ∧
      ∀ c, 1 ≤ c → c < m → nxAt (s.extract 0 (pos + c)).data.toList (pos : Int) = (0, 0, 4) ∧ (lenU (s.extract 0 (pos + c)).data.toList).isSome = false := by
  have hne : s.data.toList.drop pos ≠ [] := by rw [drop_cons s pos hp]; simp
  have hat : nxAt s.data.toList (pos : Int) = nx (s.data.toList.drop pos) := by
    unfold nxAt; rw [if_neg (by simp; omega)]; simp
  have hbad : (nx (s.data.toList.drop pos)).2.2 = 0 := by
    by_cases h0 : (nx (s.data.toList.drop pos)).2.2 = 0
    · exact h0
    · rw [lenU_bad _ hne h0] at h1; cases h1
  obtain ⟨r, t, hv, hl, hx⟩ : ∃ (r : Nat) (t : List UInt8), Utf8.valid r = true ∧ s.data.toList.drop pos = enc r ++ t ∧ nx (s.data.toList.drop pos) = (r, (enc r).length, 0) := by
    cases nxView (s.data.toList.drop pos) with
    | short h _ => exact absurd h hne
    | bad h => rw [h] at hbad; simp at hbad
    | cut h _ _ => rw [h] at hbad; simp at hbad
    | rune r t hv hl hx => exact ⟨r, t, hv, hl, hx⟩
  have hm := enc_len r hv
  have ht : s.data.toList.drop (pos + (enc r).length) = t := by rw [← List.drop_drop, hl]; simp
  have hle : pos + (enc r).length ≤ s.size := by
    have := congrArg List.length hl; simp at this; omega
  have htake : ∀ c, c ≤ (enc r).length → s.data.toList.take (pos + c) = s.data.toList.take pos ++ (enc r).take c := fun c hc => by
    rw [List.take_add, hl, List.take_append_of_le_length hc]
  have hplen : (s.data.toList.take pos).length = pos := by simp; omega
  rw [hl, lenU_enc r hv t] at h1
  cases hu : lenU t with
  | none => rw [hu] at h1; cases h1
  | some l' =>
    rw [hu] at h1
    refine ⟨r, (enc r).length, l', ?_, hm.1, hm.2, hle, hat.trans hx, by rw [ht]; exact hu, ?_, ?_⟩
    · have := Option.some.inj h1; simp at this; omega
    · rw [htake _ (Nat.le_refl _), lenU_append _ _ j h2, List.take_length]
      have := lenU_enc r hv []
      rw [List.append_nil, lenU_nil] at this
      rw [this]; simp
    · intro c hc1 hc2
      have hd : (s.extract 0 (pos + c)).data.toList = s.data.toList.take pos ++ (enc r).take c := by
        rw [Lib.extract_data]; simp only [List.drop_zero, Nat.sub_zero]; exact htake c (by omega)
      have hcut := nx_cut r hv c ⟨hc1, hc2⟩
      rw [hd]
      constructor
      · have := nxAt_at (s.data.toList.take pos) ((enc r).take c)
        rw [hplen] at this
        rw [this, hcut]
      · have hn : (enc r).take c ≠ [] := by
          intro e; rw [e] at hcut; have h2 := congrArg List.length e; simp at h2
          rcases h2 with h2 | h2
          · omega
          · rw [h2] at hm; simp at hm
        rw [lenU_append _ _ j h2, lenU_bad _ hn (by rw [hcut]; simp)]; rfl

theorem parts_low (s t : ByteArray) (w : World) (hs : s.size ≤ maxLen) (ht : t.size ≤ maxLen) (h : 3000 < s.size ∨ (s.size ≤ 3000 ∧ 3000 < t.size)) :
    Calls Try.prog 8 #[.string s, .string t] w fun e w' => e = .returned (.bool true) ∧ Below w.heap.size w w' := by
  unfold maxLen at hs ht
  rcases h with h | h
  all_goals
    go_enter Try.func8, Try.ntmps8
    go_wp2_with fail
    refine (awake4 _).mono ?_
    rintro e w' ⟨rfl, rfl⟩
    go_wp2_with fail
    go_ret
    exact ⟨rfl, Below.refl _ _⟩

theorem parts_no (s t : ByteArray) (w : World) (hs : s.size ≤ 3000) (ht : t.size ≤ 3000) (m k : Nat) (b c : Bool)
    (h1 : Hid ((lenU s.data.toList).getD 0 = 0)) (h2 : Hid ((lenU s.data.toList).isSome = false))
    (h3 : Hid ((lenU t.data.toList).getD 0 = m)) (h4 : Hid ((lenU t.data.toList).isSome = b))
    (h5 : Hid ((lenU (s ++ t).data.toList).getD 0 = k)) (h6 : Hid ((lenU (s ++ t).data.toList).isSome = c)) (h7 : Hid ((s ++ t).size ≤ 1099511627776)) :
    Calls Try.prog 8 #[.string s, .string t] w fun e w' => e = .returned (.bool true) ∧ Below w.heap.size w w' := by
  have hs2 : s.size ≤ 1099511627776 := by omega
  have ht2 : t.size ≤ 1099511627776 := by omega
  go_enter Try.func8, Try.ntmps8
  go_wp2_with fail
  refine (awake4 _).mono ?_
  rintro e w' ⟨rfl, rfl⟩
  go_wp2_with fail
  refine (len_is s _ _ _ hs2 h1.out h2.out).mono ?_
  rintro e w1 ⟨rfl, hb1⟩
  go_wp2_with fail
  refine (len_is t _ _ _ ht2 h3.out h4.out).mono ?_
  rintro e w2 ⟨rfl, hb2⟩
  go_wp2_with fail
  refine (len_is (s ++ t) _ _ _ h7.out h5.out h6.out).mono ?_
  rintro e w3 ⟨rfl, hb3⟩
  have hb12 := hb1.trans (hb2.mono hb1.size)
  have hb := hb12.trans (hb3.mono hb12.size)
  clear hb1 hb2 hb3 hb12
  go_wp2_with fail
  go_ret
  exact ⟨rfl, hb⟩

set_option maxHeartbeats 1000000 in
theorem parts_yes (s t : ByteArray) (w : World) (hs : s.size ≤ 3000) (ht : t.size ≤ 3000) (n m k : Nat) (b : Bool) (hn : n ≤ s.size) (hm : m ≤ t.size) (hk : Hid (b = true → k = n + m))
    (h0 : Hid (lenU s.data.toList = some n)) (h1 : Hid ((lenU s.data.toList).getD 0 = n)) (h2 : Hid ((lenU s.data.toList).isSome = true))
    (h3 : Hid ((lenU t.data.toList).getD 0 = m)) (h4 : Hid ((lenU t.data.toList).isSome = b))
    (h5 : Hid ((lenU (s ++ t).data.toList).getD 0 = k)) (h6 : Hid ((lenU (s ++ t).data.toList).isSome = b)) (h7 : Hid ((s ++ t).size ≤ 1099511627776)) :
    Calls Try.prog 8 #[.string s, .string t] w fun e w' => e = .returned (.bool true) ∧ Below w.heap.size w w' := by
  have hs2 : s.size ≤ 1099511627776 := by omega
  have ht2 : t.size ≤ 1099511627776 := by omega
  have hd1 : decide ((3000 : Int) < s.size) = false := by simp; omega
  have hd2 : decide ((3000 : Int) < t.size) = false := by simp; omega
  have hd3 : decide (3000 < s.size) = false := by simp; omega
  have hd4 : decide (3000 < t.size) = false := by simp; omega
  have hkk : b = true → ((k : Int) != (n : Int) + m) = false := fun e => by
    have := hk.out e; simp only [bne_eq_false_iff_eq]; omega
  clear hk
  cases b
  case' false => clear hkk
  case' true => have hkk := hkk rfl
  all_goals
    go_enter Try.func8, Try.ntmps8
    go_wp2_with fail
    refine (awake4 _).mono ?_
    rintro e w' ⟨rfl, rfl⟩
    go_wp2_with fail
    refine (len_is s _ _ _ hs2 h1.out h2.out).mono ?_
    rintro e w1 ⟨rfl, hb1⟩
    go_wp2_with fail
    refine (len_is t _ _ _ ht2 h3.out h4.out).mono ?_
    rintro e w2 ⟨rfl, hb2⟩
    go_wp2_with fail
    refine (len_is (s ++ t) _ _ _ h7.out h5.out h6.out).mono ?_
    rintro e w3 ⟨rfl, hb3⟩
    have hb12 := hb1.trans (hb2.mono hb1.size)
    have hb := hb12.trans (hb3.mono hb12.size)
    clear hb1 hb2 hb3 hb12 h1 h2 h3 h4 h5 h6 h7
    go_wp2_with fail
    go_loopw [4, 11, 12] (fun x a l w' => PartsRel s w x a l w') (fun _ a _ _ => s.size - (intOf a).toNat)
    case atStart => exact ⟨0, n, 0, by omega, hn, rfl, rfl, rfl, by simpa using h0.out, rfl, hb⟩
    case round =>
      clear hb
      obtain ⟨pos, left, j, hp1, hl1, rfl, rfl, rfl, hA, hB, hbel⟩ := hrel
      by_cases hp : pos < s.size
      · obtain ⟨r, z, l', rfl, hz1, hz2, hz3, hx, hA2, hB2, hcut⟩ := parts_step s pos left j hp hA hB
        have HX := Lib.hid hx
        have HA2 := Lib.hid hA2
        have HB2 := Lib.hid hB2
        have HC := Lib.hid hcut
        have HL1 : Hid ((lenU (s.extract pos s.size).data.toList).getD 0 = l' + 1) := by
          show _ = _
          rw [Lib.extract_to_end, hA]; rfl
        have HL2 : Hid ((lenU (s.extract pos s.size).data.toList).isSome = true) := by
          show _ = _
          rw [Lib.extract_to_end, hA]; rfl
        clear hx hA2 hB2 hcut hA hB
        go_wp2_with fail
        refine (next_is s pos r z 0 _ hs2 HX.out).mono ?_
        rintro e w' ⟨rfl, rfl⟩
        go_wp2_with fail
        refine (len_is _ _ _ _ (by simp; omega) HL1.out HL2.out).mono ?_
        rintro e w4 ⟨rfl, hb4⟩
        have hb5 := hbel.trans (hb4.mono hbel.size)
        clear hb4 hbel
        have hq1 : decide ((z : Int) < 1) = false := by simp; omega
        have hq2 : decide (4 < (z : Int)) = false := by simp; omega
        go_wp2_with fail
        go_loopw [4, 18] (fun x c w' => CutRel z w x c w') (fun _ c _ => z - (intOf c).toNat)
        case atStart => exact ⟨1, by omega, by omega, rfl, rfl, hb5⟩
        case round =>
          clear hb5
          obtain ⟨c, hc1, hc2, rfl, rfl, hbel⟩ := hrel
          by_cases hc : c < z
          · obtain ⟨hcx, hcv⟩ := HC.out c hc1 hc
            have HCX := Lib.hid hcx
            have HCV := Lib.hid hcv
            clear hcx hcv HC
            go_wp2_with fail
            refine (next_is _ _ 0 0 4 _ (by simp; omega) HCX.out).mono ?_
            rintro e w' ⟨rfl, rfl⟩
            go_wp2_with fail
            refine (valid_is _ _ _ (by simp; omega) HCV.out).mono ?_
            rintro e w5 ⟨rfl, hb5⟩
            go_wp2_with fail
            go_roundw
            case rel => exact ⟨c + 1, by omega, by omega, rfl, by go_num, hbel.trans (hb5.mono hbel.size)⟩
            case measure => simp [intOf]; omega
          · clear HC
            go_wp2_with fail
            go_roundw
            case rel => exact ⟨pos + z, l', 1 + j, by omega, by omega, rfl, by go_num, by go_num, HA2.out, HB2.out, hbel⟩
            case measure => simp [intOf]; omega
      · clear hA hB
        go_wp2_with fail
        go_ret
        exact ⟨rfl, hbel⟩

theorem parts_walk (s t : ByteArray) (w : World) (hs : s.size ≤ maxLen) (ht : t.size ≤ maxLen) :
    Calls Try.prog 8 #[.string s, .string t] w fun e w' => e = .returned (.bool true) ∧ Below w.heap.size w w' := by
  by_cases h : 3000 < s.size ∨ (s.size ≤ 3000 ∧ 3000 < t.size)
  · exact parts_low s t w hs ht h
  have h7 : (s ++ t).size ≤ 1099511627776 := by rw [app_size]; omega
  cases hl : lenU s.data.toList with
  | none => exact parts_no s t w (by omega) (by omega) _ _ _ _ (show _ = _ by rw [hl]; rfl) (show _ = _ by rw [hl]; rfl) rfl rfl rfl rfl h7
  | some n =>
    have hap := lenU_append s.data.toList t.data.toList n hl
    rw [← app_data] at hap
    have hn := lenU_le _ _ hl
    refine parts_yes s t w (by omega) (by omega) n ((lenU t.data.toList).getD 0) _ _ (by simpa using hn) ?_ ?_ hl (show _ = _ by rw [hl]; rfl) (show _ = _ by rw [hl]; rfl) rfl rfl rfl ?_ h7
    · cases ht2 : lenU t.data.toList with
      | none => simp
      | some m => have := lenU_le _ _ ht2; simpa using this
    · intro h
      rw [hap]
      cases ht2 : lenU t.data.toList with
      | none => rw [ht2] at h; cases h
      | some m => simp; omega
    · show _ = _
      rw [hap]
      cases lenU t.data.toList <;> rfl
end Go.Proofs.Ytchnhhioamkdgaa
