/- The walks of the laws of layer 4: UtfNexts, UtfOrder, UtfBack, UtfStray. -/
import Derived.Test.YtchnhhioamkdgaaUtfAwake
import Derived.Test.YtchnhhioamkdgaaUtfRefNext
import Derived.Test.YtchnhhioamkdgaaUtfOrderPlain
namespace Go.Proofs.Ytchnhhioamkdgaa
open Go.RowKit
set_option linter.unusedVariables false
set_option maxRecDepth 100000

theorem nexts_walk (s : ByteArray) (i : Int) (w : World) (hs : s.size ≤ maxLen) (_wi : (Lit.int .i64 i).wf = true) :
    Calls Try.prog 6 #[.string s, .int .i64 i] w fun e w' => e = .returned (.bool true) ∧ Below w.heap.size w w' := by
  clear _wi
  unfold maxLen at hs
  by_cases h : 20000 < s.size
  · go_enter Try.func6, Try.ntmps6
    go_wp2_with fail
    refine (awake4 _).mono ?_
    rintro e w' ⟨rfl, rfl⟩
    go_wp2_with fail
    go_ret
    exact ⟨rfl, Below.refl _ _⟩
  · have hs2 : s.size ≤ 1099511627776 := by omega
    generalize hX : nxAt s.data.toList i = X
    obtain ⟨r, z, e⟩ := X
    generalize hL : lenU s.data.toList = L
    obtain ⟨k, b, hkb⟩ : ∃ (k : Nat) (b : Bool), L.getD 0 = k ∧ L.isSome = b := ⟨_, _, rfl, rfl⟩
    have HX := Lib.hid hX
    have HL := Lib.hid hL
    have HK := Lib.hid hkb
    clear hX hL hkb
    go_enter Try.func6, Try.ntmps6
    go_wp2_with fail
    refine (next_any s i _ hs2).mono ?_
    rintro e w' ⟨rfl, rfl⟩
    rw [HX.out]
    go_wp2_with fail
    refine (refnext_any s i _ hs2).mono ?_
    rintro e w1 ⟨rfl, hb1⟩
    rw [HX.out]
    go_wp2_with fail
    refine (len_below s _ hs2).mono ?_
    rintro e w2 ⟨rfl, hb2⟩
    rw [HL.out, HK.out.1, HK.out.2]
    go_wp2_with fail
    refine (reflen_any s _ hs2).mono ?_
    rintro e w3 ⟨rfl, hb3⟩
    rw [HL.out, HK.out.1, HK.out.2]
    go_wp2_with fail
    refine (valid_below s _ hs2).mono ?_
    rintro e w4 ⟨rfl, hb4⟩
    rw [HL.out, HK.out.2]
    go_wp2_with fail
    refine (awake4 _).mono ?_
    rintro e w' ⟨rfl, rfl⟩
    go_wp2_with fail
    go_ret
    refine ⟨rfl, ?_⟩
    have h12 := hb1.trans (hb2.mono hb1.size)
    have h13 := h12.trans (hb3.mono h12.size)
    exact h13.trans (hb4.mono h13.size)

theorem order_walk (a b : Int) (w : World) (_wa : (Lit.int .i64 a).wf = true) (_wb : (Lit.int .i64 b).wf = true) :
    Calls Try.prog 5 #[.int .i64 a, .int .i64 b] w fun e w' => e = .returned (.bool true) ∧ Below w.heap.size w w' := by
  clear _wa _wb
  cases ha : Utf8.valid a
  · have HA := Lib.hid ha; clear ha
    cases hb : Utf8.valid b
    all_goals
      have HB := Lib.hid hb; clear hb
      go_enter Try.func5, Try.ntmps5
      go_wp2_with fail
      refine (put_no _ _ HA.out).mono ?_
      rintro e w' ⟨rfl, rfl⟩
      go_wp2_with fail
      first | refine (put_no _ _ HB.out).mono ?_ | refine (put_yes _ _ HB.out).mono ?_
      rintro e w' ⟨rfl, rfl⟩
      go_wp2_with fail
      refine (awake4 _).mono ?_
      rintro e w' ⟨rfl, rfl⟩
      go_wp2_with fail
      go_ret
      exact ⟨rfl, Below.refl _ _⟩
  · cases hb : Utf8.valid b
    · have HA := Lib.hid ha; clear ha
      have HB := Lib.hid hb; clear hb
      go_enter Try.func5, Try.ntmps5
      go_wp2_with fail
      refine (put_yes _ _ HA.out).mono ?_
      rintro e w' ⟨rfl, rfl⟩
      go_wp2_with fail
      refine (put_no _ _ HB.out).mono ?_
      rintro e w' ⟨rfl, rfl⟩
      go_wp2_with fail
      refine (awake4 _).mono ?_
      rintro e w' ⟨rfl, rfl⟩
      go_wp2_with fail
      go_ret
      exact ⟨rfl, Below.refl _ _⟩
    · have h1 := less_enc a b ha hb
      have h2 := eq_enc a b ha hb
      rw [← Lib.toList_data, ← Lib.toList_data] at h1 h2
      have HA := Lib.hid ha; clear ha
      have HB := Lib.hid hb; clear hb
      have h3 : ((decide (a < b)) == Op.bytesLess (Utf8.encode a).toList (Utf8.encode b).toList) = true := by rw [h1]; simp
      have h4 : ((a == b) == ((Utf8.encode a).toList == (Utf8.encode b).toList)) = true := by rw [h2]; simp
      clear h1 h2
      go_enter Try.func5, Try.ntmps5
      go_wp2_with fail
      refine (put_yes _ _ HA.out).mono ?_
      rintro e w' ⟨rfl, rfl⟩
      go_wp2_with fail
      refine (put_yes _ _ HB.out).mono ?_
      rintro e w' ⟨rfl, rfl⟩
      go_wp2_with fail
      refine (awake4 _).mono ?_
      rintro e w' ⟨rfl, rfl⟩
      go_wp2_with fail
      go_ret
      exact ⟨rfl, Below.refl _ _⟩

theorem nxAt_cases (l : List UInt8) (i : Int) : (∃ f : Nat, f ≠ 0 ∧ nxAt l i = (0, 0, f)) ∨
    ∃ (k q : Nat) (t : List UInt8), i = k ∧ k ≤ l.length ∧ Utf8.valid q = true ∧ l.drop k = enc q ++ t ∧ nxAt l i = (q, (enc q).length, 0) := by
  unfold nxAt
  by_cases h : i < 0 ∨ (l.length : Int) < i
  · exact .inl ⟨1, by omega, by rw [if_pos h]⟩
  · rw [if_neg h]
    cases nxView (l.drop i.toNat) with
    | short _ hx => exact .inl ⟨4, by omega, hx⟩
    | bad hx => exact .inl ⟨12, by omega, hx⟩
    | cut hx _ _ => exact .inl ⟨4, by omega, hx⟩
    | rune q t hv hl hx => exact .inr ⟨i.toNat, q, t, by omega, by omega, hv, hl, hx⟩
theorem enc_size (q : Nat) : (Utf8.encode (q : Int)).size = (enc q).length := by unfold enc; rw [Lib.size_eq]
theorem enc_data (q : Nat) : (Utf8.encode (q : Int)).data.toList = enc q := by unfold enc; rfl

theorem put_val (r : Int) (E : ByteArray) (w : World) (h : Utf8.valid r = true) (hE : Utf8.encode r = E) :
    Calls Try.prog 16 #[.int .i64 r] w fun e w' => e = .returned (.tuple #[.string E, .int .i64 0]) ∧ w = w' := by
  subst hE; exact put_yes r w h
theorem app_data (a b : ByteArray) : (a ++ b).data.toList = a.data.toList ++ b.data.toList := by
  obtain ⟨a⟩ := a
  obtain ⟨b⟩ := b
  rw [ByteArray.mk_append_mk]
theorem app_size (a b : ByteArray) : (a ++ b).size = a.size + b.size := by
  rw [Lib.size_eq, app_data, List.length_append, ← Lib.size_eq, ← Lib.size_eq]
/-- Next where the bytes of a rune stand -/
theorem nxAt_mid (a c : List UInt8) (r : Nat) (h : Utf8.valid r = true) : nxAt (a ++ enc r ++ c) (a.length : Int) = (r, (enc r).length, 0) := by
  unfold nxAt
  rw [if_neg (by simp; omega)]
  rw [Int.toNat_natCast, List.append_assoc, List.drop_left, nx_enc r h]

theorem back_low (r : Int) (s : ByteArray) (i : Int) (w : World) (hs : s.size ≤ maxLen) (h : 20000 < s.size) :
    Calls Try.prog 4 #[.int .i64 r, .string s, .int .i64 i] w fun e w' => e = .returned (.bool true) ∧ w = w' := by
  unfold maxLen at hs
  go_enter Try.func4, Try.ntmps4
  go_wp2_with fail
  refine (awake4 _).mono ?_
  rintro e w' ⟨rfl, rfl⟩
  go_wp2_with fail
  go_ret
  exact ⟨rfl, rfl⟩

theorem back_walk0 (r : Int) (s : ByteArray) (i : Int) (w : World) (hs : s.size ≤ 20000) :
    Calls Try.prog 4 #[.int .i64 r, .string s, .int .i64 i] w fun e w' => e = .returned (.bool true) ∧ w = w' := by
  have hs2 : s.size ≤ 1099511627776 := by omega
  cases hr : Utf8.valid r
  · have HR := Bx.mk hr; clear hr
    rcases nxAt_cases s.data.toList i with ⟨f, hf, hx⟩ | ⟨k, q, t, rfl, hk, hv, hl, hx⟩
    · have hf2 : ((f : Int) != 0) = true := by simp only [bne_iff_ne]; omega
      have HX := Lib.hid hx; clear hx
      go_enter Try.func4, Try.ntmps4
      go_wp2_with fail
      refine (awake4 _).mono ?_
      rintro e w' ⟨rfl, rfl⟩
      go_wp2_with fail
      refine (put_no _ _ HR.out).mono ?_
      rintro e w' ⟨rfl, rfl⟩
      go_wp2_with fail
      refine (ref_rune_is _ _ _ HR.out).mono ?_
      rintro e w' ⟨rfl, rfl⟩
      go_wp2_with fail
      refine (next_is s i 0 0 f _ hs2 HX.out).mono ?_
      rintro e w' ⟨rfl, rfl⟩
      go_wp2_with fail
      go_ret
      exact ⟨rfl, rfl⟩
    · have hm := enc_len q hv
      have hle : k + (enc q).length ≤ s.size := by
        have := congrArg List.length hl; simp at this; simp at hk; omega
      obtain ⟨E, hE⟩ : ∃ E, Utf8.encode (q : Int) = E := ⟨_, rfl⟩
      have hEs : E.size = (enc q).length := by rw [← hE]; exact enc_size q
      have hcut : ((s.extract k (k + (enc q).length)).toList == E.toList) = true := by
        rw [beq_iff_eq, Lib.extract_toList, hl, Lib.toList_data, ← hE, enc_data]; simp
      have HX := Lib.hid hx
      have HE := Bx.mk hE
      have HV := Bx.mk hv
      generalize (enc q).length = m at *
      clear hx hE hv hl hk t
      go_enter Try.func4, Try.ntmps4
      go_wp2_with fail
      refine (awake4 _).mono ?_
      rintro e w' ⟨rfl, rfl⟩
      go_wp2_with fail
      refine (put_no _ _ HR.out).mono ?_
      rintro e w' ⟨rfl, rfl⟩
      go_wp2_with fail
      refine (ref_rune_is _ _ _ HR.out).mono ?_
      rintro e w' ⟨rfl, rfl⟩
      go_wp2_with fail
      refine (next_is s k q m 0 _ hs2 HX.out).mono ?_
      rintro e w' ⟨rfl, rfl⟩
      go_wp2_with fail
      refine (put_val q E _ HV.out HE.out).mono ?_
      rintro e w' ⟨rfl, rfl⟩
      go_wp2_with fail
      go_ret
      exact ⟨rfl, rfl⟩
  · have hr0 : 0 ≤ r := by simp [Utf8.valid] at hr; omega
    obtain ⟨rn, rfl⟩ := Int.eq_ofNat_of_zero_le hr0
    obtain ⟨F, hF⟩ : ∃ F, Utf8.encode (rn : Int) = F := ⟨_, rfl⟩
    have hp := enc_len rn hr
    have hFs : F.size = (enc rn).length := by rw [← hF]; exact enc_size rn
    have HN : Hid (nxAt (s ++ F ++ s).data.toList (s.size : Int) = (rn, (enc rn).length, 0)) := by
      show _ = _
      rw [app_data, app_data, ← hF, enc_data, Lib.size_eq]
      exact nxAt_mid _ _ rn hr
    have hS3 : (s ++ F ++ s).size ≤ 1099511627776 := by rw [app_size, app_size, hFs]; omega
    have HR := Bx.mk hr
    have HF := Bx.mk hF
    have HS3 := Lib.hid hS3
    generalize (enc rn).length = p at *
    clear hr hF hr0 hS3
    rcases nxAt_cases s.data.toList i with ⟨f, hf, hx⟩ | ⟨k, q, t, rfl, hk, hv, hl, hx⟩
    · have hf2 : ((f : Int) != 0) = true := by simp only [bne_iff_ne]; omega
      have HX := Lib.hid hx; clear hx
      go_enter Try.func4, Try.ntmps4
      go_wp2_with fail
      refine (awake4 _).mono ?_
      rintro e w' ⟨rfl, rfl⟩
      go_wp2_with fail
      refine (put_val _ F _ HR.out HF.out).mono ?_
      rintro e w' ⟨rfl, rfl⟩
      go_wp2_with fail
      refine (ref_rune_is _ _ _ HR.out).mono ?_
      rintro e w' ⟨rfl, rfl⟩
      go_wp2_with fail
      refine (next_is (s ++ F ++ s) s.size rn p 0 _ HS3.out HN.out).mono ?_
      rintro e w' ⟨rfl, rfl⟩
      go_wp2_with fail
      refine (next_is s i 0 0 f _ hs2 HX.out).mono ?_
      rintro e w' ⟨rfl, rfl⟩
      go_wp2_with fail
      go_ret
      exact ⟨rfl, rfl⟩
    · have hm := enc_len q hv
      have hle : k + (enc q).length ≤ s.size := by
        have := congrArg List.length hl; simp at this; simp at hk; omega
      obtain ⟨E, hE⟩ : ∃ E, Utf8.encode (q : Int) = E := ⟨_, rfl⟩
      have hEs : E.size = (enc q).length := by rw [← hE]; exact enc_size q
      have hcut : ((s.extract k (k + (enc q).length)).toList == E.toList) = true := by
        rw [beq_iff_eq, Lib.extract_toList, hl, Lib.toList_data, ← hE, enc_data]; simp
      have HX := Lib.hid hx
      have HE := Bx.mk hE
      have HV := Bx.mk hv
      generalize (enc q).length = m at *
      clear hx hE hv hl hk t
      go_enter Try.func4, Try.ntmps4
      go_wp2_with fail
      refine (awake4 _).mono ?_
      rintro e w' ⟨rfl, rfl⟩
      go_wp2_with fail
      refine (put_val _ F _ HR.out HF.out).mono ?_
      rintro e w' ⟨rfl, rfl⟩
      go_wp2_with fail
      refine (ref_rune_is _ _ _ HR.out).mono ?_
      rintro e w' ⟨rfl, rfl⟩
      go_wp2_with fail
      refine (next_is (s ++ F ++ s) s.size rn p 0 _ HS3.out HN.out).mono ?_
      rintro e w' ⟨rfl, rfl⟩
      go_wp2_with fail
      refine (next_is s k q m 0 _ hs2 HX.out).mono ?_
      rintro e w' ⟨rfl, rfl⟩
      go_wp2_with fail
      refine (put_val q E _ HV.out HE.out).mono ?_
      rintro e w' ⟨rfl, rfl⟩
      go_wp2_with fail
      go_ret
      exact ⟨rfl, rfl⟩

theorem back_walk (r : Int) (s : ByteArray) (i : Int) (w : World) (_wr : (Lit.int .i64 r).wf = true) (hs : s.size ≤ maxLen) (_wi : (Lit.int .i64 i).wf = true) :
    Calls Try.prog 4 #[.int .i64 r, .string s, .int .i64 i] w fun e w' => e = .returned (.bool true) ∧ Below w.heap.size w w' := by
  by_cases h : 20000 < s.size
  · exact (back_low r s i w hs h).mono fun _ _ ⟨he, hw⟩ => ⟨he, by rw [← hw]; exact Below.refl _ _⟩
  · exact (back_walk0 r s i w (by omega)).mono fun _ _ ⟨he, hw⟩ => ⟨he, by rw [← hw]; exact Below.refl _ _⟩
end Go.Proofs.Ytchnhhioamkdgaa
