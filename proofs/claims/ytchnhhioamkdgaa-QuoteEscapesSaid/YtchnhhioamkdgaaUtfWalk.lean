/- Contracts of package utf: Next at any place, Len, Valid. -/
import Derived.Test.YtchnhhioamkdgaaUtf
import Derived.Test.YtchnhhioamkdgaaUtfLen
import Derived.Laws.RangeAny
import Derived.Lib.Strings
import Derived.Lib.IndexBytes
import Derived.Below
namespace Go.Proofs.Ytchnhhioamkdgaa
open Go.RowKit
set_option linter.unusedVariables false
set_option maxRecDepth 100000

theorem next_bad (s : ByteArray) (i : Nat) (w : World) (hs : s.size ≤ 1099511627776) (hi : i < s.size) (lo hh : Nat)
    (hL : Hid (leadN s[i].toNat = (0, lo, hh))) :
    Calls Try.prog 20 #[.string s, .int .i64 i] w fun e w' => e = .returned (.tuple #[.int .i64 0, .int .i64 0, .int .i64 12]) ∧ w = w' := by
  have hne : ((i : Int) == (s.size : Int)) = false := by simp; omega
  have hb : s[i].toNat < 256 := s[i].toNat_lt
  have hi0 : decide ((i : Int) < 0) = false := by simp
  go_enter Try.func20, Try.ntmps20
  go_wp2_with fail
  refine (lead_any _ _ hb).mono ?_
  rintro e w' ⟨rfl, rfl⟩
  rw [hL.out]
  go_wp2_with fail
  go_ret3
  exact ⟨rfl, rfl⟩

theorem next_any (s : ByteArray) (i : Int) (w : World) (hs : s.size ≤ 1099511627776) :
    Calls Try.prog 20 #[.string s, .int .i64 i] w fun e w' => e = .returned (.tuple #[.int .i64 (nxAt s.data.toList i).1, .int .i64 (nxAt s.data.toList i).2.1, .int .i64 (nxAt s.data.toList i).2.2]) ∧ w = w' := by
  have hlen : s.data.toList.length = s.size := by simp
  by_cases h : i < 0 ∨ (s.size : Int) < i
  · have e : nxAt s.data.toList i = (0, 0, 1) := by unfold nxAt; rw [if_pos (by rw [hlen]; exact h)]
    rw [e]
    exact next_arg s i w hs h
  · have e : nxAt s.data.toList i = nx (s.data.toList.drop i.toNat) := by unfold nxAt; rw [if_neg (by rw [hlen]; exact h)]
    rw [e]
    obtain ⟨n, rfl⟩ := Int.eq_ofNat_of_zero_le (show 0 ≤ i by omega)
    rw [Int.toNat_natCast]
    by_cases hn : n = s.size
    · subst hn
      rw [drop_end s _ (Nat.le_refl _), show nx [] = (0, 0, 4) from by rw [nx]]
      exact next_end s w hs
    · have hlt : n < s.size := by omega
      rw [drop_cons s n hlt]
      obtain ⟨hl1, hl2⟩ := leadN_lim s[n].toNat
      have hc := leadN_cases s[n].toNat
      obtain ⟨lo, hh, sz, hL⟩ : ∃ lo hh sz, leadN s[n].toNat = (sz, lo, hh) := ⟨_, _, _, rfl⟩
      have hz : sz = 0 ∨ sz = 1 ∨ (2 ≤ sz ∧ sz ≤ 4) := by rw [hL] at hc; simp only at hc; omega
      rw [hL] at hl1 hl2
      rcases hz with rfl | rfl | hz
      · have e2 : nx (s[n] :: s.data.toList.drop (n + 1)) = (0, 0, 12) := by rw [nx, hL]; rfl
        rw [e2]
        exact next_bad s n w hs hlt lo hh hL
      · have e2 : nx (s[n] :: s.data.toList.drop (n + 1)) = (s[n].toNat, 1, 0) := by rw [nx, hL]; rfl
        rw [e2]
        exact next_one s n w hs hlt lo hh hL hl1 hl2
      · refine next_core s n w hs hlt sz lo hh hz _ hL hl1 hl2 ?_
        show nxGo _ _ _ _ _ _ = _
        rw [nx, hL]
        simp only
        rw [if_neg (by omega), if_neg (by omega)]

theorem ret_bool {a b : Bool} (h : a = b) : Ending.returned (.bool a) = .returned (.bool b) := by rw [h]
theorem hasPrefix (s p : ByteArray) (w : World) (hs : s.size ≤ 1099511627776) (hp : p.size ≤ 1099511627776) :
    Calls Try.prog 34 #[.string s, .string p] w fun e w' => e = .returned (.bool (p.data.toList.isPrefixOf s.data.toList)) ∧ w = w' := by
  have key := Lib.hasPrefix_of_take s.data.toList p.data.toList
  rw [← Lib.size_eq, ← Lib.size_eq] at key
  unfold Lib.hasPrefix at key
  have HK := Lib.hid key
  clear key
  by_cases h : p.size ≤ s.size
  · have hX : Hid (((s.extract 0 p.size).toList == p.toList) = p.data.toList.isPrefixOf s.data.toList) := by
      show _ = _
      rw [← HK.out, Lib.extract_toList, Lib.toList_data]; simp [h]
    clear HK
    go_enter Try.func34, Try.ntmps34
    go_wp2
    go_ret
    exact ⟨ret_bool hX.out, rfl⟩
  · have hX : Hid (false = p.data.toList.isPrefixOf s.data.toList) := by
      show _ = _
      rw [← HK.out]; simp [h]
    clear HK
    go_enter Try.func34, Try.ntmps34
    go_wp2
    go_ret
    exact ⟨ret_bool hX.out, rfl⟩

theorem hasPrefix_is (s p : ByteArray) (b : Bool) (w : World) (hs : s.size ≤ 1099511627776) (hp : p.size ≤ 1099511627776) (h : p.data.toList.isPrefixOf s.data.toList = b) :
    Calls Try.prog 34 #[.string s, .string p] w fun e w' => e = .returned (.bool b) ∧ w = w' := by
  subst h; exact hasPrefix s p w hs hp

/-- the number of runes so far, and what is left -/
def LenRel (s : ByteArray) (w0 : World) (nv : Value) (a b : Value) (w' : World) : Prop :=
  ∃ (pos n : Nat), pos ≤ s.size ∧ n ≤ pos ∧ w' = w0.iter s pos ∧ nv = .int .i64 n ∧ a = .int .i64 0 ∧ b = .bool false ∧ lenU s.data.toList = (lenU (s.data.toList.drop pos)).map (· + n)
/-- what Len returns -/
def LenPost (s : ByteArray) (w : World) (e : Ending) (w' : World) : Prop :=
  e = .returned (.tuple #[.int .i64 ((lenU s.data.toList).getD 0 : Nat), .bool (lenU s.data.toList).isSome]) ∧ ∃ pos, w' = w.iter s pos

theorem len_any (s : ByteArray) (w : World) (hs : s.size ≤ 1099511627776) :
    Calls Try.prog 22 #[.string s] w (LenPost s w) := by
  go_enter Try.func22, Try.ntmps22
  go_wp2_with fail
  go_loopw [4, 2, 3] (fun n a b w' => LenRel s w n a b w') (fun _ _ _ w' => s.size - w'.iterPos w.heap.size)
  case atStart => exact ⟨0, 0, by omega, by omega, rfl, rfl, rfl, rfl, by simp⟩
  case round =>
    obtain ⟨pos, n, hpos, hn, rfl, rfl, rfl, rfl, hl⟩ := hrel
    have HL := Lib.hid hl; clear hl
    by_cases hp : pos < s.size
    · have hd : Utf8.decode s pos = decL (s.data.toList.drop pos) := decode_drop s pos hpos
      have hne : s.data.toList.drop pos ≠ [] := by rw [drop_cons s pos hp]; simp
      by_cases h0 : (nx (s.data.toList.drop pos)).2.2 = 0
      · -- a rune stands here
        obtain ⟨r, t, hv, hl, hx⟩ : ∃ (r : Nat) (t : List UInt8), Utf8.valid r = true ∧ s.data.toList.drop pos = enc r ++ t ∧ nx (s.data.toList.drop pos) = (r, (enc r).length, 0) := by
          cases nxView (s.data.toList.drop pos) with
          | short h _ => exact absurd h hne
          | bad h => rw [h] at h0; simp at h0
          | cut h _ _ => rw [h] at h0; simp at h0
          | rune r t hv hl hx => exact ⟨r, t, hv, hl, hx⟩
        rw [hl, decL_enc r hv t] at hd
        have hm := enc_len r hv
        have ht : s.data.toList.drop (pos + (enc r).length) = t := by rw [← List.drop_drop, hl]; simp
        have hle : pos + (enc r).length ≤ s.size := by
          have := congrArg List.length hl; simp at this; omega
        have hrb : r ≤ 1114111 := by have := (valid_iff r).1 hv; omega
        have HL2 : Hid (lenU s.data.toList = (lenU t).map (· + (n + 1))) := by
          show _ = _
          rw [HL.out, hl, lenU_enc r hv t, Option.map_map]
          exact congrArg (fun f => Option.map f (lenU t)) (funext fun k => by simp only [Function.comp]; omega)
        have HP : Hid (r = 65533 → List.isPrefixOf [239, 191, 189] (s.data.toList.drop pos) = true) := fun e => by
          rw [hl, e, show enc ((65533 : Nat) : Int) = [239, 191, 189] from enc_bad]; simp
        have HT := Lib.hid ht
        generalize hmm : (enc r).length = m at *
        have hnx : ∀ ty, (Instr.next (.pointer (some ⟨w.heap.size, 0, none⟩)) true ty).run Try.prog (w.iter s pos) = .ok (.tuple #[.bool true, .int .i64 pos, .int .i32 r]) (w.iter s (pos + m)) :=
          fun ty => by have := run_next_any (P := Try.prog) w s pos ty hp; rw [hd] at this; exact this
        clear HL hd hne h0 hl hx hv ht hmm
        by_cases h5 : r = 65533
        · have hp2 := HP.out h5
          have HP2 : Hid (List.isPrefixOf [239, 191, 189] (s.extract pos s.size).data.toList = true) := by
            show _ = _
            rw [Lib.extract_to_end]; exact hp2
          subst h5
          clear HP hp2
          go_wp2_with fail
          refine (hasPrefix_is _ _ true _ (by simp; omega) (by decide) HP2.out).mono ?_
          rintro e w' ⟨rfl, rfl⟩
          go_wp2_with fail
          go_roundw
          case rel => exact ⟨pos + m, n + 1, by omega, by omega, rfl, by go_num, rfl, rfl, by rw [HT.out]; exact HL2.out⟩
          case measure => simp; omega
        · have h5' : ((r : Int) == 65533) = false := by simp; omega
          clear HP h5
          go_wp2_with fail
          go_roundw
          case rel => exact ⟨pos + m, n + 1, by omega, by omega, rfl, by go_num, rfl, rfl, by rw [HT.out]; exact HL2.out⟩
          case measure => simp; omega
      · -- none
        rw [decL_bad _ hne h0] at hd
        have HL2 : Hid (lenU s.data.toList = none) := by
          show _ = _
          rw [HL.out, lenU_bad _ hne h0]; rfl
        have HP2 : Hid (List.isPrefixOf [239, 191, 189] (s.extract pos s.size).data.toList = false) := by
          show _ = _
          rw [Lib.extract_to_end]
          rw [Bool.eq_false_iff]
          intro hc
          obtain ⟨t, ht⟩ := List.isPrefixOf_iff_prefix.1 hc
          rw [← ht, bad_prefix] at h0
          exact h0 rfl
        have hnx : ∀ ty, (Instr.next (.pointer (some ⟨w.heap.size, 0, none⟩)) true ty).run Try.prog (w.iter s pos) = .ok (.tuple #[.bool true, .int .i64 pos, .int .i32 65533]) (w.iter s (pos + 1)) :=
          fun ty => by have := run_next_any (P := Try.prog) w s pos ty hp; rw [hd] at this; exact this
        clear HL hd hne h0
        go_wp2_with fail
        refine (hasPrefix_is _ _ false _ (by simp; omega) (by decide) HP2.out).mono ?_
        rintro e w' ⟨rfl, rfl⟩
        go_wp2_with fail
        go_ret2
        refine ⟨?_, _, rfl⟩
        rw [HL2.out]; rfl
    · have hnx : ∀ ty, (Instr.next (.pointer (some ⟨w.heap.size, 0, none⟩)) true ty).run Try.prog (w.iter s pos) = _ := fun ty => run_next_end w s pos ty hp
      go_wp2_with fail
      go_ret2
      have e := HL.out
      rw [drop_end s _ (by omega), lenU_nil] at e
      refine ⟨?_, _, rfl⟩
      rw [e]; simp

theorem iter_below (w : World) (s : ByteArray) (pos : Nat) : Below w.heap.size w (w.iter s pos) := (Below.refl _ _).alloc (Nat.le_refl _) _

theorem len_below (s : ByteArray) (w : World) (hs : s.size ≤ 1099511627776) :
    Calls Try.prog 22 #[.string s] w fun e w' => e = .returned (.tuple #[.int .i64 ((lenU s.data.toList).getD 0 : Nat), .bool (lenU s.data.toList).isSome]) ∧ Below w.heap.size w w' :=
  (len_any s w hs).mono fun _ _ ⟨he, pos, hw⟩ => ⟨he, by rw [hw]; exact iter_below _ _ _⟩

theorem valid_below (s : ByteArray) (w : World) (hs : s.size ≤ 1099511627776) :
    Calls Try.prog 24 #[.string s] w fun e w' => e = .returned (.bool (lenU s.data.toList).isSome) ∧ Below w.heap.size w w' := by
  go_enter Try.func24, Try.ntmps24
  go_wp2_with fail
  refine (len_below s _ hs).mono ?_
  rintro e w1 ⟨rfl, hb⟩
  go_wp2_with fail
  go_ret
  exact ⟨rfl, hb⟩
end Go.Proofs.Ytchnhhioamkdgaa
