/- Contract of legateref04.Next, Len. (Printed by gen_refnext.py.) -/
import Derived.Test.YtchnhhioamkdgaaUtfBegins
namespace Go.Proofs.Ytchnhhioamkdgaa
open Go.RowKit
set_option linter.unusedVariables false
set_option maxRecDepth 100000

theorem bgGo_mid (k : Nat) (t : List UInt8) (lo hi : Int) (x : Int × Int) (h : bgGo k t lo hi = some x) (j : Nat) (hj : j < k) (c : UInt8) (hc : t[j]? = some c) : 128 ≤ c.toNat ∧ c.toNat ≤ 191 := by
  induction k generalizing t lo hi j with
  | zero => omega
  | succ k ih =>
    match t with
    | [] => simp at hc
    | d :: t =>
      simp only [bgGo] at h
      by_cases g : d.toNat < 128 ∨ 191 < d.toNat
      · rw [if_pos g] at h; cases h
      · rw [if_neg g] at h
        cases j with
        | zero => simp at hc; subst hc; omega
        | succ j => exact ih t _ _ h j (by omega) (by simpa using hc)
theorem bgN_mid (sz : Nat) (l : List UInt8) (h : bgN sz l = true) (j : Nat) (hj : 1 ≤ j ∧ j < sz) (c : UInt8) (hc : l[j]? = some c) : 128 ≤ c.toNat ∧ c.toNat ≤ 191 := by
  match l with
  | [] => simp at hc
  | b :: t =>
    simp only [bgN] at h
    obtain ⟨k, rfl⟩ : ∃ k, j = k + 1 := ⟨j - 1, by omega⟩
    cases hg : bgGo (sz - 1) t (b.toNat - offN sz) (b.toNat - offN sz) with
    | none => rw [hg] at h; cases h
    | some x => exact bgGo_mid _ t _ _ x hg k (by omega) c (by simpa using hc)

theorem first_of (x : ByteArray) (b : UInt8) (t : List UInt8) (hx : x.data.toList = b :: t) : ∃ h : 0 < x.size, x[0] = b := by
  have hl : 0 < x.size := by rw [Lib.size_eq, hx]; simp
  refine ⟨hl, ?_⟩
  have := drop_cons x 0 hl
  rw [List.drop_zero, hx] at this
  exact (List.cons.inj this).1.symm

def RnRel (s : ByteArray) (i sz : Nat) (w0 : World) (R T : Nat × Nat × Nat) (rv zv ev nv : Value) (w' : World) : Prop :=
  ∃ n : Nat, 1 ≤ n ∧ n ≤ sz + 1 ∧ i + (n - 1) ≤ s.size ∧ rv = .int .i64 0 ∧ zv = .int .i64 0 ∧ ev = .int .i64 0 ∧ nv = .int .i64 n ∧ rnGo (s.data.toList.drop i) sz R (sz + 1 - n) n = T ∧
    (2 ≤ n → bgN sz ((s.data.toList.drop i).take (n - 1)) = true) ∧ Below w0.heap.size w0 w'
def ValRel (s : ByteArray) (i sz : Nat) (w0 : World) (V : Int) (rv iv : Value) (w' : World) : Prop :=
  ∃ (r : Int) (j : Nat), 1 ≤ j ∧ j ≤ sz ∧ 0 ≤ r ∧ r < 32 * 64 ^ (j - 1) ∧ rv = .int .i64 r ∧ iv = .int .i64 j ∧ valGo (sz - j) ((s.data.toList.drop i).drop j) r = V ∧ w' = w0

theorem toNat_nonneg_eq (V : Int) (h : 0 ≤ V) : ((V.toNat : Nat) : Int) = V := by omega
theorem valGo_nonneg (k : Nat) (t : List UInt8) (r : Int) (hr : 0 ≤ r) (h : ∀ j, j < k → ∀ c, t[j]? = some c → 128 ≤ c.toNat) : 0 ≤ valGo k t r := by
  induction k generalizing t r with
  | zero => exact hr
  | succ k ih =>
    match t with
    | [] => simp only [valGo]; exact ih [] _ (by omega) (fun j _ c hc => by simp at hc)
    | c :: t =>
      simp only [valGo]
      have := h 0 (by omega) c (by simp)
      exact ih t _ (by omega) (fun j hj d hd => h (j + 1) (by omega) d (by simpa using hd))

theorem begins_of_2 (x : ByteArray) (b : UInt8) (t : List UInt8) (w : World) (hx : x.data.toList = b :: t) (h4 : x.size ≤ 4) (hb : 192 ≤ b.toNat ∧ b.toNat < 224) (R : Bool) (hR : bgN 2 x.data.toList = R) :
    Calls Try.prog 33 #[.string x, .int .i64 2] w fun e w' => e = .returned (.bool R) ∧ Below w.heap.size w w' := by
  obtain ⟨h0, h1⟩ := first_of x b t hx
  exact begins_2 x w h0 h4 (by rw [h1]; exact hb) R hR

theorem refnext_2 (s : ByteArray) (i : Nat) (w : World) (hs : s.size ≤ 1099511627776) (hi : i < s.size) (hb : 192 ≤ s[i].toNat ∧ s[i].toNat < 224) (T : Nat × Nat × Nat)
    (hT : Hid (nx (s.data.toList.drop i) = T)) :
    Calls Try.prog 21 #[.string s, .int .i64 i] w fun e w' => e = .returned (.tuple #[.int .i64 T.1, .int .i64 T.2.1, .int .i64 T.2.2]) ∧ Below w.heap.size w w' := by
  have hb2 : s[i].toNat < 256 := s[i].toNat_lt
  have hne : ((i : Int) == (s.size : Int)) = false := by simp; omega
  have hi0 : decide ((i : Int) < 0) = false := by simp
  have hsi : decide (s.size < i) = false := by simp; omega
  have hd1 : decide ((s[i].toNat : Int) < 128) = false := by simp; omega
  have hd2 : decide ((s[i].toNat : Int) < 192) = false := by simp; omega
  have hd3 : decide (247 < (s[i].toNat : Int)) = false := by simp; omega
  have hd224 : decide ((s[i].toNat : Int) < 224) = true := by simp; omega
  have hl := drop_cons s i hi
  have hN : Hid (rnGo (s.data.toList.drop i) 2 ((valGo (2 - 1) ((s.data.toList.drop i).drop 1) (s[i].toNat - 192)).toNat, 2, 0) 2 1 = T) := by
    show _ = _
    rw [← hT.out, hl]
    exact rn2 s[i] _ (by omega)
  have HL := Lib.hid hl
  clear hl hT
  go_enter Try.func21, Try.ntmps21
  go_wp2_with fail
  go_loopw [4, 5, 6, 9] (fun rv zv ev nv w' => RnRel s i 2 w ((valGo (2 - 1) ((s.data.toList.drop i).drop 1) (s[i].toNat - 192)).toNat, 2, 0) T rv zv ev nv w') (fun _ _ _ nv _ => 2 + 1 - (intOf nv).toNat)
  case atStart => exact ⟨1, by omega, by omega, by omega, rfl, rfl, rfl, rfl, hN.out, fun h => by omega, Below.refl _ _⟩
  case round =>
    obtain ⟨n, hn1, hn2, hle, rfl, rfl, rfl, rfl, hG, hP, hbel⟩ := hrel
    have HG := Lib.hid hG
    have HP := Lib.hid hP
    clear hG hP hN
    by_cases hm : n ≤ 2
    · obtain ⟨q, hq⟩ : ∃ q, 2 + 1 - n = q + 1 := ⟨2 - n, by omega⟩
      have HQ := Lib.hid hq
      clear hq
      have hlen : (s.data.toList.drop i).length = s.size - i := by simp
      by_cases hx : i + n ≤ s.size
      · have hX : Hid ((s.extract i (i + n)).data.toList = (s.data.toList.drop i).take n) := by
          show _ = _
          rw [Lib.extract_data]; simp
        have hX2 : Hid ((s.extract i (i + n)).data.toList = s[i] :: (s.data.toList.drop (i + 1)).take (n - 1)) := by
          show _ = _
          rw [hX.out, HL.out]
          obtain ⟨k, rfl⟩ : ∃ k, n = k + 1 := ⟨n - 1, by omega⟩
          rfl
        have hsz : (s.extract i (i + n)).size = n := by rw [Lib.size_eq, Lib.extract_data]; simp; omega
        have Hsz := Lib.hid hsz
        have Hlen := Lib.hid hlen
        clear hsz hlen
        cases hB : bgN 2 ((s.data.toList.drop i).take n) with
        | false =>
          have hfin : Hid (T = (0, 0, 12)) := by
            show _ = _
            rw [← HG.out, HQ.out, rn_bad _ _ _ _ _ (by rw [Hlen.out]; omega) hB]
          have HB : Hid (bgN 2 (s.extract i (i + n)).data.toList = false) := by
            show _ = _
            rw [hX.out]; exact hB
          clear hB hX HG HP
          go_wp2_with fail
          refine (begins_of_2 _ _ _ _ hX2.out (by rw [Hsz.out]; omega) (by omega) _ HB.out).mono ?_
          rintro e w1 ⟨rfl, hb1⟩
          go_wp2_with fail
          go_ret3
          rw [hfin.out]
          exact ⟨rfl, hbel.trans (hb1.mono hbel.size)⟩
        | true =>
          have HG2 : Hid (rnGo (s.data.toList.drop i) 2 ((valGo (2 - 1) ((s.data.toList.drop i).drop 1) (s[i].toNat - 192)).toNat, 2, 0) q (n + 1) = T) := by
            show _ = _
            rw [← HG.out, HQ.out, rn_ok _ _ _ _ _ (by rw [Hlen.out]; omega) hB]
          have HB : Hid (bgN 2 (s.extract i (i + n)).data.toList = true) := by
            show _ = _
            rw [hX.out]; exact hB
          have HB0 := Lib.hid hB
          clear hB hX HG HP
          go_wp2_with fail
          refine (begins_of_2 _ _ _ _ hX2.out (by rw [Hsz.out]; omega) (by omega) _ HB.out).mono ?_
          rintro e w1 ⟨rfl, hb1⟩
          go_wp2_with fail
          go_roundw
          case rel =>
            refine ⟨n + 1, by omega, by omega, by omega, rfl, rfl, rfl, by go_num, ?_, fun _ => HB0.out, hbel.trans (hb1.mono hbel.size)⟩
            rw [show 2 + 1 - (n + 1) = q by have := HQ.out; omega]
            exact HG2.out
          case measure => simp [intOf]; omega
      · have hfin : Hid (T = (0, 0, 4)) := by
          show _ = _
          rw [← HG.out, HQ.out, rn_short _ _ _ _ _ (by rw [hlen]; omega)]
        clear hlen HG HP
        go_wp2_with fail
        go_ret3
        rw [hfin.out]
        exact ⟨rfl, hbel⟩
    · obtain rfl : n = 2 + 1 := by omega
      have hP := HP.out (by omega)
      have hG := HG.out
      rw [show 2 + 1 - (2 + 1) = 0 by omega, rn_end] at hG
      have hC : ∀ j, 1 ≤ j → (hj : j < 2) → 128 ≤ (s[i + j]'(by omega)).toNat ∧ (s[i + j]'(by omega)).toNat ≤ 191 := fun j hj1 hj => by
        refine bgN_mid 2 _ hP j ⟨hj1, hj⟩ _ ?_
        rw [List.getElem?_take_of_lt (by omega), List.getElem?_drop, Array.getElem?_toList, Array.getElem?_eq_getElem (show i + j < s.data.size from by show i + j < s.size; omega)]
        rfl
      have HC := Lib.hid hC
      have HT := Lib.hid hG
      clear hC hG HG HP hP
      have hV : Hid (0 ≤ valGo (2 - 1) ((s.data.toList.drop i).drop 1) (s[i].toNat - 192)) := by
        show _ ≤ _
        refine valGo_nonneg _ _ _ (by omega) (fun j hj c hc => ?_)
        have h2 : i + (1 + j) < s.size := by omega
        have h3 := (HC.out (1 + j) (by omega) (by omega)).1
        rw [List.getElem?_drop, List.getElem?_drop, Array.getElem?_toList, Array.getElem?_eq_getElem (show i + (1 + j) < s.data.size from h2)] at hc
        have h4 := Option.some.inj hc
        rw [← h4]; exact h3
      go_wp2_with fail
      obtain ⟨wz, hwz⟩ : ∃ wz : World, wz = wr.alloc (Obj.cells #[Value.int IntKind.i64 0, Value.int IntKind.i64 0, Value.int IntKind.i64 192, Value.int IntKind.i64 224, Value.int IntKind.i64 240] 3) := ⟨_, rfl⟩
      have hbel2 : Below w.heap.size w wz := by rw [hwz]; exact hbel.alloc hbel.size _
      rw [← hwz]
      clear hwz hbel
      go_loopw [10, 11] (fun rv iv w' => ValRel s i 2 wz (valGo (2 - 1) ((s.data.toList.drop i).drop 1) (s[i].toNat - 192)) rv iv w') (fun _ iv _ => 2 - (intOf iv).toNat)
      case atStart => exact ⟨_, 1, by omega, by omega, by omega, by omega, rfl, rfl, rfl, rfl⟩
      case round =>
        obtain ⟨r, j, hj1, hj2, hr0, hr1, rfl, rfl, hG, rfl⟩ := hrel
        have hr2 := bound_of j r (by omega) hr1
        have Hr1 := Lib.hid hr1
        have HG := Lib.hid hG
        clear hr1 hG
        by_cases hj : j < 2
        · have hij : i + j < s.size := by omega
          have hc := HC.out j hj1 hj
          have hc1 := hc.1
          have hc2 := hc.2
          clear hc
          have hG2 : Hid (valGo (2 - (j + 1)) ((s.data.toList.drop i).drop (j + 1)) (64 * r + (s[i + j].toNat - 128)) = valGo (2 - 1) ((s.data.toList.drop i).drop 1) (s[i].toNat - 192)) := by
            show _ = _
            rw [← HG.out, show 2 - j = (2 - (j + 1)) + 1 by omega, List.drop_drop, List.drop_drop, drop_cons s (i + j) hij]
            rfl
          clear HG
          go_wp2_with fail
          go_roundw
          case rel => exact ⟨_, j + 1, by omega, by omega, by omega, bound_up j r _ hj1 Hr1.out (by omega), rfl, by go_num, hG2.out, rfl⟩
          case measure => simp [intOf]; omega
        · have hG := HG.out
          rw [show 2 - j = 0 by omega] at hG
          have hG' : Hid (r = valGo (2 - 1) ((s.data.toList.drop i).drop 1) (s[i].toNat - 192)) := hG
          clear hG HG
          go_wp2_with fail
          go_ret3
          rw [← HT.out]
          refine ⟨?_, hbel2⟩
          rw [toNat_nonneg_eq _ hV.out, ← hG'.out]
          rfl

theorem begins_of_3 (x : ByteArray) (b : UInt8) (t : List UInt8) (w : World) (hx : x.data.toList = b :: t) (h4 : x.size ≤ 4) (hb : 224 ≤ b.toNat ∧ b.toNat < 256) (R : Bool) (hR : bgN 3 x.data.toList = R) :
    Calls Try.prog 33 #[.string x, .int .i64 3] w fun e w' => e = .returned (.bool R) ∧ Below w.heap.size w w' := by
  obtain ⟨h0, h1⟩ := first_of x b t hx
  exact begins_3 x w h0 h4 (by rw [h1]; exact hb) R hR

theorem refnext_3 (s : ByteArray) (i : Nat) (w : World) (hs : s.size ≤ 1099511627776) (hi : i < s.size) (hb : 224 ≤ s[i].toNat ∧ s[i].toNat < 240) (T : Nat × Nat × Nat)
    (hT : Hid (nx (s.data.toList.drop i) = T)) :
    Calls Try.prog 21 #[.string s, .int .i64 i] w fun e w' => e = .returned (.tuple #[.int .i64 T.1, .int .i64 T.2.1, .int .i64 T.2.2]) ∧ Below w.heap.size w w' := by
  have hb2 : s[i].toNat < 256 := s[i].toNat_lt
  have hne : ((i : Int) == (s.size : Int)) = false := by simp; omega
  have hi0 : decide ((i : Int) < 0) = false := by simp
  have hsi : decide (s.size < i) = false := by simp; omega
  have hd1 : decide ((s[i].toNat : Int) < 128) = false := by simp; omega
  have hd2 : decide ((s[i].toNat : Int) < 192) = false := by simp; omega
  have hd3 : decide (247 < (s[i].toNat : Int)) = false := by simp; omega
  have hd224 : decide ((s[i].toNat : Int) < 224) = false := by simp; omega
  have hd240 : decide ((s[i].toNat : Int) < 240) = true := by simp; omega
  have hl := drop_cons s i hi
  have hN : Hid (rnGo (s.data.toList.drop i) 3 ((valGo (3 - 1) ((s.data.toList.drop i).drop 1) (s[i].toNat - 224)).toNat, 3, 0) 3 1 = T) := by
    show _ = _
    rw [← hT.out, hl]
    exact rn3 s[i] _ (by omega)
  have HL := Lib.hid hl
  clear hl hT
  go_enter Try.func21, Try.ntmps21
  go_wp2_with fail
  go_loopw [4, 5, 6, 9] (fun rv zv ev nv w' => RnRel s i 3 w ((valGo (3 - 1) ((s.data.toList.drop i).drop 1) (s[i].toNat - 224)).toNat, 3, 0) T rv zv ev nv w') (fun _ _ _ nv _ => 3 + 1 - (intOf nv).toNat)
  case atStart => exact ⟨1, by omega, by omega, by omega, rfl, rfl, rfl, rfl, hN.out, fun h => by omega, Below.refl _ _⟩
  case round =>
    obtain ⟨n, hn1, hn2, hle, rfl, rfl, rfl, rfl, hG, hP, hbel⟩ := hrel
    have HG := Lib.hid hG
    have HP := Lib.hid hP
    clear hG hP hN
    by_cases hm : n ≤ 3
    · obtain ⟨q, hq⟩ : ∃ q, 3 + 1 - n = q + 1 := ⟨3 - n, by omega⟩
      have HQ := Lib.hid hq
      clear hq
      have hlen : (s.data.toList.drop i).length = s.size - i := by simp
      by_cases hx : i + n ≤ s.size
      · have hX : Hid ((s.extract i (i + n)).data.toList = (s.data.toList.drop i).take n) := by
          show _ = _
          rw [Lib.extract_data]; simp
        have hX2 : Hid ((s.extract i (i + n)).data.toList = s[i] :: (s.data.toList.drop (i + 1)).take (n - 1)) := by
          show _ = _
          rw [hX.out, HL.out]
          obtain ⟨k, rfl⟩ : ∃ k, n = k + 1 := ⟨n - 1, by omega⟩
          rfl
        have hsz : (s.extract i (i + n)).size = n := by rw [Lib.size_eq, Lib.extract_data]; simp; omega
        have Hsz := Lib.hid hsz
        have Hlen := Lib.hid hlen
        clear hsz hlen
        cases hB : bgN 3 ((s.data.toList.drop i).take n) with
        | false =>
          have hfin : Hid (T = (0, 0, 12)) := by
            show _ = _
            rw [← HG.out, HQ.out, rn_bad _ _ _ _ _ (by rw [Hlen.out]; omega) hB]
          have HB : Hid (bgN 3 (s.extract i (i + n)).data.toList = false) := by
            show _ = _
            rw [hX.out]; exact hB
          clear hB hX HG HP
          go_wp2_with fail
          refine (begins_of_3 _ _ _ _ hX2.out (by rw [Hsz.out]; omega) (by omega) _ HB.out).mono ?_
          rintro e w1 ⟨rfl, hb1⟩
          go_wp2_with fail
          go_ret3
          rw [hfin.out]
          exact ⟨rfl, hbel.trans (hb1.mono hbel.size)⟩
        | true =>
          have HG2 : Hid (rnGo (s.data.toList.drop i) 3 ((valGo (3 - 1) ((s.data.toList.drop i).drop 1) (s[i].toNat - 224)).toNat, 3, 0) q (n + 1) = T) := by
            show _ = _
            rw [← HG.out, HQ.out, rn_ok _ _ _ _ _ (by rw [Hlen.out]; omega) hB]
          have HB : Hid (bgN 3 (s.extract i (i + n)).data.toList = true) := by
            show _ = _
            rw [hX.out]; exact hB
          have HB0 := Lib.hid hB
          clear hB hX HG HP
          go_wp2_with fail
          refine (begins_of_3 _ _ _ _ hX2.out (by rw [Hsz.out]; omega) (by omega) _ HB.out).mono ?_
          rintro e w1 ⟨rfl, hb1⟩
          go_wp2_with fail
          go_roundw
          case rel =>
            refine ⟨n + 1, by omega, by omega, by omega, rfl, rfl, rfl, by go_num, ?_, fun _ => HB0.out, hbel.trans (hb1.mono hbel.size)⟩
            rw [show 3 + 1 - (n + 1) = q by have := HQ.out; omega]
            exact HG2.out
          case measure => simp [intOf]; omega
      · have hfin : Hid (T = (0, 0, 4)) := by
          show _ = _
          rw [← HG.out, HQ.out, rn_short _ _ _ _ _ (by rw [hlen]; omega)]
        clear hlen HG HP
        go_wp2_with fail
        go_ret3
        rw [hfin.out]
        exact ⟨rfl, hbel⟩
    · obtain rfl : n = 3 + 1 := by omega
      have hP := HP.out (by omega)
      have hG := HG.out
      rw [show 3 + 1 - (3 + 1) = 0 by omega, rn_end] at hG
      have hC : ∀ j, 1 ≤ j → (hj : j < 3) → 128 ≤ (s[i + j]'(by omega)).toNat ∧ (s[i + j]'(by omega)).toNat ≤ 191 := fun j hj1 hj => by
        refine bgN_mid 3 _ hP j ⟨hj1, hj⟩ _ ?_
        rw [List.getElem?_take_of_lt (by omega), List.getElem?_drop, Array.getElem?_toList, Array.getElem?_eq_getElem (show i + j < s.data.size from by show i + j < s.size; omega)]
        rfl
      have HC := Lib.hid hC
      have HT := Lib.hid hG
      clear hC hG HG HP hP
      have hV : Hid (0 ≤ valGo (3 - 1) ((s.data.toList.drop i).drop 1) (s[i].toNat - 224)) := by
        show _ ≤ _
        refine valGo_nonneg _ _ _ (by omega) (fun j hj c hc => ?_)
        have h2 : i + (1 + j) < s.size := by omega
        have h3 := (HC.out (1 + j) (by omega) (by omega)).1
        rw [List.getElem?_drop, List.getElem?_drop, Array.getElem?_toList, Array.getElem?_eq_getElem (show i + (1 + j) < s.data.size from h2)] at hc
        have h4 := Option.some.inj hc
        rw [← h4]; exact h3
      go_wp2_with fail
      obtain ⟨wz, hwz⟩ : ∃ wz : World, wz = wr.alloc (Obj.cells #[Value.int IntKind.i64 0, Value.int IntKind.i64 0, Value.int IntKind.i64 192, Value.int IntKind.i64 224, Value.int IntKind.i64 240] 3) := ⟨_, rfl⟩
      have hbel2 : Below w.heap.size w wz := by rw [hwz]; exact hbel.alloc hbel.size _
      rw [← hwz]
      clear hwz hbel
      go_loopw [10, 11] (fun rv iv w' => ValRel s i 3 wz (valGo (3 - 1) ((s.data.toList.drop i).drop 1) (s[i].toNat - 224)) rv iv w') (fun _ iv _ => 3 - (intOf iv).toNat)
      case atStart => exact ⟨_, 1, by omega, by omega, by omega, by omega, rfl, rfl, rfl, rfl⟩
      case round =>
        obtain ⟨r, j, hj1, hj2, hr0, hr1, rfl, rfl, hG, rfl⟩ := hrel
        have hr2 := bound_of j r (by omega) hr1
        have Hr1 := Lib.hid hr1
        have HG := Lib.hid hG
        clear hr1 hG
        by_cases hj : j < 3
        · have hij : i + j < s.size := by omega
          have hc := HC.out j hj1 hj
          have hc1 := hc.1
          have hc2 := hc.2
          clear hc
          have hG2 : Hid (valGo (3 - (j + 1)) ((s.data.toList.drop i).drop (j + 1)) (64 * r + (s[i + j].toNat - 128)) = valGo (3 - 1) ((s.data.toList.drop i).drop 1) (s[i].toNat - 224)) := by
            show _ = _
            rw [← HG.out, show 3 - j = (3 - (j + 1)) + 1 by omega, List.drop_drop, List.drop_drop, drop_cons s (i + j) hij]
            rfl
          clear HG
          go_wp2_with fail
          go_roundw
          case rel => exact ⟨_, j + 1, by omega, by omega, by omega, bound_up j r _ hj1 Hr1.out (by omega), rfl, by go_num, hG2.out, rfl⟩
          case measure => simp [intOf]; omega
        · have hG := HG.out
          rw [show 3 - j = 0 by omega] at hG
          have hG' : Hid (r = valGo (3 - 1) ((s.data.toList.drop i).drop 1) (s[i].toNat - 224)) := hG
          clear hG HG
          go_wp2_with fail
          go_ret3
          rw [← HT.out]
          refine ⟨?_, hbel2⟩
          rw [toNat_nonneg_eq _ hV.out, ← hG'.out]
          rfl

theorem begins_of_4 (x : ByteArray) (b : UInt8) (t : List UInt8) (w : World) (hx : x.data.toList = b :: t) (h4 : x.size ≤ 4) (hb : 240 ≤ b.toNat ∧ b.toNat < 272) (R : Bool) (hR : bgN 4 x.data.toList = R) :
    Calls Try.prog 33 #[.string x, .int .i64 4] w fun e w' => e = .returned (.bool R) ∧ Below w.heap.size w w' := by
  obtain ⟨h0, h1⟩ := first_of x b t hx
  exact begins_4 x w h0 h4 (by rw [h1]; exact hb) R hR

theorem refnext_4 (s : ByteArray) (i : Nat) (w : World) (hs : s.size ≤ 1099511627776) (hi : i < s.size) (hb : 240 ≤ s[i].toNat ∧ s[i].toNat < 248) (T : Nat × Nat × Nat)
    (hT : Hid (nx (s.data.toList.drop i) = T)) :
    Calls Try.prog 21 #[.string s, .int .i64 i] w fun e w' => e = .returned (.tuple #[.int .i64 T.1, .int .i64 T.2.1, .int .i64 T.2.2]) ∧ Below w.heap.size w w' := by
  have hb2 : s[i].toNat < 256 := s[i].toNat_lt
  have hne : ((i : Int) == (s.size : Int)) = false := by simp; omega
  have hi0 : decide ((i : Int) < 0) = false := by simp
  have hsi : decide (s.size < i) = false := by simp; omega
  have hd1 : decide ((s[i].toNat : Int) < 128) = false := by simp; omega
  have hd2 : decide ((s[i].toNat : Int) < 192) = false := by simp; omega
  have hd3 : decide (247 < (s[i].toNat : Int)) = false := by simp; omega
  have hd224 : decide ((s[i].toNat : Int) < 224) = false := by simp; omega
  have hd240 : decide ((s[i].toNat : Int) < 240) = false := by simp; omega
  have hl := drop_cons s i hi
  have hN : Hid (rnGo (s.data.toList.drop i) 4 ((valGo (4 - 1) ((s.data.toList.drop i).drop 1) (s[i].toNat - 240)).toNat, 4, 0) 4 1 = T) := by
    show _ = _
    rw [← hT.out, hl]
    exact rn4 s[i] _ (by omega)
  have HL := Lib.hid hl
  clear hl hT
  go_enter Try.func21, Try.ntmps21
  go_wp2_with fail
  go_loopw [4, 5, 6, 9] (fun rv zv ev nv w' => RnRel s i 4 w ((valGo (4 - 1) ((s.data.toList.drop i).drop 1) (s[i].toNat - 240)).toNat, 4, 0) T rv zv ev nv w') (fun _ _ _ nv _ => 4 + 1 - (intOf nv).toNat)
  case atStart => exact ⟨1, by omega, by omega, by omega, rfl, rfl, rfl, rfl, hN.out, fun h => by omega, Below.refl _ _⟩
  case round =>
    obtain ⟨n, hn1, hn2, hle, rfl, rfl, rfl, rfl, hG, hP, hbel⟩ := hrel
    have HG := Lib.hid hG
    have HP := Lib.hid hP
    clear hG hP hN
    by_cases hm : n ≤ 4
    · obtain ⟨q, hq⟩ : ∃ q, 4 + 1 - n = q + 1 := ⟨4 - n, by omega⟩
      have HQ := Lib.hid hq
      clear hq
      have hlen : (s.data.toList.drop i).length = s.size - i := by simp
      by_cases hx : i + n ≤ s.size
      · have hX : Hid ((s.extract i (i + n)).data.toList = (s.data.toList.drop i).take n) := by
          show _ = _
          rw [Lib.extract_data]; simp
        have hX2 : Hid ((s.extract i (i + n)).data.toList = s[i] :: (s.data.toList.drop (i + 1)).take (n - 1)) := by
          show _ = _
          rw [hX.out, HL.out]
          obtain ⟨k, rfl⟩ : ∃ k, n = k + 1 := ⟨n - 1, by omega⟩
          rfl
        have hsz : (s.extract i (i + n)).size = n := by rw [Lib.size_eq, Lib.extract_data]; simp; omega
        have Hsz := Lib.hid hsz
        have Hlen := Lib.hid hlen
        clear hsz hlen
        cases hB : bgN 4 ((s.data.toList.drop i).take n) with
        | false =>
          have hfin : Hid (T = (0, 0, 12)) := by
            show _ = _
            rw [← HG.out, HQ.out, rn_bad _ _ _ _ _ (by rw [Hlen.out]; omega) hB]
          have HB : Hid (bgN 4 (s.extract i (i + n)).data.toList = false) := by
            show _ = _
            rw [hX.out]; exact hB
          clear hB hX HG HP
          go_wp2_with fail
          refine (begins_of_4 _ _ _ _ hX2.out (by rw [Hsz.out]; omega) (by omega) _ HB.out).mono ?_
          rintro e w1 ⟨rfl, hb1⟩
          go_wp2_with fail
          go_ret3
          rw [hfin.out]
          exact ⟨rfl, hbel.trans (hb1.mono hbel.size)⟩
        | true =>
          have HG2 : Hid (rnGo (s.data.toList.drop i) 4 ((valGo (4 - 1) ((s.data.toList.drop i).drop 1) (s[i].toNat - 240)).toNat, 4, 0) q (n + 1) = T) := by
            show _ = _
            rw [← HG.out, HQ.out, rn_ok _ _ _ _ _ (by rw [Hlen.out]; omega) hB]
          have HB : Hid (bgN 4 (s.extract i (i + n)).data.toList = true) := by
            show _ = _
            rw [hX.out]; exact hB
          have HB0 := Lib.hid hB
          clear hB hX HG HP
          go_wp2_with fail
          refine (begins_of_4 _ _ _ _ hX2.out (by rw [Hsz.out]; omega) (by omega) _ HB.out).mono ?_
          rintro e w1 ⟨rfl, hb1⟩
          go_wp2_with fail
          go_roundw
          case rel =>
            refine ⟨n + 1, by omega, by omega, by omega, rfl, rfl, rfl, by go_num, ?_, fun _ => HB0.out, hbel.trans (hb1.mono hbel.size)⟩
            rw [show 4 + 1 - (n + 1) = q by have := HQ.out; omega]
            exact HG2.out
          case measure => simp [intOf]; omega
      · have hfin : Hid (T = (0, 0, 4)) := by
          show _ = _
          rw [← HG.out, HQ.out, rn_short _ _ _ _ _ (by rw [hlen]; omega)]
        clear hlen HG HP
        go_wp2_with fail
        go_ret3
        rw [hfin.out]
        exact ⟨rfl, hbel⟩
    · obtain rfl : n = 4 + 1 := by omega
      have hP := HP.out (by omega)
      have hG := HG.out
      rw [show 4 + 1 - (4 + 1) = 0 by omega, rn_end] at hG
      have hC : ∀ j, 1 ≤ j → (hj : j < 4) → 128 ≤ (s[i + j]'(by omega)).toNat ∧ (s[i + j]'(by omega)).toNat ≤ 191 := fun j hj1 hj => by
        refine bgN_mid 4 _ hP j ⟨hj1, hj⟩ _ ?_
        rw [List.getElem?_take_of_lt (by omega), List.getElem?_drop, Array.getElem?_toList, Array.getElem?_eq_getElem (show i + j < s.data.size from by show i + j < s.size; omega)]
        rfl
      have HC := Lib.hid hC
      have HT := Lib.hid hG
      clear hC hG HG HP hP
      have hV : Hid (0 ≤ valGo (4 - 1) ((s.data.toList.drop i).drop 1) (s[i].toNat - 240)) := by
        show _ ≤ _
        refine valGo_nonneg _ _ _ (by omega) (fun j hj c hc => ?_)
        have h2 : i + (1 + j) < s.size := by omega
        have h3 := (HC.out (1 + j) (by omega) (by omega)).1
        rw [List.getElem?_drop, List.getElem?_drop, Array.getElem?_toList, Array.getElem?_eq_getElem (show i + (1 + j) < s.data.size from h2)] at hc
        have h4 := Option.some.inj hc
        rw [← h4]; exact h3
      go_wp2_with fail
      obtain ⟨wz, hwz⟩ : ∃ wz : World, wz = wr.alloc (Obj.cells #[Value.int IntKind.i64 0, Value.int IntKind.i64 0, Value.int IntKind.i64 192, Value.int IntKind.i64 224, Value.int IntKind.i64 240] 3) := ⟨_, rfl⟩
      have hbel2 : Below w.heap.size w wz := by rw [hwz]; exact hbel.alloc hbel.size _
      rw [← hwz]
      clear hwz hbel
      go_loopw [10, 11] (fun rv iv w' => ValRel s i 4 wz (valGo (4 - 1) ((s.data.toList.drop i).drop 1) (s[i].toNat - 240)) rv iv w') (fun _ iv _ => 4 - (intOf iv).toNat)
      case atStart => exact ⟨_, 1, by omega, by omega, by omega, by omega, rfl, rfl, rfl, rfl⟩
      case round =>
        obtain ⟨r, j, hj1, hj2, hr0, hr1, rfl, rfl, hG, rfl⟩ := hrel
        have hr2 := bound_of j r (by omega) hr1
        have Hr1 := Lib.hid hr1
        have HG := Lib.hid hG
        clear hr1 hG
        by_cases hj : j < 4
        · have hij : i + j < s.size := by omega
          have hc := HC.out j hj1 hj
          have hc1 := hc.1
          have hc2 := hc.2
          clear hc
          have hG2 : Hid (valGo (4 - (j + 1)) ((s.data.toList.drop i).drop (j + 1)) (64 * r + (s[i + j].toNat - 128)) = valGo (4 - 1) ((s.data.toList.drop i).drop 1) (s[i].toNat - 240)) := by
            show _ = _
            rw [← HG.out, show 4 - j = (4 - (j + 1)) + 1 by omega, List.drop_drop, List.drop_drop, drop_cons s (i + j) hij]
            rfl
          clear HG
          go_wp2_with fail
          go_roundw
          case rel => exact ⟨_, j + 1, by omega, by omega, by omega, bound_up j r _ hj1 Hr1.out (by omega), rfl, by go_num, hG2.out, rfl⟩
          case measure => simp [intOf]; omega
        · have hG := HG.out
          rw [show 4 - j = 0 by omega] at hG
          have hG' : Hid (r = valGo (4 - 1) ((s.data.toList.drop i).drop 1) (s[i].toNat - 240)) := hG
          clear hG HG
          go_wp2_with fail
          go_ret3
          rw [← HT.out]
          refine ⟨?_, hbel2⟩
          rw [toNat_nonneg_eq _ hV.out, ← hG'.out]
          rfl

theorem refnext_out (s : ByteArray) (i : Int) (w : World) (hs : s.size ≤ 1099511627776) (h : i < 0 ∨ s.size < i) :
    Calls Try.prog 21 #[.string s, .int .i64 i] w fun e w' => e = .returned (.tuple #[.int .i64 0, .int .i64 0, .int .i64 1]) ∧ Below w.heap.size w w' := by
  rcases h with h | h
  all_goals
    go_enter Try.func21, Try.ntmps21
    go_wp2_with fail
    go_ret3
    exact ⟨rfl, Below.refl _ _⟩
theorem refnext_end (s : ByteArray) (w : World) (hs : s.size ≤ 1099511627776) :
    Calls Try.prog 21 #[.string s, .int .i64 s.size] w fun e w' => e = .returned (.tuple #[.int .i64 0, .int .i64 0, .int .i64 4]) ∧ Below w.heap.size w w' := by
  go_enter Try.func21, Try.ntmps21
  go_wp2_with fail
  go_ret3
  exact ⟨rfl, Below.refl _ _⟩
theorem refnext_1 (s : ByteArray) (i : Nat) (w : World) (hs : s.size ≤ 1099511627776) (hi : i < s.size) (hb : s[i].toNat < 128) :
    Calls Try.prog 21 #[.string s, .int .i64 i] w fun e w' => e = .returned (.tuple #[.int .i64 s[i].toNat, .int .i64 1, .int .i64 0]) ∧ Below w.heap.size w w' := by
  have hne : ((i : Int) == (s.size : Int)) = false := by simp; omega
  go_enter Try.func21, Try.ntmps21
  go_wp2_with fail
  go_ret3
  exact ⟨rfl, Below.refl _ _⟩
theorem refnext_0 (s : ByteArray) (i : Nat) (w : World) (hs : s.size ≤ 1099511627776) (hi : i < s.size) (hb : (128 ≤ s[i].toNat ∧ s[i].toNat < 192) ∨ 247 < s[i].toNat) :
    Calls Try.prog 21 #[.string s, .int .i64 i] w fun e w' => e = .returned (.tuple #[.int .i64 0, .int .i64 0, .int .i64 12]) ∧ Below w.heap.size w w' := by
  have hne : ((i : Int) == (s.size : Int)) = false := by simp; omega
  rcases hb with hb | hb
  all_goals
    go_enter Try.func21, Try.ntmps21
    go_wp2_with fail
    go_ret3
    exact ⟨rfl, Below.refl _ _⟩

theorem refnext_any (s : ByteArray) (i : Int) (w : World) (hs : s.size ≤ 1099511627776) :
    Calls Try.prog 21 #[.string s, .int .i64 i] w fun e w' => e = .returned (.tuple #[.int .i64 (nxAt s.data.toList i).1, .int .i64 (nxAt s.data.toList i).2.1, .int .i64 (nxAt s.data.toList i).2.2]) ∧ Below w.heap.size w w' := by
  have hlen : s.data.toList.length = s.size := by simp
  by_cases h : i < 0 ∨ (s.size : Int) < i
  · have e : nxAt s.data.toList i = (0, 0, 1) := by unfold nxAt; rw [if_pos (by rw [hlen]; exact h)]
    rw [e]
    exact refnext_out s i w hs h
  · have e : nxAt s.data.toList i = nx (s.data.toList.drop i.toNat) := by unfold nxAt; rw [if_neg (by rw [hlen]; exact h)]
    rw [e]
    obtain ⟨n, rfl⟩ := Int.eq_ofNat_of_zero_le (show 0 ≤ i by omega)
    rw [Int.toNat_natCast]
    by_cases hn : n = s.size
    · subst hn
      rw [drop_end s _ (Nat.le_refl _), show nx [] = (0, 0, 4) from by rw [nx]]
      exact refnext_end s w hs
    · have hlt : n < s.size := by omega
      have hb2 := s[n].toNat_lt
      by_cases h1 : s[n].toNat < 128
      · rw [drop_cons s n hlt, nx1 _ _ h1]
        exact refnext_1 s n w hs hlt h1
      by_cases h0 : (128 ≤ s[n].toNat ∧ s[n].toNat < 192) ∨ 247 < s[n].toNat
      · rw [drop_cons s n hlt, nx0 _ _ (by omega)]
        exact refnext_0 s n w hs hlt h0
      by_cases h2 : s[n].toNat < 224
      · exact refnext_2 s n w hs hlt (by omega) _ rfl
      by_cases h3 : s[n].toNat < 240
      · exact refnext_3 s n w hs hlt (by omega) _ rfl
      · exact refnext_4 s n w hs hlt (by omega) _ rfl

def RLenRel (s : ByteArray) (w0 : World) (nv iv a b c d e : Value) (w' : World) : Prop :=
  ∃ (pos n : Nat), pos ≤ s.size ∧ n ≤ pos ∧ nv = .int .i64 n ∧ iv = .int .i64 pos ∧ a = .int .i64 0 ∧ b = .bool false ∧ lenU s.data.toList = (lenU (s.data.toList.drop pos)).map (· + n) ∧ Below w0.heap.size w0 w'

theorem reflen_any (s : ByteArray) (w : World) (hs : s.size ≤ 1099511627776) :
    Calls Try.prog 23 #[.string s] w fun e w' => e = .returned (.tuple #[.int .i64 ((lenU s.data.toList).getD 0 : Nat), .bool (lenU s.data.toList).isSome]) ∧ Below w.heap.size w w' := by
  generalize hL : lenU s.data.toList = L
  have HL := Lib.hid hL
  clear hL
  go_enter Try.func23, Try.ntmps23
  go_wp2_with fail
  go_loopw [4, 5, 2, 3, 6, 7, 8] (fun n i a b c d e w' => RLenRel s w n i a b c d e w') (fun _ i _ _ _ _ _ _ => s.size - (intOf i).toNat)
  case atStart => exact ⟨0, 0, by omega, by omega, rfl, rfl, rfl, rfl, by simp, Below.refl _ _⟩
  case round =>
    obtain ⟨pos, n, hpos, hn, rfl, rfl, rfl, rfl, hl, hbel⟩ := hrel
    have Hl := Lib.hid hl; clear hl
    by_cases hp : pos < s.size
    · have hat : nxAt s.data.toList (pos : Int) = nx (s.data.toList.drop pos) := by
        unfold nxAt; rw [if_neg (by simp; omega)]; simp
      have hne : s.data.toList.drop pos ≠ [] := by rw [drop_cons s pos hp]; simp
      by_cases h0 : (nx (s.data.toList.drop pos)).2.2 = 0
      · obtain ⟨r, t, hv, hl, hx⟩ : ∃ (r : Nat) (t : List UInt8), Utf8.valid r = true ∧ s.data.toList.drop pos = enc r ++ t ∧ nx (s.data.toList.drop pos) = (r, (enc r).length, 0) := by
          cases nxView (s.data.toList.drop pos) with
          | short h _ => exact absurd h hne
          | bad h => rw [h] at h0; simp at h0
          | cut h _ _ => rw [h] at h0; simp at h0
          | rune r t hv hl hx => exact ⟨r, t, hv, hl, hx⟩
        have hm := enc_len r hv
        have ht : s.data.toList.drop (pos + (enc r).length) = t := by rw [← List.drop_drop, hl]; simp
        have hle : pos + (enc r).length ≤ s.size := by
          have := congrArg List.length hl; simp at this; omega
        have HL2 : Hid (lenU s.data.toList = (lenU t).map (· + (n + 1))) := by
          show _ = _
          rw [Hl.out, hl, lenU_enc r hv t, Option.map_map]
          exact congrArg (fun f => Option.map f (lenU t)) (funext fun k => by simp only [Function.comp]; omega)
        have HT := Lib.hid ht
        have HX : Hid (nxAt s.data.toList (pos : Int) = (r, (enc r).length, 0)) := hat.trans hx
        generalize hmm : (enc r).length = m at *
        clear Hl hat hne h0 hl hx hv ht hmm
        go_wp2_with fail
        refine (refnext_any s _ _ hs).mono ?_
        rintro e w1 ⟨rfl, hb1⟩
        rw [HX.out]
        go_wp2_with fail
        go_roundw
        case rel => exact ⟨pos + m, n + 1, by omega, by omega, by go_num, by go_num, rfl, rfl, by rw [HT.out]; exact HL2.out, hbel.trans (hb1.mono hbel.size)⟩
        case measure => simp [intOf]; omega
      · obtain ⟨a, b, e, hx0⟩ : ∃ (a b e : Nat), nx (s.data.toList.drop pos) = (a, b, e) := ⟨_, _, _, rfl⟩
        have hee : ((e : Int) != 0) = true := by rw [hx0] at h0; simp only [bne_iff_ne]; simp at h0; omega
        have hx : nxAt s.data.toList (pos : Int) = (a, b, e) := hat.trans hx0
        have hL0 : Hid (none = L) := by
          show _ = _
          rw [← HL.out, Hl.out, lenU_bad _ hne h0]; rfl
        have HX := Lib.hid hx
        clear hx hx0 hat hne h0 Hl HL
        go_wp2_with fail
        refine (refnext_any s _ _ hs).mono ?_
        rintro e w1 ⟨rfl, hb1⟩
        rw [HX.out]
        go_wp2_with fail
        go_ret2
        rw [← hL0.out]
        exact ⟨rfl, hbel.trans (hb1.mono hbel.size)⟩
    · go_wp2_with fail
      go_ret2
      have e := Hl.out
      rw [drop_end s _ (by omega), lenU_nil, HL.out] at e
      rw [e]
      exact ⟨by simp, hbel⟩
end Go.Proofs.Ytchnhhioamkdgaa
