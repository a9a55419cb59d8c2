/- The walk of QuoteBack. -/
import Derived.Test.YtchnhhioamkdgaaQuoteUnlike
namespace Go.Proofs.Ytchnhhioamkdgaa
open Go.RowKit
set_option linter.unusedVariables false
set_option maxRecDepth 100000

theorem low_any (s : ByteArray) (b : Bool) (w : World) (hs : s.size ≤ 1099511627776) (hb : Bx (s.data.toList.any isLow = b)) :
    Calls Try.prog 30 #[.string s] w fun e w' => e = .returned (.bool b) ∧ w = w' := by
  go_enter Try.func30, Try.ntmps30
  go_wp2_with fail
  go_loop [2, 3] (fun x i => x = .bool false ∧ ∃ k : Nat, k ≤ s.size ∧ i = .int .i64 k ∧ (s.data.toList.drop k).any isLow = b) (fun _ i => s.size - (intOf i).toNat)
  case atStart => exact ⟨rfl, 0, by omega, rfl, hb.out⟩
  case round =>
    clear hb
    obtain ⟨rfl, k, hk, rfl, hd⟩ := hrel
    by_cases hlt : k < s.size
    · rw [drop_cons s k hlt, List.any_cons] at hd
      by_cases hc : s[k].toNat < 32
      · have HB : Bx (true = b) := ⟨by rw [← hd]; unfold isLow; simp [hc]⟩
        clear hd
        go_wp2_with fail
        go_ret
        exact ⟨ret_bool HB.out, rfl⟩
      · have hlo : isLow s[k] = false := by unfold isLow; simp; omega
        have HB : Bx ((s.data.toList.drop (k + 1)).any isLow = b) := ⟨by rw [← hd, hlo]; rfl⟩
        clear hlo
        clear hd
        go_wp2_with fail
        go_round
        case rel => exact ⟨rfl, k + 1, by omega, by go_num, HB.out⟩
        case measure => simp [intOf]; omega
    · have HB : Bx (false = b) := ⟨by rw [← hd, drop_end s k (by omega)]; rfl⟩
      clear hd
      go_wp2_with fail
      go_ret
      exact ⟨ret_bool HB.out, rfl⟩

/-- what stands in a canonical form -/
theorem form_at (s Q : ByteArray) (hQ : Q.data.toList = quoteL s.data.toList) (k : Nat) (hk : k < s.size) (p : Nat) (hp : p = 1 + (escs (s.data.toList.take k)).length) :
    (s[k].toNat = 34 ∨ s[k].toNat = 92 → ∃ h : p + 1 < Q.size, (Q[p]'(by omega)).toNat = 92 ∧ Q[p + 1] = s[k]) ∧ (¬ (s[k].toNat = 34 ∨ s[k].toNat = 92) → ∃ h : p < Q.size, Q[p] = s[k]) ∧ 1 + (escs (s.data.toList.take (k + 1))).length = p + (esc s[k]).length := by
  have hsn : s.data.toList.take (k + 1) = s.data.toList.take k ++ [s[k]] := by
    rw [List.take_succ_eq_append_getElem (by simpa using hk)]; rfl
  have hdec : quoteL s.data.toList = 34 :: (escs (s.data.toList.take k) ++ (esc s[k] ++ (escs (s.data.toList.drop (k + 1)) ++ [34]))) := by
    conv => lhs; rw [← List.take_append_drop k s.data.toList, drop_cons s k hk]
    unfold quoteL
    rw [escs_append, escs_cons]; simp
  have hget : ∀ j, Q.data.toList[p + j]? = (esc s[k] ++ (escs (s.data.toList.drop (k + 1)) ++ [34]))[j]? := fun j => by
    rw [hQ, hdec, hp]
    rw [show 1 + (escs (s.data.toList.take k)).length + j = ((escs (s.data.toList.take k)).length + j) + 1 by omega, List.getElem?_cons_succ, List.getElem?_append_right (by omega)]
    congr 1; omega
  refine ⟨fun hc => ?_, fun hc => ?_, ?_⟩
  · have he : esc s[k] = [92, s[k]] := by unfold esc; rw [if_pos hc]
    have h0 := hget 0
    have h1 := hget 1
    rw [he] at h0 h1
    obtain ⟨a, ha⟩ := getD_of Q _ _ h0
    obtain ⟨b, hb⟩ := getD_of Q _ _ h1
    exact ⟨b, by simp only [Nat.add_zero] at ha; rw [ha]; rfl, hb⟩
  · have he : esc s[k] = [s[k]] := by unfold esc; rw [if_neg hc]
    have h0 := hget 0
    rw [he] at h0
    exact getD_of Q _ _ h0
  · rw [hsn, escs_snoc, List.length_append]; omega

theorem read_to (s : ByteArray) (i : Int) (T : ByteArray) (n e : Nat) (w : World) (hs : s.size ≤ 1099511627776) (h : ∃ t, readR s.data.toList i = (t, n, e) ∧ str t = T) :
    Calls Try.prog 29 #[.string s, .int .i64 i] w fun e' w' => e' = .returned (.tuple #[.string T, .int .i64 n, .int .i64 e]) ∧ Below w.heap.size w w' := by
  obtain ⟨t, ht, rfl⟩ := h
  exact read_is s i t n e w hs ht

def BackRel (s Q : ByteArray) (xv av iv : Value) (w0 w' : World) : Prop :=
  xv = .bool false ∧ ∃ k p : Nat, k ≤ s.size ∧ p = 1 + (escs (s.data.toList.take k)).length ∧ av = .int .i64 p ∧ iv = .int .i64 k ∧ Below w0.heap.size w0 w'

theorem back_5low (s a b : ByteArray) (w : World) (hs : s.size ≤ maxLen) (ha : a.size ≤ maxLen) (hb : b.size ≤ maxLen) (h : 3000 < s.size ∨ (s.size ≤ 3000 ∧ 1000 < a.size) ∨ (s.size ≤ 3000 ∧ a.size ≤ 1000 ∧ 1000 < b.size)) :
    Calls Try.prog 11 #[.string s, .string a, .string b] w fun e w' => e = .returned (.bool true) ∧ Below w.heap.size w w' := by
  unfold maxLen at hs ha hb
  rcases h with h | h | h
  all_goals
    go_enter Try.func11, Try.ntmps11
    go_wp2_with fail
    refine (awake5 _).mono ?_
    rintro e w1 ⟨rfl, h1⟩
    go_wp2_with fail
    go_ret
    exact ⟨rfl, h1⟩
theorem back_5err (s a b : ByteArray) (w : World) (hs : s.size ≤ 3000) (ha : a.size ≤ 1000) (hb : b.size ≤ 1000) (hE : Bx (quoteR s.data.toList = ([], 12))) (hV : Bx ((lenU s.data.toList).isSome = false)) :
    Calls Try.prog 11 #[.string s, .string a, .string b] w fun e w' => e = .returned (.bool true) ∧ Below w.heap.size w w' := by
  have hst := str_toList
  go_enter Try.func11, Try.ntmps11
  go_wp2_with fail
  refine (awake5 _).mono ?_
  rintro e w1 ⟨rfl, h1⟩
  go_wp2_with fail
  refine (quote_is s [] 12 _ (by omega) hE.out).mono ?_
  rintro e w2 ⟨rfl, h2⟩
  go_wp2_with fail
  refine (valid_is s _ _ (by omega) hV.out).mono ?_
  rintro e w3 ⟨rfl, h3⟩
  go_wp2_with fail
  go_ret
  have k2 := h1.trans (h2.mono h1.size)
  exact ⟨rfl, k2.trans (h3.mono k2.size)⟩

set_option maxHeartbeats 1000000 in
theorem back_5ok (s a b Q : ByteArray) (w : World) (hs : s.size ≤ 3000) (ha : a.size ≤ 1000) (hb : b.size ≤ 1000) (hE : Bx (∃ q, quoteR s.data.toList = (q, 0) ∧ str q = Q)) (hV : Bx ((lenU s.data.toList).isSome = true)) (hQ : Bx (Q.data.toList = quoteL s.data.toList)) (hQs : Q.size ≤ 6002)
    (lw : Bool) (hl : Bx (s.data.toList.any isLow = lw)) (T : ByteArray) (n e : Nat) (hRd : Bx (∃ t, readR (a ++ Q ++ b).data.toList (a.size : Int) = (t, n, e) ∧ str t = T)) (hcase : (lw = true ∧ e = 3) ∨ (lw = false ∧ e = 0 ∧ T = s ∧ n = a.size + Q.size)) :
    Calls Try.prog 11 #[.string s, .string a, .string b] w fun e w' => e = .returned (.bool true) ∧ Below w.heap.size w w' := by
  have hd1 : decide ((3000 : Int) < s.size) = false := by simp; omega
  have hd2 : decide ((1000 : Int) < a.size) = false := by simp; omega
  have hd3 : decide ((1000 : Int) < b.size) = false := by simp; omega
  go_enter Try.func11, Try.ntmps11
  go_wp2_with fail
  refine (awake5 _).mono ?_
  rintro e' w1 ⟨rfl, h1⟩
  go_wp2_with fail
  refine (quote_to s Q _ (by omega) hE.out).mono ?_
  rintro e' w2 ⟨rfl, h2⟩
  go_wp2_with fail
  refine (valid_is s _ _ (by omega) hV.out).mono ?_
  rintro e' w3 ⟨rfl, h3⟩
  have k2 := h1.trans (h2.mono h1.size)
  have k3 := k2.trans (h3.mono k2.size)
  clear h1 h2 h3 k2 hE hV
  go_wp2_with fail
  go_loopw [6, 9, 10] (fun x a i w' => BackRel s Q x a i w w') (fun _ _ i _ => s.size - (intOf i).toNat)
  case atStart => exact ⟨rfl, 0, 1, by omega, rfl, rfl, rfl, k3⟩
  case round =>
    clear k3
    obtain ⟨rfl, k, p, hk, hpe, rfl, rfl, hbl⟩ := hrel
    have hp : p ≤ 6001 := by
      have := escs_len (s.data.toList.take k)
      rw [List.length_take] at this
      simp at this; omega
    by_cases hlt : k < s.size
    · obtain ⟨f1, f2, f3⟩ := form_at s Q hQ.out k hlt p hpe
      have h8 := s[k].toNat_lt
      by_cases hc : s[k].toNat = 34 ∨ s[k].toNat = 92
      · obtain ⟨hp1, hq1, hq2⟩ := f1 hc
        have he : (esc s[k]).length = 2 := by unfold esc; rw [if_pos hc]; rfl
        have HP : Bx (1 + (escs (s.data.toList.take (k + 1))).length = p + 2) := ⟨by rw [f3, he]⟩
        have hp0 : p < Q.size := by omega
        have g1 : ((Q[p].toNat : Int) != 92) = false := by rw [bne_eq_false_iff_eq]; omega
        have g2 : ((Q[p + 1].toNat : Int) != (s[k].toNat : Int)) = false := by rw [bne_eq_false_iff_eq, hq2]
        have g3 : decide ((Q.size : Int) ≤ (p : Int)) = false := by simp; omega
        have g4 : decide ((Q.size : Int) ≤ (p : Int) + 1) = false := by simp; omega
        have hcc : ((s[k].toNat : Int) == 34) = true ∨ (((s[k].toNat : Int) == 34) = false ∧ ((s[k].toNat : Int) == 92) = true) := by
          rcases hc with hc | hc
          · left; simp; omega
          · right; constructor <;> simp <;> omega
        clear f1 f2 f3 hc hq1 hq2 he hpe
        rcases hcc with hcc | ⟨hcc, hc2⟩
        all_goals
          go_wp2_with fail
          have v1 : (0 : Int) ≤ (p : Int) + 1 := by omega
          have v2 : (p : Int) + 1 < Q.size := by omega
          have v3 : ((p : Int) + 1).toNat = p + 1 := by omega
          go_quiet (fail)
          go_wp2_with fail
          go_roundw
          case rel => exact ⟨rfl, k + 1, p + 2, by omega, HP.out.symm, by go_num, by go_num, hbl.trans ((drewN_below _ _).mono hbl.size)⟩
          case measure => simp [intOf]; omega
      · obtain ⟨hp1, hq1⟩ := f2 hc
        have he : (esc s[k]).length = 1 := by unfold esc; rw [if_neg hc]; rfl
        have HP : Bx (1 + (escs (s.data.toList.take (k + 1))).length = p + 1) := ⟨by rw [f3, he]⟩
        have g2 : ((Q[p].toNat : Int) != (s[k].toNat : Int)) = false := by rw [bne_eq_false_iff_eq, hq1]
        have g3 : decide ((Q.size : Int) ≤ (p : Int)) = false := by simp; omega
        have g4 : decide (Q.size ≤ p) = false := by simp; omega
        have hc1 : ((s[k].toNat : Int) == 34) = false := by simp; omega
        have hc2 : ((s[k].toNat : Int) == 92) = false := by simp; omega
        clear f1 f2 f3 hc hq1 he hpe
        go_wp2_with fail
        go_quiet (fail)
        go_wp2_with fail
        go_roundw
        case rel => exact ⟨rfl, k + 1, p + 1, by omega, HP.out.symm, by go_num, by go_num, hbl.trans ((drewN_below _ _).mono hbl.size)⟩
        case measure => simp [intOf]; omega
    · have hlen : (escs s.data.toList).length + 2 = Q.size := by rw [Lib.size_eq, hQ.out, quoteL_len]
      have hpq : p = Q.size - 1 := by
        rw [List.take_of_length_le (by simp; omega)] at hpe; omega
      have hq0 : 0 < Q.size := by omega
      have hpl : p < Q.size := by omega
      have z1 : Q[0].toNat = 34 := by
        obtain ⟨h0, h1⟩ := getD_of Q 0 34 (by rw [hQ.out]; rfl)
        rw [h1]; rfl
      have z2 : Q[p].toNat = 34 := by
        obtain ⟨h0, h1⟩ := getD_of Q p 34 (by
          rw [hQ.out]
          have e1 : p = (escs s.data.toList).length + 1 := by omega
          rw [e1]; unfold quoteL
          rw [List.getElem?_cons_succ, List.getElem?_append_right (Nat.le_refl _)]; simp)
        rw [h1]; rfl
      have g1 : ((p : Int) != (Q.size : Int) - 1) = false := by rw [bne_eq_false_iff_eq]; omega
      have g2 : ((Q[0].toNat : Int) != 34) = false := by rw [bne_eq_false_iff_eq]; omega
      have g3 : ((Q[p].toNat : Int) != 34) = false := by rw [bne_eq_false_iff_eq]; omega
      have hS : Bx ((a ++ Q ++ b).size ≤ 1099511627776) := ⟨by rw [app_size, app_size]; omega⟩
      have hS2 : (a ++ Q).size = a.size + Q.size := app_size _ _
      clear z1 z2 hpq hlen hpe
      rcases hcase with ⟨rfl, rfl⟩ | ⟨rfl, rfl, rfl, rfl⟩
      · go_wp2_with fail
        refine (read_to (a ++ Q ++ b) _ T n 3 _ hS.out hRd.out).mono ?_
        rintro e' w4 ⟨rfl, h4⟩
        go_wp2_with fail
        refine (low_any s _ _ (by omega) hl).mono ?_
        rintro e' w' ⟨rfl, rfl⟩
        go_wp2_with fail
        go_ret
        exact ⟨rfl, hbl.trans (h4.mono hbl.size)⟩
      · have hn : ((a.size + Q.size : Nat) : Int) = (a.size : Int) + Q.size := by omega
        go_wp2_with fail
        refine (read_to (a ++ Q ++ b) _ T _ 0 _ hS.out hRd.out).mono ?_
        rintro e' w4 ⟨rfl, h4⟩
        go_wp2_with fail
        refine (low_any T _ _ (by omega) hl).mono ?_
        rintro e' w' ⟨rfl, rfl⟩
        go_wp2_with fail
        go_ret
        exact ⟨rfl, hbl.trans (h4.mono hbl.size)⟩

theorem quoteR_cases (l : List UInt8) (h : l.length ≤ 4096) : ((lenU l).isSome = false ∧ quoteR l = ([], 12)) ∨ ((lenU l).isSome = true ∧ quoteR l = (quoteL l, 0)) := by
  unfold quoteR
  rw [if_neg (by omega)]
  cases hv : (lenU l).isSome
  · exact .inl ⟨rfl, rfl⟩
  · exact .inr ⟨rfl, rfl⟩
/-- Read of Quote -/
theorem read_quote (a l b : List UInt8) (hl : l.length ≤ 4096) (hv : (lenU l).isSome = true) :
    readR (a ++ quoteL l ++ b) (a.length : Int) = if l.any isLow then ([], 0, 3) else (l, a.length + (quoteL l).length, 0) := by
  have hx : readR (a ++ quoteL l ++ b) (a.length : Int) = ((readL (quoteL l ++ b)).1, nextR a.length (readL (quoteL l ++ b)), (readL (quoteL l ++ b)).2.2) := by
    unfold readR
    rw [if_neg (by simp; omega), Int.toNat_natCast, List.append_assoc, List.drop_left]
  have hr : readL (quoteL l ++ b) = rdGo ((escs l ++ [34] ++ b).length + 1) (escs l ++ ([34] ++ b)) 1 [] := by
    show readL (34 :: (escs l ++ [34]) ++ b) = _
    simp only [List.cons_append, readL]
    rw [if_neg (by decide)]
    simp
  cases hlow : l.any isLow with
  | true =>
    obtain ⟨c, hc, hcl⟩ := List.any_eq_true.1 hlow
    have := rd_low l ([34] ++ b) ((escs l ++ [34] ++ b).length + 1) 1 [] hv ⟨c, hc, by simpa [isLow] using hcl⟩ (by simp; omega) (by simpa using hl)
    rw [hx, hr, this]; rfl
  | false =>
    have hno : ∀ c ∈ l, 32 ≤ c.toNat := fun c hc => by
      have := List.any_eq_false.1 hlow c hc
      simp [isLow] at this; omega
    have h1 := rd_escs l ([34] ++ b) 1 [] (.stop 34 b (by decide)) hv hno
    have h2 := rd_to _ _ _ h1 ((escs l ++ [34] ++ b).length + 1) 1 [] (by simp) (by simpa using hl)
    rw [hx, hr, h2]
    simp [nextR, quoteL]; omega

theorem back5_walk (s a b : ByteArray) (w : World) (hs : s.size ≤ maxLen) (ha : a.size ≤ maxLen) (hb : b.size ≤ maxLen) :
    Calls Try.prog 11 #[.string s, .string a, .string b] w fun e w' => e = .returned (.bool true) ∧ Below w.heap.size w w' := by
  by_cases h : 3000 < s.size ∨ (s.size ≤ 3000 ∧ 1000 < a.size) ∨ (s.size ≤ 3000 ∧ a.size ≤ 1000 ∧ 1000 < b.size)
  · exact back_5low s a b w hs ha hb h
  have hsl : s.data.toList.length = s.size := by simp
  rcases quoteR_cases s.data.toList (by omega) with ⟨hv, hq⟩ | ⟨hv, hq⟩
  · exact back_5err s a b w (by omega) (by omega) (by omega) ⟨hq⟩ ⟨hv⟩
  · have hQs : (str (quoteL s.data.toList)).size ≤ 6002 := by
      rw [str_size, quoteL_len]; have := escs_len s.data.toList; omega
    have hrd := read_quote a.data.toList s.data.toList b.data.toList (by omega) hv
    rw [← Lib.size_eq] at hrd
    have hdat : (a ++ str (quoteL s.data.toList) ++ b).data.toList = a.data.toList ++ quoteL s.data.toList ++ b.data.toList := by
      rw [app_data, app_data, str_data]
    rw [← hdat] at hrd
    cases hlow : s.data.toList.any isLow with
    | true =>
      rw [hlow] at hrd
      exact back_5ok s a b (str (quoteL s.data.toList)) w (by omega) (by omega) (by omega) ⟨⟨_, hq, rfl⟩⟩ ⟨hv⟩ ⟨rfl⟩ hQs true ⟨hlow⟩ (str []) 0 3 ⟨⟨_, hrd, rfl⟩⟩ (.inl ⟨rfl, rfl⟩)
    | false =>
      rw [hlow] at hrd
      exact back_5ok s a b (str (quoteL s.data.toList)) w (by omega) (by omega) (by omega) ⟨⟨_, hq, rfl⟩⟩ ⟨hv⟩ ⟨rfl⟩ hQs false ⟨hlow⟩ s _ 0 ⟨⟨_, hrd, rfl⟩⟩ (.inr ⟨rfl, rfl, rfl, by rw [str_size]⟩)
end Go.Proofs.Ytchnhhioamkdgaa
