/- Plain laws of reading. -/
import Derived.Test.YtchnhhioamkdgaaReadPlain
import Derived.Test.YtchnhhioamkdgaaUtfOrderPlain
namespace Go.Proofs.Ytchnhhioamkdgaa
set_option linter.unusedVariables false
set_option maxRecDepth 100000

/-! ### digits -/
theorem four_take (l X : List UInt8) (k n : Nat) (h : (fourGo k n l).2 = 0) : fourGo k n (l.take k ++ X) = fourGo k n l := by
  induction k generalizing n l with
  | zero => rfl
  | succ k ih =>
    match l with
    | [] => simp [fourGo] at h
    | c :: t =>
      simp only [List.take_succ_cons, List.cons_append, fourGo] at h ⊢
      cases hd : digV c.toNat with
      | none => rfl
      | some d => rw [hd] at h; exact ih t _ h
theorem four_cut (l : List UInt8) (k n j : Nat) (h : (fourGo k n l).2 = 0) (hj : j < k) : fourGo k n (l.take j) = (0, 4) := by
  induction k generalizing n l j with
  | zero => omega
  | succ k ih =>
    match l with
    | [] => simp [fourGo] at h
    | c :: t =>
      cases j with
      | zero => rfl
      | succ j =>
        simp only [List.take_succ_cons, fourGo] at h ⊢
        cases hd : digV c.toNat with
        | none => rw [hd] at h; simp at h
        | some d => rw [hd] at h; exact ih t _ j h (by omega)

/-- what is said behind a \u, as a list of facts -/
inductive Coded (l : List UInt8) : Nat → Nat → Prop
  | one (a : Nat) : fourL l = (a, 0) → (a < 55296 ∨ 57343 < a) → Coded l a 4
  | two (a b : Nat) (c d : UInt8) (u : List UInt8) : fourL l = (a, 0) → 55296 ≤ a → a < 56320 → l.drop 4 = c :: d :: u → c.toNat = 92 → d.toNat = 117 → fourL u = (b, 0) → 56320 ≤ b → b ≤ 57343 →
    Coded l (65536 + (a - 55296) * 1024 + (b - 56320)) 10
theorem coded_of (l : List UInt8) (r n : Nat) (h : codedL l = (r, n, 0)) : Coded l r n := by
  obtain ⟨a, e, hF⟩ : ∃ a e, fourL l = (a, e) := ⟨_, _, rfl⟩
  unfold codedL at h
  rw [hF] at h
  simp only at h
  by_cases he : e ≠ 0
  · rw [if_pos he] at h; cases h; exact absurd rfl he
  rw [if_neg he] at h
  obtain rfl : e = 0 := by omega
  by_cases ha : a < 55296 ∨ 57343 < a
  · rw [if_pos ha] at h; cases h; exact .one _ hF ha
  rw [if_neg ha] at h
  by_cases ha2 : 56320 ≤ a
  · rw [if_pos ha2] at h; cases h
  rw [if_neg ha2] at h
  match hd : l.drop 4 with
  | [] => rw [hd] at h; cases h
  | c :: t =>
    rw [hd] at h
    simp only at h
    by_cases hc : c.toNat ≠ 92
    · rw [if_pos hc] at h; cases h
    rw [if_neg hc] at h
    match t with
    | [] => cases h
    | d :: u =>
      simp only at h
      by_cases hd2 : d.toNat ≠ 117
      · rw [if_pos hd2] at h; cases h
      rw [if_neg hd2] at h
      obtain ⟨b, f, hG⟩ : ∃ b f, fourL u = (b, f) := ⟨_, _, rfl⟩
      rw [hG] at h
      simp only at h
      by_cases hf : f ≠ 0
      · rw [if_pos hf] at h; cases h; exact absurd rfl hf
      rw [if_neg hf] at h
      obtain rfl : f = 0 := by omega
      by_cases hb : b < 56320 ∨ 57343 < b
      · rw [if_pos hb] at h; cases h
      rw [if_neg hb] at h
      have h1 := congrArg (fun x => x.1) h
      have h2 := congrArg (fun x => x.2.1) h
      simp only at h1 h2
      subst h1 h2
      exact .two a b c d u hF (by omega) (by omega) hd (by omega) (by omega) hG (by omega) (by omega)
theorem coded_to (l : List UInt8) (r n : Nat) (h : Coded l r n) : codedL l = (r, n, 0) := by
  cases h with
  | one _ hF ha =>
    unfold codedL; rw [hF]; simp only
    rw [if_neg (by omega), if_pos ha]
  | two a b c d u hF h1 h2 hd hc hdd hG h3 h4 =>
    unfold codedL; rw [hF]; simp only
    rw [if_neg (by omega), if_neg (by omega), if_neg (by omega), hd]
    simp only
    rw [if_neg (by omega), if_neg (by omega), hG]
    simp only
    rw [if_neg (by omega), if_neg (by omega)]
theorem coded_len (l : List UInt8) (r n : Nat) (h : Coded l r n) : n ≤ l.length ∧ Utf8.valid r = true ∧ (enc r).length ≤ n + 2 := by
  cases h with
  | one _ hF ha =>
    have h4 : 4 ≤ l.length := fourGo_ok' 4 0 l (by show (fourL l).2 = 0; rw [hF])
    have hlt := fourL_lt l
    rw [hF] at hlt
    simp only at hlt
    have hv : Utf8.valid (r : Int) = true := (valid_iff _).2 (by omega)
    exact ⟨h4, hv, by have := (enc_len r hv).2; omega⟩
  | two a b c d u hF h1 h2 hd hc hdd hG h3 h4 =>
    have h6 : 4 ≤ u.length := fourGo_ok' 4 0 u (by show (fourL u).2 = 0; rw [hG])
    have hlen := congrArg List.length hd
    simp at hlen
    have hv : Utf8.valid ((65536 + (a - 55296) * 1024 + (b - 56320) : Nat) : Int) = true := (valid_iff _).2 (by omega)
    exact ⟨by omega, hv, by have := (enc_len _ hv).2; omega⟩
theorem coded_app (l X : List UInt8) (r n : Nat) (h : Coded l r n) : Coded (l.take n ++ X) r n := by
  cases h with
  | one _ hF ha => exact .one _ (by
      have := four_take l X 4 0 (by show (fourL l).2 = 0; rw [hF])
      exact this.trans hF) ha
  | two a b c d u hF h1 h2 hd hc hdd hG h3 h4 =>
    have h6 : 4 ≤ u.length := fourGo_ok' 4 0 u (by show (fourL u).2 = 0; rw [hG])
    have hl : l = l.take 4 ++ c :: d :: u := by rw [← hd]; exact (List.take_append_drop 4 l).symm
    have h44 : (l.take 4).length = 4 := by
      have := congrArg List.length hd; simp at this; simp; omega
    have e1 : l.take 10 = l.take 4 ++ c :: d :: u.take 4 := by
      conv => lhs; rw [hl]
      rw [List.take_append, h44]
      rw [List.take_of_length_le (by rw [h44]; omega)]
      rfl
    refine .two a b c d (u.take 4 ++ X) ?_ h1 h2 ?_ hc hdd ?_ h3 h4
    · have := four_take l (c :: d :: u.take 4 ++ X) 4 0 (by show (fourL l).2 = 0; rw [hF])
      rw [e1, List.append_assoc]
      exact this.trans hF
    · rw [e1, List.append_assoc]
      have := List.drop_left (l₁ := l.take 4) (l₂ := c :: d :: u.take 4 ++ X)
      rw [h44] at this
      rw [this]; rfl
    · have := four_take u X 4 0 (by show (fourL u).2 = 0; rw [hG])
      exact this.trans hG
theorem coded_cut (l : List UInt8) (r n j : Nat) (h : Coded l r n) (hj : j < n) : codedL (l.take j) = (0, 0, 4) := by
  have short : ∀ (k : Nat), k < 4 → (fourL l).2 = 0 → codedL (l.take k) = (0, 0, 4) := fun k hk h0 => by
    have hc : fourL (l.take k) = (0, 4) := four_cut l 4 0 k h0 hk
    unfold codedL; rw [hc]; rfl
  cases h with
  | one _ hF ha => exact short j hj (by rw [hF])
  | two a b c d u hF h1 h2 hd hc hdd hG h3 h4 =>
    by_cases hj4 : j < 4
    · exact short j hj4 (by rw [hF])
    have h6 : 4 ≤ u.length := fourGo_ok' 4 0 u (by show (fourL u).2 = 0; rw [hG])
    have h44 : (l.take 4).length = 4 := by
      have := congrArg List.length hd; simp at this; simp; omega
    have e1 : l.take j = l.take 4 ++ (c :: d :: u).take (j - 4) := by
      rw [← hd, ← List.take_add]; congr 1; omega
    have hF2 : fourL (l.take j) = (a, 0) := by
      rw [e1]
      exact (four_take l _ 4 0 (by show (fourL l).2 = 0; rw [hF])).trans hF
    have hD : (l.take j).drop 4 = (c :: d :: u).take (j - 4) := by
      rw [e1]
      have := List.drop_left (l₁ := l.take 4) (l₂ := (c :: d :: u).take (j - 4))
      rw [h44] at this
      exact this
    unfold codedL; rw [hF2]; simp only
    rw [if_neg (by omega), if_neg (by omega), if_neg (by omega), hD]
    obtain h | h | h : j - 4 = 0 ∨ j - 4 = 1 ∨ 2 ≤ j - 4 := by omega
    · rw [h]; rfl
    · rw [h]
      show (if c.toNat ≠ 92 then (0, 0, 12) else (0, 0, 4)) = (0, 0, 4)
      rw [if_neg (by omega)]
    · obtain ⟨q, hq⟩ : ∃ q, j - 4 = q + 2 := ⟨j - 6, by omega⟩
      rw [hq]
      simp only [List.take_succ_cons]
      have hc4 : fourL (u.take q) = (0, 4) := four_cut u 4 0 q (by show (fourL u).2 = 0; rw [hG]) (by omega)
      rw [if_neg (by omega), if_neg (by omega), hc4]
      rfl

/-- a rune that is cut short -/
theorem nx_cut' (r : Nat) (h : Utf8.valid r = true) (k : Nat) (hk : 1 ≤ k ∧ k < (enc r).length) : nx ((enc r).take k) = (0, 0, 4) := by
  cases nxView ((enc r).take k) with
  | short _ hx => exact hx
  | cut hx _ _ => exact hx
  | bad hx =>
    exfalso
    have hv := (valid_iff r).1 h
    rw [enc_map r h] at hk hx
    cases encView r with
    | one _ e => rw [e] at hk; simp at hk; omega
    | two h1 h2 e =>
      rw [e] at hk hx
      simp at hk
      obtain rfl : k = 1 := by omega
      have e1 := b8_toNat (192 + r / 64) (by omega)
      have hx : nx [b8 (192 + r / 64)] = (0, 0, 12) := hx
      rw [nx2 _ _ (by omega)] at hx; cases hx
    | three h1 h2 e =>
      rw [e] at hk hx
      simp at hk
      have e1 := b8_toNat (224 + r / 4096) (by omega)
      have e2 := b8_toNat (128 + r / 64 % 64) (by omega)
      obtain rfl | rfl : k = 1 ∨ k = 2 := by omega
      · have hx : nx [b8 (224 + r / 4096)] = (0, 0, 12) := hx
        rw [nx3 _ _ (by omega)] at hx; cases hx
      · have hx : nx [b8 (224 + r / 4096), b8 (128 + r / 64 % 64)] = (0, 0, 12) := hx
        rw [nx3 _ _ (by omega), nxGo_good _ _ _ _ _ _ _ (by rw [e1, e2]; split <;> split <;> omega)] at hx; cases hx
    | four h1 e =>
      rw [e] at hk hx
      simp at hk
      have e1 := b8_toNat (240 + r / 262144) (by omega)
      have e2 := b8_toNat (128 + r / 4096 % 64) (by omega)
      have e3 := b8_toNat (128 + r / 64 % 64) (by omega)
      obtain rfl | rfl | rfl : k = 1 ∨ k = 2 ∨ k = 3 := by omega
      · have hx : nx [b8 (240 + r / 262144)] = (0, 0, 12) := hx
        rw [nx4 _ _ (by omega)] at hx; cases hx
      · have hx : nx [b8 (240 + r / 262144), b8 (128 + r / 4096 % 64)] = (0, 0, 12) := hx
        rw [nx4 _ _ (by omega), nxGo_good _ _ _ _ _ _ _ (by rw [e1, e2]; split <;> split <;> omega)] at hx; cases hx
      · have hx : nx [b8 (240 + r / 262144), b8 (128 + r / 4096 % 64), b8 (128 + r / 64 % 64)] = (0, 0, 12) := hx
        rw [nx4 _ _ (by omega), nxGo_good _ _ _ _ _ _ _ (by rw [e1, e2]; split <;> split <;> omega), nxGo_good _ _ _ _ _ _ _ (by omega)] at hx; cases hx
  | rune r' t hv' hl hx =>
    exfalso
    -- the bytes of a rune begin no other rune that is shorter
    have h1 := nx_enc r h []
    have h2 : enc r = enc r' ++ (t ++ (enc r).drop k) := by
      rw [← List.append_assoc, ← hl, List.take_append_drop]
    rw [List.append_nil, h2, nx_enc r' hv'] at h1
    have h3 := congrArg (fun x => x.2.1) h1
    simp only at h3
    have h4 := congrArg List.length hl
    simp at h4
    rw [← h2] at h3
    omega

/-! ### items -/
inductive Item (l : List UInt8) : Nat → Nat → Prop
  | rune (r : Nat) (c : UInt8) (t u : List UInt8) : Utf8.valid r = true → l = c :: t → 32 ≤ c.toNat → c.toNat ≠ 92 → l = enc r ++ u → Item l r (enc r).length
  | esc (r : Nat) (c d : UInt8) (u : List UInt8) : l = c :: d :: u → c.toNat = 92 → escV d.toNat = some r → Item l r 2
  | cod (r m : Nat) (c d : UInt8) (u : List UInt8) : l = c :: d :: u → c.toNat = 92 → d.toNat = 117 → Coded u r m → Item l r (m + 2)
theorem escV_117 : escV 117 = none := by decide
theorem item_of (l : List UInt8) (r n : Nat) (h : itemL l = (r, n, 0)) : Item l r n := by
  match l with
  | [] => simp [itemL] at h
  | c :: t =>
    simp only [itemL] at h
    by_cases h1 : c.toNat < 32
    · rw [if_pos h1] at h; cases h
    rw [if_neg h1] at h
    by_cases h2 : c.toNat ≠ 92
    · rw [if_pos h2] at h
      cases nxView (c :: t) with
      | short hh _ => cases hh
      | bad hh => rw [hh] at h; cases h
      | cut hh _ _ => rw [hh] at h; cases h
      | rune r' u hv hl hh =>
        rw [hh] at h
        have e1 := congrArg (fun x => x.1) h
        have e2 := congrArg (fun x => x.2.1) h
        simp only at e1 e2
        subst e1 e2
        exact .rune r' c t u hv rfl (by omega) h2 hl
    rw [if_neg h2] at h
    match t with
    | [] => cases h
    | d :: u =>
      simp only at h
      cases hv : escV d.toNat with
      | some v =>
        rw [hv] at h
        simp only at h
        have e1 := congrArg (fun x => x.1) h
        have e2 := congrArg (fun x => x.2.1) h
        simp only at e1 e2
        subst e1 e2
        exact .esc v c d u rfl (by omega) hv
      | none =>
        rw [hv] at h
        simp only at h
        by_cases h3 : d.toNat = 117
        · rw [if_pos h3] at h
          cases codedView u with
          | err e he hh => rw [hh, plus, if_neg he] at h; cases h; exact absurd rfl he
          | ok r' m hv' hm1 hm2 hh =>
            rw [hh, plus, if_pos rfl] at h
            have e1 := congrArg (fun x => x.1) h
            have e2 := congrArg (fun x => x.2.1) h
            simp only at e1 e2
            subst e1 e2
            exact .cod r' m c d u rfl (by omega) h3 (coded_of u r' m hh)
        · rw [if_neg h3] at h; cases h
theorem item_to (l : List UInt8) (r n : Nat) (h : Item l r n) : itemL l = (r, n, 0) := by
  cases h with
  | rune c t u hv hl h1 h2 hl2 =>
    have hx := nx_enc r hv u
    rw [← hl2] at hx
    rw [hl] at hx ⊢
    simp only [itemL]; rw [if_neg (by omega), if_pos h2]; exact hx
  | esc c d u hl h1 h2 =>
    rw [hl]; simp only [itemL]; rw [if_neg (by omega), if_neg (by omega), h2]
  | cod m c d u hl h1 h2 hc =>
    rw [hl]; simp only [itemL]; rw [if_neg (by omega), if_neg (by omega), h2, escV_117]
    simp only [if_true]
    rw [coded_to u r m hc, plus, if_pos rfl]
theorem item_len (l : List UInt8) (r n : Nat) (h : Item l r n) : 1 ≤ n ∧ n ≤ l.length ∧ Utf8.valid r = true ∧ (enc r).length ≤ n := by
  cases h with
  | rune c t u hv hl h1 h2 hl2 =>
    have := congrArg List.length hl2
    simp only [List.length_append] at this
    exact ⟨(enc_len r hv).1, by omega, hv, Nat.le_refl _⟩
  | esc c d u hl h1 h2 =>
    have hv := escV_valid _ _ h2 d.toNat_lt
    refine ⟨by omega, by rw [hl]; simp, hv, ?_⟩
    have hr : r < 128 := by
      unfold escV at h2
      split at h2
      · cases h2; omega
      · split at h2
        · cases h2; omega
        · split at h2
          · cases h2; omega
          · split at h2
            · cases h2; omega
            · split at h2
              · cases h2; omega
              · split at h2
                · cases h2; omega
                · cases h2
    rw [enc_eq r hv, if_pos hr]; simp
  | cod m c d u hl h1 h2 hc =>
    have := coded_len u r m hc
    exact ⟨by omega, by rw [hl]; simp; omega, this.2.1, this.2.2⟩
theorem item_app (l X : List UInt8) (r n : Nat) (h : Item l r n) : Item (l.take n ++ X) r n := by
  cases h with
  | rune c t u hv hl h1 h2 hl2 =>
    have h3 : l.take (enc r).length = enc r := by rw [hl2]; simp
    have h4 : ∃ t', enc r = c :: t' := by
      have hh : l = enc r ++ u := hl2
      match he : enc r with
      | [] => have := (enc_len r hv).1; rw [he] at this; simp at this
      | x :: t' =>
        rw [he, hl] at hh
        exact ⟨t', by rw [(List.cons.inj hh).1]⟩
    obtain ⟨t', ht'⟩ := h4
    exact .rune r c (t' ++ X) X hv (by rw [h3, ht']; rfl) h1 h2 (by rw [h3])
  | esc c d u hl h1 h2 => exact .esc r c d X (by rw [hl]; rfl) h1 h2
  | cod m c d u hl h1 h2 hc => exact .cod r m c d (u.take m ++ X) (by rw [hl]; rfl) h1 h2 (coded_app u X r m hc)
theorem item_cut (l : List UInt8) (r n j : Nat) (h : Item l r n) (h1j : 1 ≤ j) (hj : j < n) : itemL (l.take j) = (0, 0, 4) := by
  cases h with
  | rune c t u hv hl h1 h2 hl2 =>
    have h3 : l.take j = (enc r).take j := by rw [hl2, List.take_append_of_le_length (by omega)]
    have h4 := nx_cut' r hv j ⟨h1j, hj⟩
    rw [← h3, hl] at h4
    rw [hl]
    obtain ⟨q, rfl⟩ : ∃ q, j = q + 1 := ⟨j - 1, by omega⟩
    simp only [List.take_succ_cons] at h4 ⊢
    simp only [itemL]; rw [if_neg (by omega), if_pos h2]; exact h4
  | esc c d u hl h1 h2 =>
    obtain rfl : j = 1 := by omega
    rw [hl]
    show itemL [c] = _
    simp only [itemL]; rw [if_neg (by omega), if_neg (by omega)]
  | cod m c d u hl h1 h2 hc =>
    rw [hl]
    by_cases hj1 : j = 1
    · subst hj1
      show itemL [c] = _
      simp only [itemL]; rw [if_neg (by omega), if_neg (by omega)]
    · obtain ⟨q, rfl⟩ : ∃ q, j = q + 2 := ⟨j - 2, by omega⟩
      simp only [List.take_succ_cons, itemL]
      rw [if_neg (by omega), if_neg (by omega), h2, escV_117]
      simp only [if_true]
      rw [coded_cut u r m q hc (by omega), plus, if_neg (by simp)]
end Go.Proofs.Ytchnhhioamkdgaa
