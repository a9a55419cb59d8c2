/- Plain laws of reading: what is read; cut short; escapes; the canonical form. -/
import Derived.Test.YtchnhhioamkdgaaReadLaws
namespace Go.Proofs.Ytchnhhioamkdgaa
set_option linter.unusedVariables false
set_option maxRecDepth 100000

/-- 'k' bytes, the last of which is a quotation mark, are read as a text -/
inductive Rd : List UInt8 → Nat → List UInt8 → Prop
  | stop (c : UInt8) (t : List UInt8) : c.toNat = 34 → Rd (c :: t) 1 []
  | step (c : UInt8) (t : List UInt8) (r n k : Nat) (x : List UInt8) : c.toNat ≠ 34 → Item (c :: t) r n → Rd ((c :: t).drop n) k x → Rd (c :: t) (n + k) (enc r ++ x)

theorem rd_of (f : Nat) : ∀ (l : List UInt8) (n : Nat) (out t : List UInt8) (m : Nat), out.length ≤ 4096 → rdGo f l n out = (t, m, 0) → ∃ k x, Rd l k x ∧ m = n + k ∧ t = out ++ x ∧ t.length ≤ 4096 := by
  induction f with
  | zero => intro l n out t m _ h; cases h
  | succ f ih =>
    intro l n out t m ho h
    match l with
    | [] => cases h
    | c :: u =>
      simp only [rdGo] at h
      by_cases h1 : c.toNat = 34
      · rw [if_pos h1] at h
        cases h
        exact ⟨1, [], .stop c u h1, rfl, by simp, ho⟩
      rw [if_neg h1] at h
      cases itemView (c :: u) with
      | err e he hI =>
        rw [hI] at h
        simp only at h
        rw [if_pos he] at h
        cases h; exact absurd rfl he
      | ok r j hv hj1 hj2 hI =>
        rw [hI] at h
        simp only at h
        rw [if_neg (by omega)] at h
        by_cases h3 : 4096 < out.length + (enc r).length
        · rw [if_pos h3] at h; cases h
        rw [if_neg h3] at h
        obtain ⟨k, x, hr, hm, ht, hl⟩ := ih _ _ _ _ _ (by rw [List.length_append]; omega) h
        exact ⟨j + k, enc r ++ x, .step c u r j k x h1 (item_of _ _ _ hI) hr, by omega, by rw [ht, List.append_assoc], hl⟩
theorem rd_to (l : List UInt8) (k : Nat) (x : List UInt8) (h : Rd l k x) : ∀ (f n : Nat) (out : List UInt8), l.length < f → (out ++ x).length ≤ 4096 → rdGo f l n out = (out ++ x, n + k, 0) := by
  induction h with
  | stop c t hc =>
    intro f n out hf ho
    obtain ⟨g, rfl⟩ : ∃ g, f = g + 1 := ⟨f - 1, by omega⟩
    simp only [rdGo]; rw [if_pos hc]; simp
  | step c t r j k x hc hI _ ih =>
    intro f n out hf ho
    obtain ⟨g, rfl⟩ : ∃ g, f = g + 1 := ⟨f - 1, by omega⟩
    have hl := item_len _ _ _ hI
    simp only [rdGo]
    rw [if_neg hc, item_to _ _ _ hI]
    simp only
    rw [if_neg (by omega), if_neg (by simp at ho; omega), ih g (n + j) (out ++ enc r) (by simp at hf ⊢; omega) (by simpa using ho)]
    simp; omega
theorem rd_len (l : List UInt8) (k : Nat) (x : List UInt8) (h : Rd l k x) : 1 ≤ k ∧ k ≤ l.length ∧ x.length ≤ k - 1 ∧ (lenU x).isSome = true ∧ (∃ c, l[k - 1]? = some c ∧ c.toNat = 34) := by
  induction h with
  | stop c t hc => exact ⟨by omega, by simp, by simp, rfl, c, rfl, hc⟩
  | step c t r j k x hc hI _ ih =>
    obtain ⟨h1, h2, h3, h4, d, h5, h6⟩ := ih
    have hl := item_len _ _ _ hI
    rw [List.length_drop] at h2
    refine ⟨by omega, by omega, by rw [List.length_append]; omega, ?_, d, ?_, h6⟩
    · rw [lenU_enc r hl.2.2.1]
      obtain ⟨n, hn⟩ := Option.isSome_iff_exists.1 h4
      rw [hn]; rfl
    · rw [List.getElem?_drop] at h5
      rw [← h5]; congr 1; omega
theorem rd_cut (l : List UInt8) (k : Nat) (x : List UInt8) (h : Rd l k x) : ∀ (f n j : Nat) (out : List UInt8), j < k → (out ++ x).length ≤ 4096 → rdGo f (l.take j) n out = ([], 0, 4) := by
  induction h with
  | stop c t hc =>
    intro f n j out hj ho
    obtain rfl : j = 0 := by omega
    cases f <;> rfl
  | step c t r i k x hc hI _ ih =>
    intro f n j out hj ho
    match f with
    | 0 => rfl
    | f + 1 =>
      match j with
      | 0 => rfl
      | j + 1 =>
        have hl := item_len _ _ _ hI
        simp only [List.take_succ_cons, rdGo]
        rw [if_neg hc]
        by_cases hji : j + 1 < i
        · have := item_cut _ _ _ (j + 1) hI (by omega) hji
          simp only [List.take_succ_cons] at this
          rw [this]
          simp
        · have hsplit : (c :: t).take (j + 1) = (c :: t).take i ++ ((c :: t).drop i).take (j + 1 - i) := by
            rw [← List.take_add]; congr 1; omega
          have hI2 := item_to _ _ _ (item_app _ (((c :: t).drop i).take (j + 1 - i)) _ _ hI)
          rw [← hsplit] at hI2
          simp only [List.take_succ_cons] at hI2
          rw [hI2]
          simp only
          rw [if_neg (by omega), if_neg (by simp at ho; omega)]
          have hd : (c :: t.take j).drop i = ((c :: t).drop i).take (j + 1 - i) := by
            have : c :: t.take j = (c :: t).take (j + 1) := rfl
            rw [this, List.drop_take]
          rw [hd]
          exact ih f _ (j + 1 - i) (out ++ enc r) (by omega) (by simpa using ho)

/-! ### the canonical form -/
/-- a byte below 20 (hexadecimal) -/
def isLow (c : UInt8) : Bool := decide (c.toNat < 32)
theorem esc_high (c : UInt8) (h : 128 ≤ c.toNat) : esc c = [c] := by unfold esc; rw [if_neg (by omega)]
theorem enc_high (r : Nat) (hv : Utf8.valid r = true) (hr : 128 ≤ r) : ∀ c ∈ enc r, 128 ≤ c.toNat := by
  have hw := (valid_iff r).1 hv
  intro c hc
  rw [enc_map r hv] at hc
  obtain ⟨n, hn, rfl⟩ := List.mem_map.1 hc
  have hl := b8_toNat n (encN_lt r hv n hn)
  rw [hl]
  cases encView r <;> rename_i e <;> rw [e] at hn <;> simp at hn <;> omega
theorem escs_high (l : List UInt8) (h : ∀ c ∈ l, 128 ≤ c.toNat) : escs l = l := by
  induction l with
  | nil => rfl
  | cons c t ih => rw [escs_cons, esc_high c (h c (by simp)), ih (fun d hd => h d (by simp [hd]))]; rfl
theorem enc_low (r : Nat) (hr : r < 128) : enc r = [b8 r] := by
  rw [enc_eq r ((valid_iff r).2 (by omega)), if_pos hr]
/-- a rune in a canonical form is read as that rune -/
theorem item_form (r : Nat) (hv : Utf8.valid r = true) (hr : 32 ≤ r) (X : List UInt8) : ∃ c t, escs (enc r) ++ X = c :: t ∧ c.toNat ≠ 34 ∧ Item (escs (enc r) ++ X) r (escs (enc r)).length := by
  by_cases h1 : r < 128
  · rw [enc_low r h1]
    have e := b8_toNat r (by omega)
    have hes : escs [b8 r] = esc (b8 r) := by simp [escs]
    rw [hes]
    by_cases h2 : r = 34 ∨ r = 92
    · have : esc (b8 r) = [92, b8 r] := by unfold esc; rw [if_pos (by omega)]
      rw [this]
      refine ⟨92, b8 r :: X, rfl, by decide, ?_⟩
      exact .esc r 92 (b8 r) X rfl (by decide) (by rw [e]; unfold escV; rw [if_pos (by omega)])
    · have : esc (b8 r) = [b8 r] := by unfold esc; rw [if_neg (by omega)]
      rw [this]
      refine ⟨b8 r, X, rfl, by omega, ?_⟩
      have hh := Item.rune (l := b8 r :: X) r (b8 r) X X hv rfl (by omega) (by omega) (by rw [enc_low r h1]; rfl)
      rw [enc_low r h1] at hh
      exact hh
  · have hh := enc_high r hv (by omega)
    rw [escs_high _ hh]
    match he : enc r with
    | [] => have := (enc_len r hv).1; rw [he] at this; simp at this
    | c :: t =>
      have hc := hh c (by rw [he]; simp)
      refine ⟨c, t ++ X, rfl, by omega, ?_⟩
      rw [← he]
      exact .rune r c (t ++ X) X hv (by rw [he]; rfl) (by omega) (by omega) rfl
theorem rd_escs (l X : List UInt8) (k : Nat) (x : List UInt8) (hX : Rd X k x) : (lenU l).isSome = true → (∀ c ∈ l, 32 ≤ c.toNat) → Rd (escs l ++ X) ((escs l).length + k) (l ++ x) := by
  refine utf_ind (fun l => (lenU l).isSome = true → (∀ c ∈ l, 32 ≤ c.toNat) → Rd (escs l ++ X) ((escs l).length + k) (l ++ x)) ?_ ?_ ?_ l
  · intro _ _
    simpa [escs] using hX
  · intro l hl hx h; rw [lenU_bad l hl hx] at h; cases h
  · intro r t hv ih hs hlow
    rw [lenU_enc r hv] at hs
    have ht : (lenU t).isSome = true := by
      cases h : lenU t with
      | none => rw [h] at hs; cases hs
      | some n => rfl
    have hr : 32 ≤ r := by
      by_cases h1 : r < 128
      · have := hlow (b8 r) (by rw [enc_low r h1]; simp)
        rw [b8_toNat r (by omega)] at this; exact this
      · omega
    have hrest := ih ht (fun c hc => hlow c (by simp [hc]))
    obtain ⟨c, u, hcu, hc, hI⟩ := item_form r hv hr (escs t ++ X)
    rw [escs_append, List.append_assoc, hcu]
    rw [hcu] at hI
    have hstep := Rd.step c u r (escs (enc r)).length ((escs t).length + k) (t ++ x) hc hI (by rw [← hcu, List.drop_left]; exact hrest)
    have e1 : (escs (enc r) ++ escs t).length + k = (escs (enc r)).length + ((escs t).length + k) := by simp; omega
    have e2 : enc r ++ t ++ x = enc r ++ (t ++ x) := by simp
    rw [e1, e2]
    exact hstep
/-- with a byte below 20: refused as ErrForm -/
theorem rd_low (l X : List UInt8) : ∀ (f n : Nat) (out : List UInt8), (lenU l).isSome = true → (∃ c ∈ l, c.toNat < 32) → (escs l).length < f → (out ++ l).length ≤ 4096 → rdGo f (escs l ++ X) n out = ([], 0, 3) := by
  refine utf_ind (fun l => ∀ (f n : Nat) (out : List UInt8), (lenU l).isSome = true → (∃ c ∈ l, c.toNat < 32) → (escs l).length < f → (out ++ l).length ≤ 4096 → rdGo f (escs l ++ X) n out = ([], 0, 3)) ?_ ?_ ?_ l
  · intro f n out _ h; obtain ⟨c, hc, _⟩ := h; cases hc
  · intro l hl hx f n out h; rw [lenU_bad l hl hx] at h; cases h
  · intro r t hv ih f n out hs hlow hf ho
    obtain ⟨g, rfl⟩ : ∃ g, f = g + 1 := ⟨f - 1, by omega⟩
    by_cases hr : r < 32
    · have hel : enc r = [b8 r] := enc_low r (by omega)
      have e := b8_toNat r (by omega)
      have hes : escs (enc r ++ t) ++ X = b8 r :: (escs t ++ X) := by
        rw [hel]
        show escs (b8 r :: t) ++ X = _
        rw [escs_cons]
        have : esc (b8 r) = [b8 r] := by unfold esc; rw [if_neg (by omega)]
        rw [this]; rfl
      rw [hes]
      simp only [rdGo]
      have hI : itemL (b8 r :: (escs t ++ X)) = (0, 0, 3) := by
        simp only [itemL]; rw [if_pos (by omega)]
      rw [if_neg (by omega), hI]
      simp
    · rw [lenU_enc r hv] at hs
      have ht : (lenU t).isSome = true := by
        cases h : lenU t with
        | none => rw [h] at hs; cases hs
        | some n => rfl
      have hlt : ∃ c ∈ t, c.toNat < 32 := by
        obtain ⟨c, hc, hcl⟩ := hlow
        rcases List.mem_append.1 hc with hc | hc
        · exfalso
          by_cases h1 : r < 128
          · rw [enc_low r h1] at hc
            simp at hc
            rw [hc, b8_toNat r (by omega)] at hcl; omega
          · have := enc_high r hv (by omega) c hc; omega
        · exact ⟨c, hc, hcl⟩
      obtain ⟨c, u, hcu, hc, hI⟩ := item_form r hv (by omega) (escs t ++ X)
      have hl := item_len _ _ _ hI
      have hlen : (escs (enc r ++ t)).length = (escs (enc r)).length + (escs t).length := by rw [escs_append, List.length_append]
      rw [escs_append, List.append_assoc, hcu]
      have hIt := item_to _ _ _ hI
      rw [hcu] at hIt
      simp only [rdGo]
      rw [if_neg hc, hIt]
      simp only
      rw [if_neg (by omega), if_neg (by simp at ho; omega)]
      have hd : (c :: u).drop (escs (enc r)).length = escs t ++ X := by rw [← hcu, List.drop_left]
      rw [hd]
      exact ih g _ (out ++ enc r) ht hlt (by omega) (by simpa using ho)
/-- the forms are unlike, none begins another -/
theorem escs_prefix (x : List UInt8) : ∀ (y : List UInt8), escs x ++ [34] <+: escs y ++ [34] → x = y := by
  have first : ∀ (c : UInt8) (t : List UInt8), ∃ d u, escs (c :: t) = d :: u ∧ d.toNat ≠ 34 := fun c t => by
    rw [escs_cons]; unfold esc
    by_cases h : c.toNat = 34 ∨ c.toNat = 92
    · rw [if_pos h]; exact ⟨92, c :: escs t, rfl, by decide⟩
    · rw [if_neg h]; exact ⟨c, escs t, rfl, by omega⟩
  induction x with
  | nil =>
    intro y h
    match y with
    | [] => rfl
    | d :: y =>
      obtain ⟨e, u, he, hne⟩ := first d y
      rw [he] at h
      obtain ⟨z, hz⟩ := h
      have := (List.cons.inj hz).1
      exact absurd (by rw [← this]; decide) hne
  | cons c x ih =>
    intro y h
    match y with
    | [] =>
      obtain ⟨e, u, he, hne⟩ := first c x
      rw [he] at h
      obtain ⟨z, hz⟩ := h
      have := (List.cons.inj hz).1
      exact absurd (by rw [this]; decide) hne
    | d :: y =>
      rw [escs_cons, escs_cons] at h
      by_cases hc : c.toNat = 34 ∨ c.toNat = 92
      · by_cases hd : d.toNat = 34 ∨ d.toNat = 92
        · have e1 : esc c = [92, c] := by unfold esc; rw [if_pos hc]
          have e2 : esc d = [92, d] := by unfold esc; rw [if_pos hd]
          rw [e1, e2] at h
          obtain ⟨z, hz⟩ := h
          have h1 := List.cons.inj (List.cons.inj hz).2
          have := ih y ⟨z, h1.2⟩
          rw [h1.1, this]
        · have e1 : esc c = [92, c] := by unfold esc; rw [if_pos hc]
          have e2 : esc d = [d] := by unfold esc; rw [if_neg hd]
          rw [e1, e2] at h
          obtain ⟨z, hz⟩ := h
          have h1 := (List.cons.inj hz).1
          exact absurd (.inr (by rw [← h1]; decide)) hd
      · by_cases hd : d.toNat = 34 ∨ d.toNat = 92
        · have e1 : esc c = [c] := by unfold esc; rw [if_neg hc]
          have e2 : esc d = [92, d] := by unfold esc; rw [if_pos hd]
          rw [e1, e2] at h
          obtain ⟨z, hz⟩ := h
          have h1 := (List.cons.inj hz).1
          exact absurd (.inr (by rw [h1]; decide)) hc
        · have e1 : esc c = [c] := by unfold esc; rw [if_neg hc]
          have e2 : esc d = [d] := by unfold esc; rw [if_neg hd]
          rw [e1, e2] at h
          obtain ⟨z, hz⟩ := h
          have h1 := List.cons.inj hz
          have := ih y ⟨z, h1.2⟩
          rw [h1.1, this]
end Go.Proofs.Ytchnhhioamkdgaa
