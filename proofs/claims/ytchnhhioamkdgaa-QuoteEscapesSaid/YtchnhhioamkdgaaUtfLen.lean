/- Plain: the machine's own decoding against 'nx'; the number of runes. -/
import Derived.Test.YtchnhhioamkdgaaUtfPlain
namespace Go.Proofs.Ytchnhhioamkdgaa
set_option maxRecDepth 100000
set_option linter.unusedVariables false

def at0 (l : List UInt8) (k : Nat) : Nat := (l.getD k 0).toNat
theorem get_drop (s : ByteArray) (p k : Nat) : (s.get! (p + k)).toNat = at0 (s.data.toList.drop p) k := by
  unfold at0
  congr 1
  rw [List.getD_eq_getElem?_getD, List.getElem?_drop, Array.getElem?_toList]
  show s.data[p + k]! = _
  rw [getElem!_def]
  rfl
theorem decode_drop (s : ByteArray) (p : Nat) (h : p ≤ s.size) : Utf8.decode s p =
    Lib.decodeN (s.data.toList.drop p).length (at0 (s.data.toList.drop p) 0) (at0 (s.data.toList.drop p) 1) (at0 (s.data.toList.drop p) 2) (at0 (s.data.toList.drop p) 3) := by
  rw [Lib.decode_at, ← get_drop, ← get_drop, ← get_drop, ← get_drop]
  have e : (s.data.toList.drop p).length = s.size - p := by simp
  rw [e]; rfl

def decL (l : List UInt8) : Nat × Nat := Lib.decodeN l.length (at0 l 0) (at0 l 1) (at0 l 2) (at0 l 3)
theorem at0_lt (l : List UInt8) (k : Nat) : at0 l k < 256 := UInt8.toNat_lt _

theorem decL_enc (r : Nat) (h : Utf8.valid r = true) (t : List UInt8) : decL (enc r ++ t) = (r, (enc r).length) := by
  have hv := (valid_iff r).1 h
  rw [enc_eq r h]
  unfold decL at0
  by_cases h1 : r < 128
  · rw [if_pos h1]
    have e := b8_toNat r (by omega)
    simp only [List.cons_append, List.nil_append, List.length_cons, List.getD_cons_zero, List.getD_cons_succ, e, List.length_nil]
    unfold Lib.decodeN; rw [if_pos h1]
  · rw [if_neg h1]
    by_cases h2 : r < 2048
    · rw [if_pos h2]
      have e1 := b8_toNat (192 + r / 64) (by omega)
      have e2 := b8_toNat (128 + r % 64) (by omega)
      simp only [List.cons_append, List.nil_append, List.length_cons, List.getD_cons_zero, List.getD_cons_succ, e1, e2, List.length_nil]
      unfold Lib.decodeN
      rw [if_neg (by omega), if_pos (by omega), if_pos (by omega)]
      simp only [Prod.mk.injEq]; exact ⟨by omega, trivial⟩
    · rw [if_neg h2]
      by_cases h3 : r < 65536
      · rw [if_pos h3]
        have e1 := b8_toNat (224 + r / 4096) (by omega)
        have e2 := b8_toNat (128 + r / 64 % 64) (by omega)
        have e3 := b8_toNat (128 + r % 64) (by omega)
        simp only [List.cons_append, List.nil_append, List.length_cons, List.getD_cons_zero, List.getD_cons_succ, e1, e2, e3, List.length_nil]
        unfold Lib.decodeN
        rw [if_neg (by omega), if_neg (by omega), if_pos (by omega), if_pos (by omega)]
        simp only [Prod.mk.injEq]; exact ⟨by omega, trivial⟩
      · rw [if_neg h3]
        have e1 := b8_toNat (240 + r / 262144) (by omega)
        have e2 := b8_toNat (128 + r / 4096 % 64) (by omega)
        have e3 := b8_toNat (128 + r / 64 % 64) (by omega)
        have e4 := b8_toNat (128 + r % 64) (by omega)
        simp only [List.cons_append, List.nil_append, List.length_cons, List.getD_cons_zero, List.getD_cons_succ, e1, e2, e3, e4, List.length_nil]
        unfold Lib.decodeN
        rw [if_neg (by omega), if_neg (by omega), if_neg (by omega), if_pos (by omega), if_pos (by omega)]
        simp only [Prod.mk.injEq]; exact ⟨by omega, trivial⟩

theorem of_two (b c : UInt8) (t : List UInt8) (r : Nat) (h : 128 ≤ r ∧ r < 2048) (h1 : 192 + r / 64 = b.toNat) (h2 : 128 + r % 64 = c.toNat) : (nx (b :: c :: t)).2.2 = 0 := by
  have hv : Utf8.valid (r : Int) = true := (valid_iff _).2 (by omega)
  have he : enc r = [b, c] := by
    rw [enc_eq _ hv, if_neg (by omega), if_pos (by omega), h1, h2, ← b8_of b _ rfl, ← b8_of c _ rfl]
  have := nx_enc r hv t
  rw [he] at this
  rw [show b :: c :: t = [b, c] ++ t from rfl, this]
theorem of_three (b c d : UInt8) (t : List UInt8) (r : Nat) (h : 2048 ≤ r ∧ r < 65536) (hv : Utf8.valid r = true) (h1 : 224 + r / 4096 = b.toNat) (h2 : 128 + r / 64 % 64 = c.toNat) (h3 : 128 + r % 64 = d.toNat) : (nx (b :: c :: d :: t)).2.2 = 0 := by
  have he : enc r = [b, c, d] := by
    rw [enc_eq _ hv, if_neg (by omega), if_neg (by omega), if_pos (by omega), h1, h2, h3, ← b8_of b _ rfl, ← b8_of c _ rfl, ← b8_of d _ rfl]
  have := nx_enc r hv t
  rw [he] at this
  rw [show b :: c :: d :: t = [b, c, d] ++ t from rfl, this]
theorem of_four (b c d e : UInt8) (t : List UInt8) (r : Nat) (h : 65536 ≤ r) (hv : Utf8.valid r = true) (h1 : 240 + r / 262144 = b.toNat) (h2 : 128 + r / 4096 % 64 = c.toNat) (h3 : 128 + r / 64 % 64 = d.toNat) (h4 : 128 + r % 64 = e.toNat) : (nx (b :: c :: d :: e :: t)).2.2 = 0 := by
  have he : enc r = [b, c, d, e] := by
    rw [enc_eq _ hv, if_neg (by omega), if_neg (by omega), if_neg (by omega), h1, h2, h3, h4, ← b8_of b _ rfl, ← b8_of c _ rfl, ← b8_of d _ rfl, ← b8_of e _ rfl]
  have := nx_enc r hv t
  rw [he] at this
  rw [show b :: c :: d :: e :: t = [b, c, d, e] ++ t from rfl, this]

/-- when decoding gives a rune: what its bytes are -/
theorem decodeN_cases (n b0 b1 b2 b3 : Nat) (h0 : b0 < 256) (h1 : b1 < 256) (h2 : b2 < 256) (h3 : b3 < 256) :
    Lib.decodeN n b0 b1 b2 b3 = (65533, 1) ∨ b0 < 128 ∨
    (1 < n ∧ ∃ r, (128 ≤ r ∧ r < 2048) ∧ 192 + r / 64 = b0 ∧ 128 + r % 64 = b1) ∨
    (2 < n ∧ ∃ r, (2048 ≤ r ∧ r < 65536) ∧ (r < 55296 ∨ (57344 ≤ r ∧ r ≤ 1114111)) ∧ 224 + r / 4096 = b0 ∧ 128 + r / 64 % 64 = b1 ∧ 128 + r % 64 = b2) ∨
    (3 < n ∧ ∃ r, 65536 ≤ r ∧ (r < 55296 ∨ (57344 ≤ r ∧ r ≤ 1114111)) ∧ 240 + r / 262144 = b0 ∧ 128 + r / 4096 % 64 = b1 ∧ 128 + r / 64 % 64 = b2 ∧ 128 + r % 64 = b3) := by
  by_cases g0 : b0 < 128
  · exact .inr (.inl g0)
  unfold Lib.decodeN
  rw [if_neg g0]
  by_cases g1 : b0 / 32 = 6 ∧ (1 < n ∧ b1 / 64 = 2)
  · rw [if_pos g1]
    by_cases g2 : b0 % 32 * 64 + b1 % 64 ≥ 128
    · exact .inr (.inr (.inl ⟨by omega, b0 % 32 * 64 + b1 % 64, by omega, by omega, by omega⟩))
    · rw [if_neg g2]; exact .inl rfl
  rw [if_neg g1]
  by_cases g1 : b0 / 16 = 14 ∧ (1 < n ∧ b1 / 64 = 2) ∧ (2 < n ∧ b2 / 64 = 2)
  · rw [if_pos g1]
    by_cases g2 : b0 % 16 * 4096 + b1 % 64 * 64 + b2 % 64 ≥ 2048 ∧ (b0 % 16 * 4096 + b1 % 64 * 64 + b2 % 64 < 55296 ∨ (57344 ≤ b0 % 16 * 4096 + b1 % 64 * 64 + b2 % 64 ∧ b0 % 16 * 4096 + b1 % 64 * 64 + b2 % 64 ≤ 1114111))
    · exact .inr (.inr (.inr (.inl ⟨by omega, b0 % 16 * 4096 + b1 % 64 * 64 + b2 % 64, by omega, g2.2, by omega, by omega, by omega⟩)))
    · rw [if_neg g2]; exact .inl rfl
  rw [if_neg g1]
  by_cases g1 : b0 / 8 = 30 ∧ (1 < n ∧ b1 / 64 = 2) ∧ (2 < n ∧ b2 / 64 = 2) ∧ (3 < n ∧ b3 / 64 = 2)
  · rw [if_pos g1]
    by_cases g2 : b0 % 8 * 262144 + b1 % 64 * 4096 + b2 % 64 * 64 + b3 % 64 ≥ 65536 ∧ (b0 % 8 * 262144 + b1 % 64 * 4096 + b2 % 64 * 64 + b3 % 64 < 55296 ∨ (57344 ≤ b0 % 8 * 262144 + b1 % 64 * 4096 + b2 % 64 * 64 + b3 % 64 ∧ b0 % 8 * 262144 + b1 % 64 * 4096 + b2 % 64 * 64 + b3 % 64 ≤ 1114111))
    · exact .inr (.inr (.inr (.inr ⟨by omega, b0 % 8 * 262144 + b1 % 64 * 4096 + b2 % 64 * 64 + b3 % 64, by omega, g2.2, by omega, by omega, by omega, by omega⟩)))
    · rw [if_neg g2]; exact .inl rfl
  rw [if_neg g1]
  exact .inl rfl

theorem decL_bad (l : List UInt8) (hl : l ≠ []) (h : (nx l).2.2 ≠ 0) : decL l = (65533, 1) := by
  rcases decodeN_cases l.length (at0 l 0) (at0 l 1) (at0 l 2) (at0 l 3) (at0_lt _ _) (at0_lt _ _) (at0_lt _ _) (at0_lt _ _) with g | g | ⟨hn, r, g⟩ | ⟨hn, r, g⟩ | ⟨hn, r, g⟩
  · exact g
  · match l with
    | [] => exact absurd rfl hl
    | b :: t => exact (h (by rw [nx1 b t g])).elim
  · match l with
    | [] => exact absurd rfl hl
    | [b] => simp at hn
    | b :: c :: t => exact (h (of_two b c t r g.1 g.2.1 g.2.2)).elim
  · match l with
    | [] => exact absurd rfl hl
    | [b] => simp at hn
    | [b, c] => simp at hn
    | b :: c :: d :: t => exact (h (of_three b c d t r g.1 ((valid_iff r).2 g.2.1) g.2.2.1 g.2.2.2.1 g.2.2.2.2)).elim
  · match l with
    | [] => exact absurd rfl hl
    | [b] => simp at hn
    | [b, c] => simp at hn
    | [b, c, d] => simp at hn
    | b :: c :: d :: e :: t => exact (h (of_four b c d e t r g.1 ((valid_iff r).2 g.2.1) g.2.2.1 g.2.2.2.1 g.2.2.2.2.1 g.2.2.2.2.2)).elim

theorem enc_len (r : Nat) (h : Utf8.valid r = true) : 1 ≤ (enc r).length ∧ (enc r).length ≤ 4 := by
  rw [enc_eq r h]
  split
  · simp
  · split
    · simp
    · split <;> simp
theorem enc_bad : enc 65533 = [239, 191, 189] := by decide +kernel
theorem bad_prefix (t : List UInt8) : nx ([239, 191, 189] ++ t) = (65533, 3, 0) := by
  have := nx_enc 65533 (by decide) t
  rw [show enc ((65533 : Nat) : Int) = [239, 191, 189] from enc_bad] at this
  exact this

/-- the number of runes, with fuel -/
def lenF : Nat → List UInt8 → Option Nat
  | 0, l => if l.isEmpty then some 0 else none
  | f + 1, l => if l.isEmpty then some 0 else if (nx l).2.2 = 0 then (lenF f (l.drop (nx l).2.1)).map (· + 1) else none
def lenU (l : List UInt8) : Option Nat := lenF l.length l

theorem lenF_nil (f : Nat) : lenF f [] = some 0 := by cases f <;> rfl
theorem lenF_more (f g : Nat) (l : List UInt8) (hf : l.length ≤ f) (hg : l.length ≤ g) : lenF f l = lenF g l := by
  induction f generalizing g l with
  | zero =>
    obtain rfl : l = [] := List.eq_nil_of_length_eq_zero (by omega)
    rw [lenF_nil, lenF_nil]
  | succ f ih =>
    match l with
    | [] => rw [lenF_nil, lenF_nil]
    | b :: t =>
      cases g with
      | zero => simp at hg
      | succ g =>
        simp only [lenF, List.isEmpty_cons, Bool.false_eq_true, if_false]
        split
        · rename_i h0
          have hn : 1 ≤ (nx (b :: t)).2.1 := by
            cases nxView (b :: t) with
            | short h _ => simp at h
            | bad h => rw [h] at h0; simp at h0
            | cut h _ _ => rw [h] at h0; simp at h0
            | rune r u hv _ hx => rw [hx]; exact (enc_len r hv).1
          rw [ih g _ (by simp at hf ⊢; omega) (by simp at hg ⊢; omega)]
        · rfl
theorem lenU_nil : lenU [] = some 0 := rfl
theorem lenU_bad (l : List UInt8) (hl : l ≠ []) (h : (nx l).2.2 ≠ 0) : lenU l = none := by
  unfold lenU
  match l with
  | [] => exact absurd rfl hl
  | b :: t => simp only [List.length_cons, lenF, List.isEmpty_cons, Bool.false_eq_true, if_false, if_neg h]
theorem lenU_enc (r : Nat) (hv : Utf8.valid r = true) (t : List UInt8) : lenU (enc r ++ t) = (lenU t).map (· + 1) := by
  have hx := nx_enc r hv t
  have hl := (enc_len r hv).1
  unfold lenU
  obtain ⟨b, u, hb⟩ : ∃ b u, enc r ++ t = b :: u := by
    match h : enc r with
    | [] => rw [h] at hl; simp at hl
    | b :: u => exact ⟨b, u ++ t, rfl⟩
  have hlen : (enc r ++ t).length = u.length + 1 := by rw [hb]; rfl
  have hd : (b :: u).drop (enc r).length = t := by rw [← hb]; simp
  rw [hb] at hx ⊢
  simp only [List.length_cons, lenF, List.isEmpty_cons, Bool.false_eq_true, if_false]
  rw [hx]
  simp only [if_true]
  rw [hd, lenF_more u.length t.length t (by simp at hlen; omega) (Nat.le_refl _)]

/-- to show a thing of every text: of the empty one; of one at whose head no rune is; of a rune and a text -/
theorem utf_ind (P : List UInt8 → Prop) (h0 : P []) (h1 : ∀ l, l ≠ [] → (nx l).2.2 ≠ 0 → P l) (h2 : ∀ (r : Nat) t, Utf8.valid r = true → P t → P (enc r ++ t)) (l : List UInt8) : P l := by
  generalize hn : l.length = n
  induction n using Nat.strongRecOn generalizing l with
  | _ n ih =>
    cases nxView l with
    | short h _ => rw [h]; exact h0
    | bad h => exact h1 l (by intro e; rw [e] at h; simp [nx] at h) (by rw [h]; simp)
    | cut h hl _ => exact h1 l hl (by rw [h]; simp)
    | rune r t hv hl _ =>
      have := (enc_len r hv).1
      rw [hl]
      refine h2 r t hv (ih t.length ?_ t rfl)
      rw [← hn, hl]; simp; omega
theorem lenU_le (l : List UInt8) (n : Nat) (h : lenU l = some n) : n ≤ l.length := by
  revert n
  refine utf_ind (fun l => ∀ n, lenU l = some n → n ≤ l.length) ?_ ?_ ?_ l
  · intro n h; cases h; simp
  · intro l hl h n hn; rw [lenU_bad l hl h] at hn; cases hn
  · intro r t hv ih n hn
    rw [lenU_enc r hv t] at hn
    cases ht : lenU t with
    | none => rw [ht] at hn; simp at hn
    | some m => rw [ht] at hn; simp at hn; have := ih m ht; have := (enc_len r hv).1; simp; omega
theorem lenU_append (l t : List UInt8) (n : Nat) (h : lenU l = some n) : lenU (l ++ t) = (lenU t).map (· + n) := by
  revert n
  refine utf_ind (fun l => ∀ n, lenU l = some n → lenU (l ++ t) = (lenU t).map (· + n)) ?_ ?_ ?_ l
  · intro n h; cases h; simp
  · intro l hl h n hn; rw [lenU_bad l hl h] at hn; cases hn
  · intro r u hv ih n hn
    rw [lenU_enc r hv u] at hn
    cases hu : lenU u with
    | none => rw [hu] at hn; simp at hn
    | some m =>
      rw [hu] at hn; simp at hn; subst hn
      rw [List.append_assoc, lenU_enc r hv, ih m hu]
      cases lenU t with
      | none => rfl
      | some k => simp; omega
end Go.Proofs.Ytchnhhioamkdgaa
