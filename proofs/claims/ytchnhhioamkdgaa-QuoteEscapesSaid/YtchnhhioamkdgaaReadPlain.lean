/- Plain: how a string of a JSON text is read. -/
import Derived.Test.YtchnhhioamkdgaaQuotePlain
namespace Go.Proofs.Ytchnhhioamkdgaa
set_option linter.unusedVariables false

/-- a digit of hex (0 to 9, a to f) -/
def hexV (c : Nat) : Option Nat := if 48 ≤ c ∧ c ≤ 57 then some (c - 48) else if 97 ≤ c ∧ c ≤ 102 then some (c - 87) else none
/-- also A to F -/
def digV (c : Nat) : Option Nat := if 65 ≤ c ∧ c ≤ 70 then some (c - 55) else hexV c
theorem hexV_lt (c d : Nat) (h : hexV c = some d) : d < 16 := by
  unfold hexV at h
  split at h
  · cases h; omega
  · split at h
    · cases h; omega
    · cases h
theorem digV_lt (c d : Nat) (h : digV c = some d) : d < 16 := by
  unfold digV at h
  split at h
  · cases h; omega
  · exact hexV_lt c d h
/-- digits: 'k' to come, 'n' so far -/
def fourGo : Nat → Nat → List UInt8 → Nat × Nat
  | 0, n, _ => (n, 0)
  | _ + 1, _, [] => (0, 4)
  | k + 1, n, c :: t => match digV c.toNat with
    | none => (0, 3)
    | some d => fourGo k (n * 16 + d) t
def fourL (l : List UInt8) : Nat × Nat := fourGo 4 0 l
theorem fourGo_lt (k n : Nat) (l : List UInt8) : (fourGo k n l).1 < (n + 1) * 16 ^ k := by
  induction k generalizing n l with
  | zero => simp [fourGo]
  | succ k ih =>
    match l with
    | [] => simp only [fourGo]; exact Nat.mul_pos (by omega) (Nat.pow_pos (by omega))
    | c :: t =>
      simp only [fourGo]
      split
      · exact Nat.mul_pos (by omega) (Nat.pow_pos (by omega))
      · rename_i d hd
        have hd := digV_lt _ _ hd
        have := ih (n * 16 + d) t
        have h2 : (n * 16 + d + 1) * 16 ^ k ≤ (n + 1) * 16 * 16 ^ k := Nat.mul_le_mul_right _ (by omega)
        rw [Nat.pow_succ, Nat.mul_comm (16 ^ k) 16, ← Nat.mul_assoc]
        omega
theorem fourL_lt (l : List UInt8) : (fourL l).1 < 65536 := by have := fourGo_lt 4 0 l; unfold fourL; omega
/-- what is said behind a \u: the rune, how many bytes, the error -/
def codedL (l : List UInt8) : Nat × Nat × Nat :=
  if (fourL l).2 ≠ 0 then (0, 0, (fourL l).2)
  else if (fourL l).1 < 55296 ∨ 57343 < (fourL l).1 then ((fourL l).1, 4, 0)
  else if 56320 ≤ (fourL l).1 then (0, 0, 12)
  else match l.drop 4 with
    | [] => (0, 0, 4)
    | c :: t => if c.toNat ≠ 92 then (0, 0, 12) else match t with
      | [] => (0, 0, 4)
      | d :: u => if d.toNat ≠ 117 then (0, 0, 12)
        else if (fourL u).2 ≠ 0 then (0, 0, (fourL u).2)
        else if (fourL u).1 < 56320 ∨ 57343 < (fourL u).1 then (0, 0, 12)
        else (65536 + ((fourL l).1 - 55296) * 1024 + ((fourL u).1 - 56320), 10, 0)
/-- what a byte after a \ means -/
def escV (c : Nat) : Option Nat :=
  if c = 34 ∨ c = 92 ∨ c = 47 then some c else if c = 98 then some 8 else if c = 102 then some 12 else if c = 110 then some 10 else if c = 114 then some 13 else if c = 116 then some 9 else none
/-- (r, n, e), n bytes further -/
def plus (k : Nat) (x : Nat × Nat × Nat) : Nat × Nat × Nat := if x.2.2 = 0 then (x.1, x.2.1 + k, 0) else x
/-- the rune at the head of what is left of a string: the rune, how many bytes, the error -/
def itemL : List UInt8 → Nat × Nat × Nat
  | [] => (0, 0, 4)
  | c :: t => if c.toNat < 32 then (0, 0, 3) else if c.toNat ≠ 92 then nx (c :: t) else match t with
    | [] => (0, 0, 4)
    | d :: u => match escV d.toNat with
      | some v => (v, 2, 0)
      | none => if d.toNat = 117 then plus 2 (codedL u) else (0, 0, 3)

/-- reading: with fuel; how many bytes are read, what is read; the text, how many bytes, the error -/
def rdGo : Nat → List UInt8 → Nat → List UInt8 → List UInt8 × Nat × Nat
  | 0, _, _, _ => ([], 0, 4)
  | _ + 1, [], _, _ => ([], 0, 4)
  | f + 1, c :: t, n, out => if c.toNat = 34 then (out, n + 1, 0)
    else if (itemL (c :: t)).2.2 ≠ 0 then ([], 0, (itemL (c :: t)).2.2)
    else if 4096 < out.length + (enc (itemL (c :: t)).1).length then ([], 0, 5)
    else rdGo f ((c :: t).drop (itemL (c :: t)).2.1) (n + (itemL (c :: t)).2.1) (out ++ enc (itemL (c :: t)).1)
/-- the string at the head of a text -/
def readL : List UInt8 → List UInt8 × Nat × Nat
  | [] => ([], 0, 4)
  | c :: t => if c.toNat ≠ 34 then ([], 0, 3) else rdGo (t.length + 1) t 1 []

/-- what an item is: an error with two zeros, or a rune, and one to twelve bytes -/
inductive ItemView (l : List UInt8) : Prop
  | err (e : Nat) : e ≠ 0 → itemL l = (0, 0, e) → ItemView l
  | ok (r n : Nat) : Utf8.valid r = true → 1 ≤ n → n ≤ l.length → itemL l = (r, n, 0) → ItemView l

theorem fourGo_ok' (k n : Nat) (l : List UInt8) (h : (fourGo k n l).2 = 0) : k ≤ l.length := by
  induction k generalizing n l with
  | zero => omega
  | succ k ih =>
    match l with
    | [] => simp [fourGo] at h
    | c :: t =>
      simp only [fourGo] at h
      split at h
      · simp at h
      · have := ih _ _ h; simp; omega

inductive CodedView (l : List UInt8) : Prop
  | err (e : Nat) : e ≠ 0 → codedL l = (0, 0, e) → CodedView l
  | ok (r n : Nat) : Utf8.valid r = true → 1 ≤ n → n ≤ l.length → codedL l = (r, n, 0) → CodedView l
theorem codedView (l : List UInt8) : CodedView l := by
  obtain ⟨a, e, hF⟩ : ∃ a e, fourL l = (a, e) := ⟨_, _, rfl⟩
  have hlt := fourL_lt l
  rw [hF] at hlt
  simp only at hlt
  have hx : codedL l = codedL l := rfl
  conv at hx => rhs; unfold codedL
  rw [hF] at hx
  simp only at hx
  by_cases he : e ≠ 0
  · rw [if_pos he] at hx
    exact .err e he hx
  rw [if_neg he] at hx
  have h4 : 4 ≤ l.length := fourGo_ok' 4 0 l (by
    have : (fourL l).2 = 0 := by rw [hF]; simp only; omega
    exact this)
  by_cases ha : a < 55296 ∨ 57343 < a
  · rw [if_pos ha] at hx
    exact .ok a 4 ((valid_iff a).2 (by omega)) (by omega) h4 hx
  rw [if_neg ha] at hx
  by_cases ha2 : 56320 ≤ a
  · rw [if_pos ha2] at hx
    exact .err 12 (by omega) hx
  rw [if_neg ha2] at hx
  match hd : l.drop 4 with
  | [] => rw [hd] at hx; exact .err 4 (by omega) hx
  | c :: t =>
    rw [hd] at hx
    simp only at hx
    by_cases hc : c.toNat ≠ 92
    · rw [if_pos hc] at hx; exact .err 12 (by omega) hx
    rw [if_neg hc] at hx
    match t with
    | [] => exact .err 4 (by omega) hx
    | d :: u =>
      simp only at hx
      by_cases hd2 : d.toNat ≠ 117
      · rw [if_pos hd2] at hx; exact .err 12 (by omega) hx
      rw [if_neg hd2] at hx
      obtain ⟨b, f, hG⟩ : ∃ b f, fourL u = (b, f) := ⟨_, _, rfl⟩
      rw [hG] at hx
      simp only at hx
      by_cases hf : f ≠ 0
      · rw [if_pos hf] at hx; exact .err f hf hx
      rw [if_neg hf] at hx
      by_cases hb : b < 56320 ∨ 57343 < b
      · rw [if_pos hb] at hx; exact .err 12 (by omega) hx
      rw [if_neg hb] at hx
      have h6 : 4 ≤ u.length := fourGo_ok' 4 0 u (by
        have : (fourL u).2 = 0 := by rw [hG]; simp only; omega
        exact this)
      have hlen := congrArg List.length hd
      simp at hlen
      exact .ok _ 10 ((valid_iff _).2 (by omega)) (by omega) (by omega) hx

theorem escV_valid (c v : Nat) (h : escV c = some v) (hc : c < 256) : Utf8.valid (v : Int) = true := by
  rw [valid_iff]
  unfold escV at h
  split at h
  · cases h; omega
  · split at h
    · cases h; omega
    · split at h
      · cases h; omega
      · split at h
        · cases h; omega
        · split at h
          · cases h; omega
          · split at h
            · cases h; omega
            · cases h
theorem itemView (l : List UInt8) : ItemView l := by
  match l with
  | [] => exact .err 4 (by omega) rfl
  | c :: t =>
    by_cases h1 : c.toNat < 32
    · exact .err 3 (by omega) (by simp only [itemL]; rw [if_pos h1])
    by_cases h2 : c.toNat ≠ 92
    · have hx : itemL (c :: t) = nx (c :: t) := by simp only [itemL]; rw [if_neg h1, if_pos h2]
      cases nxView (c :: t) with
      | short h _ => cases h
      | bad h => exact .err 12 (by omega) (hx.trans h)
      | cut h _ _ => exact .err 4 (by omega) (hx.trans h)
      | rune r u hv hl h =>
        have := congrArg List.length hl
        simp only [List.length_append] at this
        exact .ok r _ hv (enc_len r hv).1 (by omega) (hx.trans h)
    have hx : ∀ t, itemL (c :: t) = match t with
        | [] => (0, 0, 4)
        | d :: u => match escV d.toNat with
          | some v => (v, 2, 0)
          | none => if d.toNat = 117 then plus 2 (codedL u) else (0, 0, 3) := fun t => by
      simp only [itemL]; rw [if_neg h1, if_neg h2]
    match t with
    | [] => exact .err 4 (by omega) (hx [])
    | d :: u =>
      cases hv : escV d.toNat with
      | some v => exact .ok v 2 (escV_valid _ _ hv d.toNat_lt) (by omega) (by simp) (by rw [hx]; simp only [hv])
      | none =>
        by_cases h3 : d.toNat = 117
        · have hy : itemL (c :: d :: u) = plus 2 (codedL u) := by rw [hx]; simp only [hv]; rw [if_pos h3]
          cases codedView u with
          | err e he h => exact .err e he (by rw [hy, h, plus, if_neg he])
          | ok r n hv' hn1 hn2 h => exact .ok r (n + 2) hv' (by omega) (by simp; omega) (by rw [hy, h, plus, if_pos rfl])
        · exact .err 3 (by omega) (by rw [hx]; simp only [hv]; rw [if_neg h3])
end Go.Proofs.Ytchnhhioamkdgaa
