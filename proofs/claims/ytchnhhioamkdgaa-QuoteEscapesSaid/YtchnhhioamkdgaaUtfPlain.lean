/- Plain functions of layer 4 (UTF-8), no program in sight. -/
import GoSem.Core.Utf8
import Derived.Lib.DecodeN
namespace Go.Proofs.Ytchnhhioamkdgaa

/-- a fact that nothing looks into -/
structure Bx (p : Prop) : Prop where
  out : p

/-- how many bytes, and the least and the greatest second byte -/
def leadN (c : Nat) : Nat × Nat × Nat :=
  if c < 128 then (1, 0, 0) else if c < 194 then (0, 0, 0) else if c < 224 then (2, 128, 191) else if c = 224 then (3, 160, 191)
  else if c = 237 then (3, 128, 159) else if c < 240 then (3, 128, 191) else if c = 240 then (4, 144, 191) else if c < 244 then (4, 128, 191)
  else if c = 244 then (4, 128, 143) else (0, 0, 0)

/-- the bytes behind the first: 'k' are still to come -/
def nxGo : Nat → Nat → Nat → Nat → Nat → List UInt8 → Nat × Nat × Nat
  | 0, sz, r, _, _, _ => (r, sz, 0)
  | _ + 1, _, _, _, _, [] => (0, 0, 4)
  | k + 1, sz, r, lo, hi, c :: t => if c.toNat < lo ∨ hi < c.toNat then (0, 0, 12) else nxGo k sz (r * 64 + c.toNat % 64) 128 191 t

/-- the rune at the head of a list, its size, the error's number -/
def nx : List UInt8 → Nat × Nat × Nat
  | [] => (0, 0, 4)
  | b :: t => if (leadN b.toNat).1 = 0 then (0, 0, 12)
    else nxGo ((leadN b.toNat).1 - 1) (leadN b.toNat).1 (if (leadN b.toNat).1 = 1 then b.toNat else b.toNat % 2 ^ (7 - (leadN b.toNat).1)) (leadN b.toNat).2.1 (leadN b.toNat).2.2 t

theorem leadN_cases (c : Nat) : (leadN c).1 = 0 ∨ (leadN c).1 = 1 ∨ (leadN c).1 = 2 ∨ (leadN c).1 = 3 ∨ (leadN c).1 = 4 := by
  unfold leadN; repeat' split
  all_goals simp
theorem leadN_one (c : Nat) (h : (leadN c).1 = 1) : c < 128 := by
  unfold leadN at h
  by_cases h1 : c < 128
  · exact h1
  · rw [if_neg h1] at h; revert h; repeat' split
    all_goals simp
theorem leadN_lim (c : Nat) : (leadN c).2.1 < 256 ∧ (leadN c).2.2 < 256 := by
  unfold leadN; repeat' split
  all_goals simp

/-- Next at any place -/
def nxAt (l : List UInt8) (i : Int) : Nat × Nat × Nat := if i < 0 ∨ (l.length : Int) < i then (0, 0, 1) else nx (l.drop i.toNat)

def enc (r : Int) : List UInt8 := (Utf8.encode r).data.toList

def b8 (n : Nat) : UInt8 := UInt8.ofNat n
theorem b8_toNat (n : Nat) (h : n < 256) : (b8 n).toNat = n := by simp [b8]; omega
theorem b8_of (c : UInt8) (n : Nat) (h : c.toNat = n) : c = b8 n := by subst h; simp [b8]

set_option maxRecDepth 100000 in
/-- the bytes of a rune, by its size -/
theorem enc_eq (r : Nat) (h : Utf8.valid r = true) : enc r =
    if r < 128 then [b8 r] else if r < 2048 then [b8 (192 + r / 64), b8 (128 + r % 64)]
    else if r < 65536 then [b8 (224 + r / 4096), b8 (128 + r / 64 % 64), b8 (128 + r % 64)]
    else [b8 (240 + r / 262144), b8 (128 + r / 4096 % 64), b8 (128 + r / 64 % 64), b8 (128 + r % 64)] := by
  unfold enc Utf8.encode
  simp only [h, if_true, Int.toNat_natCast]
  by_cases h1 : r < 128
  · rw [if_pos h1, if_pos h1]; rfl
  · rw [if_neg h1, if_neg h1]
    by_cases h2 : r < 2048
    · rw [if_pos h2, if_pos h2]; rfl
    · rw [if_neg h2, if_neg h2]
      by_cases h3 : r < 65536
      · rw [if_pos h3, if_pos h3]; rfl
      · rw [if_neg h3, if_neg h3]; rfl
theorem valid_iff (r : Nat) : Utf8.valid r = true ↔ r < 55296 ∨ (57344 ≤ r ∧ r ≤ 1114111) := by
  simp [Utf8.valid]; omega

theorem lead1 (c : Nat) (h : c < 128) : leadN c = (1, 0, 0) := by unfold leadN; rw [if_pos h]
theorem lead2 (c : Nat) (h : 194 ≤ c ∧ c < 224) : leadN c = (2, 128, 191) := by
  unfold leadN; rw [if_neg (by omega), if_neg (by omega), if_pos (by omega)]
theorem lead3 (c : Nat) (h : 224 ≤ c ∧ c < 240) : leadN c = (3, if c = 224 then 160 else 128, if c = 237 then 159 else 191) := by
  unfold leadN; rw [if_neg (by omega), if_neg (by omega), if_neg (by omega)]
  by_cases h1 : c = 224
  · rw [if_pos h1, if_pos h1, if_neg (by omega)]
  · rw [if_neg h1, if_neg h1]
    by_cases h2 : c = 237
    · rw [if_pos h2, if_pos h2]
    · rw [if_neg h2, if_neg h2, if_pos (by omega)]
theorem lead4 (c : Nat) (h : 240 ≤ c ∧ c < 245) : leadN c = (4, if c = 240 then 144 else 128, if c = 244 then 143 else 191) := by
  unfold leadN; rw [if_neg (by omega), if_neg (by omega), if_neg (by omega), if_neg (by omega), if_neg (by omega), if_neg (by omega)]
  by_cases h1 : c = 240
  · rw [if_pos h1, if_pos h1, if_neg (by omega)]
  · rw [if_neg h1, if_neg h1]
    by_cases h2 : c < 244
    · rw [if_pos h2, if_neg (by omega)]
    · rw [if_neg h2, if_pos (by omega), if_pos (by omega)]
theorem lead0 (c : Nat) (h : (128 ≤ c ∧ c < 194) ∨ 245 ≤ c) : leadN c = (0, 0, 0) := by
  unfold leadN; rcases h with h | h
  · rw [if_neg (by omega), if_pos (by omega)]
  · rw [if_neg (by omega), if_neg (by omega), if_neg (by omega), if_neg (by omega), if_neg (by omega), if_neg (by omega), if_neg (by omega), if_neg (by omega), if_neg (by omega)]

/-- 'nx', by its bytes: one -/
theorem nx1 (b : UInt8) (t : List UInt8) (h : b.toNat < 128) : nx (b :: t) = (b.toNat, 1, 0) := by
  simp [nx, lead1 _ h, nxGo]
theorem nx0 (b : UInt8) (t : List UInt8) (h : (128 ≤ b.toNat ∧ b.toNat < 194) ∨ 245 ≤ b.toNat) : nx (b :: t) = (0, 0, 12) := by
  simp [nx, lead0 _ h]
theorem nx2 (b : UInt8) (t : List UInt8) (h : 194 ≤ b.toNat ∧ b.toNat < 224) : nx (b :: t) = nxGo 1 2 (b.toNat % 32) 128 191 t := by
  simp [nx, lead2 _ h]
theorem nx3 (b : UInt8) (t : List UInt8) (h : 224 ≤ b.toNat ∧ b.toNat < 240) : nx (b :: t) = nxGo 2 3 (b.toNat % 16) (if b.toNat = 224 then 160 else 128) (if b.toNat = 237 then 159 else 191) t := by
  simp [nx, lead3 _ h]
theorem nx4 (b : UInt8) (t : List UInt8) (h : 240 ≤ b.toNat ∧ b.toNat < 245) : nx (b :: t) = nxGo 3 4 (b.toNat % 8) (if b.toNat = 240 then 144 else 128) (if b.toNat = 244 then 143 else 191) t := by
  simp [nx, lead4 _ h]
theorem nxGo_bad (k sz r lo hi : Nat) (c : UInt8) (t : List UInt8) (h : c.toNat < lo ∨ hi < c.toNat) : nxGo (k + 1) sz r lo hi (c :: t) = (0, 0, 12) := by
  simp only [nxGo]; rw [if_pos h]
theorem nxGo_good (k sz r lo hi : Nat) (c : UInt8) (t : List UInt8) (h : ¬ (c.toNat < lo ∨ hi < c.toNat)) : nxGo (k + 1) sz r lo hi (c :: t) = nxGo k sz (r * 64 + c.toNat % 64) 128 191 t := by
  simp only [nxGo]; rw [if_neg h]

/-- Next of the bytes of a rune -/
theorem nx_enc (r : Nat) (h : Utf8.valid r = true) (t : List UInt8) : nx (enc r ++ t) = (r, (enc r).length, 0) := by
  have hv := (valid_iff r).1 h
  rw [enc_eq r h]
  by_cases h1 : r < 128
  · rw [if_pos h1]
    show nx (b8 r :: t) = _
    have e := b8_toNat r (by omega)
    rw [nx1 _ _ (by omega), e]; rfl
  · rw [if_neg h1]
    by_cases h2 : r < 2048
    · rw [if_pos h2]
      show nx (b8 (192 + r / 64) :: b8 (128 + r % 64) :: t) = _
      have e1 := b8_toNat (192 + r / 64) (by omega)
      have e2 := b8_toNat (128 + r % 64) (by omega)
      rw [nx2 _ _ (by omega), nxGo_good _ _ _ _ _ _ _ (by omega), e1, e2]
      simp only [nxGo, List.length_cons, List.length_nil, Prod.mk.injEq]; exact ⟨by omega, trivial⟩
    · rw [if_neg h2]
      by_cases h3 : r < 65536
      · rw [if_pos h3]
        show nx (b8 (224 + r / 4096) :: b8 (128 + r / 64 % 64) :: b8 (128 + r % 64) :: t) = _
        have e1 := b8_toNat (224 + r / 4096) (by omega)
        have e2 := b8_toNat (128 + r / 64 % 64) (by omega)
        have e3 := b8_toNat (128 + r % 64) (by omega)
        rw [nx3 _ _ (by omega), nxGo_good _ _ _ _ _ _ _ (by rw [e1, e2]; split <;> split <;> omega), nxGo_good _ _ _ _ _ _ _ (by omega), e1, e2, e3]
        simp only [nxGo, List.length_cons, List.length_nil, Prod.mk.injEq]; exact ⟨by omega, trivial⟩
      · rw [if_neg h3]
        show nx (b8 (240 + r / 262144) :: b8 (128 + r / 4096 % 64) :: b8 (128 + r / 64 % 64) :: b8 (128 + r % 64) :: t) = _
        have e1 := b8_toNat (240 + r / 262144) (by omega)
        have e2 := b8_toNat (128 + r / 4096 % 64) (by omega)
        have e3 := b8_toNat (128 + r / 64 % 64) (by omega)
        have e4 := b8_toNat (128 + r % 64) (by omega)
        rw [nx4 _ _ (by omega), nxGo_good _ _ _ _ _ _ _ (by rw [e1, e2]; split <;> split <;> omega), nxGo_good _ _ _ _ _ _ _ (by omega), nxGo_good _ _ _ _ _ _ _ (by omega), e1, e2, e3, e4]
        simp only [nxGo, List.length_cons, List.length_nil, Prod.mk.injEq]; exact ⟨by omega, trivial⟩

/-- what Next comes to: an error, with two zeros, and then what the machine's own decoding says; or a rune whose bytes stand there -/
inductive NxView (l : List UInt8) : Prop
  | short : l = [] → nx l = (0, 0, 4) → NxView l
  | bad : nx l = (0, 0, 12) → NxView l
  | cut : nx l = (0, 0, 4) → l ≠ [] → l.length < 4 → NxView l
  | rune (r : Nat) (t : List UInt8) : Utf8.valid r = true → l = enc r ++ t → nx l = (r, (enc r).length, 0) → NxView l

theorem nxView (l : List UInt8) : NxView l := by
  match l with
  | [] => exact .short rfl rfl
  | b :: t =>
    have hb := b.toNat_lt
    by_cases h1 : b.toNat < 128
    · refine .rune b.toNat t ((valid_iff _).2 (by omega)) ?_ ?_
      · rw [enc_eq _ ((valid_iff _).2 (by omega)), if_pos h1]; rw [← b8_of b _ rfl]; rfl
      · rw [enc_eq _ ((valid_iff _).2 (by omega)), if_pos h1, nx1 _ _ h1]; rfl
    by_cases h0 : (128 ≤ b.toNat ∧ b.toNat < 194) ∨ 245 ≤ b.toNat
    · exact .bad (nx0 _ _ h0)
    by_cases h2 : b.toNat < 224
    · have hn := nx2 b t (by omega)
      match t with
      | [] => exact .cut hn (by simp) (by simp)
      | c :: t =>
        have hc := c.toNat_lt
        by_cases g : c.toNat < 128 ∨ 191 < c.toNat
        · exact .bad (hn.trans (nxGo_bad _ _ _ _ _ _ _ g))
        · have hn := hn.trans (nxGo_good _ _ _ _ _ _ _ g)
          have hv : Utf8.valid ((b.toNat % 32 * 64 + c.toNat % 64 : Nat) : Int) = true := (valid_iff _).2 (by omega)
          have he : enc ((b.toNat % 32 * 64 + c.toNat % 64 : Nat) : Int) = [b, c] := by
            rw [enc_eq _ hv, if_neg (by omega), if_pos (by omega)]
            rw [← b8_of b _ (by omega), ← b8_of c _ (by omega)]
          exact .rune _ t hv (by rw [he]; rfl) (by rw [he]; exact hn)
    by_cases h3 : b.toNat < 240
    · have hn := nx3 b t (by omega)
      match t with
      | [] => exact .cut hn (by simp) (by simp)
      | c :: t =>
        have hc := c.toNat_lt
        by_cases g : c.toNat < (if b.toNat = 224 then 160 else 128) ∨ (if b.toNat = 237 then 159 else 191) < c.toNat
        · exact .bad (hn.trans (nxGo_bad _ _ _ _ _ _ _ g))
        · have hn := hn.trans (nxGo_good _ _ _ _ _ _ _ g)
          have g' : 128 ≤ c.toNat ∧ c.toNat ≤ 191 ∧ (b.toNat = 224 → 160 ≤ c.toNat) ∧ (b.toNat = 237 → c.toNat ≤ 159) := by
            revert g; split <;> split <;> omega
          clear g
          match t with
          | [] => exact .cut hn (by simp) (by simp)
          | d :: t =>
            have hd := d.toNat_lt
            by_cases g : d.toNat < 128 ∨ 191 < d.toNat
            · exact .bad (hn.trans (nxGo_bad _ _ _ _ _ _ _ g))
            · have hn := hn.trans (nxGo_good _ _ _ _ _ _ _ g)
              have hv : Utf8.valid (((b.toNat % 16 * 64 + c.toNat % 64) * 64 + d.toNat % 64 : Nat) : Int) = true := (valid_iff _).2 (by omega)
              have he : enc (((b.toNat % 16 * 64 + c.toNat % 64) * 64 + d.toNat % 64 : Nat) : Int) = [b, c, d] := by
                rw [enc_eq _ hv, if_neg (by omega), if_neg (by omega), if_pos (by omega)]
                rw [← b8_of b _ (by omega), ← b8_of c _ (by omega), ← b8_of d _ (by omega)]
              exact .rune _ t hv (by rw [he]; rfl) (by rw [he]; exact hn)
    · have hn := nx4 b t (by omega)
      match t with
      | [] => exact .cut hn (by simp) (by simp)
      | c :: t =>
        have hc := c.toNat_lt
        by_cases g : c.toNat < (if b.toNat = 240 then 144 else 128) ∨ (if b.toNat = 244 then 143 else 191) < c.toNat
        · exact .bad (hn.trans (nxGo_bad _ _ _ _ _ _ _ g))
        · have hn := hn.trans (nxGo_good _ _ _ _ _ _ _ g)
          have g' : 128 ≤ c.toNat ∧ c.toNat ≤ 191 ∧ (b.toNat = 240 → 144 ≤ c.toNat) ∧ (b.toNat = 244 → c.toNat ≤ 143) := by
            revert g; split <;> split <;> omega
          clear g
          match t with
          | [] => exact .cut hn (by simp) (by simp)
          | d :: t =>
            have hd := d.toNat_lt
            by_cases g : d.toNat < 128 ∨ 191 < d.toNat
            · exact .bad (hn.trans (nxGo_bad _ _ _ _ _ _ _ g))
            · have hn := hn.trans (nxGo_good _ _ _ _ _ _ _ g)
              match t with
              | [] => exact .cut hn (by simp) (by simp)
              | e :: t =>
                have hd := e.toNat_lt
                by_cases g : e.toNat < 128 ∨ 191 < e.toNat
                · exact .bad (hn.trans (nxGo_bad _ _ _ _ _ _ _ g))
                · have hn := hn.trans (nxGo_good _ _ _ _ _ _ _ g)
                  have hv : Utf8.valid ((((b.toNat % 8 * 64 + c.toNat % 64) * 64 + d.toNat % 64) * 64 + e.toNat % 64 : Nat) : Int) = true := (valid_iff _).2 (by omega)
                  have he : enc ((((b.toNat % 8 * 64 + c.toNat % 64) * 64 + d.toNat % 64) * 64 + e.toNat % 64 : Nat) : Int) = [b, c, d, e] := by
                    rw [enc_eq _ hv, if_neg (by omega), if_neg (by omega), if_neg (by omega)]
                    rw [← b8_of b _ (by omega), ← b8_of c _ (by omega), ← b8_of d _ (by omega), ← b8_of e _ (by omega)]
                  exact .rune _ t hv (by rw [he]; rfl) (by rw [he]; exact hn)
attribute [irreducible] enc nx
end Go.Proofs.Ytchnhhioamkdgaa
