/- Plain: legateref04's way of Next, and that it comes to 'nx'. -/
import Derived.Test.YtchnhhioamkdgaaUtfLen
namespace Go.Proofs.Ytchnhhioamkdgaa
set_option maxRecDepth 100000
set_option linter.unusedVariables false

/-- 'begins': the least and the greatest that bytes may become; 'k' are still to come -/
def bgGo : Nat → List UInt8 → Int → Int → Option (Int × Int)
  | 0, _, lo, hi => some (lo, hi)
  | k + 1, [], lo, hi => bgGo k [] (64 * lo) (64 * hi + 63)
  | k + 1, c :: t, lo, hi => if c.toNat < 128 ∨ 191 < c.toNat then none else bgGo k t (64 * lo + (c.toNat - 128)) (64 * hi + (c.toNat - 128))
def offN (sz : Nat) : Int := if sz = 2 then 192 else if sz = 3 then 224 else 240
def leastN (sz : Nat) : Int := if sz = 2 then 128 else if sz = 3 then 2048 else 65536
/-- the end of 'begins' -/
def bgEnd (sz : Nat) : Option (Int × Int) → Bool
  | none => false
  | some (lo, hi) => if 55296 ≤ max lo (leastN sz) ∧ min hi 1114111 ≤ 57343 then false else decide (max lo (leastN sz) ≤ min hi 1114111)
def bgN (sz : Nat) : List UInt8 → Bool
  | [] => false
  | b :: t => bgEnd sz (bgGo (sz - 1) t (b.toNat - offN sz) (b.toNat - offN sz))

/-- the loop of legateref04's Next from n on -/
def rnGo (l : List UInt8) (sz : Nat) (R : Nat × Nat × Nat) : Nat → Nat → Nat × Nat × Nat
  | 0, _ => R
  | k + 1, n => if l.length < n then (0, 0, 4) else if bgN sz (l.take n) then rnGo l sz R k (n + 1) else (0, 0, 12)
/-- the number that bytes are -/
def valGo : Nat → List UInt8 → Int → Int
  | 0, _, r => r
  | k + 1, [], r => valGo k [] (64 * r)
  | k + 1, c :: t, r => valGo k t (64 * r + (c.toNat - 128))

theorem rn_ok (l : List UInt8) (sz : Nat) (R : Nat × Nat × Nat) (k n : Nat) (h : n ≤ l.length) (e : bgN sz (l.take n) = true) : rnGo l sz R (k + 1) n = rnGo l sz R k (n + 1) := by
  simp only [rnGo]; rw [if_neg (by omega), if_pos e]
theorem rn_bad (l : List UInt8) (sz : Nat) (R : Nat × Nat × Nat) (k n : Nat) (h : n ≤ l.length) (e : bgN sz (l.take n) = false) : rnGo l sz R (k + 1) n = (0, 0, 12) := by
  simp only [rnGo]; rw [if_neg (by omega), e]; rfl
theorem rn_short (l : List UInt8) (sz : Nat) (R : Nat × Nat × Nat) (k n : Nat) (h : l.length < n) : rnGo l sz R (k + 1) n = (0, 0, 4) := by
  simp only [rnGo]; rw [if_pos h]
theorem rn_end (l : List UInt8) (sz : Nat) (R : Nat × Nat × Nat) (n : Nat) : rnGo l sz R 0 n = R := rfl

theorem bgEnd_true (sz : Nat) (lo hi : Int) (h : ¬ (55296 ≤ max lo (leastN sz) ∧ min hi 1114111 ≤ 57343)) (h2 : max lo (leastN sz) ≤ min hi 1114111) : bgEnd sz (some (lo, hi)) = true := by
  simp only [bgEnd]; rw [if_neg h]; simp only [decide_eq_true_eq]; exact h2
theorem bgEnd_false (sz : Nat) (lo hi : Int) (h : (55296 ≤ max lo (leastN sz) ∧ min hi 1114111 ≤ 57343) ∨ ¬ max lo (leastN sz) ≤ min hi 1114111) : bgEnd sz (some (lo, hi)) = false := by
  simp only [bgEnd]
  by_cases g : 55296 ≤ max lo (leastN sz) ∧ min hi 1114111 ≤ 57343
  · rw [if_pos g]
  · rw [if_neg g]; simp only [decide_eq_false_iff_not]; rcases h with h | h
    · exact absurd h g
    · exact h

theorem rn2 (b : UInt8) (t : List UInt8) (h : 192 ≤ b.toNat ∧ b.toNat < 224) : rnGo (b :: t) 2 ((valGo 1 t (b.toNat - 192)).toNat, 2, 0) 2 1 = nx (b :: t) := by
  have hb := b.toNat_lt
  have hl : leastN 2 = 128 := rfl
  have ho : offN 2 = 192 := rfl
  by_cases h1 : b.toNat < 194
  · have e1 : bgN 2 [b] = false := bgEnd_false _ _ _ (by rw [hl, ho]; omega)
    rw [nx0 _ _ (by omega), rn_bad _ _ _ _ _ (by simp) e1]
  have e1 : bgN 2 [b] = true := bgEnd_true _ _ _ (by rw [hl, ho]; omega) (by rw [hl, ho]; omega)
  rw [nx2 _ _ (by omega), rn_ok _ _ _ _ _ (by simp) e1]
  match t with
  | [] => rw [rn_short _ _ _ _ _ (by simp)]; rfl
  | c :: t =>
    have hc := c.toNat_lt
    by_cases g : c.toNat < 128 ∨ 191 < c.toNat
    · have e2 : bgN 2 [b, c] = false := by simp only [bgN, bgGo]; rw [if_pos g]; rfl
      rw [nxGo_bad _ _ _ _ _ _ _ g, rn_bad _ _ _ _ _ (by simp) e2]
    · have e2 : bgN 2 [b, c] = true := by
        simp only [bgN, bgGo]; rw [if_neg g]; exact bgEnd_true _ _ _ (by rw [hl, ho]; omega) (by rw [hl, ho]; omega)
      rw [nxGo_good _ _ _ _ _ _ _ g, rn_ok _ _ _ _ _ (by simp) e2, rn_end]
      simp only [valGo, nxGo, Prod.mk.injEq, and_true]; omega

theorem rn3 (b : UInt8) (t : List UInt8) (h : 224 ≤ b.toNat ∧ b.toNat < 240) : rnGo (b :: t) 3 ((valGo 2 t (b.toNat - 224)).toNat, 3, 0) 3 1 = nx (b :: t) := by
  have hb := b.toNat_lt
  have hl : leastN 3 = 2048 := rfl
  have ho : offN 3 = 224 := rfl
  have e1 : bgN 3 [b] = true := bgEnd_true _ _ _ (by rw [hl, ho]; omega) (by rw [hl, ho]; omega)
  rw [nx3 _ _ (by omega), rn_ok _ _ _ _ _ (by simp) e1]
  match t with
  | [] => rw [rn_short _ _ _ _ _ (by simp)]; rfl
  | c :: t =>
    have hc := c.toNat_lt
    by_cases g : c.toNat < 128 ∨ 191 < c.toNat
    · have e2 : bgN 3 [b, c] = false := by simp only [bgN, bgGo]; rw [if_pos g]; rfl
      rw [nxGo_bad _ _ _ _ _ _ _ (by split <;> split <;> omega), rn_bad _ _ _ _ _ (by simp) e2]
    by_cases g2 : c.toNat < (if b.toNat = 224 then 160 else 128) ∨ (if b.toNat = 237 then 159 else 191) < c.toNat
    · have g3 : (b.toNat = 224 ∧ c.toNat < 160) ∨ (b.toNat = 237 ∧ 159 < c.toNat) := by revert g2; split <;> split <;> omega
      have e2 : bgN 3 [b, c] = false := by
        simp only [bgN, bgGo]; rw [if_neg g]; exact bgEnd_false _ _ _ (by rw [hl, ho]; omega)
      rw [nxGo_bad _ _ _ _ _ _ _ g2, rn_bad _ _ _ _ _ (by simp) e2]
    · have g3 : (b.toNat = 224 → 160 ≤ c.toNat) ∧ (b.toNat = 237 → c.toNat ≤ 159) := by revert g2; split <;> split <;> omega
      have e2 : bgN 3 [b, c] = true := by
        simp only [bgN, bgGo]; rw [if_neg g]; exact bgEnd_true _ _ _ (by rw [hl, ho]; omega) (by rw [hl, ho]; omega)
      rw [nxGo_good _ _ _ _ _ _ _ g2, rn_ok _ _ _ _ _ (by simp) e2]
      clear g2
      match t with
      | [] => rw [rn_short _ _ _ _ _ (by simp)]; rfl
      | d :: t =>
        have hd := d.toNat_lt
        by_cases k : d.toNat < 128 ∨ 191 < d.toNat
        · have e3 : bgN 3 [b, c, d] = false := by simp only [bgN, bgGo]; rw [if_neg g, if_pos k]; rfl
          rw [nxGo_bad _ _ _ _ _ _ _ k, rn_bad _ _ _ _ _ (by simp) e3]
        · have e3 : bgN 3 [b, c, d] = true := by
            simp only [bgN, bgGo]; rw [if_neg g, if_neg k]; exact bgEnd_true _ _ _ (by rw [hl, ho]; omega) (by rw [hl, ho]; omega)
          rw [nxGo_good _ _ _ _ _ _ _ k, rn_ok _ _ _ _ _ (by simp) e3, rn_end]
          simp only [valGo, nxGo, Prod.mk.injEq, and_true]; omega

theorem rn4 (b : UInt8) (t : List UInt8) (h : 240 ≤ b.toNat ∧ b.toNat < 248) : rnGo (b :: t) 4 ((valGo 3 t (b.toNat - 240)).toNat, 4, 0) 4 1 = nx (b :: t) := by
  have hb := b.toNat_lt
  have hl : leastN 4 = 65536 := rfl
  have ho : offN 4 = 240 := rfl
  by_cases h1 : 245 ≤ b.toNat
  · have e1 : bgN 4 [b] = false := bgEnd_false _ _ _ (by rw [hl, ho]; omega)
    rw [nx0 _ _ (by omega), rn_bad _ _ _ _ _ (by simp) e1]
  have e1 : bgN 4 [b] = true := bgEnd_true _ _ _ (by rw [hl, ho]; omega) (by rw [hl, ho]; omega)
  rw [nx4 _ _ (by omega), rn_ok _ _ _ _ _ (by simp) e1]
  match t with
  | [] => rw [rn_short _ _ _ _ _ (by simp)]; rfl
  | c :: t =>
    have hc := c.toNat_lt
    by_cases g : c.toNat < 128 ∨ 191 < c.toNat
    · have e2 : bgN 4 [b, c] = false := by simp only [bgN, bgGo]; rw [if_pos g]; rfl
      rw [nxGo_bad _ _ _ _ _ _ _ (by split <;> split <;> omega), rn_bad _ _ _ _ _ (by simp) e2]
    by_cases g2 : c.toNat < (if b.toNat = 240 then 144 else 128) ∨ (if b.toNat = 244 then 143 else 191) < c.toNat
    · have g3 : (b.toNat = 240 ∧ c.toNat < 144) ∨ (b.toNat = 244 ∧ 143 < c.toNat) := by revert g2; split <;> split <;> omega
      have e2 : bgN 4 [b, c] = false := by
        simp only [bgN, bgGo]; rw [if_neg g]; exact bgEnd_false _ _ _ (by rw [hl, ho]; omega)
      rw [nxGo_bad _ _ _ _ _ _ _ g2, rn_bad _ _ _ _ _ (by simp) e2]
    · have g3 : (b.toNat = 240 → 144 ≤ c.toNat) ∧ (b.toNat = 244 → c.toNat ≤ 143) := by revert g2; split <;> split <;> omega
      have e2 : bgN 4 [b, c] = true := by
        simp only [bgN, bgGo]; rw [if_neg g]; exact bgEnd_true _ _ _ (by rw [hl, ho]; omega) (by rw [hl, ho]; omega)
      rw [nxGo_good _ _ _ _ _ _ _ g2, rn_ok _ _ _ _ _ (by simp) e2]
      clear g2
      match t with
      | [] => rw [rn_short _ _ _ _ _ (by simp)]; rfl
      | d :: t =>
        have hd := d.toNat_lt
        by_cases k : d.toNat < 128 ∨ 191 < d.toNat
        · have e3 : bgN 4 [b, c, d] = false := by simp only [bgN, bgGo]; rw [if_neg g, if_pos k]; rfl
          rw [nxGo_bad _ _ _ _ _ _ _ k, rn_bad _ _ _ _ _ (by simp) e3]
        have e3 : bgN 4 [b, c, d] = true := by
          simp only [bgN, bgGo]; rw [if_neg g, if_neg k]; exact bgEnd_true _ _ _ (by rw [hl, ho]; omega) (by rw [hl, ho]; omega)
        rw [nxGo_good _ _ _ _ _ _ _ k, rn_ok _ _ _ _ _ (by simp) e3]
        match t with
        | [] => rw [rn_short _ _ _ _ _ (by simp)]; rfl
        | e :: t =>
          have hd := e.toNat_lt
          by_cases m : e.toNat < 128 ∨ 191 < e.toNat
          · have e4 : bgN 4 [b, c, d, e] = false := by simp only [bgN, bgGo]; rw [if_neg g, if_neg k, if_pos m]; rfl
            rw [nxGo_bad _ _ _ _ _ _ _ m, rn_bad _ _ _ _ _ (by simp) e4]
          · have e4 : bgN 4 [b, c, d, e] = true := by
              simp only [bgN, bgGo]; rw [if_neg g, if_neg k, if_neg m]; exact bgEnd_true _ _ _ (by rw [hl, ho]; omega) (by rw [hl, ho]; omega)
            rw [nxGo_good _ _ _ _ _ _ _ m, rn_ok _ _ _ _ _ (by simp) e4, rn_end]
            simp only [valGo, nxGo, Prod.mk.injEq, and_true]; omega
end Go.Proofs.Ytchnhhioamkdgaa
