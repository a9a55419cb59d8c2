/- Plain: runes rise as their bytes do. -/
import Derived.Test.YtchnhhioamkdgaaUtfLen
import GoSem.Op.String
namespace Go.Proofs.Ytchnhhioamkdgaa
set_option linter.unusedVariables false
set_option maxRecDepth 100000

/-- a list of bytes below another, as numbers -/
def natLess : List Nat → List Nat → Prop
  | _, [] => False
  | [], _ :: _ => True
  | a :: x, b :: y => a < b ∨ (a = b ∧ natLess x y)
theorem less_nat (xs ys : List Nat) (hx : ∀ n ∈ xs, n < 256) (hy : ∀ n ∈ ys, n < 256) : Op.bytesLess (xs.map b8) (ys.map b8) = true ↔ natLess xs ys := by
  induction xs generalizing ys with
  | nil => cases ys <;> simp [Op.bytesLess, natLess]
  | cons a x ih =>
    cases ys with
    | nil => simp [Op.bytesLess, natLess]
    | cons b y =>
      have ha := b8_toNat a (hx a (by simp))
      have hb := b8_toNat b (hy b (by simp))
      have := ih y (fun n hn => hx n (by simp [hn])) (fun n hn => hy n (by simp [hn]))
      simp only [List.map_cons, Op.bytesLess, natLess, Bool.or_eq_true, Bool.and_eq_true, decide_eq_true_eq, beq_iff_eq, UInt8.lt_iff_toNat_lt, ← UInt8.toNat_inj, ha, hb, this]
def encN (r : Nat) : List Nat :=
  if r < 128 then [r] else if r < 2048 then [192 + r / 64, 128 + r % 64]
    else if r < 65536 then [224 + r / 4096, 128 + r / 64 % 64, 128 + r % 64]
    else [240 + r / 262144, 128 + r / 4096 % 64, 128 + r / 64 % 64, 128 + r % 64]
theorem enc_map (r : Nat) (h : Utf8.valid r = true) : enc r = (encN r).map b8 := by
  rw [enc_eq r h]; unfold encN
  by_cases h1 : r < 128
  · rw [if_pos h1, if_pos h1]; rfl
  rw [if_neg h1, if_neg h1]
  by_cases h2 : r < 2048
  · rw [if_pos h2, if_pos h2]; rfl
  rw [if_neg h2, if_neg h2]
  by_cases h3 : r < 65536
  · rw [if_pos h3, if_pos h3]; rfl
  rw [if_neg h3, if_neg h3]; rfl
theorem encN_lt (r : Nat) (h : Utf8.valid r = true) : ∀ n ∈ encN r, n < 256 := by
  have hv := (valid_iff r).1 h
  unfold encN
  by_cases h1 : r < 128
  · rw [if_pos h1]; simp; omega
  rw [if_neg h1]
  by_cases h2 : r < 2048
  · rw [if_pos h2]; simp; omega
  rw [if_neg h2]
  by_cases h3 : r < 65536
  · rw [if_pos h3]; simp; omega
  rw [if_neg h3]; simp; omega
inductive EncView (r : Nat) : Prop
  | one : r < 128 → encN r = [r] → EncView r
  | two : 128 ≤ r → r < 2048 → encN r = [192 + r / 64, 128 + r % 64] → EncView r
  | three : 2048 ≤ r → r < 65536 → encN r = [224 + r / 4096, 128 + r / 64 % 64, 128 + r % 64] → EncView r
  | four : 65536 ≤ r → encN r = [240 + r / 262144, 128 + r / 4096 % 64, 128 + r / 64 % 64, 128 + r % 64] → EncView r
theorem encView (r : Nat) : EncView r := by
  by_cases h1 : r < 128
  · exact .one h1 (by unfold encN; rw [if_pos h1])
  by_cases h2 : r < 2048
  · exact .two (by omega) h2 (by unfold encN; rw [if_neg h1, if_pos h2])
  by_cases h3 : r < 65536
  · exact .three (by omega) h3 (by unfold encN; rw [if_neg h1, if_neg h2, if_pos h3])
  · exact .four (by omega) (by unfold encN; rw [if_neg h1, if_neg h2, if_neg h3])
theorem natLess_enc (a b : Nat) (ha : Utf8.valid a = true) (hb : Utf8.valid b = true) : natLess (encN a) (encN b) ↔ a < b := by
  have hv := (valid_iff a).1 ha
  have hw := (valid_iff b).1 hb
  cases encView a <;> rename_i e1 <;> cases encView b <;> rename_i e2 <;> rw [e1, e2] <;> simp only [natLess, and_false, or_false, and_true] <;> omega
theorem less_enc (a b : Int) (ha : Utf8.valid a = true) (hb : Utf8.valid b = true) : Op.bytesLess (Utf8.encode a).data.toList (Utf8.encode b).data.toList = decide (a < b) := by
  have h1 : 0 ≤ a := by simp [Utf8.valid] at ha; omega
  have h2 : 0 ≤ b := by simp [Utf8.valid] at hb; omega
  obtain ⟨m, rfl⟩ := Int.eq_ofNat_of_zero_le h1
  obtain ⟨n, rfl⟩ := Int.eq_ofNat_of_zero_le h2
  have e1 : (Utf8.encode (m : Int)).data.toList = enc m := by unfold enc; rfl
  have e2 : (Utf8.encode (n : Int)).data.toList = enc n := by unfold enc; rfl
  rw [e1, e2, enc_map m ha, enc_map n hb, Bool.eq_iff_iff, less_nat _ _ (encN_lt m ha) (encN_lt n hb), natLess_enc m n ha hb]
  simp
theorem enc_inj (m n : Nat) (ha : Utf8.valid m = true) (hb : Utf8.valid n = true) (h : enc m = enc n) : m = n := by
  have h1 := nx_enc m ha []
  have h2 := nx_enc n hb []
  rw [h, h2] at h1
  exact (Prod.mk.inj h1).1.symm
theorem eq_enc (a b : Int) (ha : Utf8.valid a = true) (hb : Utf8.valid b = true) : ((Utf8.encode a).data.toList == (Utf8.encode b).data.toList) = (a == b) := by
  have h1 : 0 ≤ a := by simp [Utf8.valid] at ha; omega
  have h2 : 0 ≤ b := by simp [Utf8.valid] at hb; omega
  obtain ⟨m, rfl⟩ := Int.eq_ofNat_of_zero_le h1
  obtain ⟨n, rfl⟩ := Int.eq_ofNat_of_zero_le h2
  have e1 : (Utf8.encode (m : Int)).data.toList = enc m := by unfold enc; rfl
  have e2 : (Utf8.encode (n : Int)).data.toList = enc n := by unfold enc; rfl
  rw [e1, e2, Bool.eq_iff_iff]
  simp only [beq_iff_eq]
  constructor
  · intro h; rw [enc_inj m n ha hb h]
  · intro h; rw [h]
end Go.Proofs.Ytchnhhioamkdgaa
