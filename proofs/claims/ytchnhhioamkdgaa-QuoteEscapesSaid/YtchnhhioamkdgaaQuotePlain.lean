/- Plain: the canonical form of a text. -/
import Derived.Test.YtchnhhioamkdgaaUtfLen
namespace Go.Proofs.Ytchnhhioamkdgaa
set_option linter.unusedVariables false

/-- a byte in a canonical form -/
def esc (c : UInt8) : List UInt8 := if c.toNat = 34 ∨ c.toNat = 92 then [92, c] else [c]
def escs (l : List UInt8) : List UInt8 := l.flatMap esc
/-- the canonical form -/
def quoteL (l : List UInt8) : List UInt8 := 34 :: (escs l ++ [34])
theorem esc_len (c : UInt8) : 1 ≤ (esc c).length ∧ (esc c).length ≤ 2 := by unfold esc; split <;> simp
theorem escs_nil : escs [] = [] := rfl
theorem escs_cons (c : UInt8) (t : List UInt8) : escs (c :: t) = esc c ++ escs t := rfl
theorem escs_append (a b : List UInt8) : escs (a ++ b) = escs a ++ escs b := by unfold escs; exact List.flatMap_append
theorem escs_snoc (a : List UInt8) (c : UInt8) : escs (a ++ [c]) = escs a ++ esc c := by rw [escs_append]; simp [escs]
theorem escs_len (l : List UInt8) : l.length ≤ (escs l).length ∧ (escs l).length ≤ 2 * l.length := by
  induction l with
  | nil => simp [escs]
  | cons c t ih => rw [escs_cons]; have := esc_len c; simp; omega
theorem quoteL_len (l : List UInt8) : (quoteL l).length = (escs l).length + 2 := by simp [quoteL]
/-- what Quote tells: the form, the error -/
def quoteR (l : List UInt8) : List UInt8 × Nat := if 4096 < l.length then ([], 5) else if (lenU l).isSome then (quoteL l, 0) else ([], 12)
end Go.Proofs.Ytchnhhioamkdgaa
