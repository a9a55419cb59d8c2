/- What Read tells, as two cases. -/
import Derived.Test.YtchnhhioamkdgaaReadLaws2
import Derived.Test.YtchnhhioamkdgaaRead5
namespace Go.Proofs.Ytchnhhioamkdgaa
set_option linter.unusedVariables false
set_option maxRecDepth 100000

theorem fourGo_err (k n : Nat) (l : List UInt8) : (fourGo k n l).2 ≠ 1 := by
  induction k generalizing n l with
  | zero => simp [fourGo]
  | succ k ih =>
    match l with
    | [] => simp [fourGo]
    | c :: t =>
      simp only [fourGo]
      cases digV c.toNat with
      | none => simp
      | some d => exact ih _ t
theorem codedL_err (l : List UInt8) : (codedL l).2.2 ≠ 1 := by
  have h1 : ∀ l, (fourL l).2 ≠ 1 := fun l => fourGo_err 4 0 l
  unfold codedL
  split
  · exact h1 l
  · split
    · simp
    · split
      · simp
      · split
        · simp
        · split
          · simp
          · split
            · simp
            · split
              · simp
              · split
                · exact h1 _
                · split <;> simp
theorem nx_err (l : List UInt8) : (nx l).2.2 ≠ 1 := by
  cases nxView l with
  | short _ h => rw [h]; simp
  | bad h => rw [h]; simp
  | cut h _ _ => rw [h]; simp
  | rune r t _ _ h => rw [h]; simp
theorem itemL_err (l : List UInt8) : (itemL l).2.2 ≠ 1 := by
  match l with
  | [] => simp [itemL]
  | c :: t =>
    simp only [itemL]
    split
    · simp
    · split
      · exact nx_err _
      · split
        · simp
        · split
          · simp
          · split
            · unfold plus; split
              · simp
              · exact codedL_err _
            · simp
theorem rdGo_err1 (f : Nat) : ∀ (l : List UInt8) (n : Nat) (out : List UInt8), (rdGo f l n out).2.2 ≠ 1 := by
  induction f with
  | zero => intro l n out; simp [rdGo]
  | succ f ih =>
    intro l n out
    match l with
    | [] => simp [rdGo]
    | c :: t =>
      simp only [rdGo]
      split
      · simp
      · split
        · exact itemL_err _
        · split
          · simp
          · exact ih _ _ _

inductive ReadView (l : List UInt8) (i : Int) : Prop
  | err (e : Nat) : e ≠ 0 → (e = 1 ↔ (i < 0 ∨ (l.length : Int) < i)) → readR l i = ([], 0, e) → ReadView l i
  | ok (k m : Nat) (c : UInt8) (x : List UInt8) : i = k → l[k]? = some c → c.toNat = 34 → Rd (l.drop (k + 1)) m x → x.length ≤ 4096 → readR l i = (x, k + 1 + m, 0) → ReadView l i

theorem readL_cases (l : List UInt8) : (∃ e, e ≠ 0 ∧ e ≠ 1 ∧ readL l = ([], 0, e)) ∨ ∃ (c : UInt8) (t : List UInt8) (m : Nat) (x : List UInt8), l = c :: t ∧ c.toNat = 34 ∧ Rd t m x ∧ x.length ≤ 4096 ∧ readL l = (x, 1 + m, 0) := by
  match l with
  | [] => exact .inl ⟨4, by omega, by omega, rfl⟩
  | c :: t =>
    by_cases hc : c.toNat = 34
    · have hx : readL (c :: t) = rdGo (t.length + 1) t 1 [] := by simp only [readL]; rw [if_neg (by omega)]
      obtain ⟨y, m, e, hy⟩ : ∃ y m e, rdGo (t.length + 1) t 1 [] = (y, m, e) := ⟨_, _, _, rfl⟩
      by_cases he : e = 0
      · subst he
        obtain ⟨k, x, hr, hm, ht, hl⟩ := rd_of _ _ _ _ _ _ (by simp) hy
        simp only [List.nil_append] at ht
        subst ht hm
        exact .inr ⟨c, t, k, y, rfl, hc, hr, hl, hx.trans hy⟩
      · have h1 := rdGo_err (t.length + 1) t 1 [] (by rw [hy]; exact he)
        have h2 := rdGo_err1 (t.length + 1) t 1 []
        rw [hy] at h1 h2
        simp only at h1 h2
        exact .inl ⟨e, he, h2, by rw [hx, hy, h1.1, h1.2]⟩
    · exact .inl ⟨3, by omega, by omega, by simp only [readL]; rw [if_pos hc]⟩
theorem readView (l : List UInt8) (i : Int) : ReadView l i := by
  by_cases h : i < 0 ∨ (l.length : Int) < i
  · exact .err 1 (by omega) (by simp [h]) (by unfold readR; rw [if_pos h])
  · have hx : readR l i = ((readL (l.drop i.toNat)).1, nextR i.toNat (readL (l.drop i.toNat)), (readL (l.drop i.toNat)).2.2) := by unfold readR; rw [if_neg h]
    rcases readL_cases (l.drop i.toNat) with ⟨e, he, he1, hr⟩ | ⟨c, t, m, x, hl, hc, hr, hlen, hr2⟩
    · refine .err e he ⟨fun h2 => absurd h2 he1, fun h2 => absurd h2 h⟩ ?_
      rw [hx, hr]; simp [nextR, he]
    · refine .ok i.toNat m c x (by omega) ?_ hc ?_ hlen ?_
      · have := congrArg (fun z => z[0]?) hl
        simpa using this
      · have := congrArg List.tail hl
        rw [List.tail_drop] at this
        rw [this]; exact hr
      · rw [hx, hr2]; simp [nextR]; omega
end Go.Proofs.Ytchnhhioamkdgaa
