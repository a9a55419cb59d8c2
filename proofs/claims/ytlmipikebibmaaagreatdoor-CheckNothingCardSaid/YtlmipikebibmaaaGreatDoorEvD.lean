/- An evaluator of the model, proved sound. No conditions. -/
import Derived.Test.YtlmipikebibmaaaGreatDoorEvC
import Derived.ChangeShapes
import Derived.OpenShut
import Derived.Carry
set_option linter.unusedVariables false
set_option linter.unusedSimpArgs false
/- More such rules. -/
namespace Go.Ev
theorem EVD :
    (∀ (n : Nat),((n : Int)).toNat = n)
    ∧ Int.toNat 0 = 0
    ∧ (∀ {α : Type} (a : α) (l : List α),a :: l ≠ [])
    ∧ (∀ {α : Type} [LE α] {x y : α},x ≥ y ↔ y ≤ x)
    ∧ (∀ (a : Int),a ≤ a)
    ∧ (∀ {α : Type} [BEq α] [ReflBEq α] (a : α),(a == a) = true)
    ∧ (∀ {α : Type} {x : α} {xs : List α} {i : Nat} {a : α},(x :: xs).set (i + 1) a = x :: xs.set i a)
    ∧ (∀ {α : Type} {x : α} {xs : List α} {a : α},(x :: xs).set 0 a = a :: xs)
    ∧ ∀ (n m : Nat),n ≤ m + n := And.intro @Int.toNat_natCast (And.intro @Int.toNat_zero (And.intro @List.cons_ne_nil.{0} (And.intro @ge_iff_le.{0} (And.intro @Int.le_refl (And.intro @beq_self_eq_true.{0} (And.intro @List.set_cons_succ.{0} (And.intro @List.set_cons_zero.{0} (@Nat.le_add_left))))))))
end Go.Ev

/- Arguments of a call, after it. -/
namespace Go.Ev
open Go.RowKit Go.ChangeShapes
theorem trodAll_below {H : Type} {enc : TypeId × Value → H} {P : Program} {W W' : World} (hl : laidOutB P = true) (hb : Below W.heap.size W W') : ∀ {ts : List TypeId} {vs : List Value} {ds : List (DataW H)} {ps : List MemPlace},(ts.all fun t => P.readableRec t && decide (t < P.types.size)) = true →
    DataW.TrodAll enc P W 0 (fun _ => true) true ts vs ds ps → (∀ x ∈ ps,x.block < W.heap.size) → DataW.TrodAll enc P W' 0 (fun b => decide (b < W.heap.size)) true ts vs ds ps
  | [],vs,ds,ps,_,h,_ => by
    obtain ⟨rfl,rfl,rfl⟩ := trodAll_nil h
    rfl
  | t :: ts,vs,ds,ps,ht,h,hlt => by
    obtain ⟨v,vs',d,ds',p,q,rfl,rfl,rfl,h1,h2⟩ := trodAll_cons h
    simp only [List.all_cons,Bool.and_eq_true,decide_eq_true_eq] at ht
    exact trodAll_cons_mk (Below.trod hl ht.1.1 ht.1.2 h1 hb fun x hx => hlt x (by simp [hx])) (trodAll_below hl hb (by simpa using ht.2) h2 fun x hx => hlt x (by simp [hx]))
end Go.Ev

