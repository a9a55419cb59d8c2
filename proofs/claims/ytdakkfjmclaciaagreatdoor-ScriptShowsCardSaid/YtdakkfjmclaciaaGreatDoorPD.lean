/- No text of the program starts a goroutine. No conditions. -/
import Derived.Test.YtdakkfjmclaciaaGreatDoorRows
import Derived.Test.YtdakkfjmclaciaaGreatDoorCards
import Derived.SevenTiedAt
import Derived.KernelRfl
namespace Go.Proofs.YtdakkfjmclaciaaGreatDoor.law
set_option linter.unusedVariables false
set_option maxRecDepth 1000000
set_option maxHeartbeats 40000000
theorem goesNo {P : Program} {c : OpenClaim} (hs : c.start = .entering) (hn : P.funcs.any Func.goes = false) : false = c.goesBy P:=by
 have key : ∀ f,P.goes f = false:=fun f=>by
  unfold Program.goes
  rw [hn,Bool.and_false,Bool.or_false,List.any_eq_false]
  intro g _
  cases hg : P.funcs[g]? with
  | none=>simp
  | some fn=>
    obtain ⟨hi,he⟩:=Array.getElem?_eq_some_iff.mp hg
    have h:=Array.any_eq_false.mp hn g hi
    rw [he] at h
    simpa using h
 unfold OpenClaim.goesBy Program.goesAt Program.goesFrom
 rw [hs]
 cases P.funcNamed c.func with
 | none=>rfl
 | some f=>simp [key f]
theorem noGo : Tryz.prog.funcs.any Func.goes = false:=by kernel_rfl
end Go.Proofs.YtdakkfjmclaciaaGreatDoor.law
