/- Law ScriptShows of legate/legatelaw32: the law returns true. For any script: contracts of the functions, in an evaluator that is proved sound; its examples by the kernel. -/
import Derived.Test.YtdakkfjmclaciaaGreatDoorPC
import Derived.Test.YtdakkfjmclaciaaGreatDoorPD
import Derived.Test.YtdakkfjmclaciaaGreatDoorRows
import Derived.Test.YtdakkfjmclaciaaGreatDoorCards
import Derived.Test.YtdakkfjmclaciaaGreatDoorTie
import Derived.WalkKit
import Derived.ProofKit
import Derived.OpenShut
import Derived.ShutString
import Derived.ChangeOld
import Derived.Below
import Derived.LaidMore
import Derived.Stop.Joined
import Derived.SevenTiedAt
namespace Go.Proofs.YtdakkfjmclaciaaGreatDoor.law
open Go.ChangeShapes Go.WideShapes Go.ChangeAt Go.RowKit Go.Ev
set_option linter.unusedVariables false
set_option maxRecDepth 1000000
set_option maxHeartbeats 40000000
theorem proved : Rows.ScriptShowsCardSaid:=
 Claim7.holds_tied_plain_at .later [] Rows.scriptShowsCard.laidKinds true Rows.scriptShowsCard.stood.harness true
  row_holds (fun _ h=>by cases h) (by as_aux_lemma=>kernel_rfl) (fun _ h=>by cases h) scriptShows_row_tie rfl ⟨rfl,rfl⟩ (by as_aux_lemma=>kernel_rfl) rfl
  (fun f fn hf hfn=>by
   obtain rfl : f = 3:=Option.some.inj ((show Tryz.prog.funcNamed Tryz.f3.name = some 3 by kernel_rfl).symm.trans hf) |>.symm
   obtain rfl : fn = Tryz.f3:=(Option.some.inj (Tryz.func3.symm.trans hfn)).symm
   exact ⟨by as_aux_lemma=>kernel_rfl,fun j t ht=>by
    rw [Tryz.params3] at ht
    revert ht
    match j with
    | 0=>intro ht; cases ht; kernel_rfl
    | k + 1=>intro ht; simp at ht⟩)
  (goesNo rfl noGo)
#print axioms proved
end Go.Proofs.YtdakkfjmclaciaaGreatDoor.law
