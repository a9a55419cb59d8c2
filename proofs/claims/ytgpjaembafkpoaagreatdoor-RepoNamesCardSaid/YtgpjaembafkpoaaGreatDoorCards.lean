/-
  DERIVED. GIVEN WITH THE SEED: THE CARDS: each row of YtgpjaembafkpoaaGreatDoorRows.lean that lists a variable, with what it lists TIED to the program's text (the seventh form; the later family's looks); each row that meets fmt, with fmt's text TOLD by the authors' own Lean function (tested against real Go, not proved from fmt's source: count such statements apart). THE CARD IS WHAT COUNTS. Prove the row's statement (the work); the ties are given (YtgpjaembafkpoaaGreatDoorTie.lean); close each card by the builder's one call (the guide's Derived/Test/ToyasCard.lean, 'card_holds'). Laid BY PROGRAM, IN A SANDBOX (cutbox-door.mjs). By AI agents, Wed Nov 11 2026. No macro, syntax, notation, axiom, sorry.
-/
import Derived.Test.YtgpjaembafkpoaaGreatDoorRows
import GoSem.ClaimSeven
namespace Go.Proofs.YtgpjaembafkpoaaGreatDoor
namespace Rows

/-- THE TIED CARD OF 'legatelaw28.RepoNames'. -/
def repoNamesCard : Claim7 := { stood := { row := repoNamesRow, standIns := [], harness := (true, "0df5bbd0383c61e70be1b33f752d31aa5a81d090cd4bc77c4d02c7a99c7fd382"), looks := true }, kinds := [], alts := [], laidByText := true, laidKinds := [.data, .data, .data, .data, .sentinel, .sentinel, .data, .data, .data, .data], laidTests := true, laidLooks := .later }
def RepoNamesCardSaid : Prop := Claim7.holds Tryz.pinned (.plain (OpenSpec.ofChange repoNamesSpec)) repoNamesCard

/-- THE SECOND FORM's CARD OF 'legatelaw28.RepoNames'. -/
def repoNamesUptoCard : Claim7 := { stood := { row := repoNamesUptoRow, standIns := [], harness := (true, "0df5bbd0383c61e70be1b33f752d31aa5a81d090cd4bc77c4d02c7a99c7fd382"), looks := true }, kinds := [], alts := [], laidByText := true, laidKinds := [.data, .data, .data, .data, .sentinel, .sentinel, .data, .data, .data, .data], laidTests := true, laidLooks := .later }
def RepoNamesUptoCardSaid : Prop := Claim7.holds Tryz.pinned (.plain (OpenSpec.upto repoNamesSpec)) repoNamesUptoCard
end Rows
end Go.Proofs.YtgpjaembafkpoaaGreatDoor
