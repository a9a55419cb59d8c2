/-
  DERIVED. GIVEN WITH THE SEED: THE CARDS: each row of YtlmipikebibmaaaGreatDoorRows.lean that lists a variable, with what it lists TIED to the program's text (the seventh form; the later family's looks); each row that meets fmt, with fmt's text TOLD by the authors' own Lean function (tested against real Go, not proved from fmt's source: count such statements apart). THE CARD IS WHAT COUNTS. Prove the row's statement (the work); the ties are given (YtlmipikebibmaaaGreatDoorTie.lean); close each card by the builder's one call (the guide's Derived/Test/ToyasCard.lean, 'card_holds'). Laid BY PROGRAM, IN A SANDBOX (cutbox-door.mjs). By AI agents, Wed Nov 11 2026. No macro, syntax, notation, axiom, sorry.
-/
import Derived.Test.YtlmipikebibmaaaGreatDoorRows
import GoSem.ClaimSeven
namespace Go.Proofs.YtlmipikebibmaaaGreatDoor
namespace Rows

/-- THE TIED CARD OF 'legatelaw27.CheckNothing'. -/
def checkNothingCard : Claim7 := { stood := { row := checkNothingRow, standIns := [], harness := (true, "8ac9741ebd1525d99c97d4fb790e7673305b65278a21b80bfe6c09ba2a0aa5c7"), looks := true }, kinds := [], alts := [], laidByText := true, laidKinds := [.data, .data, .data, .data, .sentinel, .sentinel, .data, .data, .data, .data], laidTests := true, laidLooks := .later }
def CheckNothingCardSaid : Prop := Claim7.holds Tryz.pinned (.plain (OpenSpec.ofChange checkNothingSpec)) checkNothingCard

/-- THE SECOND FORM's CARD OF 'legatelaw27.CheckNothing'. -/
def checkNothingUptoCard : Claim7 := { stood := { row := checkNothingUptoRow, standIns := [], harness := (true, "8ac9741ebd1525d99c97d4fb790e7673305b65278a21b80bfe6c09ba2a0aa5c7"), looks := true }, kinds := [], alts := [], laidByText := true, laidKinds := [.data, .data, .data, .data, .sentinel, .sentinel, .data, .data, .data, .data], laidTests := true, laidLooks := .later }
def CheckNothingUptoCardSaid : Prop := Claim7.holds Tryz.pinned (.plain (OpenSpec.upto checkNothingSpec)) checkNothingUptoCard
end Rows
end Go.Proofs.YtlmipikebibmaaaGreatDoor
