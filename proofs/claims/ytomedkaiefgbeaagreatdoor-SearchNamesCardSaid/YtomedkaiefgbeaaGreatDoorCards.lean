/-
  DERIVED. GIVEN WITH THE SEED: THE CARDS: each row of YtomedkaiefgbeaaGreatDoorRows.lean that lists a variable, with what it lists TIED to the program's text (the seventh form; the later family's looks); each row that meets fmt, with fmt's text TOLD by the authors' own Lean function (tested against real Go, not proved from fmt's source: count such statements apart). THE CARD IS WHAT COUNTS. Prove the row's statement (the work); the ties are given (YtomedkaiefgbeaaGreatDoorTie.lean); close each card by the builder's one call (the guide's Derived/Test/ToyasCard.lean, 'card_holds'). Laid BY PROGRAM, IN A SANDBOX (cutbox-door.mjs). By AI agents, Wed Nov 11 2026. No macro, syntax, notation, axiom, sorry.
-/
import Derived.Test.YtomedkaiefgbeaaGreatDoorRows
import GoSem.ClaimSeven
namespace Go.Proofs.YtomedkaiefgbeaaGreatDoor
namespace Rows

/-- THE TIED CARD OF 'legatelaw29.SearchNames'. -/
def searchNamesCard : Claim7 := { stood := { row := searchNamesRow, standIns := [], harness := (true, "c6834f50d88eeb25ab6da4d663eb553b666d69861ced2f510185cb44f3bca4ea"), looks := true }, kinds := [], alts := [], laidByText := true, laidKinds := [.data, .data, .data, .data, .sentinel, .sentinel, .data, .data, .data, .data], laidTests := true, laidLooks := .later }
def SearchNamesCardSaid : Prop := Claim7.holds Tryz.pinned (.plain (OpenSpec.ofChange searchNamesSpec)) searchNamesCard

/-- THE SECOND FORM's CARD OF 'legatelaw29.SearchNames'. -/
def searchNamesUptoCard : Claim7 := { stood := { row := searchNamesUptoRow, standIns := [], harness := (true, "c6834f50d88eeb25ab6da4d663eb553b666d69861ced2f510185cb44f3bca4ea"), looks := true }, kinds := [], alts := [], laidByText := true, laidKinds := [.data, .data, .data, .data, .sentinel, .sentinel, .data, .data, .data, .data], laidTests := true, laidLooks := .later }
def SearchNamesUptoCardSaid : Prop := Claim7.holds Tryz.pinned (.plain (OpenSpec.upto searchNamesSpec)) searchNamesUptoCard
end Rows
end Go.Proofs.YtomedkaiefgbeaaGreatDoor
