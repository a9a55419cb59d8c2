/-
  DERIVED. GIVEN WITH THE SEED: THE CARDS: each row of YtegpahkgmealkaaGreatDoorRows.lean that lists a variable, with what it lists TIED to the program's text (the seventh form; the later family's looks); each row that meets fmt, with fmt's text TOLD by the authors' own Lean function (tested against real Go, not proved from fmt's source: count such statements apart). THE CARD IS WHAT COUNTS. Prove the row's statement (the work); the ties are given (YtegpahkgmealkaaGreatDoorTie.lean); close each card by the builder's one call (the guide's Derived/Test/ToyasCard.lean, 'card_holds'). Laid BY PROGRAM, IN A SANDBOX (cutbox-door.mjs). By AI agents, Wed Nov 11 2026. No macro, syntax, notation, axiom, sorry.
-/
import Derived.Test.YtegpahkgmealkaaGreatDoorRows
import GoSem.ClaimSeven
namespace Go.Proofs.YtegpahkgmealkaaGreatDoor
namespace Rows

/-- THE TIED CARD OF 'legatelaw27.CheckClock'. -/
def checkClockCard : Claim7 := { stood := { row := checkClockRow, standIns := [], harness := (true, "fb9a205fc590f4eaa01c3e3794813d02eb27cc7a8c87f5dd46db431ea0785a64"), looks := true }, kinds := [], alts := [], laidByText := true, laidKinds := [.data, .data, .data, .data, .sentinel, .sentinel, .data, .data, .data, .data], laidTests := true, laidLooks := .later }
def CheckClockCardSaid : Prop := Claim7.holds Tryz.pinned (.plain (OpenSpec.ofChange checkClockSpec)) checkClockCard

/-- THE SECOND FORM's CARD OF 'legatelaw27.CheckClock'. -/
def checkClockUptoCard : Claim7 := { stood := { row := checkClockUptoRow, standIns := [], harness := (true, "fb9a205fc590f4eaa01c3e3794813d02eb27cc7a8c87f5dd46db431ea0785a64"), looks := true }, kinds := [], alts := [], laidByText := true, laidKinds := [.data, .data, .data, .data, .sentinel, .sentinel, .data, .data, .data, .data], laidTests := true, laidLooks := .later }
def CheckClockUptoCardSaid : Prop := Claim7.holds Tryz.pinned (.plain (OpenSpec.upto checkClockSpec)) checkClockUptoCard
end Rows
end Go.Proofs.YtegpahkgmealkaaGreatDoor
