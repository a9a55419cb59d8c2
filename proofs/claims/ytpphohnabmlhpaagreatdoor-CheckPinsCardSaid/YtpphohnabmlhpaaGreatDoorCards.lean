/-
  DERIVED. GIVEN WITH THE SEED: THE CARDS: each row of YtpphohnabmlhpaaGreatDoorRows.lean that lists a variable, with what it lists TIED to the program's text (the seventh form; the later family's looks); each row that meets fmt, with fmt's text TOLD by the authors' own Lean function (tested against real Go, not proved from fmt's source: count such statements apart). THE CARD IS WHAT COUNTS. Prove the row's statement (the work); the ties are given (YtpphohnabmlhpaaGreatDoorTie.lean); close each card by the builder's one call (the guide's Derived/Test/ToyasCard.lean, 'card_holds'). Laid BY PROGRAM, IN A SANDBOX (cutbox-door.mjs). By AI agents, Wed Nov 11 2026. No macro, syntax, notation, axiom, sorry.
-/
import Derived.Test.YtpphohnabmlhpaaGreatDoorRows
import GoSem.ClaimSeven
namespace Go.Proofs.YtpphohnabmlhpaaGreatDoor
namespace Rows

/-- THE TIED CARD OF 'legatelaw27.CheckPins'. -/
def checkPinsCard : Claim7 := { stood := { row := checkPinsRow, standIns := [], harness := (true, "5777d5530a904c7d38b2e9f3b2553333a0a9bb80e5dbaf3267163737080cbe12"), looks := true }, kinds := [], alts := [], laidByText := true, laidKinds := [.data, .data, .data, .data, .sentinel, .sentinel, .data, .data, .data, .data], laidTests := true, laidLooks := .later }
def CheckPinsCardSaid : Prop := Claim7.holds Tryz.pinned (.plain (OpenSpec.ofChange checkPinsSpec)) checkPinsCard

/-- THE SECOND FORM's CARD OF 'legatelaw27.CheckPins'. -/
def checkPinsUptoCard : Claim7 := { stood := { row := checkPinsUptoRow, standIns := [], harness := (true, "5777d5530a904c7d38b2e9f3b2553333a0a9bb80e5dbaf3267163737080cbe12"), looks := true }, kinds := [], alts := [], laidByText := true, laidKinds := [.data, .data, .data, .data, .sentinel, .sentinel, .data, .data, .data, .data], laidTests := true, laidLooks := .later }
def CheckPinsUptoCardSaid : Prop := Claim7.holds Tryz.pinned (.plain (OpenSpec.upto checkPinsSpec)) checkPinsUptoCard
end Rows
end Go.Proofs.YtpphohnabmlhpaaGreatDoor
