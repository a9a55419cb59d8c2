/-
  DERIVED. GIVEN WITH THE SEED: THE CARDS: each row of YtjcdkogjdomncaaGreatDoorRows.lean that lists a variable, with what it lists TIED to the program's text (the seventh form; the later family's looks); each row that meets fmt, with fmt's text TOLD by the authors' own Lean function (tested against real Go, not proved from fmt's source: count such statements apart). THE CARD IS WHAT COUNTS. Prove the row's statement (the work); the ties are given (YtjcdkogjdomncaaGreatDoorTie.lean); close each card by the builder's one call (the guide's Derived/Test/ToyasCard.lean, 'card_holds'). Laid BY PROGRAM, IN A SANDBOX (cutbox-door.mjs). By AI agents, Wed Nov 11 2026. No macro, syntax, notation, axiom, sorry.
-/
import Derived.Test.YtjcdkogjdomncaaGreatDoorRows
import GoSem.ClaimSeven
namespace Go.Proofs.YtjcdkogjdomncaaGreatDoor
namespace Rows

/-- THE TIED CARD OF 'legatelaw27.CheckCaps'. -/
def checkCapsCard : Claim7 := { stood := { row := checkCapsRow, standIns := [], harness := (true, "ee9c7f605ac144f94a27621d4b380b9ecb8b24b0392dadf0c7cc459cce04de5a"), looks := true }, kinds := [], alts := [], laidByText := true, laidKinds := [.data, .data, .data, .data, .sentinel, .sentinel, .data, .data, .data, .data], laidTests := true, laidLooks := .later }
def CheckCapsCardSaid : Prop := Claim7.holds Tryz.pinned (.plain (OpenSpec.ofChange checkCapsSpec)) checkCapsCard

/-- THE SECOND FORM's CARD OF 'legatelaw27.CheckCaps'. -/
def checkCapsUptoCard : Claim7 := { stood := { row := checkCapsUptoRow, standIns := [], harness := (true, "ee9c7f605ac144f94a27621d4b380b9ecb8b24b0392dadf0c7cc459cce04de5a"), looks := true }, kinds := [], alts := [], laidByText := true, laidKinds := [.data, .data, .data, .data, .sentinel, .sentinel, .data, .data, .data, .data], laidTests := true, laidLooks := .later }
def CheckCapsUptoCardSaid : Prop := Claim7.holds Tryz.pinned (.plain (OpenSpec.upto checkCapsSpec)) checkCapsUptoCard
end Rows
end Go.Proofs.YtjcdkogjdomncaaGreatDoor
