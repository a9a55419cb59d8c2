/-
  DERIVED. GIVEN WITH THE SEED: THE CARDS: each row of YtmbaofiahlcnhaaGreatDoorRows.lean that lists a variable, with what it lists TIED to the program's text (the seventh form; the later family's looks); each row that meets fmt, with fmt's text TOLD by the authors' own Lean function (tested against real Go, not proved from fmt's source: count such statements apart). THE CARD IS WHAT COUNTS. Prove the row's statement (the work); the ties are given (YtmbaofiahlcnhaaGreatDoorTie.lean); close each card by the builder's one call (the guide's Derived/Test/ToyasCard.lean, 'card_holds'). Laid BY PROGRAM, IN A SANDBOX (cutbox-door.mjs). By AI agents, Wed Nov 11 2026. No macro, syntax, notation, axiom, sorry.
-/
import Derived.Test.YtmbaofiahlcnhaaGreatDoorRows
import GoSem.ClaimSeven
namespace Go.Proofs.YtmbaofiahlcnhaaGreatDoor
namespace Rows

/-- THE TIED CARD OF 'legatelaw29.SearchBounds'. -/
def searchBoundsCard : Claim7 := { stood := { row := searchBoundsRow, standIns := [], harness := (true, "242b927ca4176291f4a6d2aae95e1476e01b073fcb6fa85cb936fef9e8af7556"), looks := true }, kinds := [], alts := [], laidByText := true, laidKinds := [.data, .data, .data, .data, .sentinel, .sentinel, .data, .data, .data, .data], laidTests := true, laidLooks := .later }
def SearchBoundsCardSaid : Prop := Claim7.holds Tryz.pinned (.plain (OpenSpec.ofChange searchBoundsSpec)) searchBoundsCard

/-- THE TIED CARD OF 'legatelaw29.SearchLater'. -/
def searchLaterCard : Claim7 := { stood := { row := searchLaterRow, standIns := [], harness := (true, "242b927ca4176291f4a6d2aae95e1476e01b073fcb6fa85cb936fef9e8af7556"), looks := true }, kinds := [], alts := [], laidByText := true, laidKinds := [.data, .data, .data, .data, .sentinel, .sentinel, .data, .data, .data, .data], laidTests := true, laidLooks := .later }
def SearchLaterCardSaid : Prop := Claim7.holds Tryz.pinned (.plain (OpenSpec.ofChange searchLaterSpec)) searchLaterCard

/-- THE SECOND FORM's CARD OF 'legatelaw29.SearchBounds'. -/
def searchBoundsUptoCard : Claim7 := { stood := { row := searchBoundsUptoRow, standIns := [], harness := (true, "242b927ca4176291f4a6d2aae95e1476e01b073fcb6fa85cb936fef9e8af7556"), looks := true }, kinds := [], alts := [], laidByText := true, laidKinds := [.data, .data, .data, .data, .sentinel, .sentinel, .data, .data, .data, .data], laidTests := true, laidLooks := .later }
def SearchBoundsUptoCardSaid : Prop := Claim7.holds Tryz.pinned (.plain (OpenSpec.upto searchBoundsSpec)) searchBoundsUptoCard

/-- THE SECOND FORM's CARD OF 'legatelaw29.SearchLater'. -/
def searchLaterUptoCard : Claim7 := { stood := { row := searchLaterUptoRow, standIns := [], harness := (true, "242b927ca4176291f4a6d2aae95e1476e01b073fcb6fa85cb936fef9e8af7556"), looks := true }, kinds := [], alts := [], laidByText := true, laidKinds := [.data, .data, .data, .data, .sentinel, .sentinel, .data, .data, .data, .data], laidTests := true, laidLooks := .later }
def SearchLaterUptoCardSaid : Prop := Claim7.holds Tryz.pinned (.plain (OpenSpec.upto searchLaterSpec)) searchLaterUptoCard
end Rows
end Go.Proofs.YtmbaofiahlcnhaaGreatDoor
