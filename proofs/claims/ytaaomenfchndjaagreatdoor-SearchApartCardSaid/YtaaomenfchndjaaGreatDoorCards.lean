/-
  DERIVED. GIVEN WITH THE SEED: THE CARDS: each row of YtaaomenfchndjaaGreatDoorRows.lean that lists a variable, with what it lists TIED to the program's text (the seventh form; the later family's looks); each row that meets fmt, with fmt's text TOLD by the authors' own Lean function (tested against real Go, not proved from fmt's source: count such statements apart). THE CARD IS WHAT COUNTS. Prove the row's statement (the work); the ties are given (YtaaomenfchndjaaGreatDoorTie.lean); close each card by the builder's one call (the guide's Derived/Test/ToyasCard.lean, 'card_holds'). Laid BY PROGRAM, IN A SANDBOX (cutbox-door.mjs). By AI agents, Wed Nov 11 2026. No macro, syntax, notation, axiom, sorry.
-/
import Derived.Test.YtaaomenfchndjaaGreatDoorRows
import GoSem.ClaimSeven
namespace Go.Proofs.YtaaomenfchndjaaGreatDoor
namespace Rows

/-- THE TIED CARD OF 'legatelaw29.SearchEnds'. -/
def searchEndsCard : Claim7 := { stood := { row := searchEndsRow, standIns := [], harness := (true, "d1471eb4b2fb7d7284c65961ff3cabb8625af3491ca8721f9e9a1b852ce8ff42"), looks := true }, kinds := [], alts := [], laidByText := true, laidKinds := [.data, .data, .data, .data, .sentinel, .sentinel, .data, .data, .data, .data], laidTests := true, laidLooks := .later }
def SearchEndsCardSaid : Prop := Claim7.holds Tryz.pinned (.plain (OpenSpec.ofChange searchEndsSpec)) searchEndsCard

/-- THE TIED CARD OF 'legatelaw29.SearchFetches'. -/
def searchFetchesCard : Claim7 := { stood := { row := searchFetchesRow, standIns := [], harness := (true, "d1471eb4b2fb7d7284c65961ff3cabb8625af3491ca8721f9e9a1b852ce8ff42"), looks := true }, kinds := [], alts := [], laidByText := true, laidKinds := [.data, .data, .data, .data, .sentinel, .sentinel, .data, .data, .data, .data], laidTests := true, laidLooks := .later }
def SearchFetchesCardSaid : Prop := Claim7.holds Tryz.pinned (.plain (OpenSpec.ofChange searchFetchesSpec)) searchFetchesCard

/-- THE TIED CARD OF 'legatelaw29.SearchElse'. -/
def searchElseCard : Claim7 := { stood := { row := searchElseRow, standIns := [], harness := (true, "d1471eb4b2fb7d7284c65961ff3cabb8625af3491ca8721f9e9a1b852ce8ff42"), looks := true }, kinds := [], alts := [], laidByText := true, laidKinds := [.data, .data, .data, .data, .sentinel, .sentinel, .data, .data, .data, .data], laidTests := true, laidLooks := .later }
def SearchElseCardSaid : Prop := Claim7.holds Tryz.pinned (.plain (OpenSpec.ofChange searchElseSpec)) searchElseCard

/-- THE TIED CARD OF 'legatelaw29.SearchApart'. -/
def searchApartCard : Claim7 := { stood := { row := searchApartRow, standIns := [], harness := (true, "d1471eb4b2fb7d7284c65961ff3cabb8625af3491ca8721f9e9a1b852ce8ff42"), looks := true }, kinds := [], alts := [], laidByText := true, laidKinds := [.data, .data, .data, .data, .sentinel, .sentinel, .data, .data, .data, .data], laidTests := true, laidLooks := .later }
def SearchApartCardSaid : Prop := Claim7.holds Tryz.pinned (.plain (OpenSpec.ofChange searchApartSpec)) searchApartCard

/-- THE SECOND FORM's CARD OF 'legatelaw29.SearchEnds'. -/
def searchEndsUptoCard : Claim7 := { stood := { row := searchEndsUptoRow, standIns := [], harness := (true, "d1471eb4b2fb7d7284c65961ff3cabb8625af3491ca8721f9e9a1b852ce8ff42"), looks := true }, kinds := [], alts := [], laidByText := true, laidKinds := [.data, .data, .data, .data, .sentinel, .sentinel, .data, .data, .data, .data], laidTests := true, laidLooks := .later }
def SearchEndsUptoCardSaid : Prop := Claim7.holds Tryz.pinned (.plain (OpenSpec.upto searchEndsSpec)) searchEndsUptoCard

/-- THE SECOND FORM's CARD OF 'legatelaw29.SearchFetches'. -/
def searchFetchesUptoCard : Claim7 := { stood := { row := searchFetchesUptoRow, standIns := [], harness := (true, "d1471eb4b2fb7d7284c65961ff3cabb8625af3491ca8721f9e9a1b852ce8ff42"), looks := true }, kinds := [], alts := [], laidByText := true, laidKinds := [.data, .data, .data, .data, .sentinel, .sentinel, .data, .data, .data, .data], laidTests := true, laidLooks := .later }
def SearchFetchesUptoCardSaid : Prop := Claim7.holds Tryz.pinned (.plain (OpenSpec.upto searchFetchesSpec)) searchFetchesUptoCard

/-- THE SECOND FORM's CARD OF 'legatelaw29.SearchElse'. -/
def searchElseUptoCard : Claim7 := { stood := { row := searchElseUptoRow, standIns := [], harness := (true, "d1471eb4b2fb7d7284c65961ff3cabb8625af3491ca8721f9e9a1b852ce8ff42"), looks := true }, kinds := [], alts := [], laidByText := true, laidKinds := [.data, .data, .data, .data, .sentinel, .sentinel, .data, .data, .data, .data], laidTests := true, laidLooks := .later }
def SearchElseUptoCardSaid : Prop := Claim7.holds Tryz.pinned (.plain (OpenSpec.upto searchElseSpec)) searchElseUptoCard

/-- THE SECOND FORM's CARD OF 'legatelaw29.SearchApart'. -/
def searchApartUptoCard : Claim7 := { stood := { row := searchApartUptoRow, standIns := [], harness := (true, "d1471eb4b2fb7d7284c65961ff3cabb8625af3491ca8721f9e9a1b852ce8ff42"), looks := true }, kinds := [], alts := [], laidByText := true, laidKinds := [.data, .data, .data, .data, .sentinel, .sentinel, .data, .data, .data, .data], laidTests := true, laidLooks := .later }
def SearchApartUptoCardSaid : Prop := Claim7.holds Tryz.pinned (.plain (OpenSpec.upto searchApartSpec)) searchApartUptoCard
end Rows
end Go.Proofs.YtaaomenfchndjaaGreatDoor
