/-
  DERIVED. GIVEN WITH THE SEED: THE CARDS: each row of YtddcpkepggkllaaGreatDoorRows.lean that lists a variable, with what it lists TIED to the program's text (the seventh form; the later family's looks); each row that meets fmt, with fmt's text TOLD by the authors' own Lean function (tested against real Go, not proved from fmt's source: count such statements apart). THE CARD IS WHAT COUNTS. Prove the row's statement (the work); the ties are given (YtddcpkepggkllaaGreatDoorTie.lean); close each card by the builder's one call (the guide's Derived/Test/ToyasCard.lean, 'card_holds'). Laid BY PROGRAM, IN A SANDBOX (cutbox-door.mjs). By AI agents, Wed Nov 11 2026. No macro, syntax, notation, axiom, sorry.
-/
import Derived.Test.YtddcpkepggkllaaGreatDoorRows
import GoSem.ClaimSeven
namespace Go.Proofs.YtddcpkepggkllaaGreatDoor
namespace Rows

/-- THE TIED CARD OF 'legatelaw28.RepoElse'. -/
def repoElseCard : Claim7 := { stood := { row := repoElseRow, standIns := [], harness := (true, "bcbc77817d0abcbcc2877fe657e1c799bcbb1d7c4fb8a797ee67f6d65657ad50"), looks := true }, kinds := [], alts := [], laidByText := true, laidKinds := [.data, .data, .data, .data, .sentinel, .sentinel, .data, .data, .data, .data], laidTests := true, laidLooks := .later }
def RepoElseCardSaid : Prop := Claim7.holds Tryz.pinned (.plain (OpenSpec.ofChange repoElseSpec)) repoElseCard

/-- THE TIED CARD OF 'legatelaw28.RepoApart'. -/
def repoApartCard : Claim7 := { stood := { row := repoApartRow, standIns := [], harness := (true, "bcbc77817d0abcbcc2877fe657e1c799bcbb1d7c4fb8a797ee67f6d65657ad50"), looks := true }, kinds := [], alts := [], laidByText := true, laidKinds := [.data, .data, .data, .data, .sentinel, .sentinel, .data, .data, .data, .data], laidTests := true, laidLooks := .later }
def RepoApartCardSaid : Prop := Claim7.holds Tryz.pinned (.plain (OpenSpec.ofChange repoApartSpec)) repoApartCard

/-- THE SECOND FORM's CARD OF 'legatelaw28.RepoElse'. -/
def repoElseUptoCard : Claim7 := { stood := { row := repoElseUptoRow, standIns := [], harness := (true, "bcbc77817d0abcbcc2877fe657e1c799bcbb1d7c4fb8a797ee67f6d65657ad50"), looks := true }, kinds := [], alts := [], laidByText := true, laidKinds := [.data, .data, .data, .data, .sentinel, .sentinel, .data, .data, .data, .data], laidTests := true, laidLooks := .later }
def RepoElseUptoCardSaid : Prop := Claim7.holds Tryz.pinned (.plain (OpenSpec.upto repoElseSpec)) repoElseUptoCard

/-- THE SECOND FORM's CARD OF 'legatelaw28.RepoApart'. -/
def repoApartUptoCard : Claim7 := { stood := { row := repoApartUptoRow, standIns := [], harness := (true, "bcbc77817d0abcbcc2877fe657e1c799bcbb1d7c4fb8a797ee67f6d65657ad50"), looks := true }, kinds := [], alts := [], laidByText := true, laidKinds := [.data, .data, .data, .data, .sentinel, .sentinel, .data, .data, .data, .data], laidTests := true, laidLooks := .later }
def RepoApartUptoCardSaid : Prop := Claim7.holds Tryz.pinned (.plain (OpenSpec.upto repoApartSpec)) repoApartUptoCard
end Rows
end Go.Proofs.YtddcpkepggkllaaGreatDoor
