/-
  DERIVED. GIVEN WITH THE SEED: THE CARDS: each row of YtpikfmmkcckclaaGreatDoorRows.lean that lists a variable, with what it lists TIED to the program's text (the seventh form; the later family's looks); each row that meets fmt, with fmt's text TOLD by the authors' own Lean function (tested against real Go, not proved from fmt's source: count such statements apart). THE CARD IS WHAT COUNTS. Prove the row's statement (the work); the ties are given (YtpikfmmkcckclaaGreatDoorTie.lean); close each card by the builder's one call (the guide's Derived/Test/ToyasCard.lean, 'card_holds'). Laid BY PROGRAM, IN A SANDBOX (cutbox-door.mjs). By AI agents, Wed Nov 11 2026. No macro, syntax, notation, axiom, sorry.
-/
import Derived.Test.YtpikfmmkcckclaaGreatDoorRows
import GoSem.ClaimSeven
namespace Go.Proofs.YtpikfmmkcckclaaGreatDoor
namespace Rows

/-- THE TIED CARD OF 'legatelaw28.RepoOnce'. -/
def repoOnceCard : Claim7 := { stood := { row := repoOnceRow, standIns := [], harness := (true, "7c4ee1fa77a8aeff55ab402f4799f2045b84bf3e9922cd65be77c701ceb6cd5f"), looks := true }, kinds := [], alts := [], laidByText := true, laidKinds := [.data, .data, .data, .data, .sentinel, .sentinel, .data, .data, .data, .data], laidTests := true, laidLooks := .later }
def RepoOnceCardSaid : Prop := Claim7.holds Tryz.pinned (.plain (OpenSpec.ofChange repoOnceSpec)) repoOnceCard

/-- THE TIED CARD OF 'legatelaw28.RepoJust'. -/
def repoJustCard : Claim7 := { stood := { row := repoJustRow, standIns := [], harness := (true, "7c4ee1fa77a8aeff55ab402f4799f2045b84bf3e9922cd65be77c701ceb6cd5f"), looks := true }, kinds := [], alts := [], laidByText := true, laidKinds := [.data, .data, .data, .data, .sentinel, .sentinel, .data, .data, .data, .data], laidTests := true, laidLooks := .later }
def RepoJustCardSaid : Prop := Claim7.holds Tryz.pinned (.plain (OpenSpec.ofChange repoJustSpec)) repoJustCard

/-- THE TIED CARD OF 'legatelaw28.RepoWho'. -/
def repoWhoCard : Claim7 := { stood := { row := repoWhoRow, standIns := [], harness := (true, "7c4ee1fa77a8aeff55ab402f4799f2045b84bf3e9922cd65be77c701ceb6cd5f"), looks := true }, kinds := [], alts := [], laidByText := true, laidKinds := [.data, .data, .data, .data, .sentinel, .sentinel, .data, .data, .data, .data], laidTests := true, laidLooks := .later }
def RepoWhoCardSaid : Prop := Claim7.holds Tryz.pinned (.plain (OpenSpec.ofChange repoWhoSpec)) repoWhoCard

/-- THE TIED CARD OF 'legatelaw28.RepoLater'. -/
def repoLaterCard : Claim7 := { stood := { row := repoLaterRow, standIns := [], harness := (true, "7c4ee1fa77a8aeff55ab402f4799f2045b84bf3e9922cd65be77c701ceb6cd5f"), looks := true }, kinds := [], alts := [], laidByText := true, laidKinds := [.data, .data, .data, .data, .sentinel, .sentinel, .data, .data, .data, .data], laidTests := true, laidLooks := .later }
def RepoLaterCardSaid : Prop := Claim7.holds Tryz.pinned (.plain (OpenSpec.ofChange repoLaterSpec)) repoLaterCard

/-- THE SECOND FORM's CARD OF 'legatelaw28.RepoOnce'. -/
def repoOnceUptoCard : Claim7 := { stood := { row := repoOnceUptoRow, standIns := [], harness := (true, "7c4ee1fa77a8aeff55ab402f4799f2045b84bf3e9922cd65be77c701ceb6cd5f"), looks := true }, kinds := [], alts := [], laidByText := true, laidKinds := [.data, .data, .data, .data, .sentinel, .sentinel, .data, .data, .data, .data], laidTests := true, laidLooks := .later }
def RepoOnceUptoCardSaid : Prop := Claim7.holds Tryz.pinned (.plain (OpenSpec.upto repoOnceSpec)) repoOnceUptoCard

/-- THE SECOND FORM's CARD OF 'legatelaw28.RepoJust'. -/
def repoJustUptoCard : Claim7 := { stood := { row := repoJustUptoRow, standIns := [], harness := (true, "7c4ee1fa77a8aeff55ab402f4799f2045b84bf3e9922cd65be77c701ceb6cd5f"), looks := true }, kinds := [], alts := [], laidByText := true, laidKinds := [.data, .data, .data, .data, .sentinel, .sentinel, .data, .data, .data, .data], laidTests := true, laidLooks := .later }
def RepoJustUptoCardSaid : Prop := Claim7.holds Tryz.pinned (.plain (OpenSpec.upto repoJustSpec)) repoJustUptoCard

/-- THE SECOND FORM's CARD OF 'legatelaw28.RepoWho'. -/
def repoWhoUptoCard : Claim7 := { stood := { row := repoWhoUptoRow, standIns := [], harness := (true, "7c4ee1fa77a8aeff55ab402f4799f2045b84bf3e9922cd65be77c701ceb6cd5f"), looks := true }, kinds := [], alts := [], laidByText := true, laidKinds := [.data, .data, .data, .data, .sentinel, .sentinel, .data, .data, .data, .data], laidTests := true, laidLooks := .later }
def RepoWhoUptoCardSaid : Prop := Claim7.holds Tryz.pinned (.plain (OpenSpec.upto repoWhoSpec)) repoWhoUptoCard

/-- THE SECOND FORM's CARD OF 'legatelaw28.RepoLater'. -/
def repoLaterUptoCard : Claim7 := { stood := { row := repoLaterUptoRow, standIns := [], harness := (true, "7c4ee1fa77a8aeff55ab402f4799f2045b84bf3e9922cd65be77c701ceb6cd5f"), looks := true }, kinds := [], alts := [], laidByText := true, laidKinds := [.data, .data, .data, .data, .sentinel, .sentinel, .data, .data, .data, .data], laidTests := true, laidLooks := .later }
def RepoLaterUptoCardSaid : Prop := Claim7.holds Tryz.pinned (.plain (OpenSpec.upto repoLaterSpec)) repoLaterUptoCard
end Rows
end Go.Proofs.YtpikfmmkcckclaaGreatDoor
