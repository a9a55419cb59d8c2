/-
  No cell of these rows narrows 'for every input' (looked for: loops, veiled, ifaces, maps, wideKeys, modest, calm, conditions, laid).
  DERIVED. THE GIVEN ROWS OF THIS SEAT. 13 by the template 'for every input the law returns true; each argument reads behind the call as it read before'; 0 by the template 'total and deterministic' (their statements: YtchnhhioamkdgaaTotals.lean).
  GIVEN WITH THE SEED: the statements are not yours to turn. If you find one false, say at which input.
  Laid BY PROGRAM, IN A SANDBOX (cutbox-rows.mjs): the forced cells as the released guide's own fill.sh prints them over the translation 375c0a17d32ff121… (all of the seat's roots in one cut). By AI agents, Wed Nov 11 2026. No macro, syntax, notation, axiom, sorry.
-/
import Derived.Test.YtchnhhioamkdgaaChecked
import GoSem.Claim
import GoSem.ClaimJoined
import GoSem.ClaimMapViews
import Derived.JoinedTies
import Derived.KernelRfl
namespace Go.Proofs.Ytchnhhioamkdgaa
/- THE CELL 'sum', in the pinned program and in every row, IS THE sha256 OF THE DUMP (.gsa) THAT YtchnhhioamkdgaaProg.lean LOADS. Nothing in Lean hashes anything: it is a label: what it is worth is what the hold of that sum in a sandbox is worth. -/
noncomputable def Try.pinned : Pinned := { name := "ytchnhhioamkdgaa", sum := "375c0a17d32ff12152a3dbf599a644d88f219ba80bd4c2253ccf07d3e6aee8ac", checked := Try.checked }
namespace Rows
def none {H : Type} : Left H := { results := [], args := [] }

/-- 'legatelaw04.UtfPuts': WHATEVER THE INPUT: true; the input reads as it did. -/
def utfPutsSpec : ChangeSpec := { name := "utfPuts", fn := fun _ => fun
  | [d] => { results := [.lit (.bool true)], args := [d] }
  | _ => none }
def utfPutsRow : OpenClaim := { program := "ytchnhhioamkdgaa", sum := "375c0a17d32ff12152a3dbf599a644d88f219ba80bd4c2253ccf07d3e6aee8ac", func := "legate/legatelaw04.UtfPuts", spec := "utfPuts", apart := false }
def UtfPutsSaid : Prop := utfPutsRow.holds Try.pinned (OpenSpec.ofChange utfPutsSpec)

/-- ITS FALSE NEIGHBOUR: 'it returns false'. Refute it at one input. -/
def utfPutsWrong : ChangeSpec := { name := "utfPuts", fn := fun _ => fun
  | [d] => { results := [.lit (.bool false)], args := [d] }
  | _ => none }
def UtfPutsWrongFalsely : Prop := utfPutsRow.holds Try.pinned (OpenSpec.ofChange utfPutsWrong)

/-- 'legatelaw04.UtfBack': WHATEVER THE INPUT: true; the input reads as it did. -/
def utfBackSpec : ChangeSpec := { name := "utfBack", fn := fun _ => fun
  | [d1, d2, d3] => { results := [.lit (.bool true)], args := [d1, d2, d3] }
  | _ => none }
def utfBackRow : OpenClaim := { program := "ytchnhhioamkdgaa", sum := "375c0a17d32ff12152a3dbf599a644d88f219ba80bd4c2253ccf07d3e6aee8ac", func := "legate/legatelaw04.UtfBack", spec := "utfBack", apart := false }
def UtfBackSaid : Prop := utfBackRow.holds Try.pinned (OpenSpec.ofChange utfBackSpec)

/-- ITS FALSE NEIGHBOUR: 'it returns false'. Refute it at one input. -/
def utfBackWrong : ChangeSpec := { name := "utfBack", fn := fun _ => fun
  | [d1, d2, d3] => { results := [.lit (.bool false)], args := [d1, d2, d3] }
  | _ => none }
def UtfBackWrongFalsely : Prop := utfBackRow.holds Try.pinned (OpenSpec.ofChange utfBackWrong)

/-- 'legatelaw04.UtfOrder': WHATEVER THE INPUT: true; the input reads as it did. -/
def utfOrderSpec : ChangeSpec := { name := "utfOrder", fn := fun _ => fun
  | [d1, d2] => { results := [.lit (.bool true)], args := [d1, d2] }
  | _ => none }
def utfOrderRow : OpenClaim := { program := "ytchnhhioamkdgaa", sum := "375c0a17d32ff12152a3dbf599a644d88f219ba80bd4c2253ccf07d3e6aee8ac", func := "legate/legatelaw04.UtfOrder", spec := "utfOrder", apart := false }
def UtfOrderSaid : Prop := utfOrderRow.holds Try.pinned (OpenSpec.ofChange utfOrderSpec)

/-- ITS FALSE NEIGHBOUR: 'it returns false'. Refute it at one input. -/
def utfOrderWrong : ChangeSpec := { name := "utfOrder", fn := fun _ => fun
  | [d1, d2] => { results := [.lit (.bool false)], args := [d1, d2] }
  | _ => none }
def UtfOrderWrongFalsely : Prop := utfOrderRow.holds Try.pinned (OpenSpec.ofChange utfOrderWrong)

/-- 'legatelaw04.UtfNexts': WHATEVER THE INPUT: true; the input reads as it did. -/
def utfNextsSpec : ChangeSpec := { name := "utfNexts", fn := fun _ => fun
  | [d1, d2] => { results := [.lit (.bool true)], args := [d1, d2] }
  | _ => none }
def utfNextsRow : OpenClaim := { program := "ytchnhhioamkdgaa", sum := "375c0a17d32ff12152a3dbf599a644d88f219ba80bd4c2253ccf07d3e6aee8ac", func := "legate/legatelaw04.UtfNexts", spec := "utfNexts", apart := false }
def UtfNextsSaid : Prop := utfNextsRow.holds Try.pinned (OpenSpec.ofChange utfNextsSpec)

/-- ITS FALSE NEIGHBOUR: 'it returns false'. Refute it at one input. -/
def utfNextsWrong : ChangeSpec := { name := "utfNexts", fn := fun _ => fun
  | [d1, d2] => { results := [.lit (.bool false)], args := [d1, d2] }
  | _ => none }
def UtfNextsWrongFalsely : Prop := utfNextsRow.holds Try.pinned (OpenSpec.ofChange utfNextsWrong)

/-- 'legatelaw04.UtfNames': WHATEVER THE INPUT: true; the input reads as it did. -/
def utfNamesSpec : ChangeSpec := { name := "utfNames", fn := fun _ => fun
  | [] => { results := [.lit (.bool true)], args := [] }
  | _ => none }
def utfNamesRow : OpenClaim := { program := "ytchnhhioamkdgaa", sum := "375c0a17d32ff12152a3dbf599a644d88f219ba80bd4c2253ccf07d3e6aee8ac", func := "legate/legatelaw04.UtfNames", spec := "utfNames", apart := false }
def UtfNamesSaid : Prop := utfNamesRow.holds Try.pinned (OpenSpec.ofChange utfNamesSpec)

/-- ITS FALSE NEIGHBOUR: 'it returns false'. Refute it at one input. -/
def utfNamesWrong : ChangeSpec := { name := "utfNames", fn := fun _ => fun
  | [] => { results := [.lit (.bool false)], args := [] }
  | _ => none }
def UtfNamesWrongFalsely : Prop := utfNamesRow.holds Try.pinned (OpenSpec.ofChange utfNamesWrong)

/-- 'legatelaw04.UtfParts': WHATEVER THE INPUT: true; the input reads as it did. -/
def utfPartsSpec : ChangeSpec := { name := "utfParts", fn := fun _ => fun
  | [d1, d2] => { results := [.lit (.bool true)], args := [d1, d2] }
  | _ => none }
def utfPartsRow : OpenClaim := { program := "ytchnhhioamkdgaa", sum := "375c0a17d32ff12152a3dbf599a644d88f219ba80bd4c2253ccf07d3e6aee8ac", func := "legate/legatelaw04.UtfParts", spec := "utfParts", apart := false }
def UtfPartsSaid : Prop := utfPartsRow.holds Try.pinned (OpenSpec.ofChange utfPartsSpec)

/-- ITS FALSE NEIGHBOUR: 'it returns false'. Refute it at one input. -/
def utfPartsWrong : ChangeSpec := { name := "utfParts", fn := fun _ => fun
  | [d1, d2] => { results := [.lit (.bool false)], args := [d1, d2] }
  | _ => none }
def UtfPartsWrongFalsely : Prop := utfPartsRow.holds Try.pinned (OpenSpec.ofChange utfPartsWrong)

/-- 'legatelaw04.UtfStray': WHATEVER THE INPUT: true; the input reads as it did. -/
def utfStraySpec : ChangeSpec := { name := "utfStray", fn := fun _ => fun
  | [d1, d2] => { results := [.lit (.bool true)], args := [d1, d2] }
  | _ => none }
def utfStrayRow : OpenClaim := { program := "ytchnhhioamkdgaa", sum := "375c0a17d32ff12152a3dbf599a644d88f219ba80bd4c2253ccf07d3e6aee8ac", func := "legate/legatelaw04.UtfStray", spec := "utfStray", apart := false }
def UtfStraySaid : Prop := utfStrayRow.holds Try.pinned (OpenSpec.ofChange utfStraySpec)

/-- ITS FALSE NEIGHBOUR: 'it returns false'. Refute it at one input. -/
def utfStrayWrong : ChangeSpec := { name := "utfStray", fn := fun _ => fun
  | [d1, d2] => { results := [.lit (.bool false)], args := [d1, d2] }
  | _ => none }
def UtfStrayWrongFalsely : Prop := utfStrayRow.holds Try.pinned (OpenSpec.ofChange utfStrayWrong)

/-- 'legatelaw05.QuoteWrites': WHATEVER THE INPUT: true; the input reads as it did. -/
def quoteWritesSpec : ChangeSpec := { name := "quoteWrites", fn := fun _ => fun
  | [d] => { results := [.lit (.bool true)], args := [d] }
  | _ => none }
def quoteWritesRow : OpenClaim := { program := "ytchnhhioamkdgaa", sum := "375c0a17d32ff12152a3dbf599a644d88f219ba80bd4c2253ccf07d3e6aee8ac", func := "legate/legatelaw05.QuoteWrites", spec := "quoteWrites", inPlace := ["internal/abi.NoEscape"], unfollowed := true, recurses := true, apart := false }
def QuoteWritesSaid : Prop := quoteWritesRow.holds Try.pinned (OpenSpec.ofChange quoteWritesSpec)

/-- ITS FALSE NEIGHBOUR: 'it returns false'. Refute it at one input. -/
def quoteWritesWrong : ChangeSpec := { name := "quoteWrites", fn := fun _ => fun
  | [d] => { results := [.lit (.bool false)], args := [d] }
  | _ => none }
def QuoteWritesWrongFalsely : Prop := quoteWritesRow.holds Try.pinned (OpenSpec.ofChange quoteWritesWrong)

/-- 'legatelaw05.QuoteBack': WHATEVER THE INPUT: true; the input reads as it did. -/
def quoteBackSpec : ChangeSpec := { name := "quoteBack", fn := fun _ => fun
  | [d1, d2, d3] => { results := [.lit (.bool true)], args := [d1, d2, d3] }
  | _ => none }
def quoteBackRow : OpenClaim := { program := "ytchnhhioamkdgaa", sum := "375c0a17d32ff12152a3dbf599a644d88f219ba80bd4c2253ccf07d3e6aee8ac", func := "legate/legatelaw05.QuoteBack", spec := "quoteBack", inPlace := ["internal/abi.NoEscape"], unfollowed := true, recurses := true, apart := false }
def QuoteBackSaid : Prop := quoteBackRow.holds Try.pinned (OpenSpec.ofChange quoteBackSpec)

/-- ITS FALSE NEIGHBOUR: 'it returns false'. Refute it at one input. -/
def quoteBackWrong : ChangeSpec := { name := "quoteBack", fn := fun _ => fun
  | [d1, d2, d3] => { results := [.lit (.bool false)], args := [d1, d2, d3] }
  | _ => none }
def QuoteBackWrongFalsely : Prop := quoteBackRow.holds Try.pinned (OpenSpec.ofChange quoteBackWrong)

/-- 'legatelaw05.QuoteUnlike': WHATEVER THE INPUT: true; the input reads as it did. -/
def quoteUnlikeSpec : ChangeSpec := { name := "quoteUnlike", fn := fun _ => fun
  | [d1, d2] => { results := [.lit (.bool true)], args := [d1, d2] }
  | _ => none }
def quoteUnlikeRow : OpenClaim := { program := "ytchnhhioamkdgaa", sum := "375c0a17d32ff12152a3dbf599a644d88f219ba80bd4c2253ccf07d3e6aee8ac", func := "legate/legatelaw05.QuoteUnlike", spec := "quoteUnlike", inPlace := ["internal/abi.NoEscape"], unfollowed := true, recurses := true, apart := false }
def QuoteUnlikeSaid : Prop := quoteUnlikeRow.holds Try.pinned (OpenSpec.ofChange quoteUnlikeSpec)

/-- ITS FALSE NEIGHBOUR: 'it returns false'. Refute it at one input. -/
def quoteUnlikeWrong : ChangeSpec := { name := "quoteUnlike", fn := fun _ => fun
  | [d1, d2] => { results := [.lit (.bool false)], args := [d1, d2] }
  | _ => none }
def QuoteUnlikeWrongFalsely : Prop := quoteUnlikeRow.holds Try.pinned (OpenSpec.ofChange quoteUnlikeWrong)

/-- 'legatelaw05.QuoteEscapes': WHATEVER THE INPUT: true; the input reads as it did. -/
def quoteEscapesSpec : ChangeSpec := { name := "quoteEscapes", fn := fun _ => fun
  | [d1, d2, d3, d4, d5] => { results := [.lit (.bool true)], args := [d1, d2, d3, d4, d5] }
  | _ => none }
def quoteEscapesRow : OpenClaim := { program := "ytchnhhioamkdgaa", sum := "375c0a17d32ff12152a3dbf599a644d88f219ba80bd4c2253ccf07d3e6aee8ac", func := "legate/legatelaw05.QuoteEscapes", spec := "quoteEscapes", inPlace := ["internal/abi.NoEscape"], unfollowed := true, recurses := true, apart := false }
def QuoteEscapesSaid : Prop := quoteEscapesRow.holds Try.pinned (OpenSpec.ofChange quoteEscapesSpec)

/-- ITS FALSE NEIGHBOUR: 'it returns false'. Refute it at one input. -/
def quoteEscapesWrong : ChangeSpec := { name := "quoteEscapes", fn := fun _ => fun
  | [d1, d2, d3, d4, d5] => { results := [.lit (.bool false)], args := [d1, d2, d3, d4, d5] }
  | _ => none }
def QuoteEscapesWrongFalsely : Prop := quoteEscapesRow.holds Try.pinned (OpenSpec.ofChange quoteEscapesWrong)

/-- 'legatelaw05.QuoteWithin': WHATEVER THE INPUT: true; the input reads as it did. -/
def quoteWithinSpec : ChangeSpec := { name := "quoteWithin", fn := fun _ => fun
  | [d1, d2] => { results := [.lit (.bool true)], args := [d1, d2] }
  | _ => none }
def quoteWithinRow : OpenClaim := { program := "ytchnhhioamkdgaa", sum := "375c0a17d32ff12152a3dbf599a644d88f219ba80bd4c2253ccf07d3e6aee8ac", func := "legate/legatelaw05.QuoteWithin", spec := "quoteWithin", inPlace := ["internal/abi.NoEscape"], unfollowed := true, recurses := true, apart := false }
def QuoteWithinSaid : Prop := quoteWithinRow.holds Try.pinned (OpenSpec.ofChange quoteWithinSpec)

/-- ITS FALSE NEIGHBOUR: 'it returns false'. Refute it at one input. -/
def quoteWithinWrong : ChangeSpec := { name := "quoteWithin", fn := fun _ => fun
  | [d1, d2] => { results := [.lit (.bool false)], args := [d1, d2] }
  | _ => none }
def QuoteWithinWrongFalsely : Prop := quoteWithinRow.holds Try.pinned (OpenSpec.ofChange quoteWithinWrong)

/-- 'legatelaw05.QuoteCut': WHATEVER THE INPUT: true; the input reads as it did. -/
def quoteCutSpec : ChangeSpec := { name := "quoteCut", fn := fun _ => fun
  | [d1, d2, d3] => { results := [.lit (.bool true)], args := [d1, d2, d3] }
  | _ => none }
def quoteCutRow : OpenClaim := { program := "ytchnhhioamkdgaa", sum := "375c0a17d32ff12152a3dbf599a644d88f219ba80bd4c2253ccf07d3e6aee8ac", func := "legate/legatelaw05.QuoteCut", spec := "quoteCut", inPlace := ["internal/abi.NoEscape"], unfollowed := true, recurses := true, apart := false }
def QuoteCutSaid : Prop := quoteCutRow.holds Try.pinned (OpenSpec.ofChange quoteCutSpec)

/-- ITS FALSE NEIGHBOUR: 'it returns false'. Refute it at one input. -/
def quoteCutWrong : ChangeSpec := { name := "quoteCut", fn := fun _ => fun
  | [d1, d2, d3] => { results := [.lit (.bool false)], args := [d1, d2, d3] }
  | _ => none }
def QuoteCutWrongFalsely : Prop := quoteCutRow.holds Try.pinned (OpenSpec.ofChange quoteCutWrong)

/- THE SECOND FORM. 'bulk': how many values and letters a reading holds, each counted each time it is reached (what is shared counts as often as it is met; a slice's spare places count too). A statement '..UptoSaid' is the law's where the arguments, and the package variables that the reading takes, are together of bulk at most 1048576: NARROWER than '..Said'. Prove '..Said' where nothing that the law and all that it calls make is longer than what came in: it says more and counts as full. Else prove '..UptoSaid'. A law counts once. -/
mutual
def uptoBulk {H : Type} : DataW H → Nat
  | .lit (.string bytes) => bytes.length + 1
  | .lit _ => 1
  | .nil => 1
  | .ptr d => uptoBulk d + 1
  | .slice elems spare => uptoBulkAll elems + uptoBulkAll spare + 1
  | .agg parts => uptoBulkAll parts + 1
  | .iface _ d => uptoBulk d + 1
  | .map entries => uptoBulkEntries entries + 1
  | .held _ => 1
def uptoBulkAll {H : Type} : List (DataW H) → Nat
  | [] => 0
  | d :: r => uptoBulk d + uptoBulkAll r
def uptoBulkEntries {H : Type} : List (Lit × DataW H) → Nat
  | [] => 0
  | x :: r => uptoBulkEntry x + uptoBulkEntries r
def uptoBulkEntry {H : Type} : Lit × DataW H → Nat
  | (.string bytes, d) => bytes.length + uptoBulk d + 1
  | (_, d) => uptoBulk d + 1
 end
def uptoSmall : (H : Type) → List (DataW H) → Bool := fun _ ds => decide (uptoBulkAll ds ≤ 1048576)
def OpenSpec.upto (s : _root_.Go.ChangeSpec) : _root_.Go.OpenSpec := { _root_.Go.OpenSpec.ofChange s with cond := some uptoSmall }

/-- 'legatelaw04.UtfPuts', WHERE WHAT IT READS IS OF BULK AT MOST 1048576: true; the input reads as it did. -/
def utfPutsUptoRow : OpenClaim := { program := "ytchnhhioamkdgaa", sum := "375c0a17d32ff12152a3dbf599a644d88f219ba80bd4c2253ccf07d3e6aee8ac", func := "legate/legatelaw04.UtfPuts", spec := "utfPuts", apart := false, narrowed := true }
def UtfPutsUptoSaid : Prop := utfPutsUptoRow.holds Try.pinned (OpenSpec.upto utfPutsSpec)

/-- 'legatelaw04.UtfBack', WHERE WHAT IT READS IS OF BULK AT MOST 1048576: true; the input reads as it did. -/
def utfBackUptoRow : OpenClaim := { program := "ytchnhhioamkdgaa", sum := "375c0a17d32ff12152a3dbf599a644d88f219ba80bd4c2253ccf07d3e6aee8ac", func := "legate/legatelaw04.UtfBack", spec := "utfBack", apart := false, narrowed := true }
def UtfBackUptoSaid : Prop := utfBackUptoRow.holds Try.pinned (OpenSpec.upto utfBackSpec)

/-- 'legatelaw04.UtfOrder', WHERE WHAT IT READS IS OF BULK AT MOST 1048576: true; the input reads as it did. -/
def utfOrderUptoRow : OpenClaim := { program := "ytchnhhioamkdgaa", sum := "375c0a17d32ff12152a3dbf599a644d88f219ba80bd4c2253ccf07d3e6aee8ac", func := "legate/legatelaw04.UtfOrder", spec := "utfOrder", apart := false, narrowed := true }
def UtfOrderUptoSaid : Prop := utfOrderUptoRow.holds Try.pinned (OpenSpec.upto utfOrderSpec)

/-- 'legatelaw04.UtfNexts', WHERE WHAT IT READS IS OF BULK AT MOST 1048576: true; the input reads as it did. -/
def utfNextsUptoRow : OpenClaim := { program := "ytchnhhioamkdgaa", sum := "375c0a17d32ff12152a3dbf599a644d88f219ba80bd4c2253ccf07d3e6aee8ac", func := "legate/legatelaw04.UtfNexts", spec := "utfNexts", apart := false, narrowed := true }
def UtfNextsUptoSaid : Prop := utfNextsUptoRow.holds Try.pinned (OpenSpec.upto utfNextsSpec)

/-- 'legatelaw04.UtfNames', WHERE WHAT IT READS IS OF BULK AT MOST 1048576: true; the input reads as it did. -/
def utfNamesUptoRow : OpenClaim := { program := "ytchnhhioamkdgaa", sum := "375c0a17d32ff12152a3dbf599a644d88f219ba80bd4c2253ccf07d3e6aee8ac", func := "legate/legatelaw04.UtfNames", spec := "utfNames", apart := false, narrowed := true }
def UtfNamesUptoSaid : Prop := utfNamesUptoRow.holds Try.pinned (OpenSpec.upto utfNamesSpec)

/-- 'legatelaw04.UtfParts', WHERE WHAT IT READS IS OF BULK AT MOST 1048576: true; the input reads as it did. -/
def utfPartsUptoRow : OpenClaim := { program := "ytchnhhioamkdgaa", sum := "375c0a17d32ff12152a3dbf599a644d88f219ba80bd4c2253ccf07d3e6aee8ac", func := "legate/legatelaw04.UtfParts", spec := "utfParts", apart := false, narrowed := true }
def UtfPartsUptoSaid : Prop := utfPartsUptoRow.holds Try.pinned (OpenSpec.upto utfPartsSpec)

/-- 'legatelaw04.UtfStray', WHERE WHAT IT READS IS OF BULK AT MOST 1048576: true; the input reads as it did. -/
def utfStrayUptoRow : OpenClaim := { program := "ytchnhhioamkdgaa", sum := "375c0a17d32ff12152a3dbf599a644d88f219ba80bd4c2253ccf07d3e6aee8ac", func := "legate/legatelaw04.UtfStray", spec := "utfStray", apart := false, narrowed := true }
def UtfStrayUptoSaid : Prop := utfStrayUptoRow.holds Try.pinned (OpenSpec.upto utfStraySpec)

/-- 'legatelaw05.QuoteWrites', WHERE WHAT IT READS IS OF BULK AT MOST 1048576: true; the input reads as it did. -/
def quoteWritesUptoRow : OpenClaim := { program := "ytchnhhioamkdgaa", sum := "375c0a17d32ff12152a3dbf599a644d88f219ba80bd4c2253ccf07d3e6aee8ac", func := "legate/legatelaw05.QuoteWrites", spec := "quoteWrites", inPlace := ["internal/abi.NoEscape"], unfollowed := true, recurses := true, apart := false, narrowed := true }
def QuoteWritesUptoSaid : Prop := quoteWritesUptoRow.holds Try.pinned (OpenSpec.upto quoteWritesSpec)

/-- 'legatelaw05.QuoteBack', WHERE WHAT IT READS IS OF BULK AT MOST 1048576: true; the input reads as it did. -/
def quoteBackUptoRow : OpenClaim := { program := "ytchnhhioamkdgaa", sum := "375c0a17d32ff12152a3dbf599a644d88f219ba80bd4c2253ccf07d3e6aee8ac", func := "legate/legatelaw05.QuoteBack", spec := "quoteBack", inPlace := ["internal/abi.NoEscape"], unfollowed := true, recurses := true, apart := false, narrowed := true }
def QuoteBackUptoSaid : Prop := quoteBackUptoRow.holds Try.pinned (OpenSpec.upto quoteBackSpec)

/-- 'legatelaw05.QuoteUnlike', WHERE WHAT IT READS IS OF BULK AT MOST 1048576: true; the input reads as it did. -/
def quoteUnlikeUptoRow : OpenClaim := { program := "ytchnhhioamkdgaa", sum := "375c0a17d32ff12152a3dbf599a644d88f219ba80bd4c2253ccf07d3e6aee8ac", func := "legate/legatelaw05.QuoteUnlike", spec := "quoteUnlike", inPlace := ["internal/abi.NoEscape"], unfollowed := true, recurses := true, apart := false, narrowed := true }
def QuoteUnlikeUptoSaid : Prop := quoteUnlikeUptoRow.holds Try.pinned (OpenSpec.upto quoteUnlikeSpec)

/-- 'legatelaw05.QuoteEscapes', WHERE WHAT IT READS IS OF BULK AT MOST 1048576: true; the input reads as it did. -/
def quoteEscapesUptoRow : OpenClaim := { program := "ytchnhhioamkdgaa", sum := "375c0a17d32ff12152a3dbf599a644d88f219ba80bd4c2253ccf07d3e6aee8ac", func := "legate/legatelaw05.QuoteEscapes", spec := "quoteEscapes", inPlace := ["internal/abi.NoEscape"], unfollowed := true, recurses := true, apart := false, narrowed := true }
def QuoteEscapesUptoSaid : Prop := quoteEscapesUptoRow.holds Try.pinned (OpenSpec.upto quoteEscapesSpec)

/-- 'legatelaw05.QuoteWithin', WHERE WHAT IT READS IS OF BULK AT MOST 1048576: true; the input reads as it did. -/
def quoteWithinUptoRow : OpenClaim := { program := "ytchnhhioamkdgaa", sum := "375c0a17d32ff12152a3dbf599a644d88f219ba80bd4c2253ccf07d3e6aee8ac", func := "legate/legatelaw05.QuoteWithin", spec := "quoteWithin", inPlace := ["internal/abi.NoEscape"], unfollowed := true, recurses := true, apart := false, narrowed := true }
def QuoteWithinUptoSaid : Prop := quoteWithinUptoRow.holds Try.pinned (OpenSpec.upto quoteWithinSpec)

/-- 'legatelaw05.QuoteCut', WHERE WHAT IT READS IS OF BULK AT MOST 1048576: true; the input reads as it did. -/
def quoteCutUptoRow : OpenClaim := { program := "ytchnhhioamkdgaa", sum := "375c0a17d32ff12152a3dbf599a644d88f219ba80bd4c2253ccf07d3e6aee8ac", func := "legate/legatelaw05.QuoteCut", spec := "quoteCut", inPlace := ["internal/abi.NoEscape"], unfollowed := true, recurses := true, apart := false, narrowed := true }
def QuoteCutUptoSaid : Prop := quoteCutUptoRow.holds Try.pinned (OpenSpec.upto quoteCutSpec)

end Rows
end Go.Proofs.Ytchnhhioamkdgaa
