/- A fact of the row that the kernel reckons. No conditions. -/
import Derived.Test.YtkhhblknjdcphabGreatDoorRows
import Derived.Test.YtkhhblknjdcphabGreatDoorCards
import Derived.SevenTiedAt
namespace Go.Proofs.YtkhhblknjdcphabGreatDoor.law
theorem goes : false = Rows.scriptFirstRow.goesBy Tryz.pinned.checked.prog := by kernel_rfl
end Go.Proofs.YtkhhblknjdcphabGreatDoor.law
