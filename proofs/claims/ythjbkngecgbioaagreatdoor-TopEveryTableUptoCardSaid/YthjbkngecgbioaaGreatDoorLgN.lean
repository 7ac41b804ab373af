/- The closed facts of the row (no condition). -/
import Derived.Test.YthjbkngecgbioaaGreatDoorLgM
set_option linter.unusedVariables false
set_option linter.unusedSimpArgs false
set_option linter.deprecated false
/- The law's row: the closed facts, one a theorem. -/
set_option maxRecDepth 100000
namespace Go.Proofs.YthjbkngecgbioaaGreatDoor.Sl
open Go Go.ChangeShapes Go.WideShapes Go.ChangeAt Go.RowKit
theorem jf1 : (Go.Proofs.YthjbkngecgbioaaGreatDoor.Rows.topEveryTableUptoRow.inPlace == Go.Proofs.YthjbkngecgbioaaGreatDoor.Tryz.pinned.checked.prog.inPlace 3) = true := by kernel_rfl
theorem jf2 : (Go.Proofs.YthjbkngecgbioaaGreatDoor.Rows.topEveryTableUptoRow.unfollowed == Go.Proofs.YthjbkngecgbioaaGreatDoor.Tryz.pinned.checked.prog.unfollowed 3) = true := by kernel_rfl
theorem jf3 : (Go.Proofs.YthjbkngecgbioaaGreatDoor.Rows.topEveryTableUptoRow.recurses == Go.Proofs.YthjbkngecgbioaaGreatDoor.Tryz.pinned.checked.prog.recurses 3) = true := by kernel_rfl
theorem jf4 : (Go.Proofs.YthjbkngecgbioaaGreatDoor.Rows.topEveryTableUptoRow.named == Go.Proofs.YthjbkngecgbioaaGreatDoor.Tryz.pinned.checked.prog.varsNamed 3) = true := by kernel_rfl
theorem jf5 : (Go.Proofs.YthjbkngecgbioaaGreatDoor.Rows.topEveryTableUptoRow.plainKeys == Go.Proofs.YthjbkngecgbioaaGreatDoor.Tryz.pinned.checked.prog.plainKeys) = true := by kernel_rfl
theorem jf6 : laidOutB Go.Proofs.YthjbkngecgbioaaGreatDoor.Tryz.pinned.checked.prog = true := by kernel_rfl
theorem jf7 : mapsRowed Go.Proofs.YthjbkngecgbioaaGreatDoor.Tryz.pinned.checked.prog = true := by kernel_rfl
theorem jf8 : (Go.Proofs.YthjbkngecgbioaaGreatDoor.Tryz.pinned.checked.prog.stops == []) = true := by kernel_rfl
theorem jf9 : (Go.Proofs.YthjbkngecgbioaaGreatDoor.Tryz.pinned.checked.prog.stopKnobs == []) = true := by kernel_rfl
end Go.Proofs.YthjbkngecgbioaaGreatDoor.Sl
