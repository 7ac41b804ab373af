/- alive() returns true (no condition). -/
import Derived.Test.YthjbkngecgbioaaGreatDoorLgD
set_option linter.unusedVariables false
set_option linter.unusedSimpArgs false
set_option linter.deprecated false
/- alive() is run: it answers true. -/
namespace Go.Proofs.YthjbkngecgbioaaGreatDoor.Xe
open Go
set_option maxRecDepth 1000000
theorem alive_run : isTrue (callX (seek · TTl) XXl (seek · FNl) 100000 200 7 [] [] 0 (2 ^ 200)) (2 ^ 200) = true := by kernel_rfl
theorem alive_ok : Sl.Spec Tryz.prog 7 #[] [] (fun v _ => v = .bool true) := closed_true mixed tok xok fok alive_run
end Go.Proofs.YthjbkngecgbioaaGreatDoor.Xe
