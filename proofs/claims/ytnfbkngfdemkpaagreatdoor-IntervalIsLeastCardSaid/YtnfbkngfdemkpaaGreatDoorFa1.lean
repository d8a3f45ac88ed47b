/- Closed facts of the program's types and functions. -/
import Derived.Test.YtnfbkngfdemkpaaGreatDoorProg
import Derived.Test.YtnfbkngfdemkpaaGreatDoorGD
set_option linter.unusedVariables false
set_option linter.unusedSimpArgs false
namespace Go.Proofs.YtnfbkngfdemkpaaGreatDoor
open Go.Kn Go.Num
theorem en_128 : entersB Tryz.prog 128 = true := by kernel_rfl
theorem en_152 : entersB Tryz.prog 152 = true := by kernel_rfl
end Go.Proofs.YtnfbkngfdemkpaaGreatDoor
