/- Closed facts of the program's types and functions. -/
import Derived.Test.YtnfbkngfdemkpaaGreatDoorProg
import Derived.Test.YtnfbkngfdemkpaaGreatDoorGD
set_option linter.unusedVariables false
set_option linter.unusedSimpArgs false
namespace Go.Proofs.YtnfbkngfdemkpaaGreatDoor
open Go.Kn Go.Num
theorem en_27 : entersB Tryz.prog 27 = true := by kernel_rfl
theorem en_40 : entersB Tryz.prog 40 = true := by kernel_rfl
theorem en_54 : entersB Tryz.prog 54 = true := by kernel_rfl
end Go.Proofs.YtnfbkngfdemkpaaGreatDoor
