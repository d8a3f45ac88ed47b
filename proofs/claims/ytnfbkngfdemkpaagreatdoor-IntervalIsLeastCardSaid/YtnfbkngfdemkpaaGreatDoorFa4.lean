/- Closed facts of the program's types and functions. -/
import Derived.Test.YtnfbkngfdemkpaaGreatDoorProg
import Derived.Test.YtnfbkngfdemkpaaGreatDoorGD
set_option linter.unusedVariables false
set_option linter.unusedSimpArgs false
namespace Go.Proofs.YtnfbkngfdemkpaaGreatDoor
open Go.Kn Go.Num
theorem en_37 : entersB Tryz.prog 37 = true := by kernel_rfl
end Go.Proofs.YtnfbkngfdemkpaaGreatDoor
