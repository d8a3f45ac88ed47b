/- Closed facts of the program's types and functions. -/
import Derived.Test.YtnfbkngfdemkpaaGreatDoorProg
import Derived.Test.YtnfbkngfdemkpaaGreatDoorGD
set_option linter.unusedVariables false
set_option linter.unusedSimpArgs false
namespace Go.Proofs.YtnfbkngfdemkpaaGreatDoor
open Go.Kn Go.Num
theorem eg_60 : Tryz.prog.eqGuardType Tryz.prog.depth 60 = false := by kernel_rfl
theorem en_10 : entersB Tryz.prog 10 = true := by kernel_rfl
theorem en_14 : entersB Tryz.prog 14 = true := by kernel_rfl
theorem en_20 : entersB Tryz.prog 20 = true := by kernel_rfl
theorem en_21 : entersB Tryz.prog 21 = true := by kernel_rfl
theorem en_22 : entersB Tryz.prog 22 = true := by kernel_rfl
theorem en_24 : entersB Tryz.prog 24 = true := by kernel_rfl
theorem en_26 : entersB Tryz.prog 26 = true := by kernel_rfl
theorem en_41 : entersB Tryz.prog 41 = true := by kernel_rfl
theorem en_42 : entersB Tryz.prog 42 = true := by kernel_rfl
theorem en_43 : entersB Tryz.prog 43 = true := by kernel_rfl
theorem en_44 : entersB Tryz.prog 44 = true := by kernel_rfl
theorem en_47 : entersB Tryz.prog 47 = true := by kernel_rfl
theorem en_48 : entersB Tryz.prog 48 = true := by kernel_rfl
theorem en_49 : entersB Tryz.prog 49 = true := by kernel_rfl
theorem en_50 : entersB Tryz.prog 50 = true := by kernel_rfl
theorem en_52 : entersB Tryz.prog 52 = true := by kernel_rfl
theorem fd_39_0 : tyField Tryz.prog 39 0 = some (0, 72) := by kernel_rfl
theorem fd_39_1 : tyField Tryz.prog 39 1 = some (72, 1) := by kernel_rfl
theorem lw_60 : leaves Tryz.prog 8 60 = some (true, (LI ++ (LI ++ (LI ++ (LI ++ (LI ++ (LI ++ (LI ++ LI)))))))) := by kernel_rfl
end Go.Proofs.YtnfbkngfdemkpaaGreatDoor
