/- The statement about rational vectors, of the plain functions that the program and the reference compute. No program stands in it. -/
import Derived.Test.YthbjhbmpfeeilaaGreatPe
import Derived.Test.YthbjhbmpfeeilaaGreatFz

import Derived.KernelRfl
set_option linter.unusedVariables false
set_option linter.unusedSimpArgs false
namespace Go.Num
open Go Go.Kn
theorem sanity06 : F_skewbacklaw06_sanity = true := by kernel_rfl
theorem Cmp_eq (a b : Rt) : F_ratio_Cmp a b = F_skewbackref04_Cmp a b := by
  unfold F_ratio_Cmp F_skewbackref04_Cmp F_skewbackref04_kept
  rw [Good_eq, Good_eq]
  cases F_skewbackref04_Good a <;> cases F_skewbackref04_Good b <;> simp only [Bool.not_true, Bool.not_false, Bool.or_true, Bool.true_or, Bool.or_false, Bool.and_true, Bool.and_false, cond_true, cond_false, E_dec] <;> rfl
theorem Plus_eq (a b : A3 Rt) : F_vector_Plus a b = F_skewbackref06_Plus a b := by unfold F_vector_Plus F_skewbackref06_Plus; rw [Add_eq, Add_eq, Add_eq]
theorem Minus_eq (a b : A3 Rt) : F_vector_Minus a b = F_skewbackref06_Minus a b := by unfold F_vector_Minus F_skewbackref06_Minus; rw [Sub_eq, Sub_eq, Sub_eq]
theorem Times_eq (a : Rt) (b : A3 Rt) : F_vector_Times a b = F_skewbackref06_Times a b := by unfold F_vector_Times F_skewbackref06_Times; rw [Mul_eq, Mul_eq, Mul_eq]
theorem Inner_eq (a b : A3 Rt) : F_vector_Inner a b = F_skewbackref06_Inner a b := by
  unfold F_vector_Inner F_skewbackref06_Inner
  simp only [Mul_eq, Add_eq, Of_eq]
  rw [Add_zero (valid_Mul _ _)]
theorem Outer_eq (a b : A3 Rt) : F_vector_Outer a b = F_skewbackref06_Outer a b := by
  unfold F_vector_Outer F_skewbackref06_Outer F_skewbackref06_difference
  simp only [Mul_eq, Sub_eq]
theorem VOf_eq (a : A3 W) : F_vector_Of a = F_skewbackref06_Of a := rfl
theorem VBad_eq (a : A3 Rt) : F_vector_Bad a = F_skewbackref06_Bad a := rfl
theorem Side_eq (a : A3 W) (b : A3 Rt) : F_vector_Side a b = F_skewbackref06_Side a b := by
  unfold F_vector_Side F_skewbackref06_Side
  rw [VOf_eq, Inner_eq]
theorem Before_eq (a b : A3 Rt) : F_vector_Before a b = F_skewbackref06_Before a b := by
  unfold F_vector_Before F_skewbackref06_Before
  rw [Cmp_eq, Cmp_eq, Cmp_eq]
theorem VectorRationals_true (a b : A3 Rt) (c : Rt) (d : A3 W) : F_skewbacklaw06_VectorRationalsMatchSpec a b c d = true := by
  unfold F_skewbacklaw06_VectorRationalsMatchSpec
  rw [sanity06, Plus_eq, Minus_eq, Times_eq, Inner_eq, Outer_eq, VOf_eq, VBad_eq, Side_eq, Before_eq]
  cases (!(F_skewbackref06_Valid a) || (!(F_skewbackref06_Valid b) || (!(F_skewbackref04_Valid c)))) <;> simp
end Go.Num
