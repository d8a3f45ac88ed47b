/- A good fraction's denominator is greater than 0. No program stands in it. -/
import Derived.Test.YtnfbkngfdemkpaaGreatDoorFGc
import Derived.Test.YtnfbkngfdemkpaaGreatDoorFn

set_option linter.unusedVariables false
set_option linter.unusedSimpArgs false
namespace Go.Num
open Go Go.Kn
theorem ratio_pos {a : Rt} (h : F_ratio_Good a = true) : cfP (cfN a.d) a.d := by
  unfold F_ratio_Good at h
  simp only [Bool.and_eq_true, decide_eq_true_eq] at h
  exact cfP_start h.2.2.1
theorem ref04_pos {a : Rt} (h : F_skewbackref04_Good a = true) : cfP (cfN a.d) a.d := by
  unfold F_skewbackref04_Good at h
  cases h1 : (!a.n.1.good || (!a.d.1.good))
  · rw [h1, cond_false] at h
    simp only [Bool.and_eq_true, decide_eq_true_eq] at h
    exact cfP_start h.1
  · rw [h1, cond_true] at h; cases h
theorem or_pos1 {a b : Bool} (h : (!a || !b) = false) : a = true := by cases a with | true => rfl | false => cases h
end Go.Num
