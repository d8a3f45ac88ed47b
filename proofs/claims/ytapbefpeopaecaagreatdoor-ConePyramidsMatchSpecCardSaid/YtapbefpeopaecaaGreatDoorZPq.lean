/- A good fraction's denominator is greater than 0. No program stands in it. -/
import Derived.Test.YtapbefpeopaecaaGreatDoorZFGc
import Derived.Test.YtapbefpeopaecaaGreatDoorZFn

set_option linter.unusedVariables false
set_option linter.unusedSimpArgs false
namespace Go.Num
open Go Go.Kn
theorem nc_ {a : Rt} (h : a7_ a = true) : cfP (cfN a.d) a.d := by
  unfold a7_ at h
  simp only [Bool.and_eq_true, decide_eq_true_eq] at h
  exact jS_ h.2.2.1
theorem nb_ {a : Rt} (h : ae_ a = true) : cfP (cfN a.d) a.d := by
  unfold ae_ at h
  cases h1 : (!a.n.1.good || (!a.d.1.good))
  · rw [h1, cond_false] at h
    simp only [Bool.and_eq_true, decide_eq_true_eq] at h
    exact jS_ h.1
  · rw [h1, cond_true] at h; cases h
theorem qi_ {a b : Bool} (h : (!a || !b) = false) : a = true := by cases a with | true => rfl | false => cases h
end Go.Num

