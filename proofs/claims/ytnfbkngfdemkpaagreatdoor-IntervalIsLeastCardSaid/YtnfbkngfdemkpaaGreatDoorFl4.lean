/- What these functions compute, as plain functions. No program stands in it. -/
import Derived.Test.YtnfbkngfdemkpaaGreatDoorGD
import Derived.Test.YtnfbkngfdemkpaaGreatDoorFi
import Derived.Test.YtnfbkngfdemkpaaGreatDoorFn
set_option linter.unusedVariables false
set_option linter.unusedSimpArgs false
namespace Go.Num
open Go Go.Kn
def F_skewbacklaw05_IntervalIsLeast (a : Iv) (b : Iv) : Bool :=
  bif (!(F_skewbacklaw05_short a (wl 60)) || (!(F_skewbacklaw05_short b (wl 60)))) then (F_skewbacklaw05_sanity) else (let r8 : Iv := (F_interval_Mul a b)
  bif (F_skewbacklaw05_attained r8 [(F_ratio_Mul a.lo b.lo), (F_ratio_Mul a.lo b.hi), (F_ratio_Mul a.hi b.lo), (F_ratio_Mul a.hi b.hi)]) then (bif (F_interval_Has b (F_ratio_Of (wl 0))) then (bif (F_interval_Has a (F_ratio_Of (wl 0))) then ((F_skewbacklaw05_sanity && ((F_skewbacklaw05_attained (F_interval_Abs a) ([(F_ratio_Abs a.lo), (F_ratio_Abs a.hi)] ++ [(F_ratio_Of (wl 0))])) && (F_skewbacklaw05_attained (F_interval_Power a (wl 2)) ([(F_ratio_Mul a.lo a.lo), (F_ratio_Mul a.hi a.hi)] ++ [(F_ratio_Of (wl 0))]))))) else ((F_skewbacklaw05_sanity && ((F_skewbacklaw05_attained (F_interval_Abs a) [(F_ratio_Abs a.lo), (F_ratio_Abs a.hi)]) && (F_skewbacklaw05_attained (F_interval_Power a (wl 2)) [(F_ratio_Mul a.lo a.lo), (F_ratio_Mul a.hi a.hi)]))))) else (let r34 : Iv := (F_interval_Div a b)
  bif (F_skewbacklaw05_attained r34 [(F_ratio_Div a.lo b.lo), (F_ratio_Div a.lo b.hi), (F_ratio_Div a.hi b.lo), (F_ratio_Div a.hi b.hi)]) then (bif (F_interval_Has a (F_ratio_Of (wl 0))) then ((F_skewbacklaw05_sanity && ((F_skewbacklaw05_attained (F_interval_Abs a) ([(F_ratio_Abs a.lo), (F_ratio_Abs a.hi)] ++ [(F_ratio_Of (wl 0))])) && (F_skewbacklaw05_attained (F_interval_Power a (wl 2)) ([(F_ratio_Mul a.lo a.lo), (F_ratio_Mul a.hi a.hi)] ++ [(F_ratio_Of (wl 0))]))))) else ((F_skewbacklaw05_sanity && ((F_skewbacklaw05_attained (F_interval_Abs a) [(F_ratio_Abs a.lo), (F_ratio_Abs a.hi)]) && (F_skewbacklaw05_attained (F_interval_Power a (wl 2)) [(F_ratio_Mul a.lo a.lo), (F_ratio_Mul a.hi a.hi)]))))) else (false))) else (false))
end Go.Num
