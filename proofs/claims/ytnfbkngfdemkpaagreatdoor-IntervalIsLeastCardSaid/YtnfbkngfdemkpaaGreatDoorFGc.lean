/- What these functions compute, as plain functions. No program stands in it. -/
import Derived.Test.YtnfbkngfdemkpaaGreatDoorGD
import Derived.Test.YtnfbkngfdemkpaaGreatDoorFSg
import Derived.Test.YtnfbkngfdemkpaaGreatDoorFSr
import Derived.Test.YtnfbkngfdemkpaaGreatDoorFn
set_option linter.unusedVariables false
set_option linter.unusedSimpArgs false
namespace Go.Num
open Go Go.Kn
def F_ratio_Cmp (a : Rt) (b : Rt) : W :=
  bif (!(F_ratio_Good a) && (!(F_ratio_Good b))) then ((wl 0)) else (bif (F_ratio_Good a) then (bif (F_ratio_Good b) then ((cf (cfN a.d) (wl 1) a.n a.d b.n b.d)) else ((wl 1))) else ((wl (-1))))
def F_skewbackref04_Cmp (a : Rt) (b : Rt) : W :=
  bif (!(F_skewbackref04_Good a) || (!(F_skewbackref04_Good b))) then (let r7 : W := (Z.cmpW (F_skewbackref04_kept a (F_skewbackref04_Good a)).dec (F_skewbackref04_kept b (F_skewbackref04_Good b)).dec)
  r7) else ((cf (cfN a.d) (wl 1) a.n a.d b.n b.d))
end Go.Num
