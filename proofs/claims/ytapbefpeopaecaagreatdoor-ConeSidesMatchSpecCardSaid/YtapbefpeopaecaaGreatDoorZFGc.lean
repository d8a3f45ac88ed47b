/- What these functions compute, as plain functions. No program stands in it. -/
import Derived.Test.YtapbefpeopaecaaGreatDoorZGE
import Derived.Test.YtapbefpeopaecaaGreatDoorZFSg
import Derived.Test.YtapbefpeopaecaaGreatDoorZFSr
import Derived.Test.YtapbefpeopaecaaGreatDoorZFn
set_option linter.unusedVariables false
set_option linter.unusedSimpArgs false
namespace Go.Num
open Go Go.Kn
def dN_ (a : Rt) (b : Rt) : W :=
  bif (!(a7_ a) && (!(a7_ b))) then ((wl 0)) else (bif (a7_ a) then (bif (a7_ b) then ((cf (cfN a.d) (wl 1) a.n a.d b.n b.d)) else ((wl 1))) else ((wl (-1))))
def cW_ (a : Rt) (b : Rt) : W :=
  bif (!(ae_ a) || (!(ae_ b))) then (let r7 : W := (Z.cmpW (bN_ a (ae_ a)).dec (bN_ b (ae_ b)).dec)
  r7) else ((cf (cfN a.d) (wl 1) a.n a.d b.n b.d))
end Go.Num

