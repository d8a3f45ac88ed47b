/- What these functions compute, as plain functions. No program stands in it. -/
import Derived.Test.YtapbefpeopaecaaGreatDoorZGE
set_option linter.unusedVariables false
set_option linter.unusedSimpArgs false
namespace Go.Num
open Go Go.Kn
def cY_ (a : I) (b : I) : I :=
  bif ((wordB a.1) && ((wordB b.1) && ((wordW b).1 != 0))) then (let r10 : I := (E (Z.of (W.sub (wordW a) (W.mul (wordW b) (W.fdiv (wordW a) (wordW b)))).1))
  r10) else (bif (!a.1.good || (!b.1.good || ((((dl (val b.1.w)).length : Nat) : Int) == 0))) then ((E Z.bad)) else (bif ((a.1.neg != b.1.neg) && decide (0 < (((dl ((val a.1.w) % (val b.1.w))).length : Nat) : Int))) then ((E (Z.of (sgn b.1.neg ((val b.1.w) - ((val a.1.w) % (val b.1.w))))))) else ((E (Z.of (sgn b.1.neg ((val a.1.w) % (val b.1.w))))))))
end Go.Num

