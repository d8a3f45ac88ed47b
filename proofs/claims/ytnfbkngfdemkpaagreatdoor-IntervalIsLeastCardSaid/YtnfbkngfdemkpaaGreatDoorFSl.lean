/- What these functions compute, as plain functions. No program stands in it. -/
import Derived.Test.YtnfbkngfdemkpaaGreatDoorGD
import Derived.Test.YtnfbkngfdemkpaaGreatDoorFSg
set_option linter.unusedVariables false
set_option linter.unusedSimpArgs false
namespace Go.Num
open Go Go.Kn
def F_skewbackref03_Shift (a : I) (b : W) : I :=
  bif a.1.good then (bif ((((dl (val a.1.w)).length : Nat) : Int) == 0) then (a) else (bif decide (512 < b.1) then ((E Z.bad)) else ((E (Z.of (sgn a.1.neg ((val a.1.w) * (2 ^ b.1.toNat)))))))) else ((E Z.bad))
end Go.Num
