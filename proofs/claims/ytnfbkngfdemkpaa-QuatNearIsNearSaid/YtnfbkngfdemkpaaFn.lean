/- What these functions compute, as plain functions. No program stands in it. -/
import Derived.Test.YtnfbkngfdemkpaaGD
set_option linter.unusedVariables false
set_option linter.unusedSimpArgs false
namespace Go.Num
open Go Go.Kn
def F_ratio_one  : I :=
  let q0 : I := (E (Z.of 1))
  q0
def F_ratio_Bad  : Rt :=
  let q0 : I := (E Z.bad)
  let q1 : I := F_ratio_one
  (⟨q0, q1⟩ : Rt)
def F_ratio_good (a : I) : Bool :=
  (!a.1.bad && a.1.valid)
def F_ratio_Make (a : I) (b : I) : Rt :=
  bif (!(F_ratio_good a) || (!(F_ratio_good b) || ((Z.signW b.dec).1 == 0))) then (F_ratio_Bad) else (bif decide ((Z.signW b.dec).1 < 0) then ((⟨(E (Z.quo a.dec (Z.neg (Z.gcd a.dec b.dec)))), (E (Z.quo b.dec (Z.neg (Z.gcd a.dec b.dec))))⟩ : Rt)) else ((⟨(E (Z.quo a.dec (Z.gcd a.dec b.dec))), (E (Z.quo b.dec (Z.gcd a.dec b.dec)))⟩ : Rt)))
def F_ratio_Whole (a : I) : Rt :=
  (F_ratio_Make a F_ratio_one)
def F_ratio_Of (a : W) : Rt :=
  (F_ratio_Whole (E (Z.of a.1)))
def F_ratio_Frac (a : W) (b : W) : Rt :=
  let r2 : Rt := (F_ratio_Make (E (Z.of a.1)) (E (Z.of b.1)))
  r2
end Go.Num
