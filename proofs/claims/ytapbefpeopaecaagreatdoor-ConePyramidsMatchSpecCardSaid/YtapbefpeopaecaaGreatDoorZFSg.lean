/- What these functions compute, as plain functions. No program stands in it. -/
import Derived.Test.YtapbefpeopaecaaGreatDoorZGE
set_option linter.unusedVariables false
set_option linter.unusedSimpArgs false
namespace Go.Num
open Go Go.Kn
def dt_ (a : I) : I :=
  bif a.1.good then ((E (Z.of (sgn (!a.1.neg) (val a.1.w))))) else ((E Z.bad))
def dw_ (a : I) : I :=
  bif a.1.good then ((E (Z.of (sgn false (val a.1.w))))) else ((E Z.bad))
def cJ_ (a : I) (b : I) : I :=
  bif ((wordB a.1) && (wordB b.1)) then ((E (Z.of (W.add (wordW a) (wordW b)).1))) else (bif (!a.1.good || (!b.1.good)) then ((E Z.bad)) else (bif (a.1.neg == b.1.neg) then ((E (Z.of (sgn a.1.neg ((val a.1.w) + (val b.1.w)))))) else (bif decide ((val a.1.w) < (val b.1.w)) then ((E (Z.of (sgn b.1.neg ((val b.1.w) - (val a.1.w)))))) else ((E (Z.of (sgn a.1.neg ((val a.1.w) - (val b.1.w)))))))))
def fA_ (a : I) (b : I) : I :=
  (E (Z.add a.dec (Z.neg b.dec)))
def de_ (a : I) (b : I) : I :=
  bif ((wordB a.1) && ((wordB b.1) && ((decide ((wordW a).1 < 2147483648) && decide (-2147483648 < (wordW a).1)) && (decide ((wordW b).1 < 2147483648) && decide (-2147483648 < (wordW b).1))))) then ((E (Z.of (W.mul (wordW a) (wordW b)).1))) else (bif (!a.1.good || (!b.1.good)) then ((E Z.bad)) else ((E (Z.of (sgn (a.1.neg != b.1.neg) ((val a.1.w) * (val b.1.w)))))))
def da_ (a : I) : W :=
  bif (!a.1.good || ((((dl (val a.1.w)).length : Nat) : Int) == 0)) then ((wl 0)) else (bif a.1.neg then ((wl (-1))) else ((wl 1)))
def bA_ (a : I) (b : I) : W :=
  bif (!a.1.good && (!b.1.good)) then ((wl 0)) else (bif a.1.good then (bif b.1.good then (bif (a.1.neg != b.1.neg) then (bif a.1.neg then ((wl (-1))) else ((wl 1))) else (bif a.1.neg then (bif decide ((val b.1.w) < (val a.1.w)) then ((wl (-1))) else (bif decide ((val a.1.w) < (val b.1.w)) then ((wl 1)) else ((wl 0)))) else (bif decide ((val a.1.w) < (val b.1.w)) then ((wl (-1))) else (bif decide ((val b.1.w) < (val a.1.w)) then ((wl 1)) else ((wl 0)))))) else ((wl 1))) else ((wl (-1))))
def cX_ (a : I) (b : I) : I :=
  bif ((wordB a.1) && ((wordB b.1) && ((wordW b).1 != 0))) then ((E (Z.of (W.fdiv (wordW a) (wordW b)).1))) else (bif (!a.1.good || (!b.1.good || ((((dl (val b.1.w)).length : Nat) : Int) == 0))) then ((E Z.bad)) else (bif ((a.1.neg != b.1.neg) && decide (0 < (((dl ((val a.1.w) % (val b.1.w))).length : Nat) : Int))) then ((E (Z.of (sgn (a.1.neg != b.1.neg) (((val a.1.w) / (val b.1.w)) + 1))))) else ((E (Z.of (sgn (a.1.neg != b.1.neg) ((val a.1.w) / (val b.1.w))))))))
end Go.Num

