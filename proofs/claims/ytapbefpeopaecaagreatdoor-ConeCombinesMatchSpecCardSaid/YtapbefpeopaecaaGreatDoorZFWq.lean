/- What these functions compute, as plain functions. No program stands in it. -/
import Derived.Test.YtapbefpeopaecaaGreatDoorZGE
import Derived.Test.YtapbefpeopaecaaGreatDoorZFWm
set_option linter.unusedVariables false
set_option linter.unusedSimpArgs false
namespace Go.Num
open Go Go.Kn
def dk_ (a : I) : Nat → I → (I) ⊕ (I)
  | 0, mb11 => .inl mb11
  | k0 + 1, mb11 => bif decide (0 ≤ (Z.cmpW (Z.half (Z.add mb11.dec (Z.quo a.dec mb11.dec))) mb11.dec).1) then (.inr (mb11)) else ((dk_ a k0 (E (Z.half (Z.add mb11.dec (Z.quo a.dec mb11.dec))))))
def c0_ (a : I) : I :=
  bif (!(cV_ [a]) || a.1.neg) then ((E Z.bad)) else (bif ((Z.signW a.dec).1 == 0) then (a) else (sm (fun (s : I) => let mb11 : I := s
  I0) (fun r => r) (dk_ a ((Z.nat (E (Z.shl (Z.of 1) (W.quo (W.add (Z.bitsW a.dec) (wl 1)) (wl 2)).1)).dec + 1)) (E (Z.shl (Z.of 1) (W.quo (W.add (Z.bitsW a.dec) (wl 1)) (wl 2)).1)))))
end Go.Num

