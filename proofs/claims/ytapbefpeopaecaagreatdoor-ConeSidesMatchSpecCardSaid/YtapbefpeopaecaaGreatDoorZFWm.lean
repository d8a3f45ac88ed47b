/- What these functions compute, as plain functions. No program stands in it. -/
import Derived.Test.YtapbefpeopaecaaGreatDoorZGE
set_option linter.unusedVariables false
set_option linter.unusedSimpArgs false
namespace Go.Num
open Go Go.Kn
def cZ_ (l : (List I)) : List I → (Unit) ⊕ (Bool)
  | [] => .inl ()
  | x0 :: l0 => bif (x0.1.bad || (!x0.1.valid)) then (.inr (false)) else ((cZ_ l l0))
def cV_ (l : (List I)) : Bool :=
  sm (fun (s : Unit) => true) (fun r => r) (cZ_ l l)
end Go.Num

