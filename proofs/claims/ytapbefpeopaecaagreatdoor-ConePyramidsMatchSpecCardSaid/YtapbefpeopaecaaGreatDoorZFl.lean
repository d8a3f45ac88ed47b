/- What these functions compute, as plain functions. No program stands in it. -/
import Derived.Test.YtapbefpeopaecaaGreatDoorZGE
import Derived.Test.YtapbefpeopaecaaGreatDoorZFSg
import Derived.Test.YtapbefpeopaecaaGreatDoorZFSr
import Derived.Test.YtapbefpeopaecaaGreatDoorZFc
import Derived.Test.YtapbefpeopaecaaGreatDoorZFi
import Derived.Test.YtapbefpeopaecaaGreatDoorZFn
set_option linter.unusedVariables false
set_option linter.unusedSimpArgs false
namespace Go.Num
open Go Go.Kn
def cQ_ (a : (A3 W)) (b : W) : Bool :=
  (bd_ && ((((a8_ a b).2).1 == ((aJ_ a b).e).1) && (bu_ ((a8_ a b).1) ((aJ_ a b).l))))
def cb_ (a : (A3 W)) (b : W) (c : (A3 Rt)) : Bool :=
  bif (bm_ c) then ((bd_ && (((ct_ a b c) == (b8_ a b c)) && (((dE_ a b c) == (ax_ a b c).is) && (((ay_ a b c).2 == (ax_ a b c).is) && (bg_ ((ay_ a b c).1) ((ax_ a b c).l))))))) else (bd_)
def aY_ (l : (List (A3 Rt))) (k : (List Rt)) : List (A3 Rt) → (Unit) ⊕ (Bool)
  | [] => .inl ()
  | x0 :: l0 => bif (bm_ x0) then ((aY_ l k l0)) else (.inr (bd_))
def aZ_ (l : (List (A3 Rt))) (k : (List Rt)) : List Rt → (Unit) ⊕ (Bool)
  | [] => .inl ()
  | x1 :: l1 => bif (bm_ (⟨x1, x1, x1⟩ : (A3 Rt))) then ((aZ_ l k l1)) else (.inr (bd_))
def bk_ (l : (List (A3 Rt))) (k : (List Rt)) : Bool :=
  bif (decide (12 < (((l).length : Nat) : Int)) || decide (14 < (((k).length : Nat) : Int))) then (bd_) else (sm (fun (s : Unit) => sm (fun (s : Unit) => (bd_ && (decide ((((aO_ l k).x).n) = (((an_ l k).x).n)) && (decide ((((aO_ l k).x).d) = (((an_ l k).x).d)) && (decide ((((aO_ l k).y).n) = (((an_ l k).y).n)) && (decide ((((aO_ l k).y).d) = (((an_ l k).y).d)) && (decide ((((aO_ l k).z).n) = (((an_ l k).z).n)) && decide ((((aO_ l k).z).d) = (((an_ l k).z).d))))))))) (fun r => r) (aZ_ l k k)) (fun r => r) (aY_ l k l))
end Go.Num

