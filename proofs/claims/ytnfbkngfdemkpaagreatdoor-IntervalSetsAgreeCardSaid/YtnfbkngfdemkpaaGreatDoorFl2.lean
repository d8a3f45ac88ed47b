/- What these functions compute, as plain functions. No program stands in it. -/
import Derived.Test.YtnfbkngfdemkpaaGreatDoorGD
import Derived.Test.YtnfbkngfdemkpaaGreatDoorFi
set_option linter.unusedVariables false
set_option linter.unusedSimpArgs false
namespace Go.Num
open Go Go.Kn
def F_skewbacklaw05_IntervalSetsAsSpecified_loop1 (l : (List Iv)) (x : Rt) (y : Rt) (r4 : Iv) (x0 : Iv) (l0 : List Iv) (r4 : Iv) : List Iv → (Unit) ⊕ (Bool)
  | [] => .inl ()
  | x1 :: l1 => let r24 : Iv := (F_interval_Meet x0 x1).1
  let r26 : Met := (F_skewbackref05_Meet x0 x1)
  bif (!(decide (r24.lo.n = r26.a.lo.n) && (decide (r24.lo.d = r26.a.lo.d) && (decide (r24.hi.n = r26.a.hi.n) && decide (r24.hi.d = r26.a.hi.d)))) || (((F_interval_Meet x0 x1).2 != r26.is) || (((F_interval_Inside x0 x1) != (F_skewbackref05_Inside x0 x1)) || ((F_interval_Cmp x0 x1).1 != (F_skewbackref05_Cmp x0 x1).1)))) then (.inr (false)) else ((F_skewbacklaw05_IntervalSetsAsSpecified_loop1 l x y r4 x0 l0 r4 l1))
def F_skewbacklaw05_IntervalSetsAsSpecified_loop0 (l : (List Iv)) (x : Rt) (y : Rt) (r4 : Iv) : List Iv → (Unit) ⊕ (Bool)
  | [] => .inl ()
  | x0 :: l0 => bif (F_skewbackref05_Right x0) then (bif (((F_interval_IsBad x0) != (F_skewbackref05_IsBad x0)) || ((F_interval_Has x0 x) != (F_skewbackref05_Has x0 x))) then (.inr (false)) else (sm (fun (s : Unit) => (F_skewbacklaw05_IntervalSetsAsSpecified_loop0 l x y r4 l0)) (fun r => .inr r) (F_skewbacklaw05_IntervalSetsAsSpecified_loop1 l x y r4 x0 l0 r4 l))) else (.inr (F_skewbacklaw05_sanity))
def F_skewbacklaw05_IntervalSetsAsSpecified (l : (List Iv)) (x : Rt) (y : Rt) : Bool :=
  bif decide (12 < (((l).length : Nat) : Int)) then (F_skewbacklaw05_sanity) else (let r4 : Iv := (F_interval_Make x y)
  bif (!(decide (r4.lo.n = (((F_skewbackref05_Make x y).lo).n)) && (decide (r4.lo.d = (((F_skewbackref05_Make x y).lo).d)) && (decide (r4.hi.n = (((F_skewbackref05_Make x y).hi).n)) && decide (r4.hi.d = (((F_skewbackref05_Make x y).hi).d))))) || (!(decide ((((F_interval_Of x).lo).n) = (((F_skewbackref05_Make x x).lo).n)) && (decide ((((F_interval_Of x).lo).d) = (((F_skewbackref05_Make x x).lo).d)) && (decide ((((F_interval_Of x).hi).n) = (((F_skewbackref05_Make x x).hi).n)) && decide ((((F_interval_Of x).hi).d) = (((F_skewbackref05_Make x x).hi).d))))))) then (false) else (sm (fun (s : Unit) => (F_skewbacklaw05_sanity && (decide ((((F_interval_Hull l).lo).n) = (((F_skewbackref05_Hull l).lo).n)) && (decide ((((F_interval_Hull l).lo).d) = (((F_skewbackref05_Hull l).lo).d)) && (decide ((((F_interval_Hull l).hi).n) = (((F_skewbackref05_Hull l).hi).n)) && decide ((((F_interval_Hull l).hi).d) = (((F_skewbackref05_Hull l).hi).d))))))) (fun r => r) (F_skewbacklaw05_IntervalSetsAsSpecified_loop0 l x y r4 l)))
end Go.Num
