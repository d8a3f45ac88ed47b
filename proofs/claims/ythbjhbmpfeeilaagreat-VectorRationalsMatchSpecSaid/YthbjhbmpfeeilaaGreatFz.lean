/- What these functions compute, as plain functions. No program stands in it. -/
import Derived.Test.YthbjhbmpfeeilaaGreatGD
import Derived.Test.YthbjhbmpfeeilaaGreatFGc
import Derived.Test.YthbjhbmpfeeilaaGreatFn
set_option linter.unusedVariables false
set_option linter.unusedSimpArgs false
namespace Go.Num
open Go Go.Kn
def F_skewbackref06_Valid (a : (A3 Rt)) : Bool :=
  ((F_skewbackref04_Valid a.x) && ((F_skewbackref04_Valid a.y) && (F_skewbackref04_Valid a.z)))
def F_skewbackref06_Plus (a : (A3 Rt)) (b : (A3 Rt)) : (A3 Rt) :=
  (⟨(F_skewbackref04_Add a.x b.x), (F_skewbackref04_Add a.y b.y), (F_skewbackref04_Add a.z b.z)⟩ : (A3 Rt))
def F_skewbackref06_Minus (a : (A3 Rt)) (b : (A3 Rt)) : (A3 Rt) :=
  (⟨(F_skewbackref04_Sub a.x b.x), (F_skewbackref04_Sub a.y b.y), (F_skewbackref04_Sub a.z b.z)⟩ : (A3 Rt))
def F_skewbackref06_Times (a : Rt) (b : (A3 Rt)) : (A3 Rt) :=
  (⟨(F_skewbackref04_Mul a b.x), (F_skewbackref04_Mul a b.y), (F_skewbackref04_Mul a b.z)⟩ : (A3 Rt))
def F_skewbackref06_Inner (a : (A3 Rt)) (b : (A3 Rt)) : Rt :=
  let r5 : Rt := (F_skewbackref04_Add (F_skewbackref04_Mul a.x b.x) (F_skewbackref04_Mul a.y b.y))
  let r6 : Rt := (F_skewbackref04_Add r5 (F_skewbackref04_Mul a.z b.z))
  r6
def F_skewbackref06_difference (a : Rt) (b : Rt) (c : Rt) (d : Rt) : Rt :=
  let r6 : Rt := (F_skewbackref04_Sub (F_skewbackref04_Mul a b) (F_skewbackref04_Mul c d))
  r6
def F_skewbackref06_Outer (a : (A3 Rt)) (b : (A3 Rt)) : (A3 Rt) :=
  let r4 : Rt := (F_skewbackref06_difference a.y b.z a.z b.y)
  let r5 : Rt := (F_skewbackref06_difference a.z b.x a.x b.z)
  let r6 : Rt := (F_skewbackref06_difference a.x b.y a.y b.x)
  (⟨r4, r5, r6⟩ : (A3 Rt))
def F_skewbackref06_Of (a : (A3 W)) : (A3 Rt) :=
  (⟨(F_skewbackref04_Of a.x), (F_skewbackref04_Of a.y), (F_skewbackref04_Of a.z)⟩ : (A3 Rt))
def F_skewbackref06_Side (a : (A3 W)) (b : (A3 Rt)) : Rt :=
  let r4 : (A3 Rt) := (F_skewbackref06_Of a)
  (F_skewbackref06_Inner r4 b)
def F_skewbackref06_Bad (a : (A3 Rt)) : Bool :=
  (a.x.n.1.bad || (a.y.n.1.bad || a.z.n.1.bad))
def F_skewbackref06_Before (a : (A3 Rt)) (b : (A3 Rt)) : Bool :=
  bif ((F_skewbackref04_Cmp a.x b.x).1 != 0) then ((decide ((F_skewbackref04_Cmp a.x b.x).1 < 0))) else (bif ((F_skewbackref04_Cmp a.y b.y).1 != 0) then ((decide ((F_skewbackref04_Cmp a.y b.y).1 < 0))) else (bif ((F_skewbackref04_Cmp a.z b.z).1 != 0) then ((decide ((F_skewbackref04_Cmp a.z b.z).1 < 0))) else (false)))
def F_vector_Plus (a : (A3 Rt)) (b : (A3 Rt)) : (A3 Rt) :=
  (⟨(F_ratio_Add a.x b.x), (F_ratio_Add a.y b.y), (F_ratio_Add a.z b.z)⟩ : (A3 Rt))
def F_vector_Minus (a : (A3 Rt)) (b : (A3 Rt)) : (A3 Rt) :=
  (⟨(F_ratio_Sub a.x b.x), (F_ratio_Sub a.y b.y), (F_ratio_Sub a.z b.z)⟩ : (A3 Rt))
def F_vector_Times (a : Rt) (b : (A3 Rt)) : (A3 Rt) :=
  (⟨(F_ratio_Mul a b.x), (F_ratio_Mul a b.y), (F_ratio_Mul a b.z)⟩ : (A3 Rt))
def F_vector_Before (a : (A3 Rt)) (b : (A3 Rt)) : Bool :=
  bif ((F_ratio_Cmp a.x b.x).1 != 0) then ((decide ((F_ratio_Cmp a.x b.x).1 < 0))) else (bif ((F_ratio_Cmp a.y b.y).1 != 0) then ((decide ((F_ratio_Cmp a.y b.y).1 < 0))) else (bif ((F_ratio_Cmp a.z b.z).1 != 0) then ((decide ((F_ratio_Cmp a.z b.z).1 < 0))) else (false)))
def F_skewbacklaw06_VectorRationalsMatchSpec (a : (A3 Rt)) (b : (A3 Rt)) (c : Rt) (d : (A3 W)) : Bool :=
  bif (!(F_skewbackref06_Valid a) || (!(F_skewbackref06_Valid b) || (!(F_skewbackref04_Valid c)))) then (F_skewbacklaw06_sanity) else ((F_skewbacklaw06_sanity && (((decide ((((F_vector_Plus a b).x).n) = (((F_skewbackref06_Plus a b).x).n)) && (decide ((((F_vector_Plus a b).x).d) = (((F_skewbackref06_Plus a b).x).d)) && (decide ((((F_vector_Plus a b).y).n) = (((F_skewbackref06_Plus a b).y).n)) && (decide ((((F_vector_Plus a b).y).d) = (((F_skewbackref06_Plus a b).y).d)) && (decide ((((F_vector_Plus a b).z).n) = (((F_skewbackref06_Plus a b).z).n)) && decide ((((F_vector_Plus a b).z).d) = (((F_skewbackref06_Plus a b).z).d))))))) && ((decide ((((F_vector_Minus a b).x).n) = (((F_skewbackref06_Minus a b).x).n)) && (decide ((((F_vector_Minus a b).x).d) = (((F_skewbackref06_Minus a b).x).d)) && (decide ((((F_vector_Minus a b).y).n) = (((F_skewbackref06_Minus a b).y).n)) && (decide ((((F_vector_Minus a b).y).d) = (((F_skewbackref06_Minus a b).y).d)) && (decide ((((F_vector_Minus a b).z).n) = (((F_skewbackref06_Minus a b).z).n)) && decide ((((F_vector_Minus a b).z).d) = (((F_skewbackref06_Minus a b).z).d))))))) && (decide ((((F_vector_Times c a).x).n) = (((F_skewbackref06_Times c a).x).n)) && (decide ((((F_vector_Times c a).x).d) = (((F_skewbackref06_Times c a).x).d)) && (decide ((((F_vector_Times c a).y).n) = (((F_skewbackref06_Times c a).y).n)) && (decide ((((F_vector_Times c a).y).d) = (((F_skewbackref06_Times c a).y).d)) && (decide ((((F_vector_Times c a).z).n) = (((F_skewbackref06_Times c a).z).n)) && decide ((((F_vector_Times c a).z).d) = (((F_skewbackref06_Times c a).z).d))))))))) && (((decide (((F_vector_Inner a b).n) = ((F_skewbackref06_Inner a b).n)) && decide (((F_vector_Inner a b).d) = ((F_skewbackref06_Inner a b).d))) && ((decide ((((F_vector_Outer a b).x).n) = (((F_skewbackref06_Outer a b).x).n)) && (decide ((((F_vector_Outer a b).x).d) = (((F_skewbackref06_Outer a b).x).d)) && (decide ((((F_vector_Outer a b).y).n) = (((F_skewbackref06_Outer a b).y).n)) && (decide ((((F_vector_Outer a b).y).d) = (((F_skewbackref06_Outer a b).y).d)) && (decide ((((F_vector_Outer a b).z).n) = (((F_skewbackref06_Outer a b).z).n)) && decide ((((F_vector_Outer a b).z).d) = (((F_skewbackref06_Outer a b).z).d))))))) && (decide (((F_vector_Side d a).n) = ((F_skewbackref06_Side d a).n)) && decide (((F_vector_Side d a).d) = ((F_skewbackref06_Side d a).d))))) && ((decide ((((F_vector_Of d).x).n) = (((F_skewbackref06_Of d).x).n)) && (decide ((((F_vector_Of d).x).d) = (((F_skewbackref06_Of d).x).d)) && (decide ((((F_vector_Of d).y).n) = (((F_skewbackref06_Of d).y).n)) && (decide ((((F_vector_Of d).y).d) = (((F_skewbackref06_Of d).y).d)) && (decide ((((F_vector_Of d).z).n) = (((F_skewbackref06_Of d).z).n)) && decide ((((F_vector_Of d).z).d) = (((F_skewbackref06_Of d).z).d))))))) && (((F_vector_Bad a) == (F_skewbackref06_Bad a)) && ((F_vector_Before a b) == (F_skewbackref06_Before a b))))))))
end Go.Num
