/- What these functions compute, as plain functions. No program stands in it. -/
import Derived.Test.YthbjhbmpfeeilaaGreatGD
import Derived.Test.YthbjhbmpfeeilaaGreatFSg
set_option linter.unusedVariables false
set_option linter.unusedSimpArgs false
namespace Go.Num
open Go Go.Kn
def F_vector_Add (a : (A3 W)) (b : (A3 W)) : (A3 W) :=
  (⟨(W.add a.x b.x), (W.add a.y b.y), (W.add a.z b.z)⟩ : (A3 W))
def F_vector_Less (a : (A3 W)) (b : (A3 W)) : Bool :=
  bif (a.x.1 != b.x.1) then ((decide (a.x.1 < b.x.1))) else (bif (a.y.1 != b.y.1) then ((decide (a.y.1 < b.y.1))) else (bif (a.z.1 != b.z.1) then ((decide (a.z.1 < b.z.1))) else (false)))
def F_vector_numbers (a : (A3 W)) : (A3 I) :=
  (⟨(E (Z.of a.x.1)), (E (Z.of a.y.1)), (E (Z.of a.z.1))⟩ : (A3 I))
def F_vector_dot (a : (A3 I)) (b : (A3 I)) : I :=
  let r5 : I := (E (Z.add (Z.add (Z.of 0) (Z.mul a.x.dec b.x.dec)) (Z.mul a.y.dec b.y.dec)))
  (E (Z.add r5.dec (Z.mul a.z.dec b.z.dec)))
def F_vector_cross (a : (A3 I)) (b : (A3 I)) : (A3 I) :=
  (⟨(E (Z.sub (Z.mul a.y.dec b.z.dec) (Z.mul a.z.dec b.y.dec))), (E (Z.sub (Z.mul a.z.dec b.x.dec) (Z.mul a.x.dec b.z.dec))), (E (Z.sub (Z.mul a.x.dec b.y.dec) (Z.mul a.y.dec b.x.dec)))⟩ : (A3 I))
def F_vector_Dot (a : (A3 W)) (b : (A3 W)) : I :=
  (F_vector_dot (F_vector_numbers a) (F_vector_numbers b))
def F_vector_Cross (a : (A3 W)) (b : (A3 W)) : (A3 I) :=
  let r4 : (A3 I) := (F_vector_cross (F_vector_numbers a) (F_vector_numbers b))
  r4
def F_vector_Primitive (a : (A3 I)) : (A3 W) × W :=
  bif (E (Z.gcd (Z.gcd (Z.gcd (Z.of 0) a.x.dec) a.y.dec) a.z.dec)).1.bad then (((⟨(wl 0), (wl 0), (wl 0)⟩ : (A3 W)), (wl 30))) else (bif ((Z.signW (Z.gcd (Z.gcd (Z.gcd (Z.of 0) a.x.dec) a.y.dec) a.z.dec)).1 == 0) then (((⟨(wl 0), (wl 0), (wl 0)⟩ : (A3 W)), (wl 31))) else (let r11 : I := (E (Z.quo a.x.dec (Z.gcd (Z.gcd (Z.gcd (Z.of 0) a.x.dec) a.y.dec) a.z.dec)))
  bif (!r11.dec.small.2 || (decide (2305843009213693952 ≤ (Z.smallW r11.dec).1) || decide ((Z.smallW r11.dec).1 ≤ (-2305843009213693952)))) then (((⟨(wl 0), (wl 0), (wl 0)⟩ : (A3 W)), (wl 30))) else (let r19 : I := (E (Z.quo a.y.dec (Z.gcd (Z.gcd (Z.gcd (Z.of 0) a.x.dec) a.y.dec) a.z.dec)))
  bif (!r19.dec.small.2 || (decide (2305843009213693952 ≤ (Z.smallW r19.dec).1) || decide ((Z.smallW r19.dec).1 ≤ (-2305843009213693952)))) then (((⟨(wl 0), (wl 0), (wl 0)⟩ : (A3 W)), (wl 30))) else (let r27 : I := (E (Z.quo a.z.dec (Z.gcd (Z.gcd (Z.gcd (Z.of 0) a.x.dec) a.y.dec) a.z.dec)))
  bif (!r27.dec.small.2 || (decide (2305843009213693952 ≤ (Z.smallW r27.dec).1) || decide ((Z.smallW r27.dec).1 ≤ (-2305843009213693952)))) then (((⟨(wl 0), (wl 0), (wl 0)⟩ : (A3 W)), (wl 30))) else (((⟨(Z.smallW r11.dec), (Z.smallW r19.dec), (Z.smallW r27.dec)⟩ : (A3 W)), (wl 0)))))))
def F_ratio_one  : I :=
  let q0 : I := (E (Z.of 1))
  q0
def F_ratio_Bad  : Rt :=
  let q0 : I := (E Z.bad)
  let q1 : I := F_ratio_one
  (⟨q0, q1⟩ : Rt)
def F_ratio_good (a : I) : Bool :=
  (!a.1.bad && a.1.valid)
def F_ratio_Good (a : Rt) : Bool :=
  ((F_ratio_good a.n) && ((F_ratio_good a.d) && (decide (0 < (Z.signW a.d.dec).1) && decide ((E (Z.gcd a.n.dec a.d.dec)) = F_ratio_one))))
def F_ratio_Make (a : I) (b : I) : Rt :=
  bif (!(F_ratio_good a) || (!(F_ratio_good b) || ((Z.signW b.dec).1 == 0))) then (F_ratio_Bad) else (bif decide ((Z.signW b.dec).1 < 0) then ((⟨(E (Z.quo a.dec (Z.neg (Z.gcd a.dec b.dec)))), (E (Z.quo b.dec (Z.neg (Z.gcd a.dec b.dec))))⟩ : Rt)) else ((⟨(E (Z.quo a.dec (Z.gcd a.dec b.dec))), (E (Z.quo b.dec (Z.gcd a.dec b.dec)))⟩ : Rt)))
def F_ratio_Whole (a : I) : Rt :=
  (F_ratio_Make a F_ratio_one)
def F_ratio_Of (a : W) : Rt :=
  (F_ratio_Whole (E (Z.of a.1)))
def F_ratio_Neg (a : Rt) : Rt :=
  bif (F_ratio_Good a) then ((⟨(E (Z.neg a.n.dec)), a.d⟩ : Rt)) else (F_ratio_Bad)
def F_ratio_Add (a : Rt) (b : Rt) : Rt :=
  bif (!(F_ratio_Good a) || (!(F_ratio_Good b))) then (F_ratio_Bad) else (let r15 : I := (E (Z.add (Z.mul a.n.dec (Z.quo b.d.dec (Z.gcd a.d.dec b.d.dec))) (Z.mul b.n.dec (Z.quo a.d.dec (Z.gcd a.d.dec b.d.dec)))))
  let r16 : Rt := (F_ratio_Make r15 (E (Z.mul (Z.quo a.d.dec (Z.gcd a.d.dec b.d.dec)) b.d.dec)))
  r16)
def F_ratio_Sub (a : Rt) (b : Rt) : Rt :=
  (F_ratio_Add a (F_ratio_Neg b))
def F_ratio_Mul (a : Rt) (b : Rt) : Rt :=
  bif (!(F_ratio_Good a) || (!(F_ratio_Good b))) then (F_ratio_Bad) else (let r26 : I := (E (Z.mul ((F_ratio_Make a.n b.d).n).dec ((F_ratio_Make b.n a.d).n).dec))
  let r27 : I := (E (Z.mul ((F_ratio_Make a.n b.d).d).dec ((F_ratio_Make b.n a.d).d).dec))
  bif (r26.1.bad || r27.1.bad) then (F_ratio_Bad) else ((⟨r26, r27⟩ : Rt)))
def F_skewbackref04_one  : I :=
  let q0 : I := (E (Z.of 1))
  q0
def F_skewbackref04_Bad  : Rt :=
  let q0 : I := (E Z.bad)
  let q1 : I := F_skewbackref04_one
  (⟨q0, q1⟩ : Rt)
def F_skewbackref04_Make (a : I) (b : I) : Rt :=
  bif (!a.1.good || (!b.1.good || ((Z.signW b.dec).1 == 0))) then (F_skewbackref04_Bad) else (bif decide ((Z.signW b.dec).1 < 0) then ((⟨(E (Z.quo a.dec (Z.neg (Z.gcd a.dec b.dec)))), (E (Z.quo b.dec (Z.neg (Z.gcd a.dec b.dec))))⟩ : Rt)) else ((⟨(E (Z.quo a.dec (Z.gcd a.dec b.dec))), (E (Z.quo b.dec (Z.gcd a.dec b.dec)))⟩ : Rt)))
def F_skewbackref04_Of (a : W) : Rt :=
  let r2 : Rt := (F_skewbackref04_Make (E (Z.of a.1)) F_skewbackref04_one)
  r2
def F_skewbackref04_Frac (a : W) (b : W) : Rt :=
  let r2 : Rt := (F_skewbackref04_Make (E (Z.of a.1)) (E (Z.of b.1)))
  r2
def F_vector_Tangents (a : (A3 W)) : (A3 W) × (A3 W) :=
  bif (decide (a.x.1 = 0) && (decide (a.y.1 = 0) && decide (a.z.1 = a.z.1))) then (((⟨(wl 1), (wl 0), (wl 0)⟩ : (A3 W)), (⟨(wl 0), (wl 1), (wl 0)⟩ : (A3 W)))) else (let r6 : (A3 W) := (F_vector_Primitive (⟨(E (Z.neg ((F_vector_numbers a).y).dec)), ((F_vector_numbers a).x), (E (Z.of 0))⟩ : (A3 I))).1
  let r7 : W := (F_vector_Primitive (⟨(E (Z.neg ((F_vector_numbers a).y).dec)), ((F_vector_numbers a).x), (E (Z.of 0))⟩ : (A3 I))).2
  let r9 : (A3 I) := (F_vector_cross (F_vector_numbers a) (F_vector_numbers r6))
  let r10 : (A3 W) := (F_vector_Primitive r9).1
  bif ((r7.1 != 0) || (((F_vector_Primitive r9).2).1 != 0)) then (((⟨(wl 0), (wl 0), (wl 0)⟩ : (A3 W)), (⟨(wl 0), (wl 0), (wl 0)⟩ : (A3 W)))) else ((r6, r10)))
def F_vector_Orient_1 (a : (A3 W)) (o : (A3 W)) : (A3 I) :=
  (⟨(E (Z.sub (Z.of a.x.1) (Z.of o.x.1))), (E (Z.sub (Z.of a.y.1) (Z.of o.y.1))), (E (Z.sub (Z.of a.z.1) (Z.of o.z.1)))⟩ : (A3 I))
def F_vector_Orient (a : (A3 W)) (b : (A3 W)) (c : (A3 W)) (d : (A3 W)) : W :=
  let r5 : (A3 I) := (F_vector_cross (F_vector_Orient_1 b a) (F_vector_Orient_1 c a))
  (Z.signW (F_vector_dot r5 (F_vector_Orient_1 d a)).dec)
def F_vector_Of (a : (A3 W)) : (A3 Rt) :=
  (⟨(F_ratio_Of a.x), (F_ratio_Of a.y), (F_ratio_Of a.z)⟩ : (A3 Rt))
def F_vector_Bad (a : (A3 Rt)) : Bool :=
  (a.x.n.1.bad || (a.y.n.1.bad || a.z.n.1.bad))
def F_vector_Inner (a : (A3 Rt)) (b : (A3 Rt)) : Rt :=
  let r5 : Rt := (F_ratio_Add (F_ratio_Of (wl 0)) (F_ratio_Mul a.x b.x))
  let r6 : Rt := (F_ratio_Add r5 (F_ratio_Mul a.y b.y))
  let r7 : Rt := (F_ratio_Add r6 (F_ratio_Mul a.z b.z))
  r7
def F_vector_Outer (a : (A3 Rt)) (b : (A3 Rt)) : (A3 Rt) :=
  let r4 : Rt := (F_ratio_Sub (F_ratio_Mul a.y b.z) (F_ratio_Mul a.z b.y))
  let r5 : Rt := (F_ratio_Sub (F_ratio_Mul a.z b.x) (F_ratio_Mul a.x b.z))
  let r6 : Rt := (F_ratio_Sub (F_ratio_Mul a.x b.y) (F_ratio_Mul a.y b.x))
  (⟨r4, r5, r6⟩ : (A3 Rt))
def F_vector_Side (a : (A3 W)) (b : (A3 Rt)) : Rt :=
  let r4 : (A3 Rt) := (F_vector_Of a)
  (F_vector_Inner r4 b)
def F_skewbackref04_Good (a : Rt) : Bool :=
  bif (!a.n.1.good || (!a.d.1.good)) then (false) else ((decide (0 < (Z.signW a.d.dec).1) && decide ((E (Z.gcd a.n.dec a.d.dec)) = F_skewbackref04_one)))
def F_skewbackref04_Valid (a : Rt) : Bool :=
  ((F_skewbackref04_Good a) || (decide (a.n = F_skewbackref04_Bad.n) && decide (a.d = F_skewbackref04_Bad.d)))
def F_skewbackref04_Neg (a : Rt) : Rt :=
  bif (F_skewbackref04_Good a) then ((⟨(E (Z.neg a.n.dec)), a.d⟩ : Rt)) else (F_skewbackref04_Bad)
def F_skewbackref04_Add (a : Rt) (b : Rt) : Rt :=
  bif (!(F_skewbackref04_Good a) || (!(F_skewbackref04_Good b))) then (F_skewbackref04_Bad) else (let r11 : I := (E (Z.add (Z.mul a.n.dec (Z.quo b.d.dec (Z.gcd a.d.dec b.d.dec))) (Z.mul b.n.dec (Z.quo a.d.dec (Z.gcd a.d.dec b.d.dec)))))
  let r12 : Rt := (F_skewbackref04_Make r11 (E (Z.mul (Z.quo a.d.dec (Z.gcd a.d.dec b.d.dec)) b.d.dec)))
  r12)
def F_skewbackref04_Sub (a : Rt) (b : Rt) : Rt :=
  let r4 : Rt := (F_skewbackref04_Add a (F_skewbackref04_Neg b))
  r4
def F_skewbackref04_Mul (a : Rt) (b : Rt) : Rt :=
  bif (!(F_skewbackref04_Good a) || (!(F_skewbackref04_Good b))) then (F_skewbackref04_Bad) else (let r10 : I := (E (Z.mul ((F_skewbackref04_Make a.n b.d).n).dec ((F_skewbackref04_Make b.n a.d).n).dec))
  let r12 : I := (E (Z.mul ((F_skewbackref04_Make a.n b.d).d).dec ((F_skewbackref04_Make b.n a.d).d).dec))
  (F_skewbackref04_Make r10 r12))
def F_skewbackref04_kept (a : Rt) (b : Bool) : I :=
  bif b then ((E (Z.of 0))) else ((E Z.bad))
def F_skewbacklaw06_numbers (a : W) (b : W) (c : W) : (A3 I) :=
  (⟨(E (Z.of a.1)), (E (Z.of b.1)), (E (Z.of c.1))⟩ : (A3 I))
def F_skewbacklaw06_sanity  : Bool :=
  let q0 : I := (F_vector_Dot (⟨(wl 1), (wl 2), (wl 3)⟩ : (A3 W)) (⟨(wl 4), (wl (-5)), (wl 6)⟩ : (A3 W)))
  let q1 : I := (E (Z.of 12))
  let q2 : (A3 I) := (F_vector_Cross (⟨(wl 1), (wl 2), (wl 3)⟩ : (A3 W)) (⟨(wl 4), (wl (-5)), (wl 6)⟩ : (A3 W)))
  let q3 : (A3 I) := (F_skewbacklaw06_numbers (wl 27) (wl 6) (wl (-13)))
  let q4 : (A3 I) := (F_skewbacklaw06_numbers (wl 6) (wl (-9)) (wl 0))
  let q5 : (A3 W) := (F_vector_Primitive q4).1
  let q6 : W := (F_vector_Primitive q4).2
  let q7 : (A3 I) := (F_skewbacklaw06_numbers (wl 0) (wl 0) (wl 0))
  let q8 : (A3 W) := (F_vector_Primitive q7).1
  let q9 : W := (F_vector_Primitive q7).2
  let q10 : (A3 W) := (F_vector_Tangents (⟨(wl 0), (wl 0), (wl 5)⟩ : (A3 W))).1
  let q11 : (A3 W) := (F_vector_Tangents (⟨(wl 0), (wl 0), (wl 5)⟩ : (A3 W))).2
  let q12 : (A3 W) := (F_vector_Tangents (⟨(wl 3), (wl 0), (wl 4)⟩ : (A3 W))).1
  let q13 : (A3 W) := (F_vector_Tangents (⟨(wl 3), (wl 0), (wl 4)⟩ : (A3 W))).2
  let q14 : W := (F_vector_Orient (⟨(wl 0), (wl 0), (wl 0)⟩ : (A3 W)) (⟨(wl 1), (wl 0), (wl 0)⟩ : (A3 W)) (⟨(wl 0), (wl 1), (wl 0)⟩ : (A3 W)) (⟨(wl 0), (wl 0), (wl 1)⟩ : (A3 W)))
  let q15 : Rt := (F_skewbackref04_Frac (wl 1) (wl 2))
  let q16 : Rt := (F_skewbackref04_Of (wl 0))
  let q17 : Rt := (F_skewbackref04_Of (wl 1))
  let q18 : Rt := (F_skewbackref04_Of (wl 2))
  let q19 : Rt := (F_skewbackref04_Of (wl 5))
  let q20 : Rt := (F_skewbackref04_Frac (wl 1) (wl 3))
  let q21 : Rt := (F_vector_Inner (⟨q15, q16, q17⟩ : (A3 Rt)) (⟨q18, q19, q20⟩ : (A3 Rt)))
  let q22 : Rt := (F_skewbackref04_Frac (wl 4) (wl 3))
  let q23 : (A3 W) := (F_vector_Add (⟨(wl 1), (wl 2), (wl 3)⟩ : (A3 W)) (⟨(wl 4), (wl (-5)), (wl 6)⟩ : (A3 W)))
  let q24 : Bool := (F_vector_Less (⟨(wl 1), (wl 2), (wl 3)⟩ : (A3 W)) (⟨(wl 4), (wl (-5)), (wl 6)⟩ : (A3 W)))
  let q25 : Bool := (F_vector_Bad (⟨q15, q16, q17⟩ : (A3 Rt)))
  ((decide (q0 = q1) && (decide (q2.x = q3.x) && (decide (q2.y = q3.y) && decide (q2.z = q3.z)))) && (((decide (q5.x.1 = 2) && (decide (q5.y.1 = (-3)) && decide (q5.z.1 = 0))) && ((q6.1 == 0) && ((q9.1 == 31) && ((decide (q10.x.1 = 1) && (decide (q10.y.1 = 0) && decide (q10.z.1 = 0))) && ((decide (q11.x.1 = 0) && (decide (q11.y.1 = 1) && decide (q11.z.1 = 0))) && ((decide (q12.x.1 = 0) && (decide (q12.y.1 = 1) && decide (q12.z.1 = 0))) && (decide (q13.x.1 = (-4)) && (decide (q13.y.1 = 0) && decide (q13.z.1 = 3))))))))) && ((q14.1 == 1) && ((decide (q21.n = q22.n) && decide (q21.d = q22.d)) && ((decide (q23.x.1 = 5) && (decide (q23.y.1 = (-3)) && decide (q23.z.1 = 9))) && (q24 && (!q25)))))))
end Go.Num
