/- What these functions compute, as plain functions. No program stands in it. -/
import Derived.Test.YtnfbkngfdemkpaaGreatDoorGD
import Derived.Test.YtnfbkngfdemkpaaGreatDoorFSg
set_option linter.unusedVariables false
set_option linter.unusedSimpArgs false
namespace Go.Num
open Go Go.Kn
def F_ratio_one  : I :=
  let q0 : I := (E (Z.of 1))
  q0
def F_ratio_Bad  : Rt :=
  let q0 : I := (E Z.bad)
  let q1 : I := F_ratio_one
  (⟨q0, q1⟩ : Rt)
def F_ratio_good (a : I) : Bool :=
  (!a.1.bad && a.1.valid)
def F_ratio_Good (a : Rt) : Bool :=
  ((F_ratio_good a.n) && ((F_ratio_good a.d) && (decide (0 < (Z.signW a.d.dec).1) && decide ((E (Z.gcd a.n.dec a.d.dec)) = F_ratio_one))))
def F_ratio_Make (a : I) (b : I) : Rt :=
  bif (!(F_ratio_good a) || (!(F_ratio_good b) || ((Z.signW b.dec).1 == 0))) then (F_ratio_Bad) else (bif decide ((Z.signW b.dec).1 < 0) then ((⟨(E (Z.quo a.dec (Z.neg (Z.gcd a.dec b.dec)))), (E (Z.quo b.dec (Z.neg (Z.gcd a.dec b.dec))))⟩ : Rt)) else ((⟨(E (Z.quo a.dec (Z.gcd a.dec b.dec))), (E (Z.quo b.dec (Z.gcd a.dec b.dec)))⟩ : Rt)))
def F_ratio_Whole (a : I) : Rt :=
  (F_ratio_Make a F_ratio_one)
def F_ratio_Of (a : W) : Rt :=
  (F_ratio_Whole (E (Z.of a.1)))
def F_ratio_Neg (a : Rt) : Rt :=
  bif (F_ratio_Good a) then ((⟨(E (Z.neg a.n.dec)), a.d⟩ : Rt)) else (F_ratio_Bad)
def F_ratio_Add (a : Rt) (b : Rt) : Rt :=
  bif (!(F_ratio_Good a) || (!(F_ratio_Good b))) then (F_ratio_Bad) else (let r15 : I := (E (Z.add (Z.mul a.n.dec (Z.quo b.d.dec (Z.gcd a.d.dec b.d.dec))) (Z.mul b.n.dec (Z.quo a.d.dec (Z.gcd a.d.dec b.d.dec)))))
  let r16 : Rt := (F_ratio_Make r15 (E (Z.mul (Z.quo a.d.dec (Z.gcd a.d.dec b.d.dec)) b.d.dec)))
  r16)
def F_ratio_Sub (a : Rt) (b : Rt) : Rt :=
  (F_ratio_Add a (F_ratio_Neg b))
def F_ratio_Mul (a : Rt) (b : Rt) : Rt :=
  bif (!(F_ratio_Good a) || (!(F_ratio_Good b))) then (F_ratio_Bad) else (let r26 : I := (E (Z.mul ((F_ratio_Make a.n b.d).n).dec ((F_ratio_Make b.n a.d).n).dec))
  let r27 : I := (E (Z.mul ((F_ratio_Make a.n b.d).d).dec ((F_ratio_Make b.n a.d).d).dec))
  bif (r26.1.bad || r27.1.bad) then (F_ratio_Bad) else ((⟨r26, r27⟩ : Rt)))
def F_skewbackref04_one  : I :=
  let q0 : I := (E (Z.of 1))
  q0
def F_skewbackref04_Bad  : Rt :=
  let q0 : I := (E Z.bad)
  let q1 : I := F_skewbackref04_one
  (⟨q0, q1⟩ : Rt)
def F_skewbackref04_Make (a : I) (b : I) : Rt :=
  bif (!a.1.good || (!b.1.good || ((Z.signW b.dec).1 == 0))) then (F_skewbackref04_Bad) else (bif decide ((Z.signW b.dec).1 < 0) then ((⟨(E (Z.quo a.dec (Z.neg (Z.gcd a.dec b.dec)))), (E (Z.quo b.dec (Z.neg (Z.gcd a.dec b.dec))))⟩ : Rt)) else ((⟨(E (Z.quo a.dec (Z.gcd a.dec b.dec))), (E (Z.quo b.dec (Z.gcd a.dec b.dec)))⟩ : Rt)))
def F_skewbackref04_Of (a : W) : Rt :=
  let r2 : Rt := (F_skewbackref04_Make (E (Z.of a.1)) F_skewbackref04_one)
  r2
def F_skewbackref04_Frac (a : W) (b : W) : Rt :=
  let r2 : Rt := (F_skewbackref04_Make (E (Z.of a.1)) (E (Z.of b.1)))
  r2
def F_skewbackref04_Good (a : Rt) : Bool :=
  bif (!a.n.1.good || (!a.d.1.good)) then (false) else ((decide (0 < (Z.signW a.d.dec).1) && decide ((E (Z.gcd a.n.dec a.d.dec)) = F_skewbackref04_one)))
def F_skewbackref04_Neg (a : Rt) : Rt :=
  bif (F_skewbackref04_Good a) then ((⟨(E (Z.neg a.n.dec)), a.d⟩ : Rt)) else (F_skewbackref04_Bad)
def F_skewbackref04_Add (a : Rt) (b : Rt) : Rt :=
  bif (!(F_skewbackref04_Good a) || (!(F_skewbackref04_Good b))) then (F_skewbackref04_Bad) else (let r11 : I := (E (Z.add (Z.mul a.n.dec (Z.quo b.d.dec (Z.gcd a.d.dec b.d.dec))) (Z.mul b.n.dec (Z.quo a.d.dec (Z.gcd a.d.dec b.d.dec)))))
  let r12 : Rt := (F_skewbackref04_Make r11 (E (Z.mul (Z.quo a.d.dec (Z.gcd a.d.dec b.d.dec)) b.d.dec)))
  r12)
def F_skewbackref04_Sub (a : Rt) (b : Rt) : Rt :=
  let r4 : Rt := (F_skewbackref04_Add a (F_skewbackref04_Neg b))
  r4
def F_skewbackref04_Mul (a : Rt) (b : Rt) : Rt :=
  bif (!(F_skewbackref04_Good a) || (!(F_skewbackref04_Good b))) then (F_skewbackref04_Bad) else (let r10 : I := (E (Z.mul ((F_skewbackref04_Make a.n b.d).n).dec ((F_skewbackref04_Make b.n a.d).n).dec))
  let r12 : I := (E (Z.mul ((F_skewbackref04_Make a.n b.d).d).dec ((F_skewbackref04_Make b.n a.d).d).dec))
  (F_skewbackref04_Make r10 r12))
def F_skewbackref04_kept (a : Rt) (b : Bool) : I :=
  bif b then ((E (Z.of 0))) else ((E Z.bad))
end Go.Num
