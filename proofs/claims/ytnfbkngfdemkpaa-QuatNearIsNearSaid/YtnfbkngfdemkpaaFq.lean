/- What these functions compute, as plain functions. No program stands in it. -/
import Derived.Test.YtnfbkngfdemkpaaGD
import Derived.Test.YtnfbkngfdemkpaaFn
set_option linter.unusedVariables false
set_option linter.unusedSimpArgs false
namespace Go.Num
open Go Go.Kn
def F_quat_gcd_loop1 (l : (List W)) (x0 : W) (l0 : List W) (o : W) : Nat → W → W → W × W
  | 0, p, q => (p, q)
  | k1 + 1, p, q => bif (q.1 != 0) then ((F_quat_gcd_loop1 l x0 l0 o k1 q (W.rem p q))) else ((p, q))
def F_quat_gcd_loop0 (l : (List W)) : List W → W → W
  | [], o => o
  | x0 :: l0, o => ap (fun (s : W × W) => let p : W := s.1
  let q : W := s.2
  (F_quat_gcd_loop0 l l0 p)) (F_quat_gcd_loop1 l x0 l0 o ((W.max x0 (W.neg x0)).1.natAbs + 1) o (W.max x0 (W.neg x0)))
def F_quat_gcd (l : (List W)) : W :=
  ap (fun (s : W) => let o : W := s
  o) (F_quat_gcd_loop0 l l (wl 0))
def F_quat_low (a : (A4 W)) : Bool :=
  bif (decide (64 < (W.max a.x (W.neg a.x)).1) || ((a.x.1 == (W.neg a.x).1) && (a.x.1 != 0))) then (false) else (bif (decide (64 < (W.max a.y (W.neg a.y)).1) || ((a.y.1 == (W.neg a.y).1) && (a.y.1 != 0))) then (false) else (bif (decide (64 < (W.max a.z (W.neg a.z)).1) || ((a.z.1 == (W.neg a.z).1) && (a.z.1 != 0))) then (false) else (bif (decide (64 < (W.max a.t (W.neg a.t)).1) || ((a.t.1 == (W.neg a.t).1) && (a.t.1 != 0))) then (false) else (true))))
def F_quat_direction (a : (A4 W)) : (A4 W) × Bool :=
  bif ((F_quat_gcd [a.x, a.y, a.z, a.t]).1 == 0) then (((⟨(wl 0), (wl 0), (wl 0), (wl 0)⟩ : (A4 W)), false)) else (bif (a.x.1 != 0) then (let r6 : W := (bif decide (a.x.1 < 0) then (W.neg (F_quat_gcd [a.x, a.y, a.z, a.t])) else (F_quat_gcd [a.x, a.y, a.z, a.t]))
  ((⟨(W.quo a.x r6), (W.quo a.y r6), (W.quo a.z r6), (W.quo a.t r6)⟩ : (A4 W)), true)) else (bif (a.y.1 != 0) then (let r11 : W := (bif decide (a.y.1 < 0) then (W.neg (F_quat_gcd [a.x, a.y, a.z, a.t])) else (F_quat_gcd [a.x, a.y, a.z, a.t]))
  ((⟨(W.quo a.x r11), (W.quo a.y r11), (W.quo a.z r11), (W.quo a.t r11)⟩ : (A4 W)), true)) else (bif (a.z.1 != 0) then (let r16 : W := (bif decide (a.z.1 < 0) then (W.neg (F_quat_gcd [a.x, a.y, a.z, a.t])) else (F_quat_gcd [a.x, a.y, a.z, a.t]))
  ((⟨(W.quo a.x r16), (W.quo a.y r16), (W.quo a.z r16), (W.quo a.t r16)⟩ : (A4 W)), true)) else (bif (a.t.1 != 0) then (let r21 : W := (bif decide (a.t.1 < 0) then (W.neg (F_quat_gcd [a.x, a.y, a.z, a.t])) else (F_quat_gcd [a.x, a.y, a.z, a.t]))
  ((⟨(W.quo a.x r21), (W.quo a.y r21), (W.quo a.z r21), (W.quo a.t r21)⟩ : (A4 W)), true)) else (((⟨(W.quo a.x (F_quat_gcd [a.x, a.y, a.z, a.t])), (W.quo a.y (F_quat_gcd [a.x, a.y, a.z, a.t])), (W.quo a.z (F_quat_gcd [a.x, a.y, a.z, a.t])), (W.quo a.t (F_quat_gcd [a.x, a.y, a.z, a.t]))⟩ : (A4 W)), true))))))
def F_quat_Valid (a : (A4 W)) : Bool :=
  bif (F_quat_low a) then (let r3 : (A4 W) := (F_quat_direction a).1
  ((F_quat_direction a).2 && (decide (r3.x.1 = a.x.1) && (decide (r3.y.1 = a.y.1) && (decide (r3.z.1 = a.z.1) && decide (r3.t.1 = a.t.1)))))) else (false)
def F_quat_Identity  : (A4 W) :=
  (⟨(wl 1), (wl 0), (wl 0), (wl 0)⟩ : (A4 W))
def F_quat_Primitive (a : (A4 W)) : (A4 W) × W :=
  let r3 : (A4 W) := (F_quat_direction a).1
  bif (F_quat_direction a).2 then (bif (F_quat_low r3) then ((r3, (wl 0))) else (((⟨(wl 0), (wl 0), (wl 0), (wl 0)⟩ : (A4 W)), (wl 2)))) else (((⟨(wl 0), (wl 0), (wl 0), (wl 0)⟩ : (A4 W)), (wl 1)))
def F_quat_nearest_f : Nat → I → I → I
  | 0, _, _ => I0
  | k + 1, a, b => bif decide ((Z.signW a.dec).1 < 0) then ((E (Z.neg (F_quat_nearest_f k (E (Z.neg a.dec)) b).dec))) else (bif decide (0 < (Z.cmpW (Z.add (Z.rem a.dec b.dec) (Z.rem a.dec b.dec)) b.dec).1) then ((E (Z.add (Z.quo a.dec b.dec) (Z.of 1)))) else ((E (Z.quo a.dec b.dec))))
def F_quat_nearest (a : I) (b : I) : I := F_quat_nearest_f ((bif decide ((Z.signW a.dec).1 < 0) then 1 else 0) + 1) a b
def F_quat_Near (a : (A4 I)) : (A4 W) × W :=
  bif (a.x.1.bad || (!a.x.1.valid || decide (400 < (Z.bitsW a.x.dec).1))) then (((⟨(wl 0), (wl 0), (wl 0), (wl 0)⟩ : (A4 W)), (wl 1))) else (let r14 : I := (bif decide (0 < (Z.cmpW (Z.abs a.x.dec) I0.dec).1) then (E (Z.abs a.x.dec)) else I0)
  bif (a.y.1.bad || (!a.y.1.valid || decide (400 < (Z.bitsW a.y.dec).1))) then (((⟨(wl 0), (wl 0), (wl 0), (wl 0)⟩ : (A4 W)), (wl 1))) else (let r26 : I := (bif decide (0 < (Z.cmpW (Z.abs a.y.dec) r14.dec).1) then (E (Z.abs a.y.dec)) else r14)
  bif (a.z.1.bad || (!a.z.1.valid || decide (400 < (Z.bitsW a.z.dec).1))) then (((⟨(wl 0), (wl 0), (wl 0), (wl 0)⟩ : (A4 W)), (wl 1))) else (let r38 : I := (bif decide (0 < (Z.cmpW (Z.abs a.z.dec) r26.dec).1) then (E (Z.abs a.z.dec)) else r26)
  bif (a.t.1.bad || (!a.t.1.valid || decide (400 < (Z.bitsW a.t.dec).1))) then (((⟨(wl 0), (wl 0), (wl 0), (wl 0)⟩ : (A4 W)), (wl 1))) else (let r48 : I := (E (Z.gcd (Z.gcd (Z.gcd (Z.gcd I0.dec a.x.dec) a.y.dec) a.z.dec) a.t.dec))
  let r51 : I := (bif decide (0 < (Z.cmpW (Z.abs a.t.dec) r38.dec).1) then (E (Z.abs a.t.dec)) else r38)
  bif ((Z.signW r48.dec).1 == 0) then (((⟨(wl 0), (wl 0), (wl 0), (wl 0)⟩ : (A4 W)), (wl 1))) else (let r61 : (A4 W) := (⟨(Z.smallW (bif decide (0 < (Z.cmpW (Z.quo r51.dec r48.dec) (Z.of 64)).1) then (F_quat_nearest (E (Z.mul (Z.quo a.x.dec r48.dec) (Z.of 64))) (E (Z.quo r51.dec r48.dec))) else (E (Z.quo a.x.dec r48.dec))).dec), (wl 0), (wl 0), (wl 0)⟩ : (A4 W))
  let r71 : (A4 W) := (⟨r61.x, (Z.smallW (bif decide (0 < (Z.cmpW (Z.quo r51.dec r48.dec) (Z.of 64)).1) then (F_quat_nearest (E (Z.mul (Z.quo a.y.dec r48.dec) (Z.of 64))) (E (Z.quo r51.dec r48.dec))) else (E (Z.quo a.y.dec r48.dec))).dec), r61.z, r61.t⟩ : (A4 W))
  let r81 : (A4 W) := (⟨r71.x, r71.y, (Z.smallW (bif decide (0 < (Z.cmpW (Z.quo r51.dec r48.dec) (Z.of 64)).1) then (F_quat_nearest (E (Z.mul (Z.quo a.z.dec r48.dec) (Z.of 64))) (E (Z.quo r51.dec r48.dec))) else (E (Z.quo a.z.dec r48.dec))).dec), r71.t⟩ : (A4 W))
  let r91 : (A4 W) := (⟨r81.x, r81.y, r81.z, (Z.smallW (bif decide (0 < (Z.cmpW (Z.quo r51.dec r48.dec) (Z.of 64)).1) then (F_quat_nearest (E (Z.mul (Z.quo a.t.dec r48.dec) (Z.of 64))) (E (Z.quo r51.dec r48.dec))) else (E (Z.quo a.t.dec r48.dec))).dec)⟩ : (A4 W))
  let r97 : (A4 W) := (F_quat_direction r91).1
  (r97, (wl 0)))))))
def F_quat_sum_loop0 (a : (List W)) : Nat → W → Nat → W × Nat
  | 0, o, i => (o, i)
  | k0 + 1, o, i => bif decide (((i + 1 : Nat) : Int) < (((a).length : Nat) : Int)) then ((F_quat_sum_loop0 a k0 (W.add o (W.mul (a.getD i W.z) (a.getD (i + 1) W.z))) (i + 2))) else ((o, i))
def F_quat_sum (a : (List W)) : W :=
  ap (fun (s : W × Nat) => let o : W := s.1
  let i : Nat := s.2
  o) (F_quat_sum_loop0 a (a.length + 1) (wl 0) 0)
def F_quat_Raw (a : (A4 W)) (b : (A4 W)) : (A4 W) :=
  let r5 : W := (F_quat_sum [a.x, b.x, (W.neg a.y), b.y, (W.neg a.z), b.z, (W.neg a.t), b.t])
  (⟨r5, (F_quat_sum [a.x, b.y, a.y, b.x, a.z, b.t, (W.neg a.t), b.z]), (F_quat_sum [a.x, b.z, (W.neg a.y), b.t, a.z, b.x, a.t, b.y]), (F_quat_sum [a.x, b.t, a.y, b.z, (W.neg a.z), b.y, a.t, b.x])⟩ : (A4 W))
def F_quat_rounded (a : (A4 W)) : (A4 W) :=
  let r4 : (A4 W) := (F_quat_Near (⟨(E (Z.of a.x.1)), (E (Z.of a.y.1)), (E (Z.of a.z.1)), (E (Z.of a.t.1))⟩ : (A4 I))).1
  let r5 : W := (F_quat_Near (⟨(E (Z.of a.x.1)), (E (Z.of a.y.1)), (E (Z.of a.z.1)), (E (Z.of a.t.1))⟩ : (A4 I))).2
  r4
def F_quat_Conj (a : (A4 W)) : (A4 W) :=
  let r3 : (A4 W) := (F_quat_direction (⟨a.x, (W.neg a.y), (W.neg a.z), (W.neg a.t)⟩ : (A4 W))).1
  r3
def F_quat_Inner (a : (A4 W)) (b : (A4 W)) : W :=
  (F_quat_sum [a.x, b.x, a.y, b.y, a.z, b.z, a.t, b.t])
def F_quat_Scale (a : (A4 W)) : W :=
  (F_quat_Inner a a)
def F_quat_Matrix (a : (A4 W)) : (A9 W) :=
  (⟨(F_quat_sum [a.x, a.x, a.y, a.y, (W.neg a.z), a.z, (W.neg a.t), a.t]), (W.mul (wl 2) (F_quat_sum [a.y, a.z, (W.neg a.x), a.t])), (W.mul (wl 2) (F_quat_sum [a.y, a.t, a.x, a.z])), (W.mul (wl 2) (F_quat_sum [a.y, a.z, a.x, a.t])), (F_quat_sum [a.x, a.x, (W.neg a.y), a.y, a.z, a.z, (W.neg a.t), a.t]), (W.mul (wl 2) (F_quat_sum [a.z, a.t, (W.neg a.x), a.y])), (W.mul (wl 2) (F_quat_sum [a.y, a.t, (W.neg a.x), a.z])), (W.mul (wl 2) (F_quat_sum [a.z, a.t, a.x, a.y])), (F_quat_sum [a.x, a.x, (W.neg a.y), a.y, (W.neg a.z), a.z, a.t, a.t])⟩ : (A9 W))
def F_quat_Turn (a : (A4 W)) (b : (A3 W)) : (A3 W) :=
  let r4 : (A9 W) := (F_quat_Matrix a)
  (⟨(F_quat_sum [r4.x0, b.x, r4.x1, b.y, r4.x2, b.z]), (F_quat_sum [r4.x3, b.x, r4.x4, b.y, r4.x5, b.z]), (F_quat_sum [r4.x6, b.x, r4.x7, b.y, r4.x8, b.z])⟩ : (A3 W))
def F_quat_Rotate (a : (A4 W)) (b : (A3 W)) : (A3 Rt) :=
  let r5 : Rt := (F_ratio_Frac ((F_quat_Turn a b).x) (F_quat_Scale a))
  let r6 : Rt := (F_ratio_Frac ((F_quat_Turn a b).y) (F_quat_Scale a))
  let r7 : Rt := (F_ratio_Frac ((F_quat_Turn a b).z) (F_quat_Scale a))
  (⟨r5, r6, r7⟩ : (A3 Rt))
def F_quat_Cosine (a : (A4 W)) (b : (A4 W)) : Rt :=
  let r4 : Rt := (F_ratio_Frac (W.mul (F_quat_Inner a b) (F_quat_Inner a b)) (W.mul (F_quat_Scale a) (F_quat_Scale b)))
  r4
def F_quat_Step (a : (A4 W)) (b : (A3 W)) (c : W) : (A4 W) :=
  let r4 : (A4 W) := (F_quat_Raw a (⟨(W.shl (wl 1) (W.add (wl 11) c)), b.x, b.y, b.z⟩ : (A4 W)))
  let r5 : (A4 W) := (F_quat_rounded r4)
  r5
def F_skewbackref10_gcd_loop0 (a : W) (b : W) : Nat → W → W → W × W
  | 0, p, q => (p, q)
  | k0 + 1, p, q => bif (q.1 != 0) then ((F_skewbackref10_gcd_loop0 a b k0 q (W.rem p q))) else ((p, q))
def F_skewbackref10_gcd (a : W) (b : W) : W :=
  ap (fun (s : W × W) => let p : W := s.1
  let q : W := s.2
  (W.max p (W.neg p))) (F_skewbackref10_gcd_loop0 a b (b.1.natAbs + 1) a b)
def F_skewbackref10_sign (a : W) : W :=
  bif decide (a.1 < 0) then ((wl (-1))) else ((W.min a (wl 1)))
def F_skewbackref10_low (a : (A4 W)) : Bool :=
  bif (decide (64 < a.x.1) || decide (a.x.1 < (-64))) then (false) else (bif (decide (64 < a.y.1) || decide (a.y.1 < (-64))) then (false) else (bif (decide (64 < a.z.1) || decide (a.z.1 < (-64))) then (false) else (bif (decide (64 < a.t.1) || decide (a.t.1 < (-64))) then (false) else (true))))
def F_skewbackref10_direction (a : (A4 W)) : (A4 W) × Bool :=
  let r4 : W := (bif (a.t.1 != 0) then (F_skewbackref10_sign a.t) else (wl 0))
  let r11 : W := (bif (a.y.1 != 0) then (F_skewbackref10_sign a.y) else (bif (a.z.1 != 0) then (F_skewbackref10_sign a.z) else r4))
  bif ((W.mul (bif (a.x.1 != 0) then (F_skewbackref10_sign a.x) else r11) (W.max (F_skewbackref10_gcd (F_skewbackref10_gcd (F_skewbackref10_gcd (F_skewbackref10_gcd (wl 0) a.t) a.z) a.y) a.x) (W.neg (F_skewbackref10_gcd (F_skewbackref10_gcd (F_skewbackref10_gcd (F_skewbackref10_gcd (wl 0) a.t) a.z) a.y) a.x)))).1 == 0) then (((⟨(wl 0), (wl 0), (wl 0), (wl 0)⟩ : (A4 W)), false)) else (((⟨(W.quo a.x (W.mul (bif (a.x.1 != 0) then (F_skewbackref10_sign a.x) else r11) (W.max (F_skewbackref10_gcd (F_skewbackref10_gcd (F_skewbackref10_gcd (F_skewbackref10_gcd (wl 0) a.t) a.z) a.y) a.x) (W.neg (F_skewbackref10_gcd (F_skewbackref10_gcd (F_skewbackref10_gcd (F_skewbackref10_gcd (wl 0) a.t) a.z) a.y) a.x))))), (W.quo a.y (W.mul (bif (a.x.1 != 0) then (F_skewbackref10_sign a.x) else r11) (W.max (F_skewbackref10_gcd (F_skewbackref10_gcd (F_skewbackref10_gcd (F_skewbackref10_gcd (wl 0) a.t) a.z) a.y) a.x) (W.neg (F_skewbackref10_gcd (F_skewbackref10_gcd (F_skewbackref10_gcd (F_skewbackref10_gcd (wl 0) a.t) a.z) a.y) a.x))))), (W.quo a.z (W.mul (bif (a.x.1 != 0) then (F_skewbackref10_sign a.x) else r11) (W.max (F_skewbackref10_gcd (F_skewbackref10_gcd (F_skewbackref10_gcd (F_skewbackref10_gcd (wl 0) a.t) a.z) a.y) a.x) (W.neg (F_skewbackref10_gcd (F_skewbackref10_gcd (F_skewbackref10_gcd (F_skewbackref10_gcd (wl 0) a.t) a.z) a.y) a.x))))), (W.quo a.t (W.mul (bif (a.x.1 != 0) then (F_skewbackref10_sign a.x) else r11) (W.max (F_skewbackref10_gcd (F_skewbackref10_gcd (F_skewbackref10_gcd (F_skewbackref10_gcd (wl 0) a.t) a.z) a.y) a.x) (W.neg (F_skewbackref10_gcd (F_skewbackref10_gcd (F_skewbackref10_gcd (F_skewbackref10_gcd (wl 0) a.t) a.z) a.y) a.x)))))⟩ : (A4 W)), true))
def F_skewbackref10_Valid (a : (A4 W)) : Bool :=
  bif (F_skewbackref10_low a) then (let r3 : (A4 W) := (F_skewbackref10_direction a).1
  ((F_skewbackref10_direction a).2 && (decide (r3.x.1 = a.x.1) && (decide (r3.y.1 = a.y.1) && (decide (r3.z.1 = a.z.1) && decide (r3.t.1 = a.t.1)))))) else (false)
def F_skewbackref10_Bound (a : (A3 W)) : Bool :=
  bif (decide (1099511627776 < a.x.1) || decide (a.x.1 < (-1099511627776))) then (false) else (bif (decide (1099511627776 < a.y.1) || decide (a.y.1 < (-1099511627776))) then (false) else (bif (decide (1099511627776 < a.z.1) || decide (a.z.1 < (-1099511627776))) then (false) else (true)))
def F_skewbacklaw10_bound (a : (A4 W)) : Bool :=
  ((F_skewbackref10_Bound (⟨a.x, a.y, a.z⟩ : (A3 W))) && (F_skewbackref10_Bound (⟨a.t, (wl 0), (wl 0)⟩ : (A3 W))))
def F_skewbacklaw10_great (a : (A4 W)) (b : W) : (A4 I) :=
  (⟨(E (Z.of (W.mul a.x b).1)), (E (Z.of (W.mul a.y b).1)), (E (Z.of (W.mul a.z b).1)), (E (Z.of (W.mul a.t b).1))⟩ : (A4 I))
def F_skewbacklaw10_within (a : (A4 W)) (b : (A4 W)) (c : W) (d : W) : Bool :=
  bif decide (c.1 < (W.mul (wl 2) (W.max (W.sub (W.mul a.x (wl 64)) (W.mul (W.mul b.x d) c)) (W.neg (W.sub (W.mul a.x (wl 64)) (W.mul (W.mul b.x d) c))))).1) then (false) else (bif decide (c.1 < (W.mul (wl 2) (W.max (W.sub (W.mul a.y (wl 64)) (W.mul (W.mul b.y d) c)) (W.neg (W.sub (W.mul a.y (wl 64)) (W.mul (W.mul b.y d) c))))).1) then (false) else (bif decide (c.1 < (W.mul (wl 2) (W.max (W.sub (W.mul a.z (wl 64)) (W.mul (W.mul b.z d) c)) (W.neg (W.sub (W.mul a.z (wl 64)) (W.mul (W.mul b.z d) c))))).1) then (false) else (bif decide (c.1 < (W.mul (wl 2) (W.max (W.sub (W.mul a.t (wl 64)) (W.mul (W.mul b.t d) c)) (W.neg (W.sub (W.mul a.t (wl 64)) (W.mul (W.mul b.t d) c))))).1) then (false) else (true))))
def F_skewbacklaw10_sanity  : Bool :=
  let q0 : (A4 W) := (F_quat_Primitive (⟨(wl (-2)), (wl 0), (wl 4), (wl 6)⟩ : (A4 W))).1
  let q1 : W := (F_quat_Primitive (⟨(wl (-2)), (wl 0), (wl 4), (wl 6)⟩ : (A4 W))).2
  let q2 : (A4 W) := (F_quat_Primitive (⟨(wl 0), (wl 0), (wl 0), (wl 0)⟩ : (A4 W))).1
  let q3 : W := (F_quat_Primitive (⟨(wl 0), (wl 0), (wl 0), (wl 0)⟩ : (A4 W))).2
  let q4 : (A4 W) := (F_quat_Primitive (⟨(wl 1), (wl 65), (wl 0), (wl 0)⟩ : (A4 W))).1
  let q5 : W := (F_quat_Primitive (⟨(wl 1), (wl 65), (wl 0), (wl 0)⟩ : (A4 W))).2
  let q6 : (A3 Rt) := (F_quat_Rotate (⟨(wl 1), (wl 1), (wl 1), (wl 1)⟩ : (A4 W)) (⟨(wl 1), (wl 2), (wl 3)⟩ : (A3 W)))
  let q7 : I := (E (Z.of 1000))
  let q8 : I := (E (Z.of 3))
  let q9 : I := (E (Z.of (-500)))
  let q10 : I := (E (Z.of 8))
  let q11 : (A4 W) := (F_quat_Near (⟨q7, q8, q9, q10⟩ : (A4 I))).1
  let q12 : W := (F_quat_Near (⟨q7, q8, q9, q10⟩ : (A4 I))).2
  let q13 : (A4 W) := (F_quat_Raw (⟨(wl 1), (wl 1), (wl 0), (wl 0)⟩ : (A4 W)) (⟨(wl 1), (wl 0), (wl 1), (wl 0)⟩ : (A4 W)))
  let q14 : W := (F_quat_Scale (⟨(wl 1), (wl 1), (wl 1), (wl 1)⟩ : (A4 W)))
  let q15 : (A9 W) := (F_quat_Matrix (⟨(wl 1), (wl 1), (wl 1), (wl 1)⟩ : (A4 W)))
  let q16 : (A3 W) := (F_quat_Turn (⟨(wl 1), (wl 1), (wl 1), (wl 1)⟩ : (A4 W)) (⟨(wl 1), (wl 2), (wl 3)⟩ : (A3 W)))
  let q17 : Rt := (F_ratio_Of (wl 3))
  let q18 : Rt := (F_ratio_Of (wl 1))
  let q19 : Rt := (F_ratio_Of (wl 2))
  let q20 : (A4 W) := (F_quat_Conj (⟨(wl 0), (wl 1), (wl 2), (wl 0)⟩ : (A4 W)))
  let q21 : Rt := (F_quat_Cosine (⟨(wl 1), (wl 0), (wl 0), (wl 0)⟩ : (A4 W)) (⟨(wl 1), (wl 1), (wl 0), (wl 0)⟩ : (A4 W)))
  let q22 : Rt := (F_ratio_Frac (wl 1) (wl 2))
  let q23 : (A4 W) := F_quat_Identity
  let q24 : (A4 W) := (F_quat_Step q23 (⟨(wl 2048), (wl 0), (wl 0)⟩ : (A3 W)) (wl 0))
  let q25 : Bool := (F_quat_Valid (⟨(wl 1), (wl 1), (wl 1), (wl 1)⟩ : (A4 W)))
  let q26 : Bool := (F_quat_Valid (⟨(wl 2), (wl 2), (wl 0), (wl 0)⟩ : (A4 W)))
  (((decide (q0.x.1 = 1) && (decide (q0.y.1 = 0) && (decide (q0.z.1 = (-2)) && decide (q0.t.1 = (-3))))) && ((q1.1 == 0) && ((q3.1 == 1) && ((q5.1 == 2) && (decide (q13.x.1 = 1) && (decide (q13.y.1 = 1) && (decide (q13.z.1 = 1) && decide (q13.t.1 = 1)))))))) && (((q14.1 == 4) && ((decide (q15.x0.1 = 0) && (decide (q15.x1.1 = 0) && (decide (q15.x2.1 = 4) && (decide (q15.x3.1 = 4) && (decide (q15.x4.1 = 0) && (decide (q15.x5.1 = 0) && (decide (q15.x6.1 = 0) && (decide (q15.x7.1 = 4) && decide (q15.x8.1 = 0))))))))) && ((decide (q16.x.1 = 12) && (decide (q16.y.1 = 4) && decide (q16.z.1 = 8))) && (decide (q6.x.n = q17.n) && (decide (q6.x.d = q17.d) && (decide (q6.y.n = q18.n) && (decide (q6.y.d = q18.d) && (decide (q6.z.n = q19.n) && decide (q6.z.d = q19.d))))))))) && (((decide (q11.x.1 = 64) && (decide (q11.y.1 = 0) && (decide (q11.z.1 = (-32)) && decide (q11.t.1 = 1)))) && ((q12.1 == 0) && ((decide (q20.x.1 = 0) && (decide (q20.y.1 = 1) && (decide (q20.z.1 = 2) && decide (q20.t.1 = 0)))) && (decide (q21.n = q22.n) && decide (q21.d = q22.d))))) && ((decide (q24.x.1 = 1) && (decide (q24.y.1 = 1) && (decide (q24.z.1 = 0) && decide (q24.t.1 = 0)))) && (q25 && (!q26))))))
def F_skewbacklaw10_QuatNearIsNear_loop0 (a : (A4 W)) (b : Int) (r8 : (A4 I)) (r9 : (A4 W)) (r11 : (A4 I)) (r12 : (A4 W)) (r22 : (A4 I)) (r23 : (A4 W)) : Nat → W → (W) ⊕ (Bool)
  | 0, u => .inl u
  | k0 + 1, u => bif decide (u.1 ≤ 64) then (bif ((u.1 != 0) && (F_skewbacklaw10_within a r9 (W.max (W.max (W.max (W.max (W.max (W.max (W.max (W.max (wl 0) a.x) (W.neg a.x)) a.y) (W.neg a.y)) a.z) (W.neg a.z)) a.t) (W.neg a.t)) u)) then (.inr (F_skewbacklaw10_sanity)) else ((F_skewbacklaw10_QuatNearIsNear_loop0 a b r8 r9 r11 r12 r22 r23 k0 (W.add u (wl 1))))) else (.inl u)
def F_skewbacklaw10_QuatNearIsNear (a : (A4 W)) (b : Int) : Bool :=
  bif (!(F_skewbacklaw10_bound a) || ((decide (a.x.1 = 0) && (decide (a.y.1 = 0) && (decide (a.z.1 = 0) && decide (a.t.1 = 0)))) || (b == 0))) then (F_skewbacklaw10_sanity) else (let r8 : (A4 I) := (F_skewbacklaw10_great a (wl 1))
  let r9 : (A4 W) := (F_quat_Near r8).1
  let r11 : (A4 I) := (F_skewbacklaw10_great a (W.cv b))
  let r12 : (A4 W) := (F_quat_Near r11).1
  bif ((((F_quat_Near r8).2).1 != 0) || ((((F_quat_Near r11).2).1 != 0) || (!(decide (r9.x.1 = r12.x.1) && (decide (r9.y.1 = r12.y.1) && (decide (r9.z.1 = r12.z.1) && decide (r9.t.1 = r12.t.1)))) || (!(F_skewbackref10_Valid r9))))) then (false) else (let r22 : (A4 I) := (F_skewbacklaw10_great r9 (wl 1))
  let r23 : (A4 W) := (F_quat_Near r22).1
  bif ((((F_quat_Near r22).2).1 != 0) || (!(decide (r23.x.1 = r9.x.1) && (decide (r23.y.1 = r9.y.1) && (decide (r23.z.1 = r9.z.1) && decide (r23.t.1 = r9.t.1)))))) then (false) else (sm (fun (s : W) => let u : W := s
  let r45 : (A4 W) := (F_quat_Primitive a).1
  (F_skewbacklaw10_sanity && ((((F_quat_Primitive a).2).1 == 0) && (decide (r45.x.1 = r9.x.1) && (decide (r45.y.1 = r9.y.1) && (decide (r45.z.1 = r9.z.1) && decide (r45.t.1 = r9.t.1))))))) (fun r => r) (F_skewbacklaw10_QuatNearIsNear_loop0 a b r8 r9 r11 r12 r22 r23 (130) (wl (-64))))))
end Go.Num
