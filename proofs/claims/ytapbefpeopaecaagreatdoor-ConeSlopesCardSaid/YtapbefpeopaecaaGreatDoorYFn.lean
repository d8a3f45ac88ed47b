/- What these functions compute, as plain functions. No program stands in it. -/
import Derived.Test.YtapbefpeopaecaaGreatDoorYGE
set_option linter.unusedVariables false
set_option linter.unusedSimpArgs false
namespace Go.Num
open Go Go.Kn
def az_ (a : (A3 W)) : (A3 I) :=
  (⟨(E (Z.of a.x.1)), (E (Z.of a.y.1)), (E (Z.of a.z.1))⟩ : (A3 I))
def eK_ (a : (A3 I)) (b : (A3 I)) : I :=
  let r5 : I := (E (Z.add (Z.add (Z.of 0) (Z.mul a.x.dec b.x.dec)) (Z.mul a.y.dec b.y.dec)))
  (E (Z.add r5.dec (Z.mul a.z.dec b.z.dec)))
def dR_ (a : (A3 I)) (b : (A3 I)) : (A3 I) :=
  (⟨(E (Z.sub (Z.mul a.y.dec b.z.dec) (Z.mul a.z.dec b.y.dec))), (E (Z.sub (Z.mul a.z.dec b.x.dec) (Z.mul a.x.dec b.z.dec))), (E (Z.sub (Z.mul a.x.dec b.y.dec) (Z.mul a.y.dec b.x.dec)))⟩ : (A3 I))
def bc_ (a : (A3 W)) (b : (A3 W)) : I :=
  (eK_ (az_ a) (az_ b))
def a2_ (a : (A3 I)) : (A3 W) × W :=
  bif (E (Z.gcd (Z.gcd (Z.gcd (Z.of 0) a.x.dec) a.y.dec) a.z.dec)).1.bad then (((⟨(wl 0), (wl 0), (wl 0)⟩ : (A3 W)), (wl 30))) else (bif ((Z.signW (Z.gcd (Z.gcd (Z.gcd (Z.of 0) a.x.dec) a.y.dec) a.z.dec)).1 == 0) then (((⟨(wl 0), (wl 0), (wl 0)⟩ : (A3 W)), (wl 31))) else (let r11 : I := (E (Z.quo a.x.dec (Z.gcd (Z.gcd (Z.gcd (Z.of 0) a.x.dec) a.y.dec) a.z.dec)))
  bif (!r11.dec.small.2 || (decide (2305843009213693952 ≤ (Z.smallW r11.dec).1) || decide ((Z.smallW r11.dec).1 ≤ (-2305843009213693952)))) then (((⟨(wl 0), (wl 0), (wl 0)⟩ : (A3 W)), (wl 30))) else (let r19 : I := (E (Z.quo a.y.dec (Z.gcd (Z.gcd (Z.gcd (Z.of 0) a.x.dec) a.y.dec) a.z.dec)))
  bif (!r19.dec.small.2 || (decide (2305843009213693952 ≤ (Z.smallW r19.dec).1) || decide ((Z.smallW r19.dec).1 ≤ (-2305843009213693952)))) then (((⟨(wl 0), (wl 0), (wl 0)⟩ : (A3 W)), (wl 30))) else (let r27 : I := (E (Z.quo a.z.dec (Z.gcd (Z.gcd (Z.gcd (Z.of 0) a.x.dec) a.y.dec) a.z.dec)))
  bif (!r27.dec.small.2 || (decide (2305843009213693952 ≤ (Z.smallW r27.dec).1) || decide ((Z.smallW r27.dec).1 ≤ (-2305843009213693952)))) then (((⟨(wl 0), (wl 0), (wl 0)⟩ : (A3 W)), (wl 30))) else (((⟨(Z.smallW r11.dec), (Z.smallW r19.dec), (Z.smallW r27.dec)⟩ : (A3 W)), (wl 0)))))))
def F_ratio_one  : I :=
  let q0 : I := (E (Z.of 1))
  q0
def ei_  : Rt :=
  let q0 : I := (E Z.bad)
  let q1 : I := F_ratio_one
  (⟨q0, q1⟩ : Rt)
def ch_ (a : I) : Bool :=
  (!a.1.bad && a.1.valid)
def a5_ (a : Rt) : Bool :=
  ((ch_ a.n) && ((ch_ a.d) && (decide (0 < (Z.signW a.d.dec).1) && decide ((E (Z.gcd a.n.dec a.d.dec)) = F_ratio_one))))
def ap_ (a : I) (b : I) : Rt :=
  bif (!(ch_ a) || (!(ch_ b) || ((Z.signW b.dec).1 == 0))) then (ei_) else (bif decide ((Z.signW b.dec).1 < 0) then ((⟨(E (Z.quo a.dec (Z.neg (Z.gcd a.dec b.dec)))), (E (Z.quo b.dec (Z.neg (Z.gcd a.dec b.dec))))⟩ : Rt)) else ((⟨(E (Z.quo a.dec (Z.gcd a.dec b.dec))), (E (Z.quo b.dec (Z.gcd a.dec b.dec)))⟩ : Rt)))
def en_ (a : I) : Rt :=
  (ap_ a F_ratio_one)
def aa_ (a : W) : Rt :=
  (en_ (E (Z.of a.1)))
def b4_ (a : Rt) : Rt :=
  bif (a5_ a) then ((⟨(E (Z.neg a.n.dec)), a.d⟩ : Rt)) else (ei_)
def aA_ (a : Rt) (b : Rt) : Rt :=
  bif (!(a5_ a) || (!(a5_ b))) then (ei_) else (let r15 : I := (E (Z.add (Z.mul a.n.dec (Z.quo b.d.dec (Z.gcd a.d.dec b.d.dec))) (Z.mul b.n.dec (Z.quo a.d.dec (Z.gcd a.d.dec b.d.dec)))))
  let r16 : Rt := (ap_ r15 (E (Z.mul (Z.quo a.d.dec (Z.gcd a.d.dec b.d.dec)) b.d.dec)))
  r16)
def ah_ (a : Rt) (b : Rt) : Rt :=
  (aA_ a (b4_ b))
def aE_ (a : Rt) (b : Rt) : Rt :=
  bif (!(a5_ a) || (!(a5_ b))) then (ei_) else (let r26 : I := (E (Z.mul ((ap_ a.n b.d).n).dec ((ap_ b.n a.d).n).dec))
  let r27 : I := (E (Z.mul ((ap_ a.n b.d).d).dec ((ap_ b.n a.d).d).dec))
  bif (r26.1.bad || r27.1.bad) then (ei_) else ((⟨r26, r27⟩ : Rt)))
def F_skewbackref04_one  : I :=
  let q0 : I := (E (Z.of 1))
  q0
def cL_  : Rt :=
  let q0 : I := (E Z.bad)
  let q1 : I := F_skewbackref04_one
  (⟨q0, q1⟩ : Rt)
def am_ (a : I) (b : I) : Rt :=
  bif (!a.1.good || (!b.1.good || ((Z.signW b.dec).1 == 0))) then (cL_) else (bif decide ((Z.signW b.dec).1 < 0) then ((⟨(E (Z.quo a.dec (Z.neg (Z.gcd a.dec b.dec)))), (E (Z.quo b.dec (Z.neg (Z.gcd a.dec b.dec))))⟩ : Rt)) else ((⟨(E (Z.quo a.dec (Z.gcd a.dec b.dec))), (E (Z.quo b.dec (Z.gcd a.dec b.dec)))⟩ : Rt)))
def ac_ (a : W) : Rt :=
  let r2 : Rt := (am_ (E (Z.of a.1)) F_skewbackref04_one)
  r2
def ay_ (a : W) (b : W) : Rt :=
  let r2 : Rt := (am_ (E (Z.of a.1)) (E (Z.of b.1)))
  r2
def al_ (a : Rt) : Bool :=
  bif (!a.n.1.good || (!a.d.1.good)) then (false) else ((decide (0 < (Z.signW a.d.dec).1) && decide ((E (Z.gcd a.n.dec a.d.dec)) = F_skewbackref04_one)))
def bu_ (a : Rt) : Rt :=
  bif (al_ a) then ((⟨(E (Z.neg a.n.dec)), a.d⟩ : Rt)) else (cL_)
def aq_ (a : Rt) (b : Rt) : Rt :=
  bif (!(al_ a) || (!(al_ b))) then (cL_) else (let r11 : I := (E (Z.add (Z.mul a.n.dec (Z.quo b.d.dec (Z.gcd a.d.dec b.d.dec))) (Z.mul b.n.dec (Z.quo a.d.dec (Z.gcd a.d.dec b.d.dec)))))
  let r12 : Rt := (am_ r11 (E (Z.mul (Z.quo a.d.dec (Z.gcd a.d.dec b.d.dec)) b.d.dec)))
  r12)
def aw_ (a : Rt) (b : Rt) : Rt :=
  let r4 : Rt := (aq_ a (bu_ b))
  r4
def aj_ (a : Rt) (b : Rt) : Rt :=
  bif (!(al_ a) || (!(al_ b))) then (cL_) else (let r10 : I := (E (Z.mul ((am_ a.n b.d).n).dec ((am_ b.n a.d).n).dec))
  let r12 : I := (E (Z.mul ((am_ a.n b.d).d).dec ((am_ b.n a.d).d).dec))
  (am_ r10 r12))
def bw_ (a : Rt) (b : Bool) : I :=
  bif b then ((E (Z.of 0))) else ((E Z.bad))
def ao_ (a : (A3 W)) : (A3 W) × (A3 W) :=
  bif (decide (a.x.1 = 0) && (decide (a.y.1 = 0) && decide (a.z.1 = a.z.1))) then (((⟨(wl 1), (wl 0), (wl 0)⟩ : (A3 W)), (⟨(wl 0), (wl 1), (wl 0)⟩ : (A3 W)))) else (let r6 : (A3 W) := (a2_ (⟨(E (Z.neg ((az_ a).y).dec)), ((az_ a).x), (E (Z.of 0))⟩ : (A3 I))).1
  let r7 : W := (a2_ (⟨(E (Z.neg ((az_ a).y).dec)), ((az_ a).x), (E (Z.of 0))⟩ : (A3 I))).2
  let r9 : (A3 I) := (dR_ (az_ a) (az_ r6))
  let r10 : (A3 W) := (a2_ r9).1
  bif ((r7.1 != 0) || (((a2_ r9).2).1 != 0)) then (((⟨(wl 0), (wl 0), (wl 0)⟩ : (A3 W)), (⟨(wl 0), (wl 0), (wl 0)⟩ : (A3 W)))) else ((r6, r10)))
def cd_ (a : (A3 W)) : (A3 Rt) :=
  (⟨(aa_ a.x), (aa_ a.y), (aa_ a.z)⟩ : (A3 Rt))
def df_ (a : (A3 Rt)) (b : (A3 Rt)) : Rt :=
  let r5 : Rt := (aA_ (aa_ (wl 0)) (aE_ a.x b.x))
  let r6 : Rt := (aA_ r5 (aE_ a.y b.y))
  let r7 : Rt := (aA_ r6 (aE_ a.z b.z))
  r7
def dg_ (a : (A3 Rt)) (b : (A3 Rt)) : (A3 Rt) :=
  let r4 : Rt := (ah_ (aE_ a.y b.z) (aE_ a.z b.y))
  let r5 : Rt := (ah_ (aE_ a.z b.x) (aE_ a.x b.z))
  let r6 : Rt := (ah_ (aE_ a.x b.y) (aE_ a.y b.x))
  (⟨r4, r5, r6⟩ : (A3 Rt))
def bG_ (a : (A3 W)) (b : (A3 Rt)) : Rt :=
  let r4 : (A3 Rt) := (cd_ a)
  (df_ r4 b)
def cn_ (a : (A3 Rt)) (b : (A3 Rt)) : (A3 Rt) :=
  (⟨(aA_ a.x b.x), (aA_ a.y b.y), (aA_ a.z b.z)⟩ : (A3 Rt))
def ct_ (a : (A3 Rt)) (b : (A3 Rt)) : (A3 Rt) :=
  (⟨(ah_ a.x b.x), (ah_ a.y b.y), (ah_ a.z b.z)⟩ : (A3 Rt))
def b7_ (a : Rt) (b : (A3 Rt)) : (A3 Rt) :=
  (⟨(aE_ a b.x), (aE_ a b.y), (aE_ a b.z)⟩ : (A3 Rt))
def bX_ (a : (A3 W)) : Bool :=
  bif (decide (2305843009213693952 ≤ a.x.1) || decide (a.x.1 ≤ (-2305843009213693952))) then (false) else (bif (decide (2305843009213693952 ≤ a.y.1) || decide (a.y.1 ≤ (-2305843009213693952))) then (false) else (bif (decide (2305843009213693952 ≤ a.z.1) || decide (a.z.1 ≤ (-2305843009213693952))) then (false) else (true)))
def aP_ (a : (A3 W)) : (A3 I) :=
  (⟨(E (Z.of a.x.1)), (E (Z.of a.y.1)), (E (Z.of a.z.1))⟩ : (A3 I))
def a0_ (a : I) (b : I) (c : I) (d : I) : I :=
  (E (Z.sub (Z.mul a.dec b.dec) (Z.mul c.dec d.dec)))
def b9_ (a : (A3 I)) (b : (A3 I)) : I :=
  let r5 : I := (E (Z.add (Z.add (Z.mul a.x.dec b.x.dec) (Z.mul a.y.dec b.y.dec)) (Z.mul a.z.dec b.z.dec)))
  r5
def bA_ (a : (A3 I)) (b : (A3 I)) : (A3 I) :=
  (⟨(a0_ a.y b.z a.z b.y), (a0_ a.z b.x a.x b.z), (a0_ a.x b.y a.y b.x)⟩ : (A3 I))
def an_ (a : (A3 W)) (b : (A3 W)) : I :=
  let r4 : (A3 I) := (aP_ a)
  let r5 : (A3 I) := (aP_ b)
  (b9_ r4 r5)
def aV_ (a : (A3 I)) : Dir :=
  bif (E (Z.gcd (Z.gcd (Z.gcd (Z.of 0) a.x.dec) a.y.dec) a.z.dec)).1.bad then ((⟨(⟨(wl 0), (wl 0), (wl 0)⟩ : (A3 W)), (wl 30)⟩ : Dir)) else (bif ((Z.signW (Z.gcd (Z.gcd (Z.gcd (Z.of 0) a.x.dec) a.y.dec) a.z.dec)).1 == 0) then ((⟨(⟨(wl 0), (wl 0), (wl 0)⟩ : (A3 W)), (wl 31)⟩ : Dir)) else (let r7 : I := (E (Z.quo a.x.dec (Z.gcd (Z.gcd (Z.gcd (Z.of 0) a.x.dec) a.y.dec) a.z.dec)))
  bif r7.dec.small.2 then (let r9 : I := (E (Z.quo a.y.dec (Z.gcd (Z.gcd (Z.gcd (Z.of 0) a.x.dec) a.y.dec) a.z.dec)))
  bif r9.dec.small.2 then (let r11 : I := (E (Z.quo a.z.dec (Z.gcd (Z.gcd (Z.gcd (Z.of 0) a.x.dec) a.y.dec) a.z.dec)))
  bif r11.dec.small.2 then (bif (bX_ (⟨(Z.smallW r7.dec), (Z.smallW r9.dec), (Z.smallW r11.dec)⟩ : (A3 W))) then ((⟨(⟨(Z.smallW r7.dec), (Z.smallW r9.dec), (Z.smallW r11.dec)⟩ : (A3 W)), (wl 0)⟩ : Dir)) else ((⟨(⟨(wl 0), (wl 0), (wl 0)⟩ : (A3 W)), (wl 30)⟩ : Dir))) else ((⟨(⟨(wl 0), (wl 0), (wl 0)⟩ : (A3 W)), (wl 30)⟩ : Dir))) else ((⟨(⟨(wl 0), (wl 0), (wl 0)⟩ : (A3 W)), (wl 30)⟩ : Dir))) else ((⟨(⟨(wl 0), (wl 0), (wl 0)⟩ : (A3 W)), (wl 30)⟩ : Dir))))
def aJ_ (a : (A3 W)) : (A3 W) × (A3 W) :=
  bif ((a.x.1 == 0) && (a.y.1 == 0)) then (((⟨(wl 1), (wl 0), (wl 0)⟩ : (A3 W)), (⟨(wl 0), (wl 1), (wl 0)⟩ : (A3 W)))) else (let r8 : (A3 I) := (aP_ a)
  let r10 : Dir := (aV_ (⟨(E (Z.neg r8.y.dec)), r8.x, (E (Z.of 0))⟩ : (A3 I)))
  let r12 : (A3 I) := (aP_ r10.v)
  let r13 : (A3 I) := (bA_ r8 r12)
  let r14 : Dir := (aV_ r13)
  bif ((r10.e.1 != 0) || (r14.e.1 != 0)) then (((⟨(wl 0), (wl 0), (wl 0)⟩ : (A3 W)), (⟨(wl 0), (wl 0), (wl 0)⟩ : (A3 W)))) else ((r10.v, r14.v)))
def aD_ (a : (A3 Rt)) (b : (A3 Rt)) : (A3 Rt) :=
  (⟨(aq_ a.x b.x), (aq_ a.y b.y), (aq_ a.z b.z)⟩ : (A3 Rt))
def aU_ (a : (A3 Rt)) (b : (A3 Rt)) : (A3 Rt) :=
  (⟨(aw_ a.x b.x), (aw_ a.y b.y), (aw_ a.z b.z)⟩ : (A3 Rt))
def ae_ (a : Rt) (b : (A3 Rt)) : (A3 Rt) :=
  (⟨(aj_ a b.x), (aj_ a b.y), (aj_ a b.z)⟩ : (A3 Rt))
def aR_ (a : (A3 Rt)) (b : (A3 Rt)) : Rt :=
  let r5 : Rt := (aq_ (aj_ a.x b.x) (aj_ a.y b.y))
  let r6 : Rt := (aq_ r5 (aj_ a.z b.z))
  r6
def bK_ (a : Rt) (b : Rt) (c : Rt) (d : Rt) : Rt :=
  let r6 : Rt := (aw_ (aj_ a b) (aj_ c d))
  r6
def bD_ (a : (A3 Rt)) (b : (A3 Rt)) : (A3 Rt) :=
  let r4 : Rt := (bK_ a.y b.z a.z b.y)
  let r5 : Rt := (bK_ a.z b.x a.x b.z)
  let r6 : Rt := (bK_ a.x b.y a.y b.x)
  (⟨r4, r5, r6⟩ : (A3 Rt))
def ad_ (a : (A3 W)) : (A3 Rt) :=
  (⟨(ac_ a.x), (ac_ a.y), (ac_ a.z)⟩ : (A3 Rt))
def bb_ (a : (A3 W)) (b : (A3 Rt)) : Rt :=
  let r4 : (A3 Rt) := (ad_ a)
  (aR_ r4 b)
end Go.Num

set_option linter.unusedVariables false
set_option linter.unusedSimpArgs false
namespace Go.Num
open Go Go.Kn
def cK_ (a : Rt) (b : Rt) : W :=
  bif (!(a5_ a) && (!(a5_ b))) then ((wl 0)) else (bif (a5_ a) then (bif (a5_ b) then ((cf (cfN a.d) (wl 1) a.n a.d b.n b.d)) else ((wl 1))) else ((wl (-1))))
def cr_ (a : Rt) (b : Rt) : W :=
  bif (!(al_ a) || (!(al_ b))) then (let r7 : W := (Z.cmpW (bw_ a (al_ a)).dec (bw_ b (al_ b)).dec)
  r7) else ((cf (cfN a.d) (wl 1) a.n a.d b.n b.d))
end Go.Num

set_option linter.unusedVariables false
set_option linter.unusedSimpArgs false
namespace Go.Num
open Go Go.Kn
def cM_ (l : (List I)) : List I → (Unit) ⊕ (Bool)
  | [] => .inl ()
  | x0 :: l0 => bif (x0.1.bad || (!x0.1.valid)) then (.inr (false)) else ((cM_ l l0))
def cH_ (l : (List I)) : Bool :=
  sm (fun (s : Unit) => true) (fun r => r) (cM_ l l)
end Go.Num

set_option linter.unusedVariables false
set_option linter.unusedSimpArgs false
namespace Go.Num
open Go Go.Kn
def c2_ (a : I) : Nat → I → (I) ⊕ (I)
  | 0, mb11 => .inl mb11
  | k0 + 1, mb11 => bif decide (0 ≤ (Z.cmpW (Z.half (Z.add mb11.dec (Z.quo a.dec mb11.dec))) mb11.dec).1) then (.inr (mb11)) else ((c2_ a k0 (E (Z.half (Z.add mb11.dec (Z.quo a.dec mb11.dec))))))
def cQ_ (a : I) : I :=
  bif (!(cH_ [a]) || a.1.neg) then ((E Z.bad)) else (bif ((Z.signW a.dec).1 == 0) then (a) else (sm (fun (s : I) => let mb11 : I := s
  I0) (fun r => r) (c2_ a ((Z.nat (E (Z.shl (Z.of 1) (W.quo (W.add (Z.bitsW a.dec) (wl 1)) (wl 2)).1)).dec + 1)) (E (Z.shl (Z.of 1) (W.quo (W.add (Z.bitsW a.dec) (wl 1)) (wl 2)).1)))))
end Go.Num

set_option linter.unusedVariables false
set_option linter.unusedSimpArgs false
namespace Go.Num
open Go Go.Kn
def aL_ (a : Rt) : W :=
  bif (a5_ a) then ((Z.signW a.n.dec)) else ((wl 0))
def c6_ (a : Rt) : Rt :=
  bif decide ((aL_ a).1 < 0) then ((b4_ a)) else ((b4_ (b4_ a)))
def ab_ (a : Rt) (b : Rt) : Rt :=
  bif (a5_ b) then (let r5 : Rt := (aE_ a (ap_ b.d b.n))
  r5) else (ei_)
def b2_ (a : Rt) : W :=
  bif (al_ a) then ((Z.signW a.n.dec)) else ((wl 0))
end Go.Num

set_option linter.unusedVariables false
set_option linter.unusedSimpArgs false
namespace Go.Num
open Go Go.Kn
def b8_ (a : (A3 W)) (b : W) : Bool :=
  bif (decide (536870912 ≤ a.x.1) || decide (a.x.1 ≤ (-536870912))) then (false) else (bif (decide (536870912 ≤ a.y.1) || decide (a.y.1 ≤ (-536870912))) then (false) else (bif (decide (536870912 ≤ a.z.1) || decide (a.z.1 ≤ (-536870912))) then (false) else ((!(decide (a.x.1 = 0) && (decide (a.y.1 = 0) && decide (a.z.1 = 0))) && (decide (0 ≤ b.1) && decide (b.1 ≤ 4000))))))
def b5_ (a : (A3 W)) (b : W) : (A2 (A3 W)) × (A2 Rt) :=
  let r5 : I := (E (Z.mul (Z.of 1000000) (bc_ ((ao_ a).1) ((ao_ a).1)).dec))
  let r6 : I := (E (Z.quo (Z.shl (Z.mul (Z.of (W.mul b b).1) (bc_ a a).dec) 16) r5.dec))
  let r8 : Rt := (ap_ (cQ_ r6) (E (Z.of 256)))
  let r9 : I := (E (Z.mul (Z.of 1000000) (bc_ ((ao_ a).2) ((ao_ a).2)).dec))
  let r10 : I := (E (Z.quo (Z.shl (Z.mul (Z.of (W.mul b b).1) (bc_ a a).dec) 16) r9.dec))
  let r12 : Rt := (ap_ (cQ_ r10) (E (Z.of 256)))
  ((⟨((ao_ a).1), ((ao_ a).2)⟩ : (A2 (A3 W))), (⟨r8, r12⟩ : (A2 Rt)))
def af_ (a : (A3 W)) (b : W) : (List (A3 Rt)) × W :=
  bif (b8_ a b) then (let r3 : (A3 Rt) := (cd_ a)
  bif (b.1 == 0) then (([r3], (wl 0))) else (let r7 : (A2 (A3 W)) := (b5_ a b).1
  let r8 : (A2 Rt) := (b5_ a b).2
  let r11 : (A3 Rt) := (cd_ r7.x)
  let r12 : (A3 Rt) := (b7_ r8.x r11)
  let r14 : (A3 Rt) := (cn_ r3 r12)
  let r15 : (A3 Rt) := (ct_ r3 r12)
  let r21 : (A3 Rt) := (cd_ r7.y)
  let r22 : (A3 Rt) := (b7_ r8.y r21)
  let r24 : (A3 Rt) := (cn_ r3 r22)
  let r25 : (A3 Rt) := (ct_ r3 r22)
  (((([] : List (A3 Rt)) ++ [r14, r15]) ++ [r24, r25]), (wl 0)))) else ((([] : List (A3 Rt)), (wl 1)))
def em_ (a : (A3 Rt)) : Rt :=
  (df_ a a)
def dd_ (a : (A3 W)) (b : W) (c : (A3 Rt)) : Bool :=
  bif (!(b8_ a b) || decide ((aL_ (bG_ a c)).1 < 0)) then (false) else (let r8 : (A3 Rt) := (cd_ a)
  let r9 : (A3 Rt) := (dg_ c r8)
  let r10 : Rt := (aE_ (aa_ (wl 1000000)) (em_ r9))
  let r12 : Rt := (aE_ (bG_ a c) (bG_ a c))
  let r13 : Rt := (aE_ (aa_ (W.mul b b)) r12)
  (decide ((cK_ r10 r13).1 ≤ 0)))
def as_ (a : (A3 W)) (f : (A3 Rt)) : Rt :=
  let r3 : Rt := (ap_ (bc_ a a) (E (Z.of 1)))
  (ab_ (bG_ a f) r3)
def aM_ (a : (A3 W)) (b : W) (c : (A3 Rt)) : (List Rt) × Bool :=
  bif (b8_ a b) then (let r6 : (A2 (A3 W)) := (b5_ a b).1
  let r7 : (A2 Rt) := (b5_ a b).2
  bif ((aL_ (as_ r6.x c)).1 != 0) then (bif ((aL_ r7.x).1 == 0) then ((([] : List Rt), false)) else (let r14 : Rt := (c6_ (as_ r6.x c))
  let r15 : Rt := (ah_ (as_ a c) (ab_ r14 r7.x))
  bif decide (0 ≤ (aL_ (as_ r6.x c)).1) then (bif ((aL_ (as_ r6.y c)).1 != 0) then (bif ((aL_ r7.y).1 == 0) then ((([] : List Rt), false)) else (let r26 : Rt := (c6_ (as_ r6.y c))
  bif decide (0 ≤ (aL_ (as_ r6.y c)).1) then (bif decide ((aL_ (ah_ r15 (ab_ r26 r7.y))).1 < 0) then ((([] : List Rt), false)) else (bif (b.1 == 0) then (([(ah_ r15 (ab_ r26 r7.y))], true)) else (let r36 : Rt := (ab_ (ah_ r15 (ab_ r26 r7.y)) (aa_ (wl 2)))
  let r38 : Rt := (aA_ (((([] : List Rt) ++ [(ab_ r14 r7.x), (aa_ (wl 0))]) ++ [(ab_ r26 r7.y), (aa_ (wl 0))]).getD 0 Rt0) r36)
  let r39 : Rt := (aA_ (((([] : List Rt) ++ [(ab_ r14 r7.x), (aa_ (wl 0))]) ++ [(ab_ r26 r7.y), (aa_ (wl 0))]).getD 1 Rt0) r36)
  (((((([] : List Rt) ++ [(ab_ r14 r7.x), (aa_ (wl 0))]) ++ [(ab_ r26 r7.y), (aa_ (wl 0))]).set 0 r38).set 1 r39), true)))) else (bif decide ((aL_ (ah_ r15 (ab_ r26 r7.y))).1 < 0) then ((([] : List Rt), false)) else (bif (b.1 == 0) then (([(ah_ r15 (ab_ r26 r7.y))], true)) else (let r52 : Rt := (ab_ (ah_ r15 (ab_ r26 r7.y)) (aa_ (wl 2)))
  let r54 : Rt := (aA_ (((([] : List Rt) ++ [(ab_ r14 r7.x), (aa_ (wl 0))]) ++ [(aa_ (wl 0)), (ab_ r26 r7.y)]).getD 0 Rt0) r52)
  let r55 : Rt := (aA_ (((([] : List Rt) ++ [(ab_ r14 r7.x), (aa_ (wl 0))]) ++ [(aa_ (wl 0)), (ab_ r26 r7.y)]).getD 1 Rt0) r52)
  (((((([] : List Rt) ++ [(ab_ r14 r7.x), (aa_ (wl 0))]) ++ [(aa_ (wl 0)), (ab_ r26 r7.y)]).set 0 r54).set 1 r55), true)))))) else (bif decide ((aL_ (ah_ r15 (aa_ (wl 0)))).1 < 0) then ((([] : List Rt), false)) else (bif (b.1 == 0) then (([(ah_ r15 (aa_ (wl 0)))], true)) else (let r68 : Rt := (ab_ (ah_ r15 (aa_ (wl 0))) (aa_ (wl 2)))
  let r70 : Rt := (aA_ (((([] : List Rt) ++ [(ab_ r14 r7.x), (aa_ (wl 0))]) ++ [(aa_ (wl 0)), (aa_ (wl 0))]).getD 0 Rt0) r68)
  let r71 : Rt := (aA_ (((([] : List Rt) ++ [(ab_ r14 r7.x), (aa_ (wl 0))]) ++ [(aa_ (wl 0)), (aa_ (wl 0))]).getD 1 Rt0) r68)
  (((((([] : List Rt) ++ [(ab_ r14 r7.x), (aa_ (wl 0))]) ++ [(aa_ (wl 0)), (aa_ (wl 0))]).set 0 r70).set 1 r71), true))))) else (bif ((aL_ (as_ r6.y c)).1 != 0) then (bif ((aL_ r7.y).1 == 0) then ((([] : List Rt), false)) else (let r85 : Rt := (c6_ (as_ r6.y c))
  bif decide (0 ≤ (aL_ (as_ r6.y c)).1) then (bif decide ((aL_ (ah_ r15 (ab_ r85 r7.y))).1 < 0) then ((([] : List Rt), false)) else (bif (b.1 == 0) then (([(ah_ r15 (ab_ r85 r7.y))], true)) else (let r95 : Rt := (ab_ (ah_ r15 (ab_ r85 r7.y)) (aa_ (wl 2)))
  let r97 : Rt := (aA_ (((([] : List Rt) ++ [(aa_ (wl 0)), (ab_ r14 r7.x)]) ++ [(ab_ r85 r7.y), (aa_ (wl 0))]).getD 0 Rt0) r95)
  let r98 : Rt := (aA_ (((([] : List Rt) ++ [(aa_ (wl 0)), (ab_ r14 r7.x)]) ++ [(ab_ r85 r7.y), (aa_ (wl 0))]).getD 1 Rt0) r95)
  (((((([] : List Rt) ++ [(aa_ (wl 0)), (ab_ r14 r7.x)]) ++ [(ab_ r85 r7.y), (aa_ (wl 0))]).set 0 r97).set 1 r98), true)))) else (bif decide ((aL_ (ah_ r15 (ab_ r85 r7.y))).1 < 0) then ((([] : List Rt), false)) else (bif (b.1 == 0) then (([(ah_ r15 (ab_ r85 r7.y))], true)) else (let r111 : Rt := (ab_ (ah_ r15 (ab_ r85 r7.y)) (aa_ (wl 2)))
  let r113 : Rt := (aA_ (((([] : List Rt) ++ [(aa_ (wl 0)), (ab_ r14 r7.x)]) ++ [(aa_ (wl 0)), (ab_ r85 r7.y)]).getD 0 Rt0) r111)
  let r114 : Rt := (aA_ (((([] : List Rt) ++ [(aa_ (wl 0)), (ab_ r14 r7.x)]) ++ [(aa_ (wl 0)), (ab_ r85 r7.y)]).getD 1 Rt0) r111)
  (((((([] : List Rt) ++ [(aa_ (wl 0)), (ab_ r14 r7.x)]) ++ [(aa_ (wl 0)), (ab_ r85 r7.y)]).set 0 r113).set 1 r114), true)))))) else (bif decide ((aL_ (ah_ r15 (aa_ (wl 0)))).1 < 0) then ((([] : List Rt), false)) else (bif (b.1 == 0) then (([(ah_ r15 (aa_ (wl 0)))], true)) else (let r127 : Rt := (ab_ (ah_ r15 (aa_ (wl 0))) (aa_ (wl 2)))
  let r129 : Rt := (aA_ (((([] : List Rt) ++ [(aa_ (wl 0)), (ab_ r14 r7.x)]) ++ [(aa_ (wl 0)), (aa_ (wl 0))]).getD 0 Rt0) r127)
  let r130 : Rt := (aA_ (((([] : List Rt) ++ [(aa_ (wl 0)), (ab_ r14 r7.x)]) ++ [(aa_ (wl 0)), (aa_ (wl 0))]).getD 1 Rt0) r127)
  (((((([] : List Rt) ++ [(aa_ (wl 0)), (ab_ r14 r7.x)]) ++ [(aa_ (wl 0)), (aa_ (wl 0))]).set 0 r129).set 1 r130), true))))))) else (let r135 : Rt := (ah_ (as_ a c) (aa_ (wl 0)))
  bif ((aL_ (as_ r6.y c)).1 != 0) then (bif ((aL_ r7.y).1 == 0) then ((([] : List Rt), false)) else (let r145 : Rt := (c6_ (as_ r6.y c))
  bif decide (0 ≤ (aL_ (as_ r6.y c)).1) then (bif decide ((aL_ (ah_ r135 (ab_ r145 r7.y))).1 < 0) then ((([] : List Rt), false)) else (bif (b.1 == 0) then (([(ah_ r135 (ab_ r145 r7.y))], true)) else (let r155 : Rt := (ab_ (ah_ r135 (ab_ r145 r7.y)) (aa_ (wl 2)))
  let r157 : Rt := (aA_ (((([] : List Rt) ++ [(aa_ (wl 0)), (aa_ (wl 0))]) ++ [(ab_ r145 r7.y), (aa_ (wl 0))]).getD 0 Rt0) r155)
  let r158 : Rt := (aA_ (((([] : List Rt) ++ [(aa_ (wl 0)), (aa_ (wl 0))]) ++ [(ab_ r145 r7.y), (aa_ (wl 0))]).getD 1 Rt0) r155)
  (((((([] : List Rt) ++ [(aa_ (wl 0)), (aa_ (wl 0))]) ++ [(ab_ r145 r7.y), (aa_ (wl 0))]).set 0 r157).set 1 r158), true)))) else (bif decide ((aL_ (ah_ r135 (ab_ r145 r7.y))).1 < 0) then ((([] : List Rt), false)) else (bif (b.1 == 0) then (([(ah_ r135 (ab_ r145 r7.y))], true)) else (let r171 : Rt := (ab_ (ah_ r135 (ab_ r145 r7.y)) (aa_ (wl 2)))
  let r173 : Rt := (aA_ (((([] : List Rt) ++ [(aa_ (wl 0)), (aa_ (wl 0))]) ++ [(aa_ (wl 0)), (ab_ r145 r7.y)]).getD 0 Rt0) r171)
  let r174 : Rt := (aA_ (((([] : List Rt) ++ [(aa_ (wl 0)), (aa_ (wl 0))]) ++ [(aa_ (wl 0)), (ab_ r145 r7.y)]).getD 1 Rt0) r171)
  (((((([] : List Rt) ++ [(aa_ (wl 0)), (aa_ (wl 0))]) ++ [(aa_ (wl 0)), (ab_ r145 r7.y)]).set 0 r173).set 1 r174), true)))))) else (bif decide ((aL_ (ah_ r135 (aa_ (wl 0)))).1 < 0) then ((([] : List Rt), false)) else (bif (b.1 == 0) then (([(ah_ r135 (aa_ (wl 0)))], true)) else (let r187 : Rt := (ab_ (ah_ r135 (aa_ (wl 0))) (aa_ (wl 2)))
  let r189 : Rt := (aA_ (((([] : List Rt) ++ [(aa_ (wl 0)), (aa_ (wl 0))]) ++ [(aa_ (wl 0)), (aa_ (wl 0))]).getD 0 Rt0) r187)
  let r190 : Rt := (aA_ (((([] : List Rt) ++ [(aa_ (wl 0)), (aa_ (wl 0))]) ++ [(aa_ (wl 0)), (aa_ (wl 0))]).getD 1 Rt0) r187)
  (((((([] : List Rt) ++ [(aa_ (wl 0)), (aa_ (wl 0))]) ++ [(aa_ (wl 0)), (aa_ (wl 0))]).set 0 r189).set 1 r190), true)))))) else ((([] : List Rt), false))
def ey_ (a : (A3 W)) (b : W) (c : (A3 Rt)) : Bool :=
  ((aM_ a b c).2)
def c8_ (l : (List (A3 Rt))) (k : (List Rt)) (r2 : (A3 Rt)) : Nat → Nat → (A3 Rt) → Nat × (A3 Rt)
  | 0, i, mb3 => (i, mb3)
  | k0 + 1, i, mb3 => bif decide (((i : Nat) : Int) < (((min ((l).length) ((k).length)) : Nat) : Int)) then (let r9 : (A3 Rt) := (b7_ (k.getD i Rt0) (l.getD i V0))
  let r10 : (A3 Rt) := (cn_ mb3 r9)
  (c8_ l k r2 k0 (i + 1) r10)) else ((i, mb3))
def cS_ (l : (List (A3 Rt))) (k : (List Rt)) : (A3 Rt) :=
  let r2 : (A3 Rt) := (cd_ (⟨(wl 0), (wl 0), (wl 0)⟩ : (A3 W)))
  ap (fun (s : Nat × (A3 Rt)) => let i : Nat := s.1
  let mb3 : (A3 Rt) := s.2
  mb3) (c8_ l k r2 ((min l.length k.length + 1)) 0 r2)
def aK_ (a : (A3 W)) (b : W) : Bool :=
  bif (decide (536870912 ≤ a.x.1) || decide (a.x.1 ≤ (-536870912))) then (false) else (bif (decide (536870912 ≤ a.y.1) || decide (a.y.1 ≤ (-536870912))) then (false) else (bif (decide (536870912 ≤ a.z.1) || decide (a.z.1 ≤ (-536870912))) then (false) else ((!(decide (a.x.1 = 0) && (decide (a.y.1 = 0) && decide (a.z.1 = 0))) && (decide (0 ≤ b.1) && decide (b.1 ≤ 4000))))))
def aY_ (a : (A3 W)) (b : W) (c : (A3 W)) : Rt :=
  let r5 : I := (E (Z.mul (Z.mul (Z.of (W.mul b b).1) (an_ a a).dec) (Z.of 65536)))
  let r7 : I := (E (Z.sqrt (Z.quo r5.dec (Z.mul (Z.of 1000000) (an_ c c).dec))))
  let r8 : Rt := (am_ r7 (E (Z.of 256)))
  r8
def cU_ (a : (A3 W)) (b : W) : Edg :=
  bif (aK_ a b) then (let r4 : (A3 Rt) := (ad_ a)
  bif (b.1 == 0) then ((⟨[r4], (wl 0)⟩ : Edg)) else (let r8 : (A3 W) := (aJ_ a).1
  let r9 : (A3 W) := (aJ_ a).2
  let r12 : (A3 Rt) := (ad_ r8)
  let r13 : (A3 Rt) := (ae_ (aY_ a b r8) r12)
  let r15 : (A3 Rt) := (ad_ r9)
  let r16 : (A3 Rt) := (ae_ (aY_ a b r9) r15)
  let r18 : (A3 Rt) := (aD_ r4 r13)
  let r19 : (A3 Rt) := (aU_ r4 r13)
  let r20 : (A3 Rt) := (aD_ r4 r16)
  let r21 : (A3 Rt) := (aU_ r4 r16)
  (⟨[r18, r19, r20, r21], (wl 0)⟩ : Edg))) else ((⟨([] : List (A3 Rt)), (wl 1)⟩ : Edg))
def aC_ (a : (A3 W)) (b : W) (c : (A3 Rt)) : Bool :=
  bif (!(aK_ a b) || decide ((b2_ (bb_ a c)).1 < 0)) then (false) else (let r8 : (A3 Rt) := (ad_ a)
  let r9 : (A3 Rt) := (bD_ c r8)
  let r11 : Rt := (aj_ (ac_ (wl 1000000)) (aR_ r9 r9))
  let r13 : Rt := (aj_ (bb_ a c) (bb_ a c))
  let r14 : Rt := (aj_ (ac_ (W.mul b b)) r13)
  (decide ((cr_ r11 r14).1 ≤ 0)))
def cc_ (a : (List (A3 Rt))) (b : (List (A3 Rt))) : Nat → Nat → (Nat) ⊕ (Bool)
  | 0, i => .inl i
  | k0 + 1, i => bif decide (((i : Nat) : Int) < (((a).length : Nat) : Int)) then (bif (decide ((((a.getD i V0).x).n) = (((b.getD i V0).x).n)) && (decide ((((a.getD i V0).x).d) = (((b.getD i V0).x).d)) && (decide ((((a.getD i V0).y).n) = (((b.getD i V0).y).n)) && (decide ((((a.getD i V0).y).d) = (((b.getD i V0).y).d)) && (decide ((((a.getD i V0).z).n) = (((b.getD i V0).z).n)) && decide ((((a.getD i V0).z).d) = (((b.getD i V0).z).d))))))) then ((cc_ a b k0 (i + 1))) else (.inr (false))) else (.inl i)
def cp_ (a : (List (A3 Rt))) (b : (List (A3 Rt))) : Bool :=
  bif ((((a).length : Nat) : Int) != (((b).length : Nat) : Int)) then (false) else (sm (fun (s : Nat) => let i : Nat := s
  true) (fun r => r) (cc_ a b ((a.length + 1)) 0))
def aT_ (a : W) (b : W) (c : W) (d : W) : (A3 Rt) :=
  (⟨(ay_ a d), (ay_ b d), (ay_ c d)⟩ : (A3 Rt))
def ca_ (a : (List Rt)) (b : (List Rt)) : Nat → Nat → (Nat) ⊕ (Bool)
  | 0, i => .inl i
  | k0 + 1, i => bif decide (((i : Nat) : Int) < (((a).length : Nat) : Int)) then (bif (decide (((a.getD i Rt0).n) = ((b.getD i Rt0).n)) && decide (((a.getD i Rt0).d) = ((b.getD i Rt0).d))) then ((ca_ a b k0 (i + 1))) else (.inr (false))) else (.inl i)
def bR_ (a : (List Rt)) (b : (List Rt)) : Bool :=
  bif ((((a).length : Nat) : Int) != (((b).length : Nat) : Int)) then (false) else (sm (fun (s : Nat) => let i : Nat := s
  true) (fun r => r) (ca_ a b ((a.length + 1)) 0))
def cz_ (l : (List W)) : List W → (List Rt) → List Rt
  | [], out => out
  | x0 :: l0, out => (cz_ l l0 (out ++ [(ac_ x0)]))
def cA_ (l : (List W)) : (List Rt) :=
  ap (fun (s : List Rt) => let out : List Rt := s
  out) (cz_ l l ([] : List Rt))
def dn_  : Bool :=
  let q0 : (List (A3 Rt)) := (af_ (⟨(wl 0), (wl 0), (wl 1)⟩ : (A3 W)) (wl 500)).1
  let q1 : W := (af_ (⟨(wl 0), (wl 0), (wl 1)⟩ : (A3 W)) (wl 500)).2
  let q2 : (List (A3 Rt)) := (af_ (⟨(wl 0), (wl 0), (wl 0)⟩ : (A3 W)) (wl 500)).1
  let q3 : W := (af_ (⟨(wl 0), (wl 0), (wl 0)⟩ : (A3 W)) (wl 500)).2
  let q4 : (List (A3 Rt)) := (af_ (⟨(wl 0), (wl 0), (wl 1)⟩ : (A3 W)) (wl 4001)).1
  let q5 : W := (af_ (⟨(wl 0), (wl 0), (wl 1)⟩ : (A3 W)) (wl 4001)).2
  let q6 : (A3 Rt) := (aT_ (wl 1) (wl 0) (wl 2) (wl 2))
  let q7 : (A3 Rt) := (aT_ (wl (-1)) (wl 0) (wl 2) (wl 2))
  let q8 : (A3 Rt) := (aT_ (wl 0) (wl 1) (wl 2) (wl 2))
  let q9 : (A3 Rt) := (aT_ (wl 0) (wl (-1)) (wl 2) (wl 2))
  let q10 : Bool := (cp_ q0 [q6, q7, q8, q9])
  let q11 : (A3 Rt) := (aT_ (wl 1) (wl 0) (wl 2) (wl 1))
  let q12 : (A3 Rt) := (aT_ (wl 3) (wl 4) (wl 10) (wl 5))
  let q13 : (A3 Rt) := (aT_ (wl 1) (wl 1) (wl 2) (wl 1))
  let q14 : Bool := (dd_ (⟨(wl 0), (wl 0), (wl 1)⟩ : (A3 W)) (wl 500) q11)
  let q15 : Bool := (ey_ (⟨(wl 0), (wl 0), (wl 1)⟩ : (A3 W)) (wl 500) q11)
  let q16 : Bool := (dd_ (⟨(wl 0), (wl 0), (wl 1)⟩ : (A3 W)) (wl 500) q12)
  let q17 : Bool := (ey_ (⟨(wl 0), (wl 0), (wl 1)⟩ : (A3 W)) (wl 500) q12)
  let q18 : Bool := (dd_ (⟨(wl 0), (wl 0), (wl 1)⟩ : (A3 W)) (wl 500) q13)
  let q19 : Bool := (ey_ (⟨(wl 0), (wl 0), (wl 1)⟩ : (A3 W)) (wl 500) q13)
  let q20 : (A3 Rt) := (aT_ (wl 1) (wl 0) (wl 4) (wl 1))
  let q21 : (List Rt) := (aM_ (⟨(wl 0), (wl 0), (wl 1)⟩ : (A3 W)) (wl 500) q20).1
  let q22 : Bool := (aM_ (⟨(wl 0), (wl 0), (wl 1)⟩ : (A3 W)) (wl 500) q20).2
  let q23 : (A3 Rt) := (aT_ (wl 0) (wl (-1)) (wl 2) (wl 1))
  let q24 : (List Rt) := (aM_ (⟨(wl 0), (wl 0), (wl 1)⟩ : (A3 W)) (wl 500) q23).1
  let q25 : Bool := (aM_ (⟨(wl 0), (wl 0), (wl 1)⟩ : (A3 W)) (wl 500) q23).2
  let q26 : (A3 Rt) := (aT_ (wl 0) (wl 0) (wl (-1)) (wl 1))
  let q27 : (List Rt) := (aM_ (⟨(wl 0), (wl 0), (wl 1)⟩ : (A3 W)) (wl 500) q26).1
  let q28 : Bool := (aM_ (⟨(wl 0), (wl 0), (wl 1)⟩ : (A3 W)) (wl 500) q26).2
  let q29 : (List Rt) := (cA_ [(wl 3), (wl 1), (wl 0), (wl 0)])
  let q30 : Bool := (bR_ q21 q29)
  let q31 : (List Rt) := (cA_ [(wl 0), (wl 0), (wl 0), (wl 2)])
  let q32 : Bool := (bR_ q24 q31)
  let q33 : (A3 Rt) := (cS_ q0 q21)
  (((q1.1 == 0) && ((q3.1 == 1) && ((q5.1 == 1) && q10))) && ((q14 && (q15 && (q16 && (!q17 && (!q18 && (!q19)))))) && (q22 && (q25 && (!q28 && (q30 && (q32 && (decide (q33.x.n = q20.x.n) && (decide (q33.x.d = q20.x.d) && (decide (q33.y.n = q20.y.n) && (decide (q33.y.d = q20.y.d) && (decide (q33.z.n = q20.z.n) && decide (q33.z.d = q20.z.d)))))))))))))
end Go.Num

