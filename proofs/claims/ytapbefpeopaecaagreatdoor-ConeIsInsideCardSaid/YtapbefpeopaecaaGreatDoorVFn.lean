/- What these functions compute, as plain functions. No program stands in it. -/
import Derived.Test.YtapbefpeopaecaaGreatDoorVGE
set_option linter.unusedVariables false
set_option linter.unusedSimpArgs false
namespace Go.Num
open Go Go.Kn
def aA_ (a : (A3 W)) : (A3 I) :=
  (⟨(E (Z.of a.x.1)), (E (Z.of a.y.1)), (E (Z.of a.z.1))⟩ : (A3 I))
def eI_ (a : (A3 I)) (b : (A3 I)) : I :=
  let r5 : I := (E (Z.add (Z.add (Z.of 0) (Z.mul a.x.dec b.x.dec)) (Z.mul a.y.dec b.y.dec)))
  (E (Z.add r5.dec (Z.mul a.z.dec b.z.dec)))
def dH_ (a : (A3 I)) (b : (A3 I)) : (A3 I) :=
  (⟨(E (Z.sub (Z.mul a.y.dec b.z.dec) (Z.mul a.z.dec b.y.dec))), (E (Z.sub (Z.mul a.z.dec b.x.dec) (Z.mul a.x.dec b.z.dec))), (E (Z.sub (Z.mul a.x.dec b.y.dec) (Z.mul a.y.dec b.x.dec)))⟩ : (A3 I))
def a5_ (a : (A3 W)) (b : (A3 W)) : I :=
  (eI_ (aA_ a) (aA_ b))
def aV_ (a : (A3 I)) : (A3 W) × W :=
  bif (E (Z.gcd (Z.gcd (Z.gcd (Z.of 0) a.x.dec) a.y.dec) a.z.dec)).1.bad then (((⟨(wl 0), (wl 0), (wl 0)⟩ : (A3 W)), (wl 30))) else (bif ((Z.signW (Z.gcd (Z.gcd (Z.gcd (Z.of 0) a.x.dec) a.y.dec) a.z.dec)).1 == 0) then (((⟨(wl 0), (wl 0), (wl 0)⟩ : (A3 W)), (wl 31))) else (let r11 : I := (E (Z.quo a.x.dec (Z.gcd (Z.gcd (Z.gcd (Z.of 0) a.x.dec) a.y.dec) a.z.dec)))
  bif (!r11.dec.small.2 || (decide (2305843009213693952 ≤ (Z.smallW r11.dec).1) || decide ((Z.smallW r11.dec).1 ≤ (-2305843009213693952)))) then (((⟨(wl 0), (wl 0), (wl 0)⟩ : (A3 W)), (wl 30))) else (let r19 : I := (E (Z.quo a.y.dec (Z.gcd (Z.gcd (Z.gcd (Z.of 0) a.x.dec) a.y.dec) a.z.dec)))
  bif (!r19.dec.small.2 || (decide (2305843009213693952 ≤ (Z.smallW r19.dec).1) || decide ((Z.smallW r19.dec).1 ≤ (-2305843009213693952)))) then (((⟨(wl 0), (wl 0), (wl 0)⟩ : (A3 W)), (wl 30))) else (let r27 : I := (E (Z.quo a.z.dec (Z.gcd (Z.gcd (Z.gcd (Z.of 0) a.x.dec) a.y.dec) a.z.dec)))
  bif (!r27.dec.small.2 || (decide (2305843009213693952 ≤ (Z.smallW r27.dec).1) || decide ((Z.smallW r27.dec).1 ≤ (-2305843009213693952)))) then (((⟨(wl 0), (wl 0), (wl 0)⟩ : (A3 W)), (wl 30))) else (((⟨(Z.smallW r11.dec), (Z.smallW r19.dec), (Z.smallW r27.dec)⟩ : (A3 W)), (wl 0)))))))
def F_ratio_one  : I :=
  let q0 : I := (E (Z.of 1))
  q0
def ed_  : Rt :=
  let q0 : I := (E Z.bad)
  let q1 : I := F_ratio_one
  (⟨q0, q1⟩ : Rt)
def ce_ (a : I) : Bool :=
  (!a.1.bad && a.1.valid)
def a0_ (a : Rt) : Bool :=
  ((ce_ a.n) && ((ce_ a.d) && (decide (0 < (Z.signW a.d.dec).1) && decide ((E (Z.gcd a.n.dec a.d.dec)) = F_ratio_one))))
def ar_ (a : I) (b : I) : Rt :=
  bif (!(ce_ a) || (!(ce_ b) || ((Z.signW b.dec).1 == 0))) then (ed_) else (bif decide ((Z.signW b.dec).1 < 0) then ((⟨(E (Z.quo a.dec (Z.neg (Z.gcd a.dec b.dec)))), (E (Z.quo b.dec (Z.neg (Z.gcd a.dec b.dec))))⟩ : Rt)) else ((⟨(E (Z.quo a.dec (Z.gcd a.dec b.dec))), (E (Z.quo b.dec (Z.gcd a.dec b.dec)))⟩ : Rt)))
def ei_ (a : I) : Rt :=
  (ar_ a F_ratio_one)
def aa_ (a : W) : Rt :=
  (ei_ (E (Z.of a.1)))
def bY_ (a : Rt) : Rt :=
  bif (a0_ a) then ((⟨(E (Z.neg a.n.dec)), a.d⟩ : Rt)) else (ed_)
def aC_ (a : Rt) (b : Rt) : Rt :=
  bif (!(a0_ a) || (!(a0_ b))) then (ed_) else (let r15 : I := (E (Z.add (Z.mul a.n.dec (Z.quo b.d.dec (Z.gcd a.d.dec b.d.dec))) (Z.mul b.n.dec (Z.quo a.d.dec (Z.gcd a.d.dec b.d.dec)))))
  let r16 : Rt := (ar_ r15 (E (Z.mul (Z.quo a.d.dec (Z.gcd a.d.dec b.d.dec)) b.d.dec)))
  r16)
def ad_ (a : Rt) (b : Rt) : Rt :=
  (aC_ a (bY_ b))
def aE_ (a : Rt) (b : Rt) : Rt :=
  bif (!(a0_ a) || (!(a0_ b))) then (ed_) else (let r26 : I := (E (Z.mul ((ar_ a.n b.d).n).dec ((ar_ b.n a.d).n).dec))
  let r27 : I := (E (Z.mul ((ar_ a.n b.d).d).dec ((ar_ b.n a.d).d).dec))
  bif (r26.1.bad || r27.1.bad) then (ed_) else ((⟨r26, r27⟩ : Rt)))
def F_skewbackref04_one  : I :=
  let q0 : I := (E (Z.of 1))
  q0
def bm_  : Rt :=
  let q0 : I := (E Z.bad)
  let q1 : I := F_skewbackref04_one
  (⟨q0, q1⟩ : Rt)
def ah_ (a : I) (b : I) : Rt :=
  bif (!a.1.good || (!b.1.good || ((Z.signW b.dec).1 == 0))) then (bm_) else (bif decide ((Z.signW b.dec).1 < 0) then ((⟨(E (Z.quo a.dec (Z.neg (Z.gcd a.dec b.dec)))), (E (Z.quo b.dec (Z.neg (Z.gcd a.dec b.dec))))⟩ : Rt)) else ((⟨(E (Z.quo a.dec (Z.gcd a.dec b.dec))), (E (Z.quo b.dec (Z.gcd a.dec b.dec)))⟩ : Rt)))
def ag_ (a : W) : Rt :=
  let r2 : Rt := (ah_ (E (Z.of a.1)) F_skewbackref04_one)
  r2
def au_ (a : W) (b : W) : Rt :=
  let r2 : Rt := (ah_ (E (Z.of a.1)) (E (Z.of b.1)))
  r2
def bO_ (a : I) : Rt :=
  let r3 : Rt := (ah_ a F_skewbackref04_one)
  r3
def ae_ (a : Rt) : Bool :=
  bif (!a.n.1.good || (!a.d.1.good)) then (false) else ((decide (0 < (Z.signW a.d.dec).1) && decide ((E (Z.gcd a.n.dec a.d.dec)) = F_skewbackref04_one)))
def bF_ (a : Rt) : Rt :=
  bif (ae_ a) then ((⟨(E (Z.neg a.n.dec)), a.d⟩ : Rt)) else (bm_)
def ak_ (a : Rt) (b : Rt) : Rt :=
  bif (!(ae_ a) || (!(ae_ b))) then (bm_) else (let r11 : I := (E (Z.add (Z.mul a.n.dec (Z.quo b.d.dec (Z.gcd a.d.dec b.d.dec))) (Z.mul b.n.dec (Z.quo a.d.dec (Z.gcd a.d.dec b.d.dec)))))
  let r12 : Rt := (ah_ r11 (E (Z.mul (Z.quo a.d.dec (Z.gcd a.d.dec b.d.dec)) b.d.dec)))
  r12)
def aZ_ (a : Rt) (b : Rt) : Rt :=
  let r4 : Rt := (ak_ a (bF_ b))
  r4
def af_ (a : Rt) (b : Rt) : Rt :=
  bif (!(ae_ a) || (!(ae_ b))) then (bm_) else (let r10 : I := (E (Z.mul ((ah_ a.n b.d).n).dec ((ah_ b.n a.d).n).dec))
  let r12 : I := (E (Z.mul ((ah_ a.n b.d).d).dec ((ah_ b.n a.d).d).dec))
  (ah_ r10 r12))
def dp_ (a : Rt) (b : Bool) : I :=
  bif b then ((E (Z.of 0))) else ((E Z.bad))
def am_ (a : (A3 W)) : (A3 W) × (A3 W) :=
  bif (decide (a.x.1 = 0) && (decide (a.y.1 = 0) && decide (a.z.1 = a.z.1))) then (((⟨(wl 1), (wl 0), (wl 0)⟩ : (A3 W)), (⟨(wl 0), (wl 1), (wl 0)⟩ : (A3 W)))) else (let r6 : (A3 W) := (aV_ (⟨(E (Z.neg ((aA_ a).y).dec)), ((aA_ a).x), (E (Z.of 0))⟩ : (A3 I))).1
  let r7 : W := (aV_ (⟨(E (Z.neg ((aA_ a).y).dec)), ((aA_ a).x), (E (Z.of 0))⟩ : (A3 I))).2
  let r9 : (A3 I) := (dH_ (aA_ a) (aA_ r6))
  let r10 : (A3 W) := (aV_ r9).1
  bif ((r7.1 != 0) || (((aV_ r9).2).1 != 0)) then (((⟨(wl 0), (wl 0), (wl 0)⟩ : (A3 W)), (⟨(wl 0), (wl 0), (wl 0)⟩ : (A3 W)))) else ((r6, r10)))
def b9_ (a : (A3 W)) : (A3 Rt) :=
  (⟨(aa_ a.x), (aa_ a.y), (aa_ a.z)⟩ : (A3 Rt))
def cN_ (a : (A3 Rt)) (b : (A3 Rt)) : Rt :=
  let r5 : Rt := (aC_ (aa_ (wl 0)) (aE_ a.x b.x))
  let r6 : Rt := (aC_ r5 (aE_ a.y b.y))
  let r7 : Rt := (aC_ r6 (aE_ a.z b.z))
  r7
def cL_ (a : (A3 Rt)) (b : (A3 Rt)) : (A3 Rt) :=
  let r4 : Rt := (ad_ (aE_ a.y b.z) (aE_ a.z b.y))
  let r5 : Rt := (ad_ (aE_ a.z b.x) (aE_ a.x b.z))
  let r6 : Rt := (ad_ (aE_ a.x b.y) (aE_ a.y b.x))
  (⟨r4, r5, r6⟩ : (A3 Rt))
def bk_ (a : (A3 W)) (b : (A3 Rt)) : Rt :=
  let r4 : (A3 Rt) := (b9_ a)
  (cN_ r4 b)
def ck_ (a : (A3 Rt)) (b : (A3 Rt)) : (A3 Rt) :=
  (⟨(aC_ a.x b.x), (aC_ a.y b.y), (aC_ a.z b.z)⟩ : (A3 Rt))
def cw_ (a : (A3 Rt)) (b : (A3 Rt)) : (A3 Rt) :=
  (⟨(ad_ a.x b.x), (ad_ a.y b.y), (ad_ a.z b.z)⟩ : (A3 Rt))
def b1_ (a : Rt) (b : (A3 Rt)) : (A3 Rt) :=
  (⟨(aE_ a b.x), (aE_ a b.y), (aE_ a b.z)⟩ : (A3 Rt))
def dU_ (a : (A3 W)) : Bool :=
  bif (decide (2305843009213693952 ≤ a.x.1) || decide (a.x.1 ≤ (-2305843009213693952))) then (false) else (bif (decide (2305843009213693952 ≤ a.y.1) || decide (a.y.1 ≤ (-2305843009213693952))) then (false) else (bif (decide (2305843009213693952 ≤ a.z.1) || decide (a.z.1 ≤ (-2305843009213693952))) then (false) else (true)))
def aR_ (a : (A3 W)) : (A3 I) :=
  (⟨(E (Z.of a.x.1)), (E (Z.of a.y.1)), (E (Z.of a.z.1))⟩ : (A3 I))
def cJ_ (a : I) (b : I) (c : I) (d : I) : I :=
  (E (Z.sub (Z.mul a.dec b.dec) (Z.mul c.dec d.dec)))
def b4_ (a : (A3 I)) (b : (A3 I)) : I :=
  let r5 : I := (E (Z.add (Z.add (Z.mul a.x.dec b.x.dec) (Z.mul a.y.dec b.y.dec)) (Z.mul a.z.dec b.z.dec)))
  r5
def cy_ (a : (A3 I)) (b : (A3 I)) : (A3 I) :=
  (⟨(cJ_ a.y b.z a.z b.y), (cJ_ a.z b.x a.x b.z), (cJ_ a.x b.y a.y b.x)⟩ : (A3 I))
def bS_ (a : (A3 W)) (b : (A3 W)) : I :=
  let r4 : (A3 I) := (aR_ a)
  let r5 : (A3 I) := (aR_ b)
  (b4_ r4 r5)
def c0_ (a : (A3 I)) : Dir :=
  bif (E (Z.gcd (Z.gcd (Z.gcd (Z.of 0) a.x.dec) a.y.dec) a.z.dec)).1.bad then ((⟨(⟨(wl 0), (wl 0), (wl 0)⟩ : (A3 W)), (wl 30)⟩ : Dir)) else (bif ((Z.signW (Z.gcd (Z.gcd (Z.gcd (Z.of 0) a.x.dec) a.y.dec) a.z.dec)).1 == 0) then ((⟨(⟨(wl 0), (wl 0), (wl 0)⟩ : (A3 W)), (wl 31)⟩ : Dir)) else (let r7 : I := (E (Z.quo a.x.dec (Z.gcd (Z.gcd (Z.gcd (Z.of 0) a.x.dec) a.y.dec) a.z.dec)))
  bif r7.dec.small.2 then (let r9 : I := (E (Z.quo a.y.dec (Z.gcd (Z.gcd (Z.gcd (Z.of 0) a.x.dec) a.y.dec) a.z.dec)))
  bif r9.dec.small.2 then (let r11 : I := (E (Z.quo a.z.dec (Z.gcd (Z.gcd (Z.gcd (Z.of 0) a.x.dec) a.y.dec) a.z.dec)))
  bif r11.dec.small.2 then (bif (dU_ (⟨(Z.smallW r7.dec), (Z.smallW r9.dec), (Z.smallW r11.dec)⟩ : (A3 W))) then ((⟨(⟨(Z.smallW r7.dec), (Z.smallW r9.dec), (Z.smallW r11.dec)⟩ : (A3 W)), (wl 0)⟩ : Dir)) else ((⟨(⟨(wl 0), (wl 0), (wl 0)⟩ : (A3 W)), (wl 30)⟩ : Dir))) else ((⟨(⟨(wl 0), (wl 0), (wl 0)⟩ : (A3 W)), (wl 30)⟩ : Dir))) else ((⟨(⟨(wl 0), (wl 0), (wl 0)⟩ : (A3 W)), (wl 30)⟩ : Dir))) else ((⟨(⟨(wl 0), (wl 0), (wl 0)⟩ : (A3 W)), (wl 30)⟩ : Dir))))
def aB_ (a : (A3 W)) : (A3 W) × (A3 W) :=
  bif ((a.x.1 == 0) && (a.y.1 == 0)) then (((⟨(wl 1), (wl 0), (wl 0)⟩ : (A3 W)), (⟨(wl 0), (wl 1), (wl 0)⟩ : (A3 W)))) else (let r8 : (A3 I) := (aR_ a)
  let r10 : Dir := (c0_ (⟨(E (Z.neg r8.y.dec)), r8.x, (E (Z.of 0))⟩ : (A3 I)))
  let r12 : (A3 I) := (aR_ r10.v)
  let r13 : (A3 I) := (cy_ r8 r12)
  let r14 : Dir := (c0_ r13)
  bif ((r10.e.1 != 0) || (r14.e.1 != 0)) then (((⟨(wl 0), (wl 0), (wl 0)⟩ : (A3 W)), (⟨(wl 0), (wl 0), (wl 0)⟩ : (A3 W)))) else ((r10.v, r14.v)))
def aH_ (a : (A3 Rt)) (b : (A3 Rt)) : (A3 Rt) :=
  (⟨(ak_ a.x b.x), (ak_ a.y b.y), (ak_ a.z b.z)⟩ : (A3 Rt))
def bC_ (a : (A3 Rt)) (b : (A3 Rt)) : (A3 Rt) :=
  (⟨(aZ_ a.x b.x), (aZ_ a.y b.y), (aZ_ a.z b.z)⟩ : (A3 Rt))
def aw_ (a : Rt) (b : (A3 Rt)) : (A3 Rt) :=
  (⟨(af_ a b.x), (af_ a b.y), (af_ a b.z)⟩ : (A3 Rt))
def bd_ (a : (A3 Rt)) (b : (A3 Rt)) : Rt :=
  let r5 : Rt := (ak_ (af_ a.x b.x) (af_ a.y b.y))
  let r6 : Rt := (ak_ r5 (af_ a.z b.z))
  r6
def cT_ (a : Rt) (b : Rt) (c : Rt) (d : Rt) : Rt :=
  let r6 : Rt := (aZ_ (af_ a b) (af_ c d))
  r6
def cK_ (a : (A3 Rt)) (b : (A3 Rt)) : (A3 Rt) :=
  let r4 : Rt := (cT_ a.y b.z a.z b.y)
  let r5 : Rt := (cT_ a.z b.x a.x b.z)
  let r6 : Rt := (cT_ a.x b.y a.y b.x)
  (⟨r4, r5, r6⟩ : (A3 Rt))
def ao_ (a : (A3 W)) : (A3 Rt) :=
  (⟨(ag_ a.x), (ag_ a.y), (ag_ a.z)⟩ : (A3 Rt))
def bn_ (a : (A3 W)) (b : (A3 Rt)) : Rt :=
  let r4 : (A3 Rt) := (ao_ a)
  (bd_ r4 b)
end Go.Num

set_option linter.unusedVariables false
set_option linter.unusedSimpArgs false
namespace Go.Num
open Go Go.Kn
def cv_ (a : Rt) (b : Rt) : W :=
  bif (!(a0_ a) && (!(a0_ b))) then ((wl 0)) else (bif (a0_ a) then (bif (a0_ b) then ((cf (cfN a.d) (wl 1) a.n a.d b.n b.d)) else ((wl 1))) else ((wl (-1))))
def cX_ (a : Rt) (b : Rt) : W :=
  bif (!(ae_ a) || (!(ae_ b))) then (let r7 : W := (Z.cmpW (dp_ a (ae_ a)).dec (dp_ b (ae_ b)).dec)
  r7) else ((cf (cfN a.d) (wl 1) a.n a.d b.n b.d))
end Go.Num

set_option linter.unusedVariables false
set_option linter.unusedSimpArgs false
namespace Go.Num
open Go Go.Kn
def cF_ (l : (List I)) : List I → (Unit) ⊕ (Bool)
  | [] => .inl ()
  | x0 :: l0 => bif (x0.1.bad || (!x0.1.valid)) then (.inr (false)) else ((cF_ l l0))
def cD_ (l : (List I)) : Bool :=
  sm (fun (s : Unit) => true) (fun r => r) (cF_ l l)
end Go.Num

set_option linter.unusedVariables false
set_option linter.unusedSimpArgs false
namespace Go.Num
open Go Go.Kn
def c1_ (a : I) : Nat → I → (I) ⊕ (I)
  | 0, mb11 => .inl mb11
  | k0 + 1, mb11 => bif decide (0 ≤ (Z.cmpW (Z.half (Z.add mb11.dec (Z.quo a.dec mb11.dec))) mb11.dec).1) then (.inr (mb11)) else ((c1_ a k0 (E (Z.half (Z.add mb11.dec (Z.quo a.dec mb11.dec))))))
def cG_ (a : I) : I :=
  bif (!(cD_ [a]) || a.1.neg) then ((E Z.bad)) else (bif ((Z.signW a.dec).1 == 0) then (a) else (sm (fun (s : I) => let mb11 : I := s
  I0) (fun r => r) (c1_ a ((Z.nat (E (Z.shl (Z.of 1) (W.quo (W.add (Z.bitsW a.dec) (wl 1)) (wl 2)).1)).dec + 1)) (E (Z.shl (Z.of 1) (W.quo (W.add (Z.bitsW a.dec) (wl 1)) (wl 2)).1)))))
end Go.Num

set_option linter.unusedVariables false
set_option linter.unusedSimpArgs false
namespace Go.Num
open Go Go.Kn
def aK_ (a : Rt) : W :=
  bif (a0_ a) then ((Z.signW a.n.dec)) else ((wl 0))
def cP_ (a : Rt) : Rt :=
  bif decide ((aK_ a).1 < 0) then ((bY_ a)) else ((bY_ (bY_ a)))
def ab_ (a : Rt) (b : Rt) : Rt :=
  bif (a0_ b) then (let r5 : Rt := (aE_ a (ar_ b.d b.n))
  r5) else (ed_)
def aI_ (a : Rt) : W :=
  bif (ae_ a) then ((Z.signW a.n.dec)) else ((wl 0))
def b8_ (a : Rt) : Rt :=
  bif (ae_ a) then ((⟨(E (Z.abs a.n.dec)), a.d⟩ : Rt)) else (bm_)
def a8_ (a : Rt) (b : Rt) : Rt :=
  bif (ae_ b) then (let r5 : Rt := (af_ a (ah_ b.d b.n))
  r5) else (bm_)
end Go.Num

set_option linter.unusedVariables false
set_option linter.unusedSimpArgs false
namespace Go.Num
open Go Go.Kn
def b0_ (a : (A3 W)) (b : W) : Bool :=
  bif (decide (536870912 ≤ a.x.1) || decide (a.x.1 ≤ (-536870912))) then (false) else (bif (decide (536870912 ≤ a.y.1) || decide (a.y.1 ≤ (-536870912))) then (false) else (bif (decide (536870912 ≤ a.z.1) || decide (a.z.1 ≤ (-536870912))) then (false) else ((!(decide (a.x.1 = 0) && (decide (a.y.1 = 0) && decide (a.z.1 = 0))) && (decide (0 ≤ b.1) && decide (b.1 ≤ 4000))))))
def bZ_ (a : (A3 W)) (b : W) : (A2 (A3 W)) × (A2 Rt) :=
  let r5 : I := (E (Z.mul (Z.of 1000000) (a5_ ((am_ a).1) ((am_ a).1)).dec))
  let r6 : I := (E (Z.quo (Z.shl (Z.mul (Z.of (W.mul b b).1) (a5_ a a).dec) 16) r5.dec))
  let r8 : Rt := (ar_ (cG_ r6) (E (Z.of 256)))
  let r9 : I := (E (Z.mul (Z.of 1000000) (a5_ ((am_ a).2) ((am_ a).2)).dec))
  let r10 : I := (E (Z.quo (Z.shl (Z.mul (Z.of (W.mul b b).1) (a5_ a a).dec) 16) r9.dec))
  let r12 : Rt := (ar_ (cG_ r10) (E (Z.of 256)))
  ((⟨((am_ a).1), ((am_ a).2)⟩ : (A2 (A3 W))), (⟨r8, r12⟩ : (A2 Rt)))
def av_ (a : (A3 W)) (b : W) : (List (A3 Rt)) × W :=
  bif (b0_ a b) then (let r3 : (A3 Rt) := (b9_ a)
  bif (b.1 == 0) then (([r3], (wl 0))) else (let r7 : (A2 (A3 W)) := (bZ_ a b).1
  let r8 : (A2 Rt) := (bZ_ a b).2
  let r11 : (A3 Rt) := (b9_ r7.x)
  let r12 : (A3 Rt) := (b1_ r8.x r11)
  let r14 : (A3 Rt) := (ck_ r3 r12)
  let r15 : (A3 Rt) := (cw_ r3 r12)
  let r21 : (A3 Rt) := (b9_ r7.y)
  let r22 : (A3 Rt) := (b1_ r8.y r21)
  let r24 : (A3 Rt) := (ck_ r3 r22)
  let r25 : (A3 Rt) := (cw_ r3 r22)
  (((([] : List (A3 Rt)) ++ [r14, r15]) ++ [r24, r25]), (wl 0)))) else ((([] : List (A3 Rt)), (wl 1)))
def d3_ (a : (A3 Rt)) : Rt :=
  (cN_ a a)
def cj_ (a : (A3 W)) (b : W) (c : (A3 Rt)) : Bool :=
  bif (!(b0_ a b) || decide ((aK_ (bk_ a c)).1 < 0)) then (false) else (let r8 : (A3 Rt) := (b9_ a)
  let r9 : (A3 Rt) := (cL_ c r8)
  let r10 : Rt := (aE_ (aa_ (wl 1000000)) (d3_ r9))
  let r12 : Rt := (aE_ (bk_ a c) (bk_ a c))
  let r13 : Rt := (aE_ (aa_ (W.mul b b)) r12)
  (decide ((cv_ r10 r13).1 ≤ 0)))
def as_ (a : (A3 W)) (f : (A3 Rt)) : Rt :=
  let r3 : Rt := (ar_ (a5_ a a) (E (Z.of 1)))
  (ab_ (bk_ a f) r3)
def ai_ (a : (A3 W)) (b : W) (c : (A3 Rt)) : (List Rt) × Bool :=
  bif (b0_ a b) then (let r6 : (A2 (A3 W)) := (bZ_ a b).1
  let r7 : (A2 Rt) := (bZ_ a b).2
  bif ((aK_ (as_ r6.x c)).1 != 0) then (bif ((aK_ r7.x).1 == 0) then ((([] : List Rt), false)) else (let r14 : Rt := (cP_ (as_ r6.x c))
  let r15 : Rt := (ad_ (as_ a c) (ab_ r14 r7.x))
  bif decide (0 ≤ (aK_ (as_ r6.x c)).1) then (bif ((aK_ (as_ r6.y c)).1 != 0) then (bif ((aK_ r7.y).1 == 0) then ((([] : List Rt), false)) else (let r26 : Rt := (cP_ (as_ r6.y c))
  bif decide (0 ≤ (aK_ (as_ r6.y c)).1) then (bif decide ((aK_ (ad_ r15 (ab_ r26 r7.y))).1 < 0) then ((([] : List Rt), false)) else (bif (b.1 == 0) then (([(ad_ r15 (ab_ r26 r7.y))], true)) else (let r36 : Rt := (ab_ (ad_ r15 (ab_ r26 r7.y)) (aa_ (wl 2)))
  let r38 : Rt := (aC_ (((([] : List Rt) ++ [(ab_ r14 r7.x), (aa_ (wl 0))]) ++ [(ab_ r26 r7.y), (aa_ (wl 0))]).getD 0 Rt0) r36)
  let r39 : Rt := (aC_ (((([] : List Rt) ++ [(ab_ r14 r7.x), (aa_ (wl 0))]) ++ [(ab_ r26 r7.y), (aa_ (wl 0))]).getD 1 Rt0) r36)
  (((((([] : List Rt) ++ [(ab_ r14 r7.x), (aa_ (wl 0))]) ++ [(ab_ r26 r7.y), (aa_ (wl 0))]).set 0 r38).set 1 r39), true)))) else (bif decide ((aK_ (ad_ r15 (ab_ r26 r7.y))).1 < 0) then ((([] : List Rt), false)) else (bif (b.1 == 0) then (([(ad_ r15 (ab_ r26 r7.y))], true)) else (let r52 : Rt := (ab_ (ad_ r15 (ab_ r26 r7.y)) (aa_ (wl 2)))
  let r54 : Rt := (aC_ (((([] : List Rt) ++ [(ab_ r14 r7.x), (aa_ (wl 0))]) ++ [(aa_ (wl 0)), (ab_ r26 r7.y)]).getD 0 Rt0) r52)
  let r55 : Rt := (aC_ (((([] : List Rt) ++ [(ab_ r14 r7.x), (aa_ (wl 0))]) ++ [(aa_ (wl 0)), (ab_ r26 r7.y)]).getD 1 Rt0) r52)
  (((((([] : List Rt) ++ [(ab_ r14 r7.x), (aa_ (wl 0))]) ++ [(aa_ (wl 0)), (ab_ r26 r7.y)]).set 0 r54).set 1 r55), true)))))) else (bif decide ((aK_ (ad_ r15 (aa_ (wl 0)))).1 < 0) then ((([] : List Rt), false)) else (bif (b.1 == 0) then (([(ad_ r15 (aa_ (wl 0)))], true)) else (let r68 : Rt := (ab_ (ad_ r15 (aa_ (wl 0))) (aa_ (wl 2)))
  let r70 : Rt := (aC_ (((([] : List Rt) ++ [(ab_ r14 r7.x), (aa_ (wl 0))]) ++ [(aa_ (wl 0)), (aa_ (wl 0))]).getD 0 Rt0) r68)
  let r71 : Rt := (aC_ (((([] : List Rt) ++ [(ab_ r14 r7.x), (aa_ (wl 0))]) ++ [(aa_ (wl 0)), (aa_ (wl 0))]).getD 1 Rt0) r68)
  (((((([] : List Rt) ++ [(ab_ r14 r7.x), (aa_ (wl 0))]) ++ [(aa_ (wl 0)), (aa_ (wl 0))]).set 0 r70).set 1 r71), true))))) else (bif ((aK_ (as_ r6.y c)).1 != 0) then (bif ((aK_ r7.y).1 == 0) then ((([] : List Rt), false)) else (let r85 : Rt := (cP_ (as_ r6.y c))
  bif decide (0 ≤ (aK_ (as_ r6.y c)).1) then (bif decide ((aK_ (ad_ r15 (ab_ r85 r7.y))).1 < 0) then ((([] : List Rt), false)) else (bif (b.1 == 0) then (([(ad_ r15 (ab_ r85 r7.y))], true)) else (let r95 : Rt := (ab_ (ad_ r15 (ab_ r85 r7.y)) (aa_ (wl 2)))
  let r97 : Rt := (aC_ (((([] : List Rt) ++ [(aa_ (wl 0)), (ab_ r14 r7.x)]) ++ [(ab_ r85 r7.y), (aa_ (wl 0))]).getD 0 Rt0) r95)
  let r98 : Rt := (aC_ (((([] : List Rt) ++ [(aa_ (wl 0)), (ab_ r14 r7.x)]) ++ [(ab_ r85 r7.y), (aa_ (wl 0))]).getD 1 Rt0) r95)
  (((((([] : List Rt) ++ [(aa_ (wl 0)), (ab_ r14 r7.x)]) ++ [(ab_ r85 r7.y), (aa_ (wl 0))]).set 0 r97).set 1 r98), true)))) else (bif decide ((aK_ (ad_ r15 (ab_ r85 r7.y))).1 < 0) then ((([] : List Rt), false)) else (bif (b.1 == 0) then (([(ad_ r15 (ab_ r85 r7.y))], true)) else (let r111 : Rt := (ab_ (ad_ r15 (ab_ r85 r7.y)) (aa_ (wl 2)))
  let r113 : Rt := (aC_ (((([] : List Rt) ++ [(aa_ (wl 0)), (ab_ r14 r7.x)]) ++ [(aa_ (wl 0)), (ab_ r85 r7.y)]).getD 0 Rt0) r111)
  let r114 : Rt := (aC_ (((([] : List Rt) ++ [(aa_ (wl 0)), (ab_ r14 r7.x)]) ++ [(aa_ (wl 0)), (ab_ r85 r7.y)]).getD 1 Rt0) r111)
  (((((([] : List Rt) ++ [(aa_ (wl 0)), (ab_ r14 r7.x)]) ++ [(aa_ (wl 0)), (ab_ r85 r7.y)]).set 0 r113).set 1 r114), true)))))) else (bif decide ((aK_ (ad_ r15 (aa_ (wl 0)))).1 < 0) then ((([] : List Rt), false)) else (bif (b.1 == 0) then (([(ad_ r15 (aa_ (wl 0)))], true)) else (let r127 : Rt := (ab_ (ad_ r15 (aa_ (wl 0))) (aa_ (wl 2)))
  let r129 : Rt := (aC_ (((([] : List Rt) ++ [(aa_ (wl 0)), (ab_ r14 r7.x)]) ++ [(aa_ (wl 0)), (aa_ (wl 0))]).getD 0 Rt0) r127)
  let r130 : Rt := (aC_ (((([] : List Rt) ++ [(aa_ (wl 0)), (ab_ r14 r7.x)]) ++ [(aa_ (wl 0)), (aa_ (wl 0))]).getD 1 Rt0) r127)
  (((((([] : List Rt) ++ [(aa_ (wl 0)), (ab_ r14 r7.x)]) ++ [(aa_ (wl 0)), (aa_ (wl 0))]).set 0 r129).set 1 r130), true))))))) else (let r135 : Rt := (ad_ (as_ a c) (aa_ (wl 0)))
  bif ((aK_ (as_ r6.y c)).1 != 0) then (bif ((aK_ r7.y).1 == 0) then ((([] : List Rt), false)) else (let r145 : Rt := (cP_ (as_ r6.y c))
  bif decide (0 ≤ (aK_ (as_ r6.y c)).1) then (bif decide ((aK_ (ad_ r135 (ab_ r145 r7.y))).1 < 0) then ((([] : List Rt), false)) else (bif (b.1 == 0) then (([(ad_ r135 (ab_ r145 r7.y))], true)) else (let r155 : Rt := (ab_ (ad_ r135 (ab_ r145 r7.y)) (aa_ (wl 2)))
  let r157 : Rt := (aC_ (((([] : List Rt) ++ [(aa_ (wl 0)), (aa_ (wl 0))]) ++ [(ab_ r145 r7.y), (aa_ (wl 0))]).getD 0 Rt0) r155)
  let r158 : Rt := (aC_ (((([] : List Rt) ++ [(aa_ (wl 0)), (aa_ (wl 0))]) ++ [(ab_ r145 r7.y), (aa_ (wl 0))]).getD 1 Rt0) r155)
  (((((([] : List Rt) ++ [(aa_ (wl 0)), (aa_ (wl 0))]) ++ [(ab_ r145 r7.y), (aa_ (wl 0))]).set 0 r157).set 1 r158), true)))) else (bif decide ((aK_ (ad_ r135 (ab_ r145 r7.y))).1 < 0) then ((([] : List Rt), false)) else (bif (b.1 == 0) then (([(ad_ r135 (ab_ r145 r7.y))], true)) else (let r171 : Rt := (ab_ (ad_ r135 (ab_ r145 r7.y)) (aa_ (wl 2)))
  let r173 : Rt := (aC_ (((([] : List Rt) ++ [(aa_ (wl 0)), (aa_ (wl 0))]) ++ [(aa_ (wl 0)), (ab_ r145 r7.y)]).getD 0 Rt0) r171)
  let r174 : Rt := (aC_ (((([] : List Rt) ++ [(aa_ (wl 0)), (aa_ (wl 0))]) ++ [(aa_ (wl 0)), (ab_ r145 r7.y)]).getD 1 Rt0) r171)
  (((((([] : List Rt) ++ [(aa_ (wl 0)), (aa_ (wl 0))]) ++ [(aa_ (wl 0)), (ab_ r145 r7.y)]).set 0 r173).set 1 r174), true)))))) else (bif decide ((aK_ (ad_ r135 (aa_ (wl 0)))).1 < 0) then ((([] : List Rt), false)) else (bif (b.1 == 0) then (([(ad_ r135 (aa_ (wl 0)))], true)) else (let r187 : Rt := (ab_ (ad_ r135 (aa_ (wl 0))) (aa_ (wl 2)))
  let r189 : Rt := (aC_ (((([] : List Rt) ++ [(aa_ (wl 0)), (aa_ (wl 0))]) ++ [(aa_ (wl 0)), (aa_ (wl 0))]).getD 0 Rt0) r187)
  let r190 : Rt := (aC_ (((([] : List Rt) ++ [(aa_ (wl 0)), (aa_ (wl 0))]) ++ [(aa_ (wl 0)), (aa_ (wl 0))]).getD 1 Rt0) r187)
  (((((([] : List Rt) ++ [(aa_ (wl 0)), (aa_ (wl 0))]) ++ [(aa_ (wl 0)), (aa_ (wl 0))]).set 0 r189).set 1 r190), true)))))) else ((([] : List Rt), false))
def c3_ (a : (A3 W)) (b : W) (c : (A3 Rt)) : Bool :=
  ((ai_ a b c).2)
def c6_ (l : (List (A3 Rt))) (k : (List Rt)) (r2 : (A3 Rt)) : Nat → Nat → (A3 Rt) → Nat × (A3 Rt)
  | 0, i, mb3 => (i, mb3)
  | k0 + 1, i, mb3 => bif decide (((i : Nat) : Int) < (((min ((l).length) ((k).length)) : Nat) : Int)) then (let r9 : (A3 Rt) := (b1_ (k.getD i Rt0) (l.getD i V0))
  let r10 : (A3 Rt) := (ck_ mb3 r9)
  (c6_ l k r2 k0 (i + 1) r10)) else ((i, mb3))
def cM_ (l : (List (A3 Rt))) (k : (List Rt)) : (A3 Rt) :=
  let r2 : (A3 Rt) := (b9_ (⟨(wl 0), (wl 0), (wl 0)⟩ : (A3 W)))
  ap (fun (s : Nat × (A3 Rt)) => let i : Nat := s.1
  let mb3 : (A3 Rt) := s.2
  mb3) (c6_ l k r2 ((min l.length k.length + 1)) 0 r2)
def aJ_ (a : (A3 W)) (b : W) : Bool :=
  bif (decide (536870912 ≤ a.x.1) || decide (a.x.1 ≤ (-536870912))) then (false) else (bif (decide (536870912 ≤ a.y.1) || decide (a.y.1 ≤ (-536870912))) then (false) else (bif (decide (536870912 ≤ a.z.1) || decide (a.z.1 ≤ (-536870912))) then (false) else ((!(decide (a.x.1 = 0) && (decide (a.y.1 = 0) && decide (a.z.1 = 0))) && (decide (0 ≤ b.1) && decide (b.1 ≤ 4000))))))
def bc_ (a : (A3 Rt)) : Bool :=
  bif (!(ae_ a.x) || (decide (48 < (Z.bitsW a.x.n.dec).1) || decide (17 < (Z.bitsW a.x.d.dec).1))) then (false) else (bif (!(ae_ a.y) || (decide (48 < (Z.bitsW a.y.n.dec).1) || decide (17 < (Z.bitsW a.y.d.dec).1))) then (false) else (bif (!(ae_ a.z) || (decide (48 < (Z.bitsW a.z.n.dec).1) || decide (17 < (Z.bitsW a.z.d.dec).1))) then (false) else (true)))
def ap_ (a : (A3 W)) (b : W) (c : (A3 W)) : Rt :=
  let r5 : I := (E (Z.mul (Z.mul (Z.of (W.mul b b).1) (bS_ a a).dec) (Z.of 65536)))
  let r7 : I := (E (Z.sqrt (Z.quo r5.dec (Z.mul (Z.of 1000000) (bS_ c c).dec))))
  let r8 : Rt := (ah_ r7 (E (Z.of 256)))
  r8
def bt_ (a : (A3 W)) (b : (A3 Rt)) : Bool :=
  bif (decide (1024 < a.x.1) || (decide (a.x.1 < (-1024)) || (decide (20 < (Z.bitsW b.x.n.dec).1) || decide (8 < (Z.bitsW b.x.d.dec).1)))) then (false) else (bif (decide (1024 < a.y.1) || (decide (a.y.1 < (-1024)) || (decide (20 < (Z.bitsW b.y.n.dec).1) || decide (8 < (Z.bitsW b.y.d.dec).1)))) then (false) else (bif (decide (1024 < a.z.1) || (decide (a.z.1 < (-1024)) || (decide (20 < (Z.bitsW b.z.n.dec).1) || decide (8 < (Z.bitsW b.z.d.dec).1)))) then (false) else (true)))
def b7_ (a : (A3 W)) (b : W) : Edg :=
  bif (aJ_ a b) then (let r4 : (A3 Rt) := (ao_ a)
  bif (b.1 == 0) then ((⟨[r4], (wl 0)⟩ : Edg)) else (let r8 : (A3 W) := (aB_ a).1
  let r9 : (A3 W) := (aB_ a).2
  let r12 : (A3 Rt) := (ao_ r8)
  let r13 : (A3 Rt) := (aw_ (ap_ a b r8) r12)
  let r15 : (A3 Rt) := (ao_ r9)
  let r16 : (A3 Rt) := (aw_ (ap_ a b r9) r15)
  let r18 : (A3 Rt) := (aH_ r4 r13)
  let r19 : (A3 Rt) := (bC_ r4 r13)
  let r20 : (A3 Rt) := (aH_ r4 r16)
  let r21 : (A3 Rt) := (bC_ r4 r16)
  (⟨[r18, r19, r20, r21], (wl 0)⟩ : Edg))) else ((⟨([] : List (A3 Rt)), (wl 1)⟩ : Edg))
def cU_ (a : (A3 W)) (b : W) (c : (A3 Rt)) : Bool :=
  bif (!(aJ_ a b) || decide ((aI_ (bn_ a c)).1 < 0)) then (false) else (let r8 : (A3 Rt) := (ao_ a)
  let r9 : (A3 Rt) := (cK_ c r8)
  let r11 : Rt := (af_ (ag_ (wl 1000000)) (bd_ r9 r9))
  let r13 : Rt := (af_ (bn_ a c) (bn_ a c))
  let r14 : Rt := (af_ (ag_ (W.mul b b)) r13)
  (decide ((cX_ r11 r14).1 ≤ 0)))
def an_ (a : (A3 W)) (b : (A3 Rt)) : Rt :=
  let r4 : Rt := (bO_ (bS_ a a))
  let r5 : Rt := (a8_ (bn_ a b) r4)
  r5
def aN_ (a : Rt) (b : Rt) : Rt × Bool :=
  bif ((aI_ a).1 == 0) then (((ag_ (wl 0)), true)) else (bif ((aI_ b).1 == 0) then (((ag_ (wl 0)), false)) else (let r6 : Rt := (a8_ (b8_ a) b)
  (r6, true)))
def a9_ (a : (A3 W)) (b : W) (c : (A3 Rt)) : Pts :=
  bif (aJ_ a b) then (let r5 : (A3 W) := (aB_ a).1
  let r6 : (A3 W) := (aB_ a).2
  let r11 : Rt := (aN_ (an_ r5 c) (ap_ a b r5)).1
  let r13 : Rt := (aN_ (an_ r6 c) (ap_ a b r6)).1
  let r15 : Rt := (aZ_ (an_ a c) r11)
  bif (!((aN_ (an_ r5 c) (ap_ a b r5)).2) || (!((aN_ (an_ r6 c) (ap_ a b r6)).2) || decide ((aI_ (aZ_ r15 r13)).1 < 0))) then ((⟨([] : List Rt), false⟩ : Pts)) else (bif (b.1 == 0) then ((⟨[(aZ_ r15 r13)], true⟩ : Pts)) else (let r25 : Rt := (au_ (wl 1) (wl 2))
  let r26 : Rt := (af_ (aZ_ r15 r13) r25)
  bif decide ((aI_ (an_ r5 c)).1 < 0) then (bif decide ((aI_ (an_ r6 c)).1 < 0) then ((⟨[r26, (ak_ r11 r26), (ag_ (wl 0)), r13], true⟩ : Pts)) else ((⟨[r26, (ak_ r11 r26), r13, (ag_ (wl 0))], true⟩ : Pts))) else (bif decide ((aI_ (an_ r6 c)).1 < 0) then ((⟨[(ak_ r11 r26), r26, (ag_ (wl 0)), r13], true⟩ : Pts)) else ((⟨[(ak_ r11 r26), r26, r13, (ag_ (wl 0))], true⟩ : Pts)))))) else ((⟨([] : List Rt), false⟩ : Pts))
def ca_ (l : (List (A3 Rt))) (k : (List Rt)) (r2 : (A3 Rt)) : Nat → Nat → (A3 Rt) → Nat × (A3 Rt)
  | 0, i, mb3 => (i, mb3)
  | k0 + 1, i, mb3 => bif (decide (((i : Nat) : Int) < (((l).length : Nat) : Int)) && decide (((i : Nat) : Int) < (((k).length : Nat) : Int))) then (let r19 : (A3 Rt) := (aw_ (k.getD i Rt0) (l.getD i V0))
  let r20 : (A3 Rt) := (aH_ mb3 r19)
  (ca_ l k r2 k0 (i + 1) r20)) else ((i, mb3))
def aq_ (l : (List (A3 Rt))) (k : (List Rt)) : (A3 Rt) :=
  let r2 : (A3 Rt) := (ao_ (⟨(wl 0), (wl 0), (wl 0)⟩ : (A3 W)))
  ap (fun (s : Nat × (A3 Rt)) => let i : Nat := s.1
  let mb3 : (A3 Rt) := s.2
  mb3) (ca_ l k r2 ((min l.length k.length + 1)) 0 r2)
def b6_ (a : (List (A3 Rt))) (b : (List (A3 Rt))) : Nat → Nat → (Nat) ⊕ (Bool)
  | 0, i => .inl i
  | k0 + 1, i => bif decide (((i : Nat) : Int) < (((a).length : Nat) : Int)) then (bif (decide ((((a.getD i V0).x).n) = (((b.getD i V0).x).n)) && (decide ((((a.getD i V0).x).d) = (((b.getD i V0).x).d)) && (decide ((((a.getD i V0).y).n) = (((b.getD i V0).y).n)) && (decide ((((a.getD i V0).y).d) = (((b.getD i V0).y).d)) && (decide ((((a.getD i V0).z).n) = (((b.getD i V0).z).n)) && decide ((((a.getD i V0).z).d) = (((b.getD i V0).z).d))))))) then ((b6_ a b k0 (i + 1))) else (.inr (false))) else (.inl i)
def co_ (a : (List (A3 Rt))) (b : (List (A3 Rt))) : Bool :=
  bif ((((a).length : Nat) : Int) != (((b).length : Nat) : Int)) then (false) else (sm (fun (s : Nat) => let i : Nat := s
  true) (fun r => r) (b6_ a b ((a.length + 1)) 0))
def aP_ (a : W) (b : W) (c : W) (d : W) : (A3 Rt) :=
  (⟨(au_ a d), (au_ b d), (au_ c d)⟩ : (A3 Rt))
def b3_ (a : (List Rt)) (b : (List Rt)) : Nat → Nat → (Nat) ⊕ (Bool)
  | 0, i => .inl i
  | k0 + 1, i => bif decide (((i : Nat) : Int) < (((a).length : Nat) : Int)) then (bif (decide (((a.getD i Rt0).n) = ((b.getD i Rt0).n)) && decide (((a.getD i Rt0).d) = ((b.getD i Rt0).d))) then ((b3_ a b k0 (i + 1))) else (.inr (false))) else (.inl i)
def bJ_ (a : (List Rt)) (b : (List Rt)) : Bool :=
  bif ((((a).length : Nat) : Int) != (((b).length : Nat) : Int)) then (false) else (sm (fun (s : Nat) => let i : Nat := s
  true) (fun r => r) (b3_ a b ((a.length + 1)) 0))
def cz_ (l : (List W)) : List W → (List Rt) → List Rt
  | [], out => out
  | x0 :: l0, out => (cz_ l l0 (out ++ [(ag_ x0)]))
def cA_ (l : (List W)) : (List Rt) :=
  ap (fun (s : List Rt) => let out : List Rt := s
  out) (cz_ l l ([] : List Rt))
def bG_  : Bool :=
  let q0 : (List (A3 Rt)) := (av_ (⟨(wl 0), (wl 0), (wl 1)⟩ : (A3 W)) (wl 500)).1
  let q1 : W := (av_ (⟨(wl 0), (wl 0), (wl 1)⟩ : (A3 W)) (wl 500)).2
  let q2 : (List (A3 Rt)) := (av_ (⟨(wl 0), (wl 0), (wl 0)⟩ : (A3 W)) (wl 500)).1
  let q3 : W := (av_ (⟨(wl 0), (wl 0), (wl 0)⟩ : (A3 W)) (wl 500)).2
  let q4 : (List (A3 Rt)) := (av_ (⟨(wl 0), (wl 0), (wl 1)⟩ : (A3 W)) (wl 4001)).1
  let q5 : W := (av_ (⟨(wl 0), (wl 0), (wl 1)⟩ : (A3 W)) (wl 4001)).2
  let q6 : (A3 Rt) := (aP_ (wl 1) (wl 0) (wl 2) (wl 2))
  let q7 : (A3 Rt) := (aP_ (wl (-1)) (wl 0) (wl 2) (wl 2))
  let q8 : (A3 Rt) := (aP_ (wl 0) (wl 1) (wl 2) (wl 2))
  let q9 : (A3 Rt) := (aP_ (wl 0) (wl (-1)) (wl 2) (wl 2))
  let q10 : Bool := (co_ q0 [q6, q7, q8, q9])
  let q11 : (A3 Rt) := (aP_ (wl 1) (wl 0) (wl 2) (wl 1))
  let q12 : (A3 Rt) := (aP_ (wl 3) (wl 4) (wl 10) (wl 5))
  let q13 : (A3 Rt) := (aP_ (wl 1) (wl 1) (wl 2) (wl 1))
  let q14 : Bool := (cj_ (⟨(wl 0), (wl 0), (wl 1)⟩ : (A3 W)) (wl 500) q11)
  let q15 : Bool := (c3_ (⟨(wl 0), (wl 0), (wl 1)⟩ : (A3 W)) (wl 500) q11)
  let q16 : Bool := (cj_ (⟨(wl 0), (wl 0), (wl 1)⟩ : (A3 W)) (wl 500) q12)
  let q17 : Bool := (c3_ (⟨(wl 0), (wl 0), (wl 1)⟩ : (A3 W)) (wl 500) q12)
  let q18 : Bool := (cj_ (⟨(wl 0), (wl 0), (wl 1)⟩ : (A3 W)) (wl 500) q13)
  let q19 : Bool := (c3_ (⟨(wl 0), (wl 0), (wl 1)⟩ : (A3 W)) (wl 500) q13)
  let q20 : (A3 Rt) := (aP_ (wl 1) (wl 0) (wl 4) (wl 1))
  let q21 : (List Rt) := (ai_ (⟨(wl 0), (wl 0), (wl 1)⟩ : (A3 W)) (wl 500) q20).1
  let q22 : Bool := (ai_ (⟨(wl 0), (wl 0), (wl 1)⟩ : (A3 W)) (wl 500) q20).2
  let q23 : (A3 Rt) := (aP_ (wl 0) (wl (-1)) (wl 2) (wl 1))
  let q24 : (List Rt) := (ai_ (⟨(wl 0), (wl 0), (wl 1)⟩ : (A3 W)) (wl 500) q23).1
  let q25 : Bool := (ai_ (⟨(wl 0), (wl 0), (wl 1)⟩ : (A3 W)) (wl 500) q23).2
  let q26 : (A3 Rt) := (aP_ (wl 0) (wl 0) (wl (-1)) (wl 1))
  let q27 : (List Rt) := (ai_ (⟨(wl 0), (wl 0), (wl 1)⟩ : (A3 W)) (wl 500) q26).1
  let q28 : Bool := (ai_ (⟨(wl 0), (wl 0), (wl 1)⟩ : (A3 W)) (wl 500) q26).2
  let q29 : (List Rt) := (cA_ [(wl 3), (wl 1), (wl 0), (wl 0)])
  let q30 : Bool := (bJ_ q21 q29)
  let q31 : (List Rt) := (cA_ [(wl 0), (wl 0), (wl 0), (wl 2)])
  let q32 : Bool := (bJ_ q24 q31)
  let q33 : (A3 Rt) := (cM_ q0 q21)
  (((q1.1 == 0) && ((q3.1 == 1) && ((q5.1 == 1) && q10))) && ((q14 && (q15 && (q16 && (!q17 && (!q18 && (!q19)))))) && (q22 && (q25 && (!q28 && (q30 && (q32 && (decide (q33.x.n = q20.x.n) && (decide (q33.x.d = q20.x.d) && (decide (q33.y.n = q20.y.n) && (decide (q33.y.d = q20.y.d) && (decide (q33.z.n = q20.z.n) && decide (q33.z.d = q20.z.d)))))))))))))
end Go.Num

