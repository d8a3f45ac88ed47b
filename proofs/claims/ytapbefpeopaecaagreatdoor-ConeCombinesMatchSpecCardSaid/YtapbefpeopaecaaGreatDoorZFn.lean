/- What these functions compute, as plain functions. No program stands in it. -/
import Derived.Test.YtapbefpeopaecaaGreatDoorZGE
import Derived.Test.YtapbefpeopaecaaGreatDoorZFSg
set_option linter.unusedVariables false
set_option linter.unusedSimpArgs false
namespace Go.Num
open Go Go.Kn
def az_ (a : (A3 W)) : (A3 I) :=
  (⟨(E (Z.of a.x.1)), (E (Z.of a.y.1)), (E (Z.of a.z.1))⟩ : (A3 I))
def e9_ (a : (A3 I)) (b : (A3 I)) : I :=
  let r5 : I := (E (Z.add (Z.add (Z.of 0) (Z.mul a.x.dec b.x.dec)) (Z.mul a.y.dec b.y.dec)))
  (E (Z.add r5.dec (Z.mul a.z.dec b.z.dec)))
def d9_ (a : (A3 I)) (b : (A3 I)) : (A3 I) :=
  (⟨(E (Z.sub (Z.mul a.y.dec b.z.dec) (Z.mul a.z.dec b.y.dec))), (E (Z.sub (Z.mul a.z.dec b.x.dec) (Z.mul a.x.dec b.z.dec))), (E (Z.sub (Z.mul a.x.dec b.y.dec) (Z.mul a.y.dec b.x.dec)))⟩ : (A3 I))
def bi_ (a : (A3 W)) (b : (A3 W)) : I :=
  (e9_ (az_ a) (az_ b))
def a1_ (a : (A3 I)) : (A3 W) × W :=
  bif (E (Z.gcd (Z.gcd (Z.gcd (Z.of 0) a.x.dec) a.y.dec) a.z.dec)).1.bad then (((⟨(wl 0), (wl 0), (wl 0)⟩ : (A3 W)), (wl 30))) else (bif ((Z.signW (Z.gcd (Z.gcd (Z.gcd (Z.of 0) a.x.dec) a.y.dec) a.z.dec)).1 == 0) then (((⟨(wl 0), (wl 0), (wl 0)⟩ : (A3 W)), (wl 31))) else (let r11 : I := (E (Z.quo a.x.dec (Z.gcd (Z.gcd (Z.gcd (Z.of 0) a.x.dec) a.y.dec) a.z.dec)))
  bif (!r11.dec.small.2 || (decide (2305843009213693952 ≤ (Z.smallW r11.dec).1) || decide ((Z.smallW r11.dec).1 ≤ (-2305843009213693952)))) then (((⟨(wl 0), (wl 0), (wl 0)⟩ : (A3 W)), (wl 30))) else (let r19 : I := (E (Z.quo a.y.dec (Z.gcd (Z.gcd (Z.gcd (Z.of 0) a.x.dec) a.y.dec) a.z.dec)))
  bif (!r19.dec.small.2 || (decide (2305843009213693952 ≤ (Z.smallW r19.dec).1) || decide ((Z.smallW r19.dec).1 ≤ (-2305843009213693952)))) then (((⟨(wl 0), (wl 0), (wl 0)⟩ : (A3 W)), (wl 30))) else (let r27 : I := (E (Z.quo a.z.dec (Z.gcd (Z.gcd (Z.gcd (Z.of 0) a.x.dec) a.y.dec) a.z.dec)))
  bif (!r27.dec.small.2 || (decide (2305843009213693952 ≤ (Z.smallW r27.dec).1) || decide ((Z.smallW r27.dec).1 ≤ (-2305843009213693952)))) then (((⟨(wl 0), (wl 0), (wl 0)⟩ : (A3 W)), (wl 30))) else (((⟨(Z.smallW r11.dec), (Z.smallW r19.dec), (Z.smallW r27.dec)⟩ : (A3 W)), (wl 0)))))))
def F_ratio_one  : I :=
  let q0 : I := (E (Z.of 1))
  q0
def eA_  : Rt :=
  let q0 : I := (E Z.bad)
  let q1 : I := F_ratio_one
  (⟨q0, q1⟩ : Rt)
def cy_ (a : I) : Bool :=
  (!a.1.bad && a.1.valid)
def a7_ (a : Rt) : Bool :=
  ((cy_ a.n) && ((cy_ a.d) && (decide (0 < (Z.signW a.d.dec).1) && decide ((E (Z.gcd a.n.dec a.d.dec)) = F_ratio_one))))
def ap_ (a : I) (b : I) : Rt :=
  bif (!(cy_ a) || (!(cy_ b) || ((Z.signW b.dec).1 == 0))) then (eA_) else (bif decide ((Z.signW b.dec).1 < 0) then ((⟨(E (Z.quo a.dec (Z.neg (Z.gcd a.dec b.dec)))), (E (Z.quo b.dec (Z.neg (Z.gcd a.dec b.dec))))⟩ : Rt)) else ((⟨(E (Z.quo a.dec (Z.gcd a.dec b.dec))), (E (Z.quo b.dec (Z.gcd a.dec b.dec)))⟩ : Rt)))
def eI_ (a : I) : Rt :=
  (ap_ a F_ratio_one)
def aa_ (a : W) : Rt :=
  (eI_ (E (Z.of a.1)))
def co_ (a : Rt) : Rt :=
  bif (a7_ a) then ((⟨(E (Z.neg a.n.dec)), a.d⟩ : Rt)) else (eA_)
def aB_ (a : Rt) (b : Rt) : Rt :=
  bif (!(a7_ a) || (!(a7_ b))) then (eA_) else (let r15 : I := (E (Z.add (Z.mul a.n.dec (Z.quo b.d.dec (Z.gcd a.d.dec b.d.dec))) (Z.mul b.n.dec (Z.quo a.d.dec (Z.gcd a.d.dec b.d.dec)))))
  let r16 : Rt := (ap_ r15 (E (Z.mul (Z.quo a.d.dec (Z.gcd a.d.dec b.d.dec)) b.d.dec)))
  r16)
def a6_ (a : Rt) (b : Rt) : Rt :=
  (aB_ a (co_ b))
def aG_ (a : Rt) (b : Rt) : Rt :=
  bif (!(a7_ a) || (!(a7_ b))) then (eA_) else (let r26 : I := (E (Z.mul ((ap_ a.n b.d).n).dec ((ap_ b.n a.d).n).dec))
  let r27 : I := (E (Z.mul ((ap_ a.n b.d).d).dec ((ap_ b.n a.d).d).dec))
  bif (r26.1.bad || r27.1.bad) then (eA_) else ((⟨r26, r27⟩ : Rt)))
def F_skewbackref04_one  : I :=
  let q0 : I := (E (Z.of 1))
  q0
def bK_  : Rt :=
  let q0 : I := (E Z.bad)
  let q1 : I := F_skewbackref04_one
  (⟨q0, q1⟩ : Rt)
def ai_ (a : I) (b : I) : Rt :=
  bif (!a.1.good || (!b.1.good || ((Z.signW b.dec).1 == 0))) then (bK_) else (bif decide ((Z.signW b.dec).1 < 0) then ((⟨(E (Z.quo a.dec (Z.neg (Z.gcd a.dec b.dec)))), (E (Z.quo b.dec (Z.neg (Z.gcd a.dec b.dec))))⟩ : Rt)) else ((⟨(E (Z.quo a.dec (Z.gcd a.dec b.dec))), (E (Z.quo b.dec (Z.gcd a.dec b.dec)))⟩ : Rt)))
def ac_ (a : W) : Rt :=
  let r2 : Rt := (ai_ (E (Z.of a.1)) F_skewbackref04_one)
  r2
def au_ (a : W) (b : W) : Rt :=
  let r2 : Rt := (ai_ (E (Z.of a.1)) (E (Z.of b.1)))
  r2
def dh_ (a : I) : Rt :=
  let r3 : Rt := (ai_ a F_skewbackref04_one)
  r3
def ae_ (a : Rt) : Bool :=
  bif (!a.n.1.good || (!a.d.1.good)) then (false) else ((decide (0 < (Z.signW a.d.dec).1) && decide ((E (Z.gcd a.n.dec a.d.dec)) = F_skewbackref04_one)))
def bj_ (a : Rt) : Rt :=
  bif (ae_ a) then ((⟨(E (Z.neg a.n.dec)), a.d⟩ : Rt)) else (bK_)
def ag_ (a : Rt) (b : Rt) : Rt :=
  bif (!(ae_ a) || (!(ae_ b))) then (bK_) else (let r11 : I := (E (Z.add (Z.mul a.n.dec (Z.quo b.d.dec (Z.gcd a.d.dec b.d.dec))) (Z.mul b.n.dec (Z.quo a.d.dec (Z.gcd a.d.dec b.d.dec)))))
  let r12 : Rt := (ai_ r11 (E (Z.mul (Z.quo a.d.dec (Z.gcd a.d.dec b.d.dec)) b.d.dec)))
  r12)
def ak_ (a : Rt) (b : Rt) : Rt :=
  let r4 : Rt := (ag_ a (bj_ b))
  r4
def ah_ (a : Rt) (b : Rt) : Rt :=
  bif (!(ae_ a) || (!(ae_ b))) then (bK_) else (let r10 : I := (E (Z.mul ((ai_ a.n b.d).n).dec ((ai_ b.n a.d).n).dec))
  let r12 : I := (E (Z.mul ((ai_ a.n b.d).d).dec ((ai_ b.n a.d).d).dec))
  (ai_ r10 r12))
def bN_ (a : Rt) (b : Bool) : I :=
  bif b then ((E (Z.of 0))) else ((E Z.bad))
def am_ (a : (A3 W)) : (A3 W) × (A3 W) :=
  bif (decide (a.x.1 = 0) && (decide (a.y.1 = 0) && decide (a.z.1 = a.z.1))) then (((⟨(wl 1), (wl 0), (wl 0)⟩ : (A3 W)), (⟨(wl 0), (wl 1), (wl 0)⟩ : (A3 W)))) else (let r6 : (A3 W) := (a1_ (⟨(E (Z.neg ((az_ a).y).dec)), ((az_ a).x), (E (Z.of 0))⟩ : (A3 I))).1
  let r7 : W := (a1_ (⟨(E (Z.neg ((az_ a).y).dec)), ((az_ a).x), (E (Z.of 0))⟩ : (A3 I))).2
  let r9 : (A3 I) := (d9_ (az_ a) (az_ r6))
  let r10 : (A3 W) := (a1_ r9).1
  bif ((r7.1 != 0) || (((a1_ r9).2).1 != 0)) then (((⟨(wl 0), (wl 0), (wl 0)⟩ : (A3 W)), (⟨(wl 0), (wl 0), (wl 0)⟩ : (A3 W)))) else ((r6, r10)))
def cu_ (a : (A3 W)) : (A3 Rt) :=
  (⟨(aa_ a.x), (aa_ a.y), (aa_ a.z)⟩ : (A3 Rt))
def c6_ (a : (A3 Rt)) (b : (A3 Rt)) : Rt :=
  let r5 : Rt := (aB_ (aa_ (wl 0)) (aG_ a.x b.x))
  let r6 : Rt := (aB_ r5 (aG_ a.y b.y))
  let r7 : Rt := (aB_ r6 (aG_ a.z b.z))
  r7
def c5_ (a : (A3 Rt)) (b : (A3 Rt)) : (A3 Rt) :=
  let r4 : Rt := (a6_ (aG_ a.y b.z) (aG_ a.z b.y))
  let r5 : Rt := (a6_ (aG_ a.z b.x) (aG_ a.x b.z))
  let r6 : Rt := (a6_ (aG_ a.x b.y) (aG_ a.y b.x))
  (⟨r4, r5, r6⟩ : (A3 Rt))
def bO_ (a : (A3 W)) (b : (A3 Rt)) : Rt :=
  let r4 : (A3 Rt) := (cu_ a)
  (c6_ r4 b)
def cG_ (a : (A3 Rt)) (b : (A3 Rt)) : (A3 Rt) :=
  (⟨(aB_ a.x b.x), (aB_ a.y b.y), (aB_ a.z b.z)⟩ : (A3 Rt))
def cL_ (a : (A3 Rt)) (b : (A3 Rt)) : (A3 Rt) :=
  (⟨(a6_ a.x b.x), (a6_ a.y b.y), (a6_ a.z b.z)⟩ : (A3 Rt))
def cq_ (a : Rt) (b : (A3 Rt)) : (A3 Rt) :=
  (⟨(aG_ a b.x), (aG_ a b.y), (aG_ a b.z)⟩ : (A3 Rt))
def cf_ (a : (A3 W)) : Bool :=
  bif (decide (2305843009213693952 ≤ a.x.1) || decide (a.x.1 ≤ (-2305843009213693952))) then (false) else (bif (decide (2305843009213693952 ≤ a.y.1) || decide (a.y.1 ≤ (-2305843009213693952))) then (false) else (bif (decide (2305843009213693952 ≤ a.z.1) || decide (a.z.1 ≤ (-2305843009213693952))) then (false) else (true)))
def a9_ (a : (A3 W)) : (A3 I) :=
  (⟨(E (Z.of a.x.1)), (E (Z.of a.y.1)), (E (Z.of a.z.1))⟩ : (A3 I))
def bc_ (a : I) (b : I) (c : I) (d : I) : I :=
  (E (Z.sub (Z.mul a.dec b.dec) (Z.mul c.dec d.dec)))
def di_ (a : (A3 I)) (b : (A3 I)) : I :=
  let r5 : I := (E (Z.add (Z.add (Z.mul a.x.dec b.x.dec) (Z.mul a.y.dec b.y.dec)) (Z.mul a.z.dec b.z.dec)))
  r5
def cg_ (a : (A3 I)) (b : (A3 I)) : (A3 I) :=
  (⟨(bc_ a.y b.z a.z b.y), (bc_ a.z b.x a.x b.z), (bc_ a.x b.y a.y b.x)⟩ : (A3 I))
def a0_ (a : (A3 W)) (b : (A3 W)) : I :=
  let r4 : (A3 I) := (a9_ a)
  let r5 : (A3 I) := (a9_ b)
  (di_ r4 r5)
def aT_ (a : (A3 I)) : Dir :=
  bif (E (Z.gcd (Z.gcd (Z.gcd (Z.of 0) a.x.dec) a.y.dec) a.z.dec)).1.bad then ((⟨(⟨(wl 0), (wl 0), (wl 0)⟩ : (A3 W)), (wl 30)⟩ : Dir)) else (bif ((Z.signW (Z.gcd (Z.gcd (Z.gcd (Z.of 0) a.x.dec) a.y.dec) a.z.dec)).1 == 0) then ((⟨(⟨(wl 0), (wl 0), (wl 0)⟩ : (A3 W)), (wl 31)⟩ : Dir)) else (let r7 : I := (E (Z.quo a.x.dec (Z.gcd (Z.gcd (Z.gcd (Z.of 0) a.x.dec) a.y.dec) a.z.dec)))
  bif r7.dec.small.2 then (let r9 : I := (E (Z.quo a.y.dec (Z.gcd (Z.gcd (Z.gcd (Z.of 0) a.x.dec) a.y.dec) a.z.dec)))
  bif r9.dec.small.2 then (let r11 : I := (E (Z.quo a.z.dec (Z.gcd (Z.gcd (Z.gcd (Z.of 0) a.x.dec) a.y.dec) a.z.dec)))
  bif r11.dec.small.2 then (bif (cf_ (⟨(Z.smallW r7.dec), (Z.smallW r9.dec), (Z.smallW r11.dec)⟩ : (A3 W))) then ((⟨(⟨(Z.smallW r7.dec), (Z.smallW r9.dec), (Z.smallW r11.dec)⟩ : (A3 W)), (wl 0)⟩ : Dir)) else ((⟨(⟨(wl 0), (wl 0), (wl 0)⟩ : (A3 W)), (wl 30)⟩ : Dir))) else ((⟨(⟨(wl 0), (wl 0), (wl 0)⟩ : (A3 W)), (wl 30)⟩ : Dir))) else ((⟨(⟨(wl 0), (wl 0), (wl 0)⟩ : (A3 W)), (wl 30)⟩ : Dir))) else ((⟨(⟨(wl 0), (wl 0), (wl 0)⟩ : (A3 W)), (wl 30)⟩ : Dir))))
def av_ (a : (A3 W)) : (A3 W) × (A3 W) :=
  bif ((a.x.1 == 0) && (a.y.1 == 0)) then (((⟨(wl 1), (wl 0), (wl 0)⟩ : (A3 W)), (⟨(wl 0), (wl 1), (wl 0)⟩ : (A3 W)))) else (let r8 : (A3 I) := (a9_ a)
  let r10 : Dir := (aT_ (⟨(E (Z.neg r8.y.dec)), r8.x, (E (Z.of 0))⟩ : (A3 I)))
  let r12 : (A3 I) := (a9_ r10.v)
  let r13 : (A3 I) := (cg_ r8 r12)
  let r14 : Dir := (aT_ r13)
  bif ((r10.e.1 != 0) || (r14.e.1 != 0)) then (((⟨(wl 0), (wl 0), (wl 0)⟩ : (A3 W)), (⟨(wl 0), (wl 0), (wl 0)⟩ : (A3 W)))) else ((r10.v, r14.v)))
def bs_ (a : (A3 Rt)) (b : (A3 Rt)) : (A3 Rt) :=
  (⟨(ag_ a.x b.x), (ag_ a.y b.y), (ag_ a.z b.z)⟩ : (A3 Rt))
def bC_ (a : (A3 Rt)) (b : (A3 Rt)) : (A3 Rt) :=
  (⟨(ak_ a.x b.x), (ak_ a.y b.y), (ak_ a.z b.z)⟩ : (A3 Rt))
def bl_ (a : Rt) (b : (A3 Rt)) : (A3 Rt) :=
  (⟨(ah_ a b.x), (ah_ a b.y), (ah_ a b.z)⟩ : (A3 Rt))
def b5_ (a : (A3 Rt)) (b : (A3 Rt)) : Rt :=
  let r5 : Rt := (ag_ (ah_ a.x b.x) (ah_ a.y b.y))
  let r6 : Rt := (ag_ r5 (ah_ a.z b.z))
  r6
def bD_ (a : Rt) (b : Rt) (c : Rt) (d : Rt) : Rt :=
  let r6 : Rt := (ak_ (ah_ a b) (ah_ c d))
  r6
def b6_ (a : (A3 Rt)) (b : (A3 Rt)) : (A3 Rt) :=
  let r4 : Rt := (bD_ a.y b.z a.z b.y)
  let r5 : Rt := (bD_ a.z b.x a.x b.z)
  let r6 : Rt := (bD_ a.x b.y a.y b.x)
  (⟨r4, r5, r6⟩ : (A3 Rt))
def bf_ (a : (A3 W)) : (A3 Rt) :=
  (⟨(ac_ a.x), (ac_ a.y), (ac_ a.z)⟩ : (A3 Rt))
def aV_ (a : (A3 W)) (b : (A3 Rt)) : Rt :=
  let r4 : (A3 Rt) := (bf_ a)
  (b5_ r4 b)
end Go.Num

