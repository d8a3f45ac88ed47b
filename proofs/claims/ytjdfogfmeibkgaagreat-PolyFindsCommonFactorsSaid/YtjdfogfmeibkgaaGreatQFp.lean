/- What these functions compute, as plain functions. No program stands in it. -/
import Derived.Test.YtjdfogfmeibkgaaGreatQGE
set_option linter.unusedVariables false
set_option linter.unusedSimpArgs false
namespace Go.Num
open Go Go.Kn
def by_ (a : I) : I :=
  a
def dX_ (a : I) : Bool :=
  (!a.1.bad && a.1.valid)
def F_poly_bad  : (List I) :=
  let q0 : I := (E Z.bad)
  [q0]
def bF_ (n : Int) (f : Nat → I) (o : I → I) : Nat → (List I) → Nat → (List I × Nat) ⊕ ((List I))
  | 0, out, i => .inl (out, i)
  | k0 + 1, out, i => bif decide (((i : Nat) : Int) < (((n).toNat : Nat) : Int)) then (bif (dX_ (o (f i))) then ((bF_ n f o k0 (out ++ [(o (f i))]) (i + 1))) else (.inr (F_poly_bad))) else (.inl (out, i))
def bG_ (n : Int) (f : Nat → I) (o : I → I) (out : List I) (i : Nat) : Nat → (List I) → List I
  | 0, cut => cut
  | k1 + 1, cut => bif (decide (0 < (((cut).length : Nat) : Int)) && ((Z.signW (cut.getD ((cut).length - 1) I0).dec).1 == 0)) then ((bG_ n f o out i k1 (cut.take ((cut).length - 1)))) else (cut)
def bh_ (n : Int) (f : Nat → I) (o : I → I) : (List I) :=
  sm (fun (s_ : List I × Nat) => let out : List I := s_.1
  let i : Nat := s_.2
  ap (fun (s : List I) => let cut : List I := s
  bif decide (25 < (((cut).length : Nat) : Int)) then (F_poly_bad) else (cut)) (bG_ n f o out i ((out.length + 1)) out)) (fun r => r) (bF_ n f o ((n.toNat + 1)) ([] : List I) 0)
def bQ_ (n : Int) (f : Nat → Go.Num.W) (o : Go.Num.W → I) : Nat → (List I) → Nat → (List I × Nat) ⊕ ((List I))
  | 0, out, i => .inl (out, i)
  | k0 + 1, out, i => bif decide (((i : Nat) : Int) < (((n).toNat : Nat) : Int)) then (bif (dX_ (o (f i))) then ((bQ_ n f o k0 (out ++ [(o (f i))]) (i + 1))) else (.inr (F_poly_bad))) else (.inl (out, i))
def bR_ (n : Int) (f : Nat → Go.Num.W) (o : Go.Num.W → I) (out : List I) (i : Nat) : Nat → (List I) → List I
  | 0, cut => cut
  | k1 + 1, cut => bif (decide (0 < (((cut).length : Nat) : Int)) && ((Z.signW (cut.getD ((cut).length - 1) I0).dec).1 == 0)) then ((bR_ n f o out i k1 (cut.take ((cut).length - 1)))) else (cut)
def cm_ (n : Int) (f : Nat → Go.Num.W) (o : Go.Num.W → I) : (List I) :=
  sm (fun (s_ : List I × Nat) => let out : List I := s_.1
  let i : Nat := s_.2
  ap (fun (s : List I) => let cut : List I := s
  bif decide (25 < (((cut).length : Nat) : Int)) then (F_poly_bad) else (cut)) (bR_ n f o out i ((out.length + 1)) out)) (fun r => r) (bQ_ n f o ((n.toNat + 1)) ([] : List I) 0)
def bU_ (l : (List I)) (f : I → Bool) : Nat → Nat → (Nat) ⊕ (W)
  | 0, i => .inl i
  | k0 + 1, i => bif decide (((i : Nat) : Int) < (((l).length : Nat) : Int)) then (bif (f (l.getD i I0)) then (.inr ((W.cv ((i : Nat) : Int)))) else ((bU_ l f k0 (i + 1)))) else (.inl i)
def dV_ (l : (List I)) (f : I → Bool) : W :=
  sm (fun (s : Nat) => let i : Nat := s
  (wl (-1))) (fun r => r) (bU_ l f ((l.length + 1)) 0)
def do_ (l : (List I)) (f : I → Bool) : Bool :=
  (decide (0 ≤ (dV_ l f).1))
def d7_ (a : I) : Bool :=
  (!(dX_ a))
def ae_ (p : (List I)) : Bool :=
  (do_ p (fun (y : I) => (d7_ y)))
def cz_ (l : (List Rt)) (f : Rt → Bool) : Nat → Nat → (Nat) ⊕ (W)
  | 0, i => .inl i
  | k0 + 1, i => bif decide (((i : Nat) : Int) < (((l).length : Nat) : Int)) then (bif (f (l.getD i Rt0)) then (.inr ((W.cv ((i : Nat) : Int)))) else ((cz_ l f k0 (i + 1)))) else (.inl i)
def ef_ (l : (List Rt)) (f : Rt → Bool) : W :=
  sm (fun (s : Nat) => let i : Nat := s
  (wl (-1))) (fun r => r) (cz_ l f ((l.length + 1)) 0)
def eC_ (l : (List Rt)) (f : Rt → Bool) : Bool :=
  (decide (0 ≤ (ef_ l f).1))
def et_ (a : Rt) : Bool :=
  (!(cc_ a))
def b7_ (l : (List Rt)) : Bool :=
  (!(eC_ l (fun (y : Rt) => (et_ y))))
def di_ (k : Nat) (l : (List I)) : I :=
  (l.getD k I0)
def ak_ (l : (List I)) : (List I) :=
  (bh_ (((l).length : Nat) : Int) (fun (y : Nat) => (di_ y l)) (fun (y : I) => (by_ y)))
def eH_ (k : Nat) (l : (List W)) : W :=
  (l.getD k W.z)
def bc_ (l : (List W)) : (List I) :=
  (cm_ (((l).length : Nat) : Int) (fun (y : Nat) => (eH_ y l)) (fun (y : Go.Num.W) => (E (Z.of y.1))))
def bZ_ (p : (List I)) : W :=
  bif (ae_ p) then ((wl (-2))) else ((W.cv ((((p).length : Nat) : Int) - 1)))
def aD_ (p : (List I)) (k : Int) : I :=
  bif (decide (k < 0) || decide ((((p).length : Nat) : Int) ≤ k)) then (I0) else ((p.getD ((k).toNat) I0))
def dd_ (k : Nat) (f : I → I → I) (p : (List I)) (q : (List I)) : I :=
  (f (aD_ p ((k : Nat) : Int)) (aD_ q ((k : Nat) : Int)))
def bl_ (p : (List I)) (q : (List I)) (f : I → I → I) : (List I) :=
  bif ((ae_ p) || (ae_ q)) then (F_poly_bad) else ((bh_ (((max ((p).length) ((q).length)) : Nat) : Int) (fun (y : Nat) => (dd_ y f p q)) (fun (y : I) => (by_ y))))
def dA_ (p : (List I)) (q : (List I)) : (List I) :=
  (bl_ p q (fun (y : I) (z : I) => (E (Z.add y.dec z.dec))))
def bN_ (k : Nat) (q : (List I)) (p : (List I)) : Nat → Nat → I → Nat × I
  | 0, i, mb2 => (i, mb2)
  | k0 + 1, i, mb2 => bif decide (((i : Nat) : Int) ≤ (min ((k : Nat) : Int) ((((p).length : Nat) : Int) - 1))) then ((bN_ k q p k0 (i + 1) (E (Z.add mb2.dec (Z.mul (p.getD i I0).dec (q.getD (k - i) I0).dec))))) else ((i, mb2))
def cP_ (k : Nat) (q : (List I)) (p : (List I)) : I :=
  ap (fun (s : Nat × I) => let i : Nat := s.1
  let mb2 : I := s.2
  mb2) (bN_ k q p ((k + 2)) ((((((k : Nat) : Int) - (((q).length : Nat) : Int)) + 1)).toNat) I0)
def aa_ (p : (List I)) (q : (List I)) : (List I) :=
  bif ((ae_ p) || (ae_ q)) then (F_poly_bad) else (bif (((((p).length : Nat) : Int) == 0) || ((((q).length : Nat) : Int) == 0)) then (([] : List I)) else ((bh_ (((((p).length + (q).length) : Nat) : Int) - 1) (fun (y : Nat) => (cP_ y q p)) (fun (y : I) => (by_ y)))))
def cK_ (k : Nat) (p : (List I)) : I :=
  (E (Z.mul (Z.of (((k + 1) : Nat) : Int)) (p.getD (k + 1) I0).dec))
def ad_ (p : (List I)) : (List I) :=
  bif (ae_ p) then (F_poly_bad) else ((bh_ ((((p).length : Nat) : Int) - 1) (fun (y : Nat) => (cK_ y p)) (fun (y : I) => (by_ y))))
def bY_ (p : (List I)) : List I → W → W → W × W
  | [], n, last => (n, last)
  | x0 :: l0, n, last => let r11 : W := (bif ((Z.signW x0.dec).1 != 0) then (bif ((Z.signW x0.dec).1 == (W.neg last).1) then (W.add n (wl 1)) else n) else n)
  let r12 : W := (bif ((Z.signW x0.dec).1 != 0) then (Z.signW x0.dec) else last)
  (bY_ p l0 r11 r12)
def cN_ (p : (List I)) : W :=
  bif (ae_ p) then ((wl 0)) else (ap (fun (s : W × W) => let n : W := s.1
  let last : W := s.2
  n) (bY_ p p (wl 0) (wl 0)))
def bL_ (l : (List I)) : List I → I → I
  | [], mb2 => mb2
  | x0 :: l0, mb2 => (bL_ l l0 (E (Z.gcd mb2.dec x0.dec)))
def av_ (l : (List I)) : I :=
  ap (fun (s : I) => let mb2 : I := s
  mb2) (bL_ l l I0)
def cf_ (a : I) (b : I) (n : I) : I :=
  (E (Z.quo a.dec n.dec))
def ab_ (p : (List I)) : (List I) :=
  (bl_ p ([] : List I) (fun (y : I) (z : I) => (cf_ y z (av_ p))))
def bS_ (d : I) (n : Int) : Nat → (List I) → List I
  | 0, out => out
  | k0 + 1, out => bif decide ((((out).length : Nat) : Int) < n) then ((bS_ d n k0 (out ++ [(E (Z.mul (out.getD ((out).length - 1) I0).dec d.dec))]))) else (out)
def aB_ (d : I) (n : Int) : (List I) :=
  ap (fun (s : List I) => let out : List I := s
  out) (bS_ d n ((n.toNat + 1)) [(E (Z.of 1))])
def cB_ (p : (List I)) (x : Rt) : Nat → Int → I → Int × I
  | 0, i, mb3 => (i, mb3)
  | k0 + 1, i, mb3 => bif decide (0 ≤ i) then (let r25 : I := (E (Z.mul (p.getD ((i).toNat) I0).dec ((aB_ x.d (((p).length : Nat) : Int)).getD (((p).length - 1) - (i).toNat) I0).dec))
  (cB_ p x k0 (i - 1) (E (Z.add (Z.mul mb3.dec x.n.dec) r25.dec)))) else ((i, mb3))
def b2_ (p : (List I)) (x : Rt) : I × I :=
  bif ((ae_ p) || (!(b7_ [x]))) then (((E Z.bad), (E (Z.of 1)))) else (ap (fun (s : Int × I) => let i : Int := s.1
  let mb3 : I := s.2
  (mb3, ((aB_ x.d (((p).length : Nat) : Int)).getD ((((((p).length : Nat) : Int) - 1)).toNat) I0))) (cB_ p x ((p.length + 1)) ((((p).length : Nat) : Int) - 1) I0))
def dY_ (p : (List I)) (x : Rt) : Rt :=
  let r3 : Rt := (bJ_ ((b2_ p x).1) ((b2_ p x).2))
  r3
def a5_ (p : (List I)) (q : (List I)) (i : Int) (r : List I) (r53 : I) : Nat → Nat → (List I) → (Nat × List I) ⊕ ((List I))
  | 0, k, t => .inl (k, t)
  | k1 + 1, k, t => bif decide (((k : Nat) : Int) < (((r).length : Nat) : Int)) then (let r66 : I := (E (Z.sub (Z.mul (Z.abs (q.getD ((q).length - 1) I0).dec) (t.getD k I0).dec) (Z.mul r53.dec (aD_ q (((k : Nat) : Int) - i)).dec)))
  bif ((t.set k r66).getD k I0).1.bad then (.inr (F_poly_bad)) else ((a5_ p q i r r53 k1 (k + 1) (t.set k r66)))) else (.inl (k, t))
def aP_ (p : (List I)) (q : (List I)) : Nat → Int → (List I) → (Int × List I) ⊕ ((List I))
  | 0, i, r => .inl (i, r)
  | k0 + 1, i, r => bif decide (0 ≤ i) then (let r53 : I := (E (Z.mul (Z.of (Z.signW (q.getD ((q).length - 1) I0).dec).1) (r.getD ((i).toNat + ((q).length - 1)) I0).dec))
  sm (fun (s : Nat × List I) => let k : Nat := s.1
  let t : List I := s.2
  (aP_ p q k0 (i - 1) t)) (fun r => .inr r) (a5_ p q i r r53 ((r.length + 1)) 0 r)) else (.inl (i, r))
def ao_ (p : (List I)) (q : (List I)) : (List I) :=
  bif ((ae_ p) || ((ae_ q) || ((((q).length : Nat) : Int) == 0))) then (F_poly_bad) else (sm (fun (s : Int × List I) => let i : Int := s.1
  let r : List I := s.2
  (ak_ r)) (fun r => r) (aP_ p q ((p.length + 1)) (((((p).length : Nat) : Int) - 1) - ((((q).length : Nat) : Int) - 1)) ([] ++ p)))
def ci_ (n : Int) (i : Int) : Nat → Int → I → Int × I
  | 0, j, mb1 => (j, mb1)
  | k0 + 1, j, mb1 => bif decide (j ≤ n) then ((ci_ n i k0 (j + 1) (E (Z.mul mb1.dec (Z.of j))))) else ((j, mb1))
def bE_ (n : Int) (i : Int) (j : Int) (mb1 : I) : Nat → (List I) → Nat → I → List I × Nat × I
  | 0, out, k, mb1_1 => (out, k, mb1_1)
  | k1 + 1, out, k, mb1_1 => bif decide (((k : Nat) : Int) < (i + 1)) then (bif decide (((k : Nat) : Int) < n) then (let r22 : I := (E (Z.quo (Z.mul mb1_1.dec (Z.of (i - ((k : Nat) : Int)))) (Z.of (n - ((k : Nat) : Int)))))
  (bE_ n i j mb1 k1 (out ++ [mb1_1]) (k + 1) r22)) else ((bE_ n i j mb1 k1 (out ++ [mb1_1]) (k + 1) mb1_1))) else ((out, k, mb1_1))
def aN_ (n : Int) (i : Int) : (List I) :=
  ap (fun (s_ : Int × I) => let j : Int := s_.1
  let mb1 : I := s_.2
  ap (fun (s : List I × Nat × I) => let out : List I := s.1
  let k : Nat := s.2.1
  let mb1_1 : I := s.2.2
  out) (bE_ n i j mb1 (((i + 1).toNat + 1)) ([] : List I) 0 mb1)) (ci_ n i ((n.toNat + 1)) 2 (E (Z.of 1)))
def cj_ (a : I) : Bool :=
  (!a.1.bad && a.1.valid)
def F_skewbackref08_bad  : (List I) :=
  let q0 : I := (E Z.bad)
  [q0]
def a6_ (l : (List I)) : Nat → Int → Nat → (Int × Nat) ⊕ ((List I))
  | 0, last, i => .inl (last, i)
  | k0 + 1, last, i => bif decide (((i : Nat) : Int) < (((l).length : Nat) : Int)) then (bif (cj_ (l.getD i I0)) then (bif ((Z.signW (l.getD i I0).dec).1 != 0) then ((a6_ l k0 ((i : Nat) : Int) (i + 1))) else ((a6_ l k0 last (i + 1)))) else (.inr (F_skewbackref08_bad))) else (.inl (last, i))
def bn_ (l : (List I)) (last : Int) (i : Nat) : Nat → (List I) → Nat → List I × Nat
  | 0, out, j => (out, j)
  | k1 + 1, out, j => bif decide (((j : Nat) : Int) ≤ last) then ((bn_ l last i k1 (out ++ [(l.getD j I0)]) (j + 1))) else ((out, j))
def a9_ (l : (List I)) : (List I) :=
  sm (fun (s_ : Int × Nat) => let last : Int := s_.1
  let i : Nat := s_.2
  bif decide (24 < last) then (F_skewbackref08_bad) else (ap (fun (s : List I × Nat) => let out : List I := s.1
  let j : Nat := s.2
  out) (bn_ l last i (((last + 1).toNat + 1)) ([] : List I) 0))) (fun r => r) (a6_ l ((l.length + 1)) (-1) 0)
def bW_ (l : (List W)) : Nat → (List I) → Nat → List I × Nat
  | 0, out, i => (out, i)
  | k0 + 1, out, i => bif decide (((i : Nat) : Int) < (((l).length : Nat) : Int)) then ((bW_ l k0 (out ++ [(E (Z.of (l.getD i W.z).1))]) (i + 1))) else ((out, i))
def aw_ (l : (List W)) : (List I) :=
  ap (fun (s : List I × Nat) => let out : List I := s.1
  let i : Nat := s.2
  (a9_ out)) (bW_ l ((l.length + 1)) ([] : List I) 0)
def aZ_ (p : (List I)) : Nat → Nat → (Nat) ⊕ (Bool)
  | 0, i => .inl i
  | k0 + 1, i => bif decide (((i : Nat) : Int) < (((p).length : Nat) : Int)) then (bif (cj_ (p.getD i I0)) then ((aZ_ p k0 (i + 1))) else (.inr (true))) else (.inl i)
def bf_ (p : (List I)) : Bool :=
  sm (fun (s : Nat) => let i : Nat := s
  false) (fun r => r) (aZ_ p ((p.length + 1)) 0)
def bj_ (a : (List I)) (b : (List I)) : Nat → Nat → (Nat) ⊕ (Bool)
  | 0, i => .inl i
  | k0 + 1, i => bif decide (((i : Nat) : Int) < (((a).length : Nat) : Int)) then (bif decide ((a.getD i I0) = (b.getD i I0)) then ((bj_ a b k0 (i + 1))) else (.inr (false))) else (.inl i)
def ai_ (a : (List I)) (b : (List I)) : Bool :=
  bif ((((a).length : Nat) : Int) != (((b).length : Nat) : Int)) then (false) else (sm (fun (s : Nat) => let i : Nat := s
  true) (fun r => r) (bj_ a b ((a.length + 1)) 0))
def aO_ (p : (List I)) : Bool :=
  bif (((((p).length : Nat) : Int) == 1) && decide ((p.getD 0 I0) = (E Z.bad))) then (true) else (bif ((bf_ p) || decide (25 < (((p).length : Nat) : Int))) then (false) else ((((((p).length : Nat) : Int) == 0) || ((Z.signW (p.getD ((p).length - 1) I0).dec).1 != 0))))
def br_ (p : (List I)) (d : Int) (b : Int) : Nat → Nat → (Nat) ⊕ (Bool)
  | 0, i => .inl i
  | k0 + 1, i => bif decide (((i : Nat) : Int) < (((p).length : Nat) : Int)) then (bif decide (b < (Z.bitsW (p.getD i I0).dec).1) then (.inr (false)) else ((br_ p d b k0 (i + 1)))) else (.inl i)
def ah_ (p : (List I)) (d : Int) (b : Int) : Bool :=
  bif (!(aO_ p) || decide ((d + 1) < (((p).length : Nat) : Int))) then (false) else (sm (fun (s : Nat) => let i : Nat := s
  true) (fun r => r) (br_ p d b ((p.length + 1)) 0))
end Go.Num

set_option linter.unusedVariables false
set_option linter.unusedSimpArgs false
namespace Go.Num
open Go Go.Kn
def aQ_ (p : (List I)) (q : (List I)) : Nat → (List I) → (List I) → (List I × List I) ⊕ ((List I))
  | 0, a, b => .inl (a, b)
  | k0 + 1, a, b => bif decide (0 < (((b).length : Nat) : Int)) then (bif ((ae_ a) || (ae_ b)) then (.inr (F_poly_bad)) else ((aQ_ p q k0 b (ab_ (ao_ a b))))) else (.inl (a, b))
def ac_ (p : (List I)) (q : (List I)) : (List I) :=
  sm (fun (s : List I × List I) => let a : List I := s.1
  let b : List I := s.2
  bif (((((a).length : Nat) : Int) == 0) || decide (0 < (Z.signW (a.getD ((a).length - 1) I0).dec).1)) then (a) else ((bl_ ([] : List I) a (fun (y : I) (z : I) => (E (Z.sub y.dec z.dec)))))) (fun r => r) (aQ_ p q ((gmP (ab_ q) + 1)) (ab_ p) (ab_ q))
def bA_ (p : (List I)) (a : Rt) (b : Rt) : Nat → (List I) → Int → List I × Int
  | 0, r, i => (r, i)
  | k0 + 1, r, i => bif decide (0 ≤ i) then (let r32 : I := (E (Z.mul (p.getD ((i).toNat) I0).dec ((aB_ (E (Z.mul a.d.dec b.d.dec)) (((p).length : Nat) : Int)).getD (((p).length - 1) - (i).toNat) I0).dec))
  (bA_ p a b k0 (dA_ (aa_ r (ak_ [(E (Z.mul a.n.dec b.d.dec)), (E (Z.mul b.n.dec a.d.dec))])) (ak_ [r32])) (i - 1))) else ((r, i))
def bC_ (p : (List I)) (a : Rt) (b : Rt) : (List I) :=
  bif ((ae_ p) || (!(b7_ [a, b]))) then (F_poly_bad) else (ap (fun (s : List I × Int) => let r : List I := s.1
  let i : Int := s.2
  r) (bA_ p a b ((p.length + 1)) ([] : List I) ((((p).length : Nat) : Int) - 1)))
def bi_ (p : (List I)) (a : Rt) (b : Rt) : (List I) :=
  (ab_ (bC_ p a b))
def b5_ (p : (List I)) (a : Rt) (b : Rt) (out : List I) (i : Nat) : Nat → Nat → I → Nat × I
  | 0, j, mb40 => (j, mb40)
  | k1 + 1, j, mb40 => bif decide (((j : Nat) : Int) < ((((aN_ ((((p).length : Nat) : Int) - 1) ((i : Nat) : Int))).length : Nat) : Int)) then (let r52 : I := (E (Z.mul ((aN_ ((((p).length : Nat) : Int) - 1) ((i : Nat) : Int)).getD j I0).dec (aD_ (bi_ p a (bT_ b a)) ((j : Nat) : Int)).dec))
  (b5_ p a b out i k1 (j + 1) (E (Z.add mb40.dec r52.dec)))) else ((j, mb40))
def b4_ (p : (List I)) (a : Rt) (b : Rt) : Nat → (List I) → Nat → (List I × Nat) ⊕ ((List I) × Bool)
  | 0, out, i => .inl (out, i)
  | k0 + 1, out, i => bif decide (((i : Nat) : Int) < (((p).length : Nat) : Int)) then (ap (fun (s : Nat × I) => let j : Nat := s.1
  let mb40 : I := s.2
  bif mb40.1.bad then (.inr ((([] : List I), false))) else ((b4_ p a b k0 (out ++ [mb40]) (i + 1)))) (b5_ p a b out i ((((aN_ ((((p).length : Nat) : Int) - 1) ((i : Nat) : Int))).length + 1)) 0 I0)) else (.inl (out, i))
def b6_ (p : (List I)) (a : Rt) (b : Rt) (out : List I) (i : Nat) : Nat → Nat → (List I) → Nat × List I
  | 0, k, t => (k, t)
  | k2 + 1, k, t => bif decide (((k : Nat) : Int) < (((out).length : Nat) : Int)) then ((b6_ p a b out i k2 (k + 1) (t.set k (E (Z.quo (t.getD k I0).dec (av_ out).dec))))) else ((k, t))
def aW_ (p : (List I)) (a : Rt) (b : Rt) : (List I) × Bool :=
  bif ((ae_ p) || (!(b7_ [a, b]))) then ((([] : List I), false)) else (bif (ae_ (bi_ p a (bT_ b a))) then ((([] : List I), false)) else (sm (fun (s_ : List I × Nat) => let out : List I := s_.1
  let i : Nat := s_.2
  bif ((Z.signW (av_ out).dec).1 != 0) then (ap (fun (s : Nat × List I) => let k : Nat := s.1
  let t : List I := s.2
  (t, true)) (b6_ p a b out i ((out.length + 1)) 0 out)) else ((out, true))) (fun r => r) (b4_ p a b ((p.length + 1)) ([] : List I) 0)))
end Go.Num

set_option linter.unusedVariables false
set_option linter.unusedSimpArgs false
namespace Go.Num
open Go Go.Kn
def bv_ (p : (List I)) (i : Int) (r : List I) (f : List I) (r66 : I) : Nat → Nat → (List I) → (Nat × List I) ⊕ ((List I))
  | 0, k, t => .inl (k, t)
  | k1 + 1, k, t => bif decide (((k : Nat) : Int) < ((((ac_ p (ad_ p))).length : Nat) : Int)) then (let r82 : I := (E (Z.mul ((f.set ((i).toNat) r66).getD ((i).toNat) I0).dec ((ac_ p (ad_ p)).getD k I0).dec))
  bif ((t.set ((i).toNat + k) (E (Z.sub (t.getD ((i).toNat + k) I0).dec r82.dec))).getD ((i).toNat + k) I0).1.bad then (.inr (F_poly_bad)) else ((bv_ p i r f r66 k1 (k + 1) (t.set ((i).toNat + k) (E (Z.sub (t.getD ((i).toNat + k) I0).dec r82.dec)))))) else (.inl (k, t))
def bu_ (p : (List I)) : Nat → Int → (List I) → (List I) → (Int × List I × List I) ⊕ ((List I))
  | 0, i, r, f => .inl (i, r, f)
  | k0 + 1, i, r, f => bif decide (0 ≤ i) then (let r66 : I := (E (Z.quo (r.getD ((i).toNat + (((ac_ p (ad_ p))).length - 1)) I0).dec ((ac_ p (ad_ p)).getD (((ac_ p (ad_ p))).length - 1) I0).dec))
  sm (fun (s : Nat × List I) => let k : Nat := s.1
  let t : List I := s.2
  (bu_ p k0 (i - 1) t (f.set ((i).toNat) r66))) (fun r => .inr r) (bv_ p i r f r66 ((((ac_ p (ad_ p))).length + 1)) 0 r)) else (.inl (i, r, f))
def af_ (p : (List I)) : (List I) :=
  bif ((ae_ (ac_ p (ad_ p))) || (ae_ (ab_ p))) then (F_poly_bad) else (bif (((((ab_ p)).length : Nat) : Int) == 0) then (([] : List I)) else (sm (fun (s : Int × List I × List I) => let i : Int := s.1
  let r : List I := s.2.1
  let f : List I := s.2.2
  bif ((((((ak_ f)).length : Nat) : Int) == 0) || decide (0 < (Z.signW ((ak_ f).getD (((ak_ f)).length - 1) I0).dec).1)) then ((ak_ f)) else ((bl_ ([] : List I) (ak_ f) (fun (y : I) (z : I) => (E (Z.sub y.dec z.dec)))))) (fun r => r) (bu_ p (((ab_ p).length + 2)) (((((List.replicate (((ab_ p)).length - (((ac_ p (ad_ p))).length - 1)) I0)).length : Nat) : Int) - 1) (ab_ p) (List.replicate (((ab_ p)).length - (((ac_ p (ad_ p))).length - 1)) I0))))
end Go.Num

set_option linter.unusedVariables false
set_option linter.unusedSimpArgs false
namespace Go.Num
open Go Go.Kn
def eN_ (a : W) (b : W) : Rt :=
  let r2 : Rt := (bJ_ (E (Z.of a.1)) (E (Z.of b.1)))
  r2
end Go.Num

set_option linter.unusedVariables false
set_option linter.unusedSimpArgs false
namespace Go.Num
open Go Go.Kn
def aI_  : Bool :=
  let q0 : (List I) := (bc_ [(wl 1), (wl 1)])
  let q1 : (List I) := (bc_ [(wl (-1)), (wl 1)])
  let q2 : (List I) := (aa_ q0 q1)
  let q3 : Rt := (eN_ (wl 1) (wl 2))
  let q4 : (List I) := (aw_ [(wl (-1)), (wl 0), (wl 1)])
  let q5 : Bool := (ai_ q2 q4)
  let q6 : (List I) := (ad_ q2)
  let q7 : (List I) := (aw_ [(wl 0), (wl 2)])
  let q8 : Bool := (ai_ q6 q7)
  let q9 : (List I) := (bc_ [(wl 1), (wl 0), (wl 4)])
  let q10 : Rt := (dY_ q9 q3)
  let q11 : Rt := (cu_ (wl 2))
  let q12 : Rt := (cu_ (wl (-3)))
  let q13 : Rt := (dY_ q9 q12)
  let q14 : Rt := (cu_ (wl 37))
  let q15 : (List I) := (aw_ [(wl 5)])
  let q16 : (List I) := (bc_ [(wl 1), (wl 0), (wl 1)])
  let q17 : (List I) := (bc_ [(wl 1), (wl 2)])
  let q18 : (List I) := (ao_ q16 q17)
  let q19 : Bool := (ai_ q18 q15)
  let q20 : (List I) := (bc_ [(wl 1), (wl (-2))])
  let q21 : (List I) := (ao_ q16 q20)
  let q22 : Bool := (ai_ q21 q15)
  let q23 : (List I) := (bc_ [(wl (-4)), (wl 6)])
  let q24 : (List I) := (ab_ q23)
  let q25 : (List I) := (aw_ [(wl (-2)), (wl 3)])
  let q26 : Bool := (ai_ q24 q25)
  let q27 : (List I) := (bc_ [(wl (-1)), (wl 0), (wl 1)])
  let q28 : (List I) := (bc_ [(wl 2), (wl (-2))])
  let q29 : (List I) := (ac_ q27 q28)
  let q30 : (List I) := (aw_ [(wl (-1)), (wl 1)])
  let q31 : Bool := (ai_ q29 q30)
  let q32 : (List I) := (bc_ [(wl 0), (wl 0), (wl 3), (wl 3)])
  let q33 : (List I) := (af_ q32)
  let q34 : (List I) := (aw_ [(wl 0), (wl 1), (wl 1)])
  let q35 : Bool := (ai_ q33 q34)
  let q36 : (List I) := (bc_ [(wl 0), (wl 0), (wl 1)])
  let q37 : Rt := (cu_ (wl 1))
  let q38 : (List I) := (bi_ q36 q3 q37)
  let q39 : (List I) := (aw_ [(wl 1), (wl 4), (wl 4)])
  let q40 : Bool := (ai_ q38 q39)
  let q41 : (List I) := (bc_ [(wl 1), (wl (-1)), (wl 0), (wl 1), (wl 1)])
  let q42 : W := (cN_ q41)
  let q43 : Rt := (cu_ (wl 0))
  let q44 : (List I) := (aW_ q36 q43 q37).1
  let q45 : Bool := (aW_ q36 q43 q37).2
  let q46 : (List I) := (aW_ q27 q43 q11).1
  let q47 : Bool := (aW_ q27 q43 q11).2
  let q48 : I := (E (Z.of 0))
  let q49 : I := (E (Z.of 1))
  let q50 : (List I) := (aw_ [(wl (-1)), (wl (-1)), (wl 3)])
  let q51 : Bool := (ai_ q46 q50)
  let q52 : I := (E Z.bad)
  let q53 : (List I) := (ak_ [q52])
  let q54 : Bool := (ae_ q53)
  let q55 : (List I) := (bc_ ([] : List W))
  let q56 : W := (bZ_ q55)
  ((q5 && q8) && (((decide (q10.n = q11.n) && decide (q10.d = q11.d)) && (decide (q13.n = q14.n) && decide (q13.d = q14.d))) && ((q19 && q22) && ((q26 && (q31 && q35)) && ((q40 && (q42.1 == 2)) && ((q45 && (q47 && (((((q44).length : Nat) : Int) == 3) && (decide ((q44.getD 0 I0) = q48) && (decide ((q44.getD 1 I0) = q48) && (decide ((q44.getD 2 I0) = q49) && q51)))))) && (q54 && (q56.1 == (-1)))))))))
end Go.Num

set_option linter.unusedVariables false
set_option linter.unusedSimpArgs false
namespace Go.Num
open Go Go.Kn
def aF_ (p : (List I)) (q : (List I)) (s : (List I)) : Bool :=
  bif (!(ah_ p 3 12) || (!(ah_ q 3 12) || (!(ah_ s 3 12) || ((ae_ p) || ((ae_ q) || (ae_ s)))))) then (aI_) else (bif ((((((aa_ p s)).length : Nat) : Int) == 0) && (((((aa_ q s)).length : Nat) : Int) == 0)) then ((aI_ && (((((ac_ (aa_ p s) (aa_ q s))).length : Nat) : Int) == 0))) else (bif ((((((ac_ (aa_ p s) (aa_ q s))).length : Nat) : Int) == 0) || ((ae_ (ac_ (aa_ p s) (aa_ q s))) || ((((((ao_ (aa_ p s) (ac_ (aa_ p s) (aa_ q s)))).length : Nat) : Int) != 0) || ((((((ao_ (aa_ q s) (ac_ (aa_ p s) (aa_ q s)))).length : Nat) : Int) != 0) || ((Z.signW ((ac_ (aa_ p s) (aa_ q s)).getD (((ac_ (aa_ p s) (aa_ q s))).length - 1) I0).dec).1 != 1))))) then (false) else ((aI_ && ((((((ao_ (ac_ (aa_ p s) (aa_ q s)) s)).length : Nat) : Int) == 0) && ((ai_ (ab_ (ac_ (aa_ p s) (aa_ q s))) (ac_ (aa_ p s) (aa_ q s))) && (ai_ (ac_ (aa_ q s) (aa_ p s)) (ac_ (aa_ p s) (aa_ q s)))))))))
end Go.Num

