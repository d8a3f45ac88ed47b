/- What these functions compute, as plain functions. No program stands in it. -/
import Derived.Test.YtjdfogfmeibkgaaGreatRGE
set_option linter.unusedVariables false
set_option linter.unusedSimpArgs false
namespace Go.Num
open Go Go.Kn
def bT_ (a : I) : I :=
  a
def eo_ (a : I) : Bool :=
  (!a.1.bad && a.1.valid)
def F_poly_bad  : (List I) :=
  let q0 : I := (E Z.bad)
  [q0]
def b1_ (n : Int) (f : Nat → I) (o : I → I) : Nat → (List I) → Nat → (List I × Nat) ⊕ ((List I))
  | 0, out, i => .inl (out, i)
  | k0 + 1, out, i => bif decide (((i : Nat) : Int) < (((n).toNat : Nat) : Int)) then (bif (eo_ (o (f i))) then ((b1_ n f o k0 (out ++ [(o (f i))]) (i + 1))) else (.inr (F_poly_bad))) else (.inl (out, i))
def b0_ (n : Int) (f : Nat → I) (o : I → I) (out : List I) (i : Nat) : Nat → (List I) → List I
  | 0, cut => cut
  | k1 + 1, cut => bif (decide (0 < (((cut).length : Nat) : Int)) && ((Z.signW (cut.getD ((cut).length - 1) I0).dec).1 == 0)) then ((b0_ n f o out i k1 (cut.take ((cut).length - 1)))) else (cut)
def bw_ (n : Int) (f : Nat → I) (o : I → I) : (List I) :=
  sm (fun (s_ : List I × Nat) => let out : List I := s_.1
  let i : Nat := s_.2
  ap (fun (s : List I) => let cut : List I := s
  bif decide (25 < (((cut).length : Nat) : Int)) then (F_poly_bad) else (cut)) (b0_ n f o out i ((out.length + 1)) out)) (fun r => r) (b1_ n f o ((n.toNat + 1)) ([] : List I) 0)
def cm_ (n : Int) (f : Nat → Go.Num.W) (o : Go.Num.W → I) : Nat → (List I) → Nat → (List I × Nat) ⊕ ((List I))
  | 0, out, i => .inl (out, i)
  | k0 + 1, out, i => bif decide (((i : Nat) : Int) < (((n).toNat : Nat) : Int)) then (bif (eo_ (o (f i))) then ((cm_ n f o k0 (out ++ [(o (f i))]) (i + 1))) else (.inr (F_poly_bad))) else (.inl (out, i))
def ch_ (n : Int) (f : Nat → Go.Num.W) (o : Go.Num.W → I) (out : List I) (i : Nat) : Nat → (List I) → List I
  | 0, cut => cut
  | k1 + 1, cut => bif (decide (0 < (((cut).length : Nat) : Int)) && ((Z.signW (cut.getD ((cut).length - 1) I0).dec).1 == 0)) then ((ch_ n f o out i k1 (cut.take ((cut).length - 1)))) else (cut)
def cN_ (n : Int) (f : Nat → Go.Num.W) (o : Go.Num.W → I) : (List I) :=
  sm (fun (s_ : List I × Nat) => let out : List I := s_.1
  let i : Nat := s_.2
  ap (fun (s : List I) => let cut : List I := s
  bif decide (25 < (((cut).length : Nat) : Int)) then (F_poly_bad) else (cut)) (ch_ n f o out i ((out.length + 1)) out)) (fun r => r) (cm_ n f o ((n.toNat + 1)) ([] : List I) 0)
def cn_ (l : (List I)) (f : I → Bool) : Nat → Nat → (Nat) ⊕ (W)
  | 0, i => .inl i
  | k0 + 1, i => bif decide (((i : Nat) : Int) < (((l).length : Nat) : Int)) then (bif (f (l.getD i I0)) then (.inr ((W.cv ((i : Nat) : Int)))) else ((cn_ l f k0 (i + 1)))) else (.inl i)
def ep_ (l : (List I)) (f : I → Bool) : W :=
  sm (fun (s : Nat) => let i : Nat := s
  (wl (-1))) (fun r => r) (cn_ l f ((l.length + 1)) 0)
def dS_ (l : (List I)) (f : I → Bool) : Bool :=
  (decide (0 ≤ (ep_ l f).1))
def et_ (a : I) : Bool :=
  (!(eo_ a))
def ae_ (p : (List I)) : Bool :=
  (dS_ p (fun (y : I) => (et_ y)))
def cx_ (l : (List Rt)) (f : Rt → Bool) : Nat → Nat → (Nat) ⊕ (W)
  | 0, i => .inl i
  | k0 + 1, i => bif decide (((i : Nat) : Int) < (((l).length : Nat) : Int)) then (bif (f (l.getD i Rt0)) then (.inr ((W.cv ((i : Nat) : Int)))) else ((cx_ l f k0 (i + 1)))) else (.inl i)
def dw_ (l : (List Rt)) (f : Rt → Bool) : W :=
  sm (fun (s : Nat) => let i : Nat := s
  (wl (-1))) (fun r => r) (cx_ l f ((l.length + 1)) 0)
def dA_ (l : (List Rt)) (f : Rt → Bool) : Bool :=
  (decide (0 ≤ (dw_ l f).1))
def cy_ (a : Rt) : Bool :=
  (!(ap_ a))
def bM_ (l : (List Rt)) : Bool :=
  (!(dA_ l (fun (y : Rt) => (cy_ y))))
def dH_ (k : Nat) (l : (List I)) : I :=
  (l.getD k I0)
def am_ (l : (List I)) : (List I) :=
  (bw_ (((l).length : Nat) : Int) (fun (y : Nat) => (dH_ y l)) (fun (y : I) => (bT_ y)))
def eX_ (k : Nat) (l : (List W)) : W :=
  (l.getD k W.z)
def bu_ (l : (List W)) : (List I) :=
  (cN_ (((l).length : Nat) : Int) (fun (y : Nat) => (eX_ y l)) (fun (y : Go.Num.W) => (E (Z.of y.1))))
def ee_ (p : (List I)) : W :=
  bif (ae_ p) then ((wl (-2))) else ((W.cv ((((p).length : Nat) : Int) - 1)))
def aT_ (p : (List I)) (k : Int) : I :=
  bif (decide (k < 0) || decide ((((p).length : Nat) : Int) ≤ k)) then (I0) else ((p.getD ((k).toNat) I0))
def dF_ (k : Nat) (f : I → I → I) (p : (List I)) (q : (List I)) : I :=
  (f (aT_ p ((k : Nat) : Int)) (aT_ q ((k : Nat) : Int)))
def bN_ (p : (List I)) (q : (List I)) (f : I → I → I) : (List I) :=
  bif ((ae_ p) || (ae_ q)) then (F_poly_bad) else ((bw_ (((max ((p).length) ((q).length)) : Nat) : Int) (fun (y : Nat) => (dF_ y f p q)) (fun (y : I) => (bT_ y))))
def em_ (p : (List I)) (q : (List I)) : (List I) :=
  (bN_ p q (fun (y : I) (z : I) => (E (Z.add y.dec z.dec))))
def cc_ (k : Nat) (q : (List I)) (p : (List I)) : Nat → Nat → I → Nat × I
  | 0, i, mb2 => (i, mb2)
  | k0 + 1, i, mb2 => bif decide (((i : Nat) : Int) ≤ (min ((k : Nat) : Int) ((((p).length : Nat) : Int) - 1))) then ((cc_ k q p k0 (i + 1) (E (Z.add mb2.dec (Z.mul (p.getD i I0).dec (q.getD (k - i) I0).dec))))) else ((i, mb2))
def dg_ (k : Nat) (q : (List I)) (p : (List I)) : I :=
  ap (fun (s : Nat × I) => let i : Nat := s.1
  let mb2 : I := s.2
  mb2) (cc_ k q p ((k + 2)) ((((((k : Nat) : Int) - (((q).length : Nat) : Int)) + 1)).toNat) I0)
def cd_ (p : (List I)) (q : (List I)) : (List I) :=
  bif ((ae_ p) || (ae_ q)) then (F_poly_bad) else (bif (((((p).length : Nat) : Int) == 0) || ((((q).length : Nat) : Int) == 0)) then (([] : List I)) else ((bw_ (((((p).length + (q).length) : Nat) : Int) - 1) (fun (y : Nat) => (dg_ y q p)) (fun (y : I) => (bT_ y)))))
def dy_ (k : Nat) (p : (List I)) : I :=
  (E (Z.mul (Z.of (((k + 1) : Nat) : Int)) (p.getD (k + 1) I0).dec))
def ad_ (p : (List I)) : (List I) :=
  bif (ae_ p) then (F_poly_bad) else ((bw_ ((((p).length : Nat) : Int) - 1) (fun (y : Nat) => (dy_ y p)) (fun (y : I) => (bT_ y))))
def cz_ (p : (List I)) : List I → W → W → W × W
  | [], n, last => (n, last)
  | x0 :: l0, n, last => let r11 : W := (bif ((Z.signW x0.dec).1 != 0) then (bif ((Z.signW x0.dec).1 == (W.neg last).1) then (W.add n (wl 1)) else n) else n)
  let r12 : W := (bif ((Z.signW x0.dec).1 != 0) then (Z.signW x0.dec) else last)
  (cz_ p l0 r11 r12)
def da_ (p : (List I)) : W :=
  bif (ae_ p) then ((wl 0)) else (ap (fun (s : W × W) => let n : W := s.1
  let last : W := s.2
  n) (cz_ p p (wl 0) (wl 0)))
def b9_ (l : (List I)) : List I → I → I
  | [], mb2 => mb2
  | x0 :: l0, mb2 => (b9_ l l0 (E (Z.gcd mb2.dec x0.dec)))
def aC_ (l : (List I)) : I :=
  ap (fun (s : I) => let mb2 : I := s
  mb2) (b9_ l l I0)
def cH_ (a : I) (b : I) (n : I) : I :=
  (E (Z.quo a.dec n.dec))
def ab_ (p : (List I)) : (List I) :=
  (bN_ p ([] : List I) (fun (y : I) (z : I) => (cH_ y z (aC_ p))))
def bS_ (d : I) (n : Int) : Nat → (List I) → List I
  | 0, out => out
  | k0 + 1, out => bif decide ((((out).length : Nat) : Int) < n) then ((bS_ d n k0 (out ++ [(E (Z.mul (out.getD ((out).length - 1) I0).dec d.dec))]))) else (out)
def aH_ (d : I) (n : Int) : (List I) :=
  ap (fun (s : List I) => let out : List I := s
  out) (bS_ d n ((n.toNat + 1)) [(E (Z.of 1))])
def ca_ (p : (List I)) (x : Rt) : Nat → Int → I → Int × I
  | 0, i, mb3 => (i, mb3)
  | k0 + 1, i, mb3 => bif decide (0 ≤ i) then (let r25 : I := (E (Z.mul (p.getD ((i).toNat) I0).dec ((aH_ x.d (((p).length : Nat) : Int)).getD (((p).length - 1) - (i).toNat) I0).dec))
  (ca_ p x k0 (i - 1) (E (Z.add (Z.mul mb3.dec x.n.dec) r25.dec)))) else ((i, mb3))
def bh_ (p : (List I)) (x : Rt) : I × I :=
  bif ((ae_ p) || (!(bM_ [x]))) then (((E Z.bad), (E (Z.of 1)))) else (ap (fun (s : Int × I) => let i : Int := s.1
  let mb3 : I := s.2
  (mb3, ((aH_ x.d (((p).length : Nat) : Int)).getD ((((((p).length : Nat) : Int) - 1)).toNat) I0))) (ca_ p x ((p.length + 1)) ((((p).length : Nat) : Int) - 1) I0))
def ek_ (p : (List I)) (x : Rt) : Rt :=
  let r3 : Rt := (ag_ ((bh_ p x).1) ((bh_ p x).2))
  r3
def av_ (p : (List I)) (x : Rt) : W × Bool :=
  ((Z.signW ((bh_ p x).1).dec), (!((bh_ p x).1).1.bad))
def bE_ (p : (List I)) (q : (List I)) (i : Int) (r : List I) (r53 : I) : Nat → Nat → (List I) → (Nat × List I) ⊕ ((List I))
  | 0, k, t => .inl (k, t)
  | k1 + 1, k, t => bif decide (((k : Nat) : Int) < (((r).length : Nat) : Int)) then (let r66 : I := (E (Z.sub (Z.mul (Z.abs (q.getD ((q).length - 1) I0).dec) (t.getD k I0).dec) (Z.mul r53.dec (aT_ q (((k : Nat) : Int) - i)).dec)))
  bif ((t.set k r66).getD k I0).1.bad then (.inr (F_poly_bad)) else ((bE_ p q i r r53 k1 (k + 1) (t.set k r66)))) else (.inl (k, t))
def bB_ (p : (List I)) (q : (List I)) : Nat → Int → (List I) → (Int × List I) ⊕ ((List I))
  | 0, i, r => .inl (i, r)
  | k0 + 1, i, r => bif decide (0 ≤ i) then (let r53 : I := (E (Z.mul (Z.of (Z.signW (q.getD ((q).length - 1) I0).dec).1) (r.getD ((i).toNat + ((q).length - 1)) I0).dec))
  sm (fun (s : Nat × List I) => let k : Nat := s.1
  let t : List I := s.2
  (bB_ p q k0 (i - 1) t)) (fun r => .inr r) (bE_ p q i r r53 ((r.length + 1)) 0 r)) else (.inl (i, r))
def bD_ (p : (List I)) (q : (List I)) : (List I) :=
  bif ((ae_ p) || ((ae_ q) || ((((q).length : Nat) : Int) == 0))) then (F_poly_bad) else (sm (fun (s : Int × List I) => let i : Int := s.1
  let r : List I := s.2
  (am_ r)) (fun r => r) (bB_ p q ((p.length + 1)) (((((p).length : Nat) : Int) - 1) - ((((q).length : Nat) : Int) - 1)) ([] ++ p)))
def cL_ (n : Int) (i : Int) : Nat → Int → I → Int × I
  | 0, j, mb1 => (j, mb1)
  | k0 + 1, j, mb1 => bif decide (j ≤ n) then ((cL_ n i k0 (j + 1) (E (Z.mul mb1.dec (Z.of j))))) else ((j, mb1))
def bW_ (n : Int) (i : Int) (j : Int) (mb1 : I) : Nat → (List I) → Nat → I → List I × Nat × I
  | 0, out, k, mb1_1 => (out, k, mb1_1)
  | k1 + 1, out, k, mb1_1 => bif decide (((k : Nat) : Int) < (i + 1)) then (bif decide (((k : Nat) : Int) < n) then (let r22 : I := (E (Z.quo (Z.mul mb1_1.dec (Z.of (i - ((k : Nat) : Int)))) (Z.of (n - ((k : Nat) : Int)))))
  (bW_ n i j mb1 k1 (out ++ [mb1_1]) (k + 1) r22)) else ((bW_ n i j mb1 k1 (out ++ [mb1_1]) (k + 1) mb1_1))) else ((out, k, mb1_1))
def aS_ (n : Int) (i : Int) : (List I) :=
  ap (fun (s_ : Int × I) => let j : Int := s_.1
  let mb1 : I := s_.2
  ap (fun (s : List I × Nat × I) => let out : List I := s.1
  let k : Nat := s.2.1
  let mb1_1 : I := s.2.2
  out) (bW_ n i j mb1 (((i + 1).toNat + 1)) ([] : List I) 0 mb1)) (cL_ n i ((n.toNat + 1)) 2 (E (Z.of 1)))
def cM_ (a : I) : Bool :=
  (!a.1.bad && a.1.valid)
def F_skewbackref08_bad  : (List I) :=
  let q0 : I := (E Z.bad)
  [q0]
def bl_ (l : (List I)) : Nat → Int → Nat → (Int × Nat) ⊕ ((List I))
  | 0, last, i => .inl (last, i)
  | k0 + 1, last, i => bif decide (((i : Nat) : Int) < (((l).length : Nat) : Int)) then (bif (cM_ (l.getD i I0)) then (bif ((Z.signW (l.getD i I0).dec).1 != 0) then ((bl_ l k0 ((i : Nat) : Int) (i + 1))) else ((bl_ l k0 last (i + 1)))) else (.inr (F_skewbackref08_bad))) else (.inl (last, i))
def by_ (l : (List I)) (last : Int) (i : Nat) : Nat → (List I) → Nat → List I × Nat
  | 0, out, j => (out, j)
  | k1 + 1, out, j => bif decide (((j : Nat) : Int) ≤ last) then ((by_ l last i k1 (out ++ [(l.getD j I0)]) (j + 1))) else ((out, j))
def bo_ (l : (List I)) : (List I) :=
  sm (fun (s_ : Int × Nat) => let last : Int := s_.1
  let i : Nat := s_.2
  bif decide (24 < last) then (F_skewbackref08_bad) else (ap (fun (s : List I × Nat) => let out : List I := s.1
  let j : Nat := s.2
  out) (by_ l last i (((last + 1).toNat + 1)) ([] : List I) 0))) (fun r => r) (bl_ l ((l.length + 1)) (-1) 0)
def cq_ (l : (List W)) : Nat → (List I) → Nat → List I × Nat
  | 0, out, i => (out, i)
  | k0 + 1, out, i => bif decide (((i : Nat) : Int) < (((l).length : Nat) : Int)) then ((cq_ l k0 (out ++ [(E (Z.of (l.getD i W.z).1))]) (i + 1))) else ((out, i))
def aG_ (l : (List W)) : (List I) :=
  ap (fun (s : List I × Nat) => let out : List I := s.1
  let i : Nat := s.2
  (bo_ out)) (cq_ l ((l.length + 1)) ([] : List I) 0)
def bg_ (p : (List I)) : Nat → Nat → (Nat) ⊕ (Bool)
  | 0, i => .inl i
  | k0 + 1, i => bif decide (((i : Nat) : Int) < (((p).length : Nat) : Int)) then (bif (cM_ (p.getD i I0)) then ((bg_ p k0 (i + 1))) else (.inr (true))) else (.inl i)
def bt_ (p : (List I)) : Bool :=
  sm (fun (s : Nat) => let i : Nat := s
  false) (fun r => r) (bg_ p ((p.length + 1)) 0)
def b8_ (a : (List I)) (b : (List I)) : Nat → Nat → (Nat) ⊕ (Bool)
  | 0, i => .inl i
  | k0 + 1, i => bif decide (((i : Nat) : Int) < (((a).length : Nat) : Int)) then (bif decide ((a.getD i I0) = (b.getD i I0)) then ((b8_ a b k0 (i + 1))) else (.inr (false))) else (.inl i)
def au_ (a : (List I)) (b : (List I)) : Bool :=
  bif ((((a).length : Nat) : Int) != (((b).length : Nat) : Int)) then (false) else (sm (fun (s : Nat) => let i : Nat := s
  true) (fun r => r) (b8_ a b ((a.length + 1)) 0))
def aY_ (p : (List I)) : Bool :=
  bif (((((p).length : Nat) : Int) == 1) && decide ((p.getD 0 I0) = (E Z.bad))) then (true) else (bif ((bt_ p) || decide (25 < (((p).length : Nat) : Int))) then (false) else ((((((p).length : Nat) : Int) == 0) || ((Z.signW (p.getD ((p).length - 1) I0).dec).1 != 0))))
def bH_ (p : (List I)) (d : Int) (b : Int) : Nat → Nat → (Nat) ⊕ (Bool)
  | 0, i => .inl i
  | k0 + 1, i => bif decide (((i : Nat) : Int) < (((p).length : Nat) : Int)) then (bif decide (b < (Z.bitsW (p.getD i I0).dec).1) then (.inr (false)) else ((bH_ p d b k0 (i + 1)))) else (.inl i)
def aW_ (p : (List I)) (d : Int) (b : Int) : Bool :=
  bif (!(aY_ p) || decide ((d + 1) < (((p).length : Nat) : Int))) then (false) else (sm (fun (s : Nat) => let i : Nat := s
  true) (fun r => r) (bH_ p d b ((p.length + 1)) 0))
end Go.Num

set_option linter.unusedVariables false
set_option linter.unusedSimpArgs false
namespace Go.Num
open Go Go.Kn
def bC_ (p : (List I)) (q : (List I)) : Nat → (List I) → (List I) → (List I × List I) ⊕ ((List I))
  | 0, a, b => .inl (a, b)
  | k0 + 1, a, b => bif decide (0 < (((b).length : Nat) : Int)) then (bif ((ae_ a) || (ae_ b)) then (.inr (F_poly_bad)) else ((bC_ p q k0 b (ab_ (bD_ a b))))) else (.inl (a, b))
def ah_ (p : (List I)) (q : (List I)) : (List I) :=
  sm (fun (s : List I × List I) => let a : List I := s.1
  let b : List I := s.2
  bif (((((a).length : Nat) : Int) == 0) || decide (0 < (Z.signW (a.getD ((a).length - 1) I0).dec).1)) then (a) else ((bN_ ([] : List I) a (fun (y : I) (z : I) => (E (Z.sub y.dec z.dec)))))) (fun r => r) (bC_ p q ((gmP (ab_ q) + 1)) (ab_ p) (ab_ q))
def bs_ (p : (List I)) (a : Rt) (b : Rt) : Nat → (List I) → Int → List I × Int
  | 0, r, i => (r, i)
  | k0 + 1, r, i => bif decide (0 ≤ i) then (let r32 : I := (E (Z.mul (p.getD ((i).toNat) I0).dec ((aH_ (E (Z.mul a.d.dec b.d.dec)) (((p).length : Nat) : Int)).getD (((p).length - 1) - (i).toNat) I0).dec))
  (bs_ p a b k0 (em_ (cd_ r (am_ [(E (Z.mul a.n.dec b.d.dec)), (E (Z.mul b.n.dec a.d.dec))])) (am_ [r32])) (i - 1))) else ((r, i))
def aX_ (p : (List I)) (a : Rt) (b : Rt) : (List I) :=
  bif ((ae_ p) || (!(bM_ [a, b]))) then (F_poly_bad) else (ap (fun (s : List I × Int) => let r : List I := s.1
  let i : Int := s.2
  r) (bs_ p a b ((p.length + 1)) ([] : List I) ((((p).length : Nat) : Int) - 1)))
def aM_ (p : (List I)) (a : Rt) (b : Rt) : (List I) :=
  (ab_ (aX_ p a b))
def bJ_ (p : (List I)) (a : Rt) (b : Rt) (out : List I) (i : Nat) : Nat → Nat → I → Nat × I
  | 0, j, mb40 => (j, mb40)
  | k1 + 1, j, mb40 => bif decide (((j : Nat) : Int) < ((((aS_ ((((p).length : Nat) : Int) - 1) ((i : Nat) : Int))).length : Nat) : Int)) then (let r52 : I := (E (Z.mul ((aS_ ((((p).length : Nat) : Int) - 1) ((i : Nat) : Int)).getD j I0).dec (aT_ (aM_ p a (a5_ b a)) ((j : Nat) : Int)).dec))
  (bJ_ p a b out i k1 (j + 1) (E (Z.add mb40.dec r52.dec)))) else ((j, mb40))
def bX_ (p : (List I)) (a : Rt) (b : Rt) : Nat → (List I) → Nat → (List I × Nat) ⊕ ((List I) × Bool)
  | 0, out, i => .inl (out, i)
  | k0 + 1, out, i => bif decide (((i : Nat) : Int) < (((p).length : Nat) : Int)) then (ap (fun (s : Nat × I) => let j : Nat := s.1
  let mb40 : I := s.2
  bif mb40.1.bad then (.inr ((([] : List I), false))) else ((bX_ p a b k0 (out ++ [mb40]) (i + 1)))) (bJ_ p a b out i ((((aS_ ((((p).length : Nat) : Int) - 1) ((i : Nat) : Int))).length + 1)) 0 I0)) else (.inl (out, i))
def bK_ (p : (List I)) (a : Rt) (b : Rt) (out : List I) (i : Nat) : Nat → Nat → (List I) → Nat × List I
  | 0, k, t => (k, t)
  | k2 + 1, k, t => bif decide (((k : Nat) : Int) < (((out).length : Nat) : Int)) then ((bK_ p a b out i k2 (k + 1) (t.set k (E (Z.quo (t.getD k I0).dec (aC_ out).dec))))) else ((k, t))
def aa_ (p : (List I)) (a : Rt) (b : Rt) : (List I) × Bool :=
  bif ((ae_ p) || (!(bM_ [a, b]))) then ((([] : List I), false)) else (bif (ae_ (aM_ p a (a5_ b a))) then ((([] : List I), false)) else (sm (fun (s_ : List I × Nat) => let out : List I := s_.1
  let i : Nat := s_.2
  bif ((Z.signW (aC_ out).dec).1 != 0) then (ap (fun (s : Nat × List I) => let k : Nat := s.1
  let t : List I := s.2
  (t, true)) (bK_ p a b out i ((out.length + 1)) 0 out)) else ((out, true))) (fun r => r) (bX_ p a b ((p.length + 1)) ([] : List I) 0)))
end Go.Num

set_option linter.unusedVariables false
set_option linter.unusedSimpArgs false
namespace Go.Num
open Go Go.Kn
def co_ (p : (List I)) (i : Int) (r : List I) (f : List I) (r66 : I) : Nat → Nat → (List I) → (Nat × List I) ⊕ ((List I))
  | 0, k, t => .inl (k, t)
  | k1 + 1, k, t => bif decide (((k : Nat) : Int) < ((((ah_ p (ad_ p))).length : Nat) : Int)) then (let r82 : I := (E (Z.mul ((f.set ((i).toNat) r66).getD ((i).toNat) I0).dec ((ah_ p (ad_ p)).getD k I0).dec))
  bif ((t.set ((i).toNat + k) (E (Z.sub (t.getD ((i).toNat + k) I0).dec r82.dec))).getD ((i).toNat + k) I0).1.bad then (.inr (F_poly_bad)) else ((co_ p i r f r66 k1 (k + 1) (t.set ((i).toNat + k) (E (Z.sub (t.getD ((i).toNat + k) I0).dec r82.dec)))))) else (.inl (k, t))
def cs_ (p : (List I)) : Nat → Int → (List I) → (List I) → (Int × List I × List I) ⊕ ((List I))
  | 0, i, r, f => .inl (i, r, f)
  | k0 + 1, i, r, f => bif decide (0 ≤ i) then (let r66 : I := (E (Z.quo (r.getD ((i).toNat + (((ah_ p (ad_ p))).length - 1)) I0).dec ((ah_ p (ad_ p)).getD (((ah_ p (ad_ p))).length - 1) I0).dec))
  sm (fun (s : Nat × List I) => let k : Nat := s.1
  let t : List I := s.2
  (cs_ p k0 (i - 1) t (f.set ((i).toNat) r66))) (fun r => .inr r) (co_ p i r f r66 ((((ah_ p (ad_ p))).length + 1)) 0 r)) else (.inl (i, r, f))
def c1_ (p : (List I)) : (List I) :=
  bif ((ae_ (ah_ p (ad_ p))) || (ae_ (ab_ p))) then (F_poly_bad) else (bif (((((ab_ p)).length : Nat) : Int) == 0) then (([] : List I)) else (sm (fun (s : Int × List I × List I) => let i : Int := s.1
  let r : List I := s.2.1
  let f : List I := s.2.2
  bif ((((((am_ f)).length : Nat) : Int) == 0) || decide (0 < (Z.signW ((am_ f).getD (((am_ f)).length - 1) I0).dec).1)) then ((am_ f)) else ((bN_ ([] : List I) (am_ f) (fun (y : I) (z : I) => (E (Z.sub y.dec z.dec)))))) (fun r => r) (cs_ p (((ab_ p).length + 2)) (((((List.replicate (((ab_ p)).length - (((ah_ p (ad_ p))).length - 1)) I0)).length : Nat) : Int) - 1) (ab_ p) (List.replicate (((ab_ p)).length - (((ah_ p (ad_ p))).length - 1)) I0))))
end Go.Num

set_option linter.unusedVariables false
set_option linter.unusedSimpArgs false
namespace Go.Num
open Go Go.Kn
def bZ_  : Bool :=
  let q0 : (List I) := (bu_ [(wl 1), (wl 1)])
  let q1 : (List I) := (bu_ [(wl (-1)), (wl 1)])
  let q2 : (List I) := (cd_ q0 q1)
  let q3 : Rt := (df_ (wl 1) (wl 2))
  let q4 : (List I) := (aG_ [(wl (-1)), (wl 0), (wl 1)])
  let q5 : Bool := (au_ q2 q4)
  let q6 : (List I) := (ad_ q2)
  let q7 : (List I) := (aG_ [(wl 0), (wl 2)])
  let q8 : Bool := (au_ q6 q7)
  let q9 : (List I) := (bu_ [(wl 1), (wl 0), (wl 4)])
  let q10 : Rt := (ek_ q9 q3)
  let q11 : Rt := (bb_ (wl 2))
  let q12 : Rt := (bb_ (wl (-3)))
  let q13 : Rt := (ek_ q9 q12)
  let q14 : Rt := (bb_ (wl 37))
  let q15 : (List I) := (aG_ [(wl 5)])
  let q16 : (List I) := (bu_ [(wl 1), (wl 0), (wl 1)])
  let q17 : (List I) := (bu_ [(wl 1), (wl 2)])
  let q18 : (List I) := (bD_ q16 q17)
  let q19 : Bool := (au_ q18 q15)
  let q20 : (List I) := (bu_ [(wl 1), (wl (-2))])
  let q21 : (List I) := (bD_ q16 q20)
  let q22 : Bool := (au_ q21 q15)
  let q23 : (List I) := (bu_ [(wl (-4)), (wl 6)])
  let q24 : (List I) := (ab_ q23)
  let q25 : (List I) := (aG_ [(wl (-2)), (wl 3)])
  let q26 : Bool := (au_ q24 q25)
  let q27 : (List I) := (bu_ [(wl (-1)), (wl 0), (wl 1)])
  let q28 : (List I) := (bu_ [(wl 2), (wl (-2))])
  let q29 : (List I) := (ah_ q27 q28)
  let q30 : (List I) := (aG_ [(wl (-1)), (wl 1)])
  let q31 : Bool := (au_ q29 q30)
  let q32 : (List I) := (bu_ [(wl 0), (wl 0), (wl 3), (wl 3)])
  let q33 : (List I) := (c1_ q32)
  let q34 : (List I) := (aG_ [(wl 0), (wl 1), (wl 1)])
  let q35 : Bool := (au_ q33 q34)
  let q36 : (List I) := (bu_ [(wl 0), (wl 0), (wl 1)])
  let q37 : Rt := (bb_ (wl 1))
  let q38 : (List I) := (aM_ q36 q3 q37)
  let q39 : (List I) := (aG_ [(wl 1), (wl 4), (wl 4)])
  let q40 : Bool := (au_ q38 q39)
  let q41 : (List I) := (bu_ [(wl 1), (wl (-1)), (wl 0), (wl 1), (wl 1)])
  let q42 : W := (da_ q41)
  let q43 : Rt := (bb_ (wl 0))
  let q44 : (List I) := (aa_ q36 q43 q37).1
  let q45 : Bool := (aa_ q36 q43 q37).2
  let q46 : (List I) := (aa_ q27 q43 q11).1
  let q47 : Bool := (aa_ q27 q43 q11).2
  let q48 : I := (E (Z.of 0))
  let q49 : I := (E (Z.of 1))
  let q50 : (List I) := (aG_ [(wl (-1)), (wl (-1)), (wl 3)])
  let q51 : Bool := (au_ q46 q50)
  let q52 : I := (E Z.bad)
  let q53 : (List I) := (am_ [q52])
  let q54 : Bool := (ae_ q53)
  let q55 : (List I) := (bu_ ([] : List W))
  let q56 : W := (ee_ q55)
  ((q5 && q8) && (((decide (q10.n = q11.n) && decide (q10.d = q11.d)) && (decide (q13.n = q14.n) && decide (q13.d = q14.d))) && ((q19 && q22) && ((q26 && (q31 && q35)) && ((q40 && (q42.1 == 2)) && ((q45 && (q47 && (((((q44).length : Nat) : Int) == 3) && (decide ((q44.getD 0 I0) = q48) && (decide ((q44.getD 1 I0) = q48) && (decide ((q44.getD 2 I0) = q49) && q51)))))) && (q54 && (q56.1 == (-1)))))))))
end Go.Num

set_option linter.unusedVariables false
set_option linter.unusedSimpArgs false
namespace Go.Num
open Go Go.Kn
def ar_ (a : Rt) (b : Int) : Bool :=
  ((at_ a) && (decide ((Z.bitsW a.n.dec).1 ≤ b) && decide ((Z.bitsW a.d.dec).1 ≤ b)))
end Go.Num

set_option linter.unusedVariables false
set_option linter.unusedSimpArgs false
namespace Go.Num
open Go Go.Kn
def aN_ (p : (List I)) (a : Rt) (b : Rt) (t : Rt) (r30 : Rt) (least : W) (most : W) (i : Nat) (mb41 : Rt) (r30 : Rt) (r62 : Rt) : Nat → Nat → Rt → Nat × Rt
  | 0, k, mb63 => (k, mb63)
  | k1 + 1, k, mb63 => bif decide (((k : Nat) : Int) < ((i : Nat) : Int)) then (let r68 : Rt := (df_ (W.cv ((((((aa_ p a b).1).length : Nat) : Int) - 1) - ((k : Nat) : Int))) (W.cv (((k + 1) : Nat) : Int)))
  (aN_ p a b t r30 least most i mb41 r30 r62 k1 (k + 1) (a7_ (a7_ mb63 t) r68))) else ((k, mb63))
def aV_ (p : (List I)) (a : Rt) (b : Rt) (t : Rt) (r30 : Rt) (least : W) (most : W) (i : Nat) (mb41 : Rt) (r30 : Rt) (r62 : Rt) (k : Nat) (mb63 : Rt) (r30 : Rt) (r62 : Rt) : Nat → Nat → Rt → Nat × Rt
  | 0, m, mb63_2 => (m, mb63_2)
  | k2 + 1, m, mb63_2 => bif decide (((m : Nat) : Int) < (((((aa_ p a b).1).length : Nat) : Int) - 1)) then (let r75 : Rt := (a7_ mb63_2 (a5_ (bb_ (wl 1)) t))
  (aV_ p a b t r30 least most i mb41 r30 r62 k mb63 r30 r62 k2 (m + 1) r75)) else ((m, mb63_2))
def aU_ (p : (List I)) (a : Rt) (b : Rt) (t : Rt) (r30 : Rt) : Nat → W → W → Nat → Rt → W × W × Nat × Rt
  | 0, least, most, i, mb41 => (least, most, i, mb41)
  | k0 + 1, least, most, i, mb41 => bif decide (((i : Nat) : Int) < ((((aa_ p a b).1).length : Nat) : Int)) then (let r62 : Rt := (ag_ (((aa_ p a b).1).getD i I0) (E (Z.of 1)))
  ap (fun (s_ : Nat × Rt) => let k : Nat := s_.1
  let mb63 : Rt := s_.2
  ap (fun (s : Nat × Rt) => let m : Nat := s.1
  let mb63_2 : Rt := s.2
  (aU_ p a b t r30 k0 (W.min least (Z.signW (((aa_ p a b).1).getD i I0).dec)) (W.max most (Z.signW (((aa_ p a b).1).getD i I0).dec)) (i + 1) (b4_ mb41 mb63_2))) (aV_ p a b t r30 least most i mb41 r30 r62 k mb63 r30 r62 ((((aa_ p a b).1).length + 1)) i mb63)) (aN_ p a b t r30 least most i mb41 r30 r62 ((i + 1)) 0 r62)) else ((least, most, i, mb41))
def a6_ (p : (List I)) (a : Rt) (b : Rt) (t : Rt) : Bool :=
  bif (!(aW_ p 6 30) || ((ae_ p) || (!(ar_ a 8) || (!(ar_ b 8) || (!(ar_ t 8) || (decide (0 ≤ (bP_ a b).1) || (decide ((bF_ t).1 < 0) || decide (0 < (bP_ t (bb_ (wl 1))).1)))))))) then (bZ_) else (bif (!((aa_ p a b).2) || (((((aa_ p a b).1).length : Nat) : Int) != (((p).length : Nat) : Int))) then (false) else (bif (((((aa_ p a b).1).length : Nat) : Int) == 0) then (bZ_) else (let r30 : Rt := (b4_ a (a7_ (a5_ b a) t))
  bif (!((av_ p a).2) || (!((av_ p b).2) || (!((av_ p r30).2) || (((Z.signW (((aa_ p a b).1).getD 0 I0).dec).1 != ((av_ p a).1).1) || ((Z.signW (((aa_ p a b).1).getD (((aa_ p a b).1).length - 1) I0).dec).1 != ((av_ p b).1).1))))) then (false) else (ap (fun (s : W × W × Nat × Rt) => let least : W := s.1
  let most : W := s.2.1
  let i : Nat := s.2.2.1
  let mb41 : Rt := s.2.2.2
  (bZ_ && (bif decide (least.1 < 0) then (bif decide (0 < most.1) then ((bF_ mb41).1 == ((av_ p r30).1).1) else (decide (((av_ p r30).1).1 ≤ 0) && ((bF_ mb41).1 == ((av_ p r30).1).1))) else (decide (0 ≤ ((av_ p r30).1).1) && (bif decide (0 < most.1) then ((bF_ mb41).1 == ((av_ p r30).1).1) else (decide (((av_ p r30).1).1 ≤ 0) && ((bF_ mb41).1 == ((av_ p r30).1).1))))))) (aU_ p a b t r30 ((((aa_ p a b).1).length + 1)) (wl 1) (wl (-1)) 0 (bb_ (wl 0)))))))
end Go.Num

