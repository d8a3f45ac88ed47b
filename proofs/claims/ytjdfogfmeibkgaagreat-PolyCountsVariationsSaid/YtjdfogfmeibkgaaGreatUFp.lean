/- What these functions compute, as plain functions. No program stands in it. A list that is read: an argument, or a list of our own. No program stands in it. -/
import Derived.Test.YtjdfogfmeibkgaaGreatUGE
set_option linter.unusedVariables false
set_option linter.unusedSimpArgs false
namespace Go.Num
open Go Go.Kn
def bu_ (a : I) : I :=
  a
def dz_ (a : I) : Bool :=
  (!a.1.bad && a.1.valid)
def F_poly_bad  : (List I) :=
  let q0 : I := (E Z.bad)
  [q0]
def bB_ (n : Int) (f : Nat → I) (o : I → I) : Nat → (List I) → Nat → (List I × Nat) ⊕ ((List I))
  | 0, out, i => .inl (out, i)
  | k0 + 1, out, i => bif decide (((i : Nat) : Int) < (((n).toNat : Nat) : Int)) then (bif (dz_ (o (f i))) then ((bB_ n f o k0 (out ++ [(o (f i))]) (i + 1))) else (.inr (F_poly_bad))) else (.inl (out, i))
def bC_ (n : Int) (f : Nat → I) (o : I → I) (out : List I) (i : Nat) : Nat → (List I) → List I
  | 0, cut => cut
  | k1 + 1, cut => bif (decide (0 < (((cut).length : Nat) : Int)) && ((Z.signW (cut.getD ((cut).length - 1) I0).dec).1 == 0)) then ((bC_ n f o out i k1 (cut.take ((cut).length - 1)))) else (cut)
def be_ (n : Int) (f : Nat → I) (o : I → I) : (List I) :=
  sm (fun (s_ : List I × Nat) => let out : List I := s_.1
  let i : Nat := s_.2
  ap (fun (s : List I) => let cut : List I := s
  bif decide (25 < (((cut).length : Nat) : Int)) then (F_poly_bad) else (cut)) (bC_ n f o out i ((out.length + 1)) out)) (fun r => r) (bB_ n f o ((n.toNat + 1)) ([] : List I) 0)
def bN_ (n : Int) (f : Nat → Go.Num.W) (o : Go.Num.W → I) : Nat → (List I) → Nat → (List I × Nat) ⊕ ((List I))
  | 0, out, i => .inl (out, i)
  | k0 + 1, out, i => bif decide (((i : Nat) : Int) < (((n).toNat : Nat) : Int)) then (bif (dz_ (o (f i))) then ((bN_ n f o k0 (out ++ [(o (f i))]) (i + 1))) else (.inr (F_poly_bad))) else (.inl (out, i))
def bQ_ (n : Int) (f : Nat → Go.Num.W) (o : Go.Num.W → I) (out : List I) (i : Nat) : Nat → (List I) → List I
  | 0, cut => cut
  | k1 + 1, cut => bif (decide (0 < (((cut).length : Nat) : Int)) && ((Z.signW (cut.getD ((cut).length - 1) I0).dec).1 == 0)) then ((bQ_ n f o out i k1 (cut.take ((cut).length - 1)))) else (cut)
def cg_ (n : Int) (f : Nat → Go.Num.W) (o : Go.Num.W → I) : (List I) :=
  sm (fun (s_ : List I × Nat) => let out : List I := s_.1
  let i : Nat := s_.2
  ap (fun (s : List I) => let cut : List I := s
  bif decide (25 < (((cut).length : Nat) : Int)) then (F_poly_bad) else (cut)) (bQ_ n f o out i ((out.length + 1)) out)) (fun r => r) (bN_ n f o ((n.toNat + 1)) ([] : List I) 0)
def bT_ (l : (List I)) (f : I → Bool) : Nat → Nat → (Nat) ⊕ (W)
  | 0, i => .inl i
  | k0 + 1, i => bif decide (((i : Nat) : Int) < (((l).length : Nat) : Int)) then (bif (f (l.getD i I0)) then (.inr ((W.cv ((i : Nat) : Int)))) else ((bT_ l f k0 (i + 1)))) else (.inl i)
def dx_ (l : (List I)) (f : I → Bool) : W :=
  sm (fun (s : Nat) => let i : Nat := s
  (wl (-1))) (fun r => r) (bT_ l f ((l.length + 1)) 0)
def c2_ (l : (List I)) (f : I → Bool) : Bool :=
  (decide (0 ≤ (dx_ l f).1))
def dC_ (a : I) : Bool :=
  (!(dz_ a))
def ac_ (p : (List I)) : Bool :=
  (c2_ p (fun (y : I) => (dC_ y)))
def cn_ (l : (List Rt)) (f : Rt → Bool) : Nat → Nat → (Nat) ⊕ (W)
  | 0, i => .inl i
  | k0 + 1, i => bif decide (((i : Nat) : Int) < (((l).length : Nat) : Int)) then (bif (f (l.getD i Rt0)) then (.inr ((W.cv ((i : Nat) : Int)))) else ((cn_ l f k0 (i + 1)))) else (.inl i)
def dM_ (l : (List Rt)) (f : Rt → Bool) : W :=
  sm (fun (s : Nat) => let i : Nat := s
  (wl (-1))) (fun r => r) (cn_ l f ((l.length + 1)) 0)
def d8_ (l : (List Rt)) (f : Rt → Bool) : Bool :=
  (decide (0 ≤ (dM_ l f).1))
def dX_ (a : Rt) : Bool :=
  (!(b8_ a))
def b3_ (l : (List Rt)) : Bool :=
  (!(d8_ l (fun (y : Rt) => (dX_ y))))
def cX_ (k : Nat) (l : (List I)) : I :=
  (l.getD k I0)
def ai_ (l : (List I)) : (List I) :=
  (be_ (((l).length : Nat) : Int) (fun (y : Nat) => (cX_ y l)) (fun (y : I) => (bu_ y)))
def ed_ (k : Nat) (l : (List W)) : W :=
  (l.getD k W.z)
def aF_ (l : (List W)) : (List I) :=
  (cg_ (((l).length : Nat) : Int) (fun (y : Nat) => (ed_ y l)) (fun (y : Go.Num.W) => (E (Z.of y.1))))
def dk_ (p : (List I)) : W :=
  bif (ac_ p) then ((wl (-2))) else ((W.cv ((((p).length : Nat) : Int) - 1)))
def aE_ (p : (List I)) (k : Int) : I :=
  bif (decide (k < 0) || decide ((((p).length : Nat) : Int) ≤ k)) then (I0) else ((p.getD ((k).toNat) I0))
def cW_ (k : Nat) (f : I → I → I) (p : (List I)) (q : (List I)) : I :=
  (f (aE_ p ((k : Nat) : Int)) (aE_ q ((k : Nat) : Int)))
def bw_ (p : (List I)) (q : (List I)) (f : I → I → I) : (List I) :=
  bif ((ac_ p) || (ac_ q)) then (F_poly_bad) else ((be_ (((max ((p).length) ((q).length)) : Nat) : Int) (fun (y : Nat) => (cW_ y f p q)) (fun (y : I) => (bu_ y))))
def d0_ (p : (List I)) (q : (List I)) : (List I) :=
  (bw_ p q (fun (y : I) (z : I) => (E (Z.add y.dec z.dec))))
def bK_ (k : Nat) (q : (List I)) (p : (List I)) : Nat → Nat → I → Nat × I
  | 0, i, mb2 => (i, mb2)
  | k0 + 1, i, mb2 => bif decide (((i : Nat) : Int) ≤ (min ((k : Nat) : Int) ((((p).length : Nat) : Int) - 1))) then ((bK_ k q p k0 (i + 1) (E (Z.add mb2.dec (Z.mul (p.getD i I0).dec (q.getD (k - i) I0).dec))))) else ((i, mb2))
def cy_ (k : Nat) (q : (List I)) (p : (List I)) : I :=
  ap (fun (s : Nat × I) => let i : Nat := s.1
  let mb2 : I := s.2
  mb2) (bK_ k q p ((k + 2)) ((((((k : Nat) : Int) - (((q).length : Nat) : Int)) + 1)).toNat) I0)
def br_ (p : (List I)) (q : (List I)) : (List I) :=
  bif ((ac_ p) || (ac_ q)) then (F_poly_bad) else (bif (((((p).length : Nat) : Int) == 0) || ((((q).length : Nat) : Int) == 0)) then (([] : List I)) else ((be_ (((((p).length + (q).length) : Nat) : Int) - 1) (fun (y : Nat) => (cy_ y q p)) (fun (y : I) => (bu_ y)))))
def cP_ (k : Nat) (p : (List I)) : I :=
  (E (Z.mul (Z.of (((k + 1) : Nat) : Int)) (p.getD (k + 1) I0).dec))
def ab_ (p : (List I)) : (List I) :=
  bif (ac_ p) then (F_poly_bad) else ((be_ ((((p).length : Nat) : Int) - 1) (fun (y : Nat) => (cP_ y p)) (fun (y : I) => (bu_ y))))
def bt_ (p : (List I)) : List I → W → W → W × W
  | [], n, last => (n, last)
  | x0 :: l0, n, last => let r11 : W := (bif ((Z.signW x0.dec).1 != 0) then (bif ((Z.signW x0.dec).1 == (W.neg last).1) then (W.add n (wl 1)) else n) else n)
  let r12 : W := (bif ((Z.signW x0.dec).1 != 0) then (Z.signW x0.dec) else last)
  (bt_ p l0 r11 r12)
def af_ (p : (List I)) : W :=
  bif (ac_ p) then ((wl 0)) else (ap (fun (s : W × W) => let n : W := s.1
  let last : W := s.2
  n) (bt_ p p (wl 0) (wl 0)))
def bH_ (l : (List I)) : List I → I → I
  | [], mb2 => mb2
  | x0 :: l0, mb2 => (bH_ l l0 (E (Z.gcd mb2.dec x0.dec)))
def at_ (l : (List I)) : I :=
  ap (fun (s : I) => let mb2 : I := s
  mb2) (bH_ l l I0)
def ca_ (a : I) (b : I) (n : I) : I :=
  (E (Z.quo a.dec n.dec))
def aa_ (p : (List I)) : (List I) :=
  (bw_ p ([] : List I) (fun (y : I) (z : I) => (ca_ y z (at_ p))))
def bO_ (d : I) (n : Int) : Nat → (List I) → List I
  | 0, out => out
  | k0 + 1, out => bif decide ((((out).length : Nat) : Int) < n) then ((bO_ d n k0 (out ++ [(E (Z.mul (out.getD ((out).length - 1) I0).dec d.dec))]))) else (out)
def ax_ (d : I) (n : Int) : (List I) :=
  ap (fun (s : List I) => let out : List I := s
  out) (bO_ d n ((n.toNat + 1)) [(E (Z.of 1))])
def co_ (p : (List I)) (x : Rt) : Nat → Int → I → Int × I
  | 0, i, mb3 => (i, mb3)
  | k0 + 1, i, mb3 => bif decide (0 ≤ i) then (let r25 : I := (E (Z.mul (p.getD ((i).toNat) I0).dec ((ax_ x.d (((p).length : Nat) : Int)).getD (((p).length - 1) - (i).toNat) I0).dec))
  (co_ p x k0 (i - 1) (E (Z.add (Z.mul mb3.dec x.n.dec) r25.dec)))) else ((i, mb3))
def bX_ (p : (List I)) (x : Rt) : I × I :=
  bif ((ac_ p) || (!(b3_ [x]))) then (((E Z.bad), (E (Z.of 1)))) else (ap (fun (s : Int × I) => let i : Int := s.1
  let mb3 : I := s.2
  (mb3, ((ax_ x.d (((p).length : Nat) : Int)).getD ((((((p).length : Nat) : Int) - 1)).toNat) I0))) (co_ p x ((p.length + 1)) ((((p).length : Nat) : Int) - 1) I0))
def dy_ (p : (List I)) (x : Rt) : Rt :=
  let r3 : Rt := (bF_ ((bX_ p x).1) ((bX_ p x).2))
  r3
def bl_ (p : (List I)) (q : (List I)) (i : Int) (r : List I) (r53 : I) : Nat → Nat → (List I) → (Nat × List I) ⊕ ((List I))
  | 0, k, t => .inl (k, t)
  | k1 + 1, k, t => bif decide (((k : Nat) : Int) < (((r).length : Nat) : Int)) then (let r66 : I := (E (Z.sub (Z.mul (Z.abs (q.getD ((q).length - 1) I0).dec) (t.getD k I0).dec) (Z.mul r53.dec (aE_ q (((k : Nat) : Int) - i)).dec)))
  bif ((t.set k r66).getD k I0).1.bad then (.inr (F_poly_bad)) else ((bl_ p q i r r53 k1 (k + 1) (t.set k r66)))) else (.inl (k, t))
def bk_ (p : (List I)) (q : (List I)) : Nat → Int → (List I) → (Int × List I) ⊕ ((List I))
  | 0, i, r => .inl (i, r)
  | k0 + 1, i, r => bif decide (0 ≤ i) then (let r53 : I := (E (Z.mul (Z.of (Z.signW (q.getD ((q).length - 1) I0).dec).1) (r.getD ((i).toNat + ((q).length - 1)) I0).dec))
  sm (fun (s : Nat × List I) => let k : Nat := s.1
  let t : List I := s.2
  (bk_ p q k0 (i - 1) t)) (fun r => .inr r) (bl_ p q i r r53 ((r.length + 1)) 0 r)) else (.inl (i, r))
def bi_ (p : (List I)) (q : (List I)) : (List I) :=
  bif ((ac_ p) || ((ac_ q) || ((((q).length : Nat) : Int) == 0))) then (F_poly_bad) else (sm (fun (s : Int × List I) => let i : Int := s.1
  let r : List I := s.2
  (ai_ r)) (fun r => r) (bk_ p q ((p.length + 1)) (((((p).length : Nat) : Int) - 1) - ((((q).length : Nat) : Int) - 1)) ([] ++ p)))
def cf_ (n : Int) (i : Int) : Nat → Int → I → Int × I
  | 0, j, mb1 => (j, mb1)
  | k0 + 1, j, mb1 => bif decide (j ≤ n) then ((cf_ n i k0 (j + 1) (E (Z.mul mb1.dec (Z.of j))))) else ((j, mb1))
def bz_ (n : Int) (i : Int) (j : Int) (mb1 : I) : Nat → (List I) → Nat → I → List I × Nat × I
  | 0, out, k, mb1_1 => (out, k, mb1_1)
  | k1 + 1, out, k, mb1_1 => bif decide (((k : Nat) : Int) < (i + 1)) then (bif decide (((k : Nat) : Int) < n) then (let r22 : I := (E (Z.quo (Z.mul mb1_1.dec (Z.of (i - ((k : Nat) : Int)))) (Z.of (n - ((k : Nat) : Int)))))
  (bz_ n i j mb1 k1 (out ++ [mb1_1]) (k + 1) r22)) else ((bz_ n i j mb1 k1 (out ++ [mb1_1]) (k + 1) mb1_1))) else ((out, k, mb1_1))
def aI_ (n : Int) (i : Int) : (List I) :=
  ap (fun (s_ : Int × I) => let j : Int := s_.1
  let mb1 : I := s_.2
  ap (fun (s : List I × Nat × I) => let out : List I := s.1
  let k : Nat := s.2.1
  let mb1_1 : I := s.2.2
  out) (bz_ n i j mb1 (((i + 1).toNat + 1)) ([] : List I) 0 mb1)) (cf_ n i ((n.toNat + 1)) 2 (E (Z.of 1)))
def cd_ (a : I) : Bool :=
  (!a.1.bad && a.1.valid)
def F_skewbackref08_bad  : (List I) :=
  let q0 : I := (E Z.bad)
  [q0]
def a1_ (l : (List I)) : Nat → Int → Nat → (Int × Nat) ⊕ ((List I))
  | 0, last, i => .inl (last, i)
  | k0 + 1, last, i => bif decide (((i : Nat) : Int) < (((l).length : Nat) : Int)) then (bif (cd_ (l.getD i I0)) then (bif ((Z.signW (l.getD i I0).dec).1 != 0) then ((a1_ l k0 ((i : Nat) : Int) (i + 1))) else ((a1_ l k0 last (i + 1)))) else (.inr (F_skewbackref08_bad))) else (.inl (last, i))
def bg_ (l : (List I)) (last : Int) (i : Nat) : Nat → (List I) → Nat → List I × Nat
  | 0, out, j => (out, j)
  | k1 + 1, out, j => bif decide (((j : Nat) : Int) ≤ last) then ((bg_ l last i k1 (out ++ [(l.getD j I0)]) (j + 1))) else ((out, j))
def a4_ (l : (List I)) : (List I) :=
  sm (fun (s_ : Int × Nat) => let last : Int := s_.1
  let i : Nat := s_.2
  bif decide (24 < last) then (F_skewbackref08_bad) else (ap (fun (s : List I × Nat) => let out : List I := s.1
  let j : Nat := s.2
  out) (bg_ l last i (((last + 1).toNat + 1)) ([] : List I) 0))) (fun r => r) (a1_ l ((l.length + 1)) (-1) 0)
def bR_ (l : (List W)) : Nat → (List I) → Nat → List I × Nat
  | 0, out, i => (out, i)
  | k0 + 1, out, i => bif decide (((i : Nat) : Int) < (((l).length : Nat) : Int)) then ((bR_ l k0 (out ++ [(E (Z.of (l.getD i W.z).1))]) (i + 1))) else ((out, i))
def au_ (l : (List W)) : (List I) :=
  ap (fun (s : List I × Nat) => let out : List I := s.1
  let i : Nat := s.2
  (a4_ out)) (bR_ l ((l.length + 1)) ([] : List I) 0)
def aW_ (p : (List I)) : Nat → Nat → (Nat) ⊕ (Bool)
  | 0, i => .inl i
  | k0 + 1, i => bif decide (((i : Nat) : Int) < (((p).length : Nat) : Int)) then (bif (cd_ (p.getD i I0)) then ((aW_ p k0 (i + 1))) else (.inr (true))) else (.inl i)
def a6_ (p : (List I)) : Bool :=
  sm (fun (s : Nat) => let i : Nat := s
  false) (fun r => r) (aW_ p ((p.length + 1)) 0)
def bG_ (a : (List I)) (b : (List I)) : Nat → Nat → (Nat) ⊕ (Bool)
  | 0, i => .inl i
  | k0 + 1, i => bif decide (((i : Nat) : Int) < (((a).length : Nat) : Int)) then (bif decide ((a.getD i I0) = (b.getD i I0)) then ((bG_ a b k0 (i + 1))) else (.inr (false))) else (.inl i)
def ap_ (a : (List I)) (b : (List I)) : Bool :=
  bif ((((a).length : Nat) : Int) != (((b).length : Nat) : Int)) then (false) else (sm (fun (s : Nat) => let i : Nat := s
  true) (fun r => r) (bG_ a b ((a.length + 1)) 0))
def aJ_ (p : (List I)) : Bool :=
  bif (((((p).length : Nat) : Int) == 1) && decide ((p.getD 0 I0) = (E Z.bad))) then (true) else (bif ((a6_ p) || decide (25 < (((p).length : Nat) : Int))) then (false) else ((((((p).length : Nat) : Int) == 0) || ((Z.signW (p.getD ((p).length - 1) I0).dec).1 != 0))))
def bo_ (p : (List I)) (d : Int) (b : Int) : Nat → Nat → (Nat) ⊕ (Bool)
  | 0, i => .inl i
  | k0 + 1, i => bif decide (((i : Nat) : Int) < (((p).length : Nat) : Int)) then (bif decide (b < (Z.bitsW (p.getD i I0).dec).1) then (.inr (false)) else ((bo_ p d b k0 (i + 1)))) else (.inl i)
def aG_ (p : (List I)) (d : Int) (b : Int) : Bool :=
  bif (!(aJ_ p) || decide ((d + 1) < (((p).length : Nat) : Int))) then (false) else (sm (fun (s : Nat) => let i : Nat := s
  true) (fun r => r) (bo_ p d b ((p.length + 1)) 0))
end Go.Num

set_option linter.unusedVariables false
set_option linter.unusedSimpArgs false
namespace Go.Num
open Go Go.Kn
def ei_ (a : W) (b : W) : Rt :=
  let r2 : Rt := (bF_ (E (Z.of a.1)) (E (Z.of b.1)))
  r2
end Go.Num

set_option linter.unusedVariables false
set_option linter.unusedSimpArgs false
namespace Go.Num
open Go Go.Kn
def bh_ (p : (List I)) (q : (List I)) : Nat → (List I) → (List I) → (List I × List I) ⊕ ((List I))
  | 0, a, b => .inl (a, b)
  | k0 + 1, a, b => bif decide (0 < (((b).length : Nat) : Int)) then (bif ((ac_ a) || (ac_ b)) then (.inr (F_poly_bad)) else ((bh_ p q k0 b (aa_ (bi_ a b))))) else (.inl (a, b))
def ae_ (p : (List I)) (q : (List I)) : (List I) :=
  sm (fun (s : List I × List I) => let a : List I := s.1
  let b : List I := s.2
  bif (((((a).length : Nat) : Int) == 0) || decide (0 < (Z.signW (a.getD ((a).length - 1) I0).dec).1)) then (a) else ((bw_ ([] : List I) a (fun (y : I) (z : I) => (E (Z.sub y.dec z.dec)))))) (fun r => r) (bh_ p q ((gmP (aa_ q) + 1)) (aa_ p) (aa_ q))
def bs_ (p : (List I)) (a : Rt) (b : Rt) : Nat → (List I) → Int → List I × Int
  | 0, r, i => (r, i)
  | k0 + 1, r, i => bif decide (0 ≤ i) then (let r32 : I := (E (Z.mul (p.getD ((i).toNat) I0).dec ((ax_ (E (Z.mul a.d.dec b.d.dec)) (((p).length : Nat) : Int)).getD (((p).length - 1) - (i).toNat) I0).dec))
  (bs_ p a b k0 (d0_ (br_ r (ai_ [(E (Z.mul a.n.dec b.d.dec)), (E (Z.mul b.n.dec a.d.dec))])) (ai_ [r32])) (i - 1))) else ((r, i))
def by_ (p : (List I)) (a : Rt) (b : Rt) : (List I) :=
  bif ((ac_ p) || (!(b3_ [a, b]))) then (F_poly_bad) else (ap (fun (s : List I × Int) => let r : List I := s.1
  let i : Int := s.2
  r) (bs_ p a b ((p.length + 1)) ([] : List I) ((((p).length : Nat) : Int) - 1)))
def bf_ (p : (List I)) (a : Rt) (b : Rt) : (List I) :=
  (aa_ (by_ p a b))
def b0_ (p : (List I)) (a : Rt) (b : Rt) (out : List I) (i : Nat) : Nat → Nat → I → Nat × I
  | 0, j, mb40 => (j, mb40)
  | k1 + 1, j, mb40 => bif decide (((j : Nat) : Int) < ((((aI_ ((((p).length : Nat) : Int) - 1) ((i : Nat) : Int))).length : Nat) : Int)) then (let r52 : I := (E (Z.mul ((aI_ ((((p).length : Nat) : Int) - 1) ((i : Nat) : Int)).getD j I0).dec (aE_ (bf_ p a (bP_ b a)) ((j : Nat) : Int)).dec))
  (b0_ p a b out i k1 (j + 1) (E (Z.add mb40.dec r52.dec)))) else ((j, mb40))
def b2_ (p : (List I)) (a : Rt) (b : Rt) : Nat → (List I) → Nat → (List I × Nat) ⊕ ((List I) × Bool)
  | 0, out, i => .inl (out, i)
  | k0 + 1, out, i => bif decide (((i : Nat) : Int) < (((p).length : Nat) : Int)) then (ap (fun (s : Nat × I) => let j : Nat := s.1
  let mb40 : I := s.2
  bif mb40.1.bad then (.inr ((([] : List I), false))) else ((b2_ p a b k0 (out ++ [mb40]) (i + 1)))) (b0_ p a b out i ((((aI_ ((((p).length : Nat) : Int) - 1) ((i : Nat) : Int))).length + 1)) 0 I0)) else (.inl (out, i))
def b1_ (p : (List I)) (a : Rt) (b : Rt) (out : List I) (i : Nat) : Nat → Nat → (List I) → Nat × List I
  | 0, k, t => (k, t)
  | k2 + 1, k, t => bif decide (((k : Nat) : Int) < (((out).length : Nat) : Int)) then ((b1_ p a b out i k2 (k + 1) (t.set k (E (Z.quo (t.getD k I0).dec (at_ out).dec))))) else ((k, t))
def aQ_ (p : (List I)) (a : Rt) (b : Rt) : (List I) × Bool :=
  bif ((ac_ p) || (!(b3_ [a, b]))) then ((([] : List I), false)) else (bif (ac_ (bf_ p a (bP_ b a))) then ((([] : List I), false)) else (sm (fun (s_ : List I × Nat) => let out : List I := s_.1
  let i : Nat := s_.2
  bif ((Z.signW (at_ out).dec).1 != 0) then (ap (fun (s : Nat × List I) => let k : Nat := s.1
  let t : List I := s.2
  (t, true)) (b1_ p a b out i ((out.length + 1)) 0 out)) else ((out, true))) (fun r => r) (b2_ p a b ((p.length + 1)) ([] : List I) 0)))
end Go.Num

set_option linter.unusedVariables false
set_option linter.unusedSimpArgs false
namespace Go.Num
open Go Go.Kn
def bS_ (p : (List I)) (i : Int) (r : List I) (f : List I) (r66 : I) : Nat → Nat → (List I) → (Nat × List I) ⊕ ((List I))
  | 0, k, t => .inl (k, t)
  | k1 + 1, k, t => bif decide (((k : Nat) : Int) < ((((ae_ p (ab_ p))).length : Nat) : Int)) then (let r82 : I := (E (Z.mul ((f.set ((i).toNat) r66).getD ((i).toNat) I0).dec ((ae_ p (ab_ p)).getD k I0).dec))
  bif ((t.set ((i).toNat + k) (E (Z.sub (t.getD ((i).toNat + k) I0).dec r82.dec))).getD ((i).toNat + k) I0).1.bad then (.inr (F_poly_bad)) else ((bS_ p i r f r66 k1 (k + 1) (t.set ((i).toNat + k) (E (Z.sub (t.getD ((i).toNat + k) I0).dec r82.dec)))))) else (.inl (k, t))
def bU_ (p : (List I)) : Nat → Int → (List I) → (List I) → (Int × List I × List I) ⊕ ((List I))
  | 0, i, r, f => .inl (i, r, f)
  | k0 + 1, i, r, f => bif decide (0 ≤ i) then (let r66 : I := (E (Z.quo (r.getD ((i).toNat + (((ae_ p (ab_ p))).length - 1)) I0).dec ((ae_ p (ab_ p)).getD (((ae_ p (ab_ p))).length - 1) I0).dec))
  sm (fun (s : Nat × List I) => let k : Nat := s.1
  let t : List I := s.2
  (bU_ p k0 (i - 1) t (f.set ((i).toNat) r66))) (fun r => .inr r) (bS_ p i r f r66 ((((ae_ p (ab_ p))).length + 1)) 0 r)) else (.inl (i, r, f))
def cs_ (p : (List I)) : (List I) :=
  bif ((ac_ (ae_ p (ab_ p))) || (ac_ (aa_ p))) then (F_poly_bad) else (bif (((((aa_ p)).length : Nat) : Int) == 0) then (([] : List I)) else (sm (fun (s : Int × List I × List I) => let i : Int := s.1
  let r : List I := s.2.1
  let f : List I := s.2.2
  bif ((((((ai_ f)).length : Nat) : Int) == 0) || decide (0 < (Z.signW ((ai_ f).getD (((ai_ f)).length - 1) I0).dec).1)) then ((ai_ f)) else ((bw_ ([] : List I) (ai_ f) (fun (y : I) (z : I) => (E (Z.sub y.dec z.dec)))))) (fun r => r) (bU_ p (((aa_ p).length + 2)) (((((List.replicate (((aa_ p)).length - (((ae_ p (ab_ p))).length - 1)) I0)).length : Nat) : Int) - 1) (aa_ p) (List.replicate (((aa_ p)).length - (((ae_ p (ab_ p))).length - 1)) I0))))
end Go.Num

set_option linter.unusedVariables false
set_option linter.unusedSimpArgs false
namespace Go.Num
open Go Go.Kn
def bA_  : Bool :=
  let q0 : (List I) := (aF_ [(wl 1), (wl 1)])
  let q1 : (List I) := (aF_ [(wl (-1)), (wl 1)])
  let q2 : (List I) := (br_ q0 q1)
  let q3 : Rt := (ei_ (wl 1) (wl 2))
  let q4 : (List I) := (au_ [(wl (-1)), (wl 0), (wl 1)])
  let q5 : Bool := (ap_ q2 q4)
  let q6 : (List I) := (ab_ q2)
  let q7 : (List I) := (au_ [(wl 0), (wl 2)])
  let q8 : Bool := (ap_ q6 q7)
  let q9 : (List I) := (aF_ [(wl 1), (wl 0), (wl 4)])
  let q10 : Rt := (dy_ q9 q3)
  let q11 : Rt := (cm_ (wl 2))
  let q12 : Rt := (cm_ (wl (-3)))
  let q13 : Rt := (dy_ q9 q12)
  let q14 : Rt := (cm_ (wl 37))
  let q15 : (List I) := (au_ [(wl 5)])
  let q16 : (List I) := (aF_ [(wl 1), (wl 0), (wl 1)])
  let q17 : (List I) := (aF_ [(wl 1), (wl 2)])
  let q18 : (List I) := (bi_ q16 q17)
  let q19 : Bool := (ap_ q18 q15)
  let q20 : (List I) := (aF_ [(wl 1), (wl (-2))])
  let q21 : (List I) := (bi_ q16 q20)
  let q22 : Bool := (ap_ q21 q15)
  let q23 : (List I) := (aF_ [(wl (-4)), (wl 6)])
  let q24 : (List I) := (aa_ q23)
  let q25 : (List I) := (au_ [(wl (-2)), (wl 3)])
  let q26 : Bool := (ap_ q24 q25)
  let q27 : (List I) := (aF_ [(wl (-1)), (wl 0), (wl 1)])
  let q28 : (List I) := (aF_ [(wl 2), (wl (-2))])
  let q29 : (List I) := (ae_ q27 q28)
  let q30 : (List I) := (au_ [(wl (-1)), (wl 1)])
  let q31 : Bool := (ap_ q29 q30)
  let q32 : (List I) := (aF_ [(wl 0), (wl 0), (wl 3), (wl 3)])
  let q33 : (List I) := (cs_ q32)
  let q34 : (List I) := (au_ [(wl 0), (wl 1), (wl 1)])
  let q35 : Bool := (ap_ q33 q34)
  let q36 : (List I) := (aF_ [(wl 0), (wl 0), (wl 1)])
  let q37 : Rt := (cm_ (wl 1))
  let q38 : (List I) := (bf_ q36 q3 q37)
  let q39 : (List I) := (au_ [(wl 1), (wl 4), (wl 4)])
  let q40 : Bool := (ap_ q38 q39)
  let q41 : (List I) := (aF_ [(wl 1), (wl (-1)), (wl 0), (wl 1), (wl 1)])
  let q42 : W := (af_ q41)
  let q43 : Rt := (cm_ (wl 0))
  let q44 : (List I) := (aQ_ q36 q43 q37).1
  let q45 : Bool := (aQ_ q36 q43 q37).2
  let q46 : (List I) := (aQ_ q27 q43 q11).1
  let q47 : Bool := (aQ_ q27 q43 q11).2
  let q48 : I := (E (Z.of 0))
  let q49 : I := (E (Z.of 1))
  let q50 : (List I) := (au_ [(wl (-1)), (wl (-1)), (wl 3)])
  let q51 : Bool := (ap_ q46 q50)
  let q52 : I := (E Z.bad)
  let q53 : (List I) := (ai_ [q52])
  let q54 : Bool := (ac_ q53)
  let q55 : (List I) := (aF_ ([] : List W))
  let q56 : W := (dk_ q55)
  ((q5 && q8) && (((decide (q10.n = q11.n) && decide (q10.d = q11.d)) && (decide (q13.n = q14.n) && decide (q13.d = q14.d))) && ((q19 && q22) && ((q26 && (q31 && q35)) && ((q40 && (q42.1 == 2)) && ((q45 && (q47 && (((((q44).length : Nat) : Int) == 3) && (decide ((q44.getD 0 I0) = q48) && (decide ((q44.getD 1 I0) = q48) && (decide ((q44.getD 2 I0) = q49) && q51)))))) && (q54 && (q56.1 == (-1)))))))))
end Go.Num

set_option linter.unusedVariables false
namespace Go.Kn
open Go Go.Num
variable {α : Type} {w0 : World} {e : El α} {v : Value} {l : List α} {L : List Blk}
def RdL {α : Type} (w0 : World) (e : El α) (v : Value) (l : List α) (L : List Blk) : Prop := SLe w0 [] L e v l ∧ l.length ≤ 9223372036854775807
theorem RdL.own {E : TypeId} (h : OwnG w0 E e v l L) : RdL w0 e v l L := ⟨SLfe.sle (OwnG.slfe h (List.Sublist.refl _)), OwnG.max h⟩
theorem RdL.old (h : SLe w0 [] [] e v l) (hm : l.length ≤ 9223372036854775807) : RdL w0 e v l [] := ⟨h, hm⟩
theorem RdL.max (h : RdL w0 e v l L) : l.length ≤ 9223372036854775807 := h.2
end Go.Kn
namespace Go.Num
open Go Go.Kn
theorem oY_ {a : W} {t : Int} (h : -9223372036854775808 ≤ t ∧ t ≤ 9223372036854775807) : IntKind.i64.wrap (a.1 - t) = (W.sub a (W.cv t)).1 := by
  show _ = IntKind.i64.wrap (a.1 - (W.cv t).1)
  rw [cvE h]
/-- A byte. -/
def U8 := {x : Int // 0 ≤ x ∧ x ≤ 255}
def u80 : U8 := ⟨0, by decide⟩
def elU8 : El U8 := ⟨1, fun x => [ci .u8 x.1], fun _ => rfl⟩
theorem ps_ {cs : List Value} (h : LWF cs [some .u8]) : ∃ x : U8, cs = elU8.cs x := by
  match cs, h with
  | [.int k n], h =>
    obtain ⟨⟨rfl, hw⟩, _⟩ := h
    have hb : 0 ≤ n ∧ n ≤ 255 := bounds_u8 hw
    exact ⟨⟨n, hb⟩, rfl⟩
end Go.Num

set_option linter.unusedVariables false
set_option linter.unusedSimpArgs false
namespace Go.Num
open Go Go.Kn
def ah_ (p : (List I)) (z : (List U8)) : Nat → (List I) → Nat → List I × Nat
  | 0, q, i => (q, i)
  | k0 + 1, q, i => bif decide (((i : Nat) : Int) < (((z).length : Nat) : Int)) then ((ah_ p z k0 (br_ q (aF_ [(W.sub (wl (-1)) (W.cv ((z.getD i u80).1))), (wl 1)])) (i + 1))) else ((q, i))
def a9_ (p : (List I)) (z : (List U8)) : Bool :=
  bif (!(aG_ p 6 30) || ((ac_ p) || (((((p).length : Nat) : Int) == 0) || decide (6 < (((z).length : Nat) : Int))))) then (bA_) else (ap (fun (s : List I × Nat) => let q : List I := s.1
  let i : Nat := s.2
  (bA_ && (decide (0 ≤ (W.sub (W.sub (af_ q) (af_ p)) (W.cv (((z).length : Nat) : Int))).1) && ((W.rem (W.sub (W.sub (af_ q) (af_ p)) (W.cv (((z).length : Nat) : Int))) (wl 2)).1 == 0)))) (ah_ p z ((z.length + 1)) p 0))
end Go.Num

