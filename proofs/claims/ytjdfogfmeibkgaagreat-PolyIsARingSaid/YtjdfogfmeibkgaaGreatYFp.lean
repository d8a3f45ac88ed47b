/- What these functions compute, as plain functions. No program stands in it. -/
import Derived.Test.YtjdfogfmeibkgaaGreatYGE
set_option linter.unusedVariables false
set_option linter.unusedSimpArgs false
namespace Go.Num
open Go Go.Kn
def bP_ (a : I) : I :=
  a
def dn_ (a : I) : Bool :=
  (!a.1.bad && a.1.valid)
def F_poly_bad  : (List I) :=
  let q0 : I := (E Z.bad)
  [q0]
def bW_ (n : Int) (f : Nat → I) (o : I → I) : Nat → (List I) → Nat → (List I × Nat) ⊕ ((List I))
  | 0, out, i => .inl (out, i)
  | k0 + 1, out, i => bif decide (((i : Nat) : Int) < (((n).toNat : Nat) : Int)) then (bif (dn_ (o (f i))) then ((bW_ n f o k0 (out ++ [(o (f i))]) (i + 1))) else (.inr (F_poly_bad))) else (.inl (out, i))
def bX_ (n : Int) (f : Nat → I) (o : I → I) (out : List I) (i : Nat) : Nat → (List I) → List I
  | 0, cut => cut
  | k1 + 1, cut => bif (decide (0 < (((cut).length : Nat) : Int)) && ((Z.signW (cut.getD ((cut).length - 1) I0).dec).1 == 0)) then ((bX_ n f o out i k1 (cut.take ((cut).length - 1)))) else (cut)
def bz_ (n : Int) (f : Nat → I) (o : I → I) : (List I) :=
  sm (fun (s_ : List I × Nat) => let out : List I := s_.1
  let i : Nat := s_.2
  ap (fun (s : List I) => let cut : List I := s
  bif decide (25 < (((cut).length : Nat) : Int)) then (F_poly_bad) else (cut)) (bX_ n f o out i ((out.length + 1)) out)) (fun r => r) (bW_ n f o ((n.toNat + 1)) ([] : List I) 0)
def cc_ (n : Int) (f : Nat → Go.Num.W) (o : Go.Num.W → I) : Nat → (List I) → Nat → (List I × Nat) ⊕ ((List I))
  | 0, out, i => .inl (out, i)
  | k0 + 1, out, i => bif decide (((i : Nat) : Int) < (((n).toNat : Nat) : Int)) then (bif (dn_ (o (f i))) then ((cc_ n f o k0 (out ++ [(o (f i))]) (i + 1))) else (.inr (F_poly_bad))) else (.inl (out, i))
def ca_ (n : Int) (f : Nat → Go.Num.W) (o : Go.Num.W → I) (out : List I) (i : Nat) : Nat → (List I) → List I
  | 0, cut => cut
  | k1 + 1, cut => bif (decide (0 < (((cut).length : Nat) : Int)) && ((Z.signW (cut.getD ((cut).length - 1) I0).dec).1 == 0)) then ((ca_ n f o out i k1 (cut.take ((cut).length - 1)))) else (cut)
def cI_ (n : Int) (f : Nat → Go.Num.W) (o : Go.Num.W → I) : (List I) :=
  sm (fun (s_ : List I × Nat) => let out : List I := s_.1
  let i : Nat := s_.2
  ap (fun (s : List I) => let cut : List I := s
  bif decide (25 < (((cut).length : Nat) : Int)) then (F_poly_bad) else (cut)) (ca_ n f o out i ((out.length + 1)) out)) (fun r => r) (cc_ n f o ((n.toNat + 1)) ([] : List I) 0)
def cd_ (l : (List I)) (f : I → Bool) : Nat → Nat → (Nat) ⊕ (W)
  | 0, i => .inl i
  | k0 + 1, i => bif decide (((i : Nat) : Int) < (((l).length : Nat) : Int)) then (bif (f (l.getD i I0)) then (.inr ((W.cv ((i : Nat) : Int)))) else ((cd_ l f k0 (i + 1)))) else (.inl i)
def eo_ (l : (List I)) (f : I → Bool) : W :=
  sm (fun (s : Nat) => let i : Nat := s
  (wl (-1))) (fun r => r) (cd_ l f ((l.length + 1)) 0)
def dX_ (l : (List I)) (f : I → Bool) : Bool :=
  (decide (0 ≤ (eo_ l f).1))
def ex_ (a : I) : Bool :=
  (!(dn_ a))
def ad_ (p : (List I)) : Bool :=
  (dX_ p (fun (y : I) => (ex_ y)))
def cq_ (l : (List Rt)) (f : Rt → Bool) : Nat → Nat → (Nat) ⊕ (W)
  | 0, i => .inl i
  | k0 + 1, i => bif decide (((i : Nat) : Int) < (((l).length : Nat) : Int)) then (bif (f (l.getD i Rt0)) then (.inr ((W.cv ((i : Nat) : Int)))) else ((cq_ l f k0 (i + 1)))) else (.inl i)
def dC_ (l : (List Rt)) (f : Rt → Bool) : W :=
  sm (fun (s : Nat) => let i : Nat := s
  (wl (-1))) (fun r => r) (cq_ l f ((l.length + 1)) 0)
def dx_ (l : (List Rt)) (f : Rt → Bool) : Bool :=
  (decide (0 ≤ (dC_ l f).1))
def cn_ (a : Rt) : Bool :=
  (!(aL_ a))
def b4_ (l : (List Rt)) : Bool :=
  (!(dx_ l (fun (y : Rt) => (cn_ y))))
def dO_ (k : Nat) (l : (List I)) : I :=
  (l.getD k I0)
def ap_ (l : (List I)) : (List I) :=
  (bz_ (((l).length : Nat) : Int) (fun (y : Nat) => (dO_ y l)) (fun (y : I) => (bP_ y)))
def eW_ (k : Nat) (l : (List W)) : W :=
  (l.getD k W.z)
def bu_ (l : (List W)) : (List I) :=
  (cI_ (((l).length : Nat) : Int) (fun (y : Nat) => (eW_ y l)) (fun (y : Go.Num.W) => (E (Z.of y.1))))
def d9_ (p : (List I)) : W :=
  bif (ad_ p) then ((wl (-2))) else ((W.cv ((((p).length : Nat) : Int) - 1)))
def aV_ (p : (List I)) (k : Int) : I :=
  bif (decide (k < 0) || decide ((((p).length : Nat) : Int) ≤ k)) then (I0) else ((p.getD ((k).toNat) I0))
def dK_ (k : Nat) (f : I → I → I) (p : (List I)) (q : (List I)) : I :=
  (f (aV_ p ((k : Nat) : Int)) (aV_ q ((k : Nat) : Int)))
def bw_ (p : (List I)) (q : (List I)) (f : I → I → I) : (List I) :=
  bif ((ad_ p) || (ad_ q)) then (F_poly_bad) else ((bz_ (((max ((p).length) ((q).length)) : Nat) : Int) (fun (y : Nat) => (dK_ y f p q)) (fun (y : I) => (bP_ y))))
def ak_ (p : (List I)) (q : (List I)) : (List I) :=
  (bw_ p q (fun (y : I) (z : I) => (E (Z.add y.dec z.dec))))
def b7_ (k : Nat) (q : (List I)) (p : (List I)) : Nat → Nat → I → Nat × I
  | 0, i, mb2 => (i, mb2)
  | k0 + 1, i, mb2 => bif decide (((i : Nat) : Int) ≤ (min ((k : Nat) : Int) ((((p).length : Nat) : Int) - 1))) then ((b7_ k q p k0 (i + 1) (E (Z.add mb2.dec (Z.mul (p.getD i I0).dec (q.getD (k - i) I0).dec))))) else ((i, mb2))
def dg_ (k : Nat) (q : (List I)) (p : (List I)) : I :=
  ap (fun (s : Nat × I) => let i : Nat := s.1
  let mb2 : I := s.2
  mb2) (b7_ k q p ((k + 2)) ((((((k : Nat) : Int) - (((q).length : Nat) : Int)) + 1)).toNat) I0)
def ac_ (p : (List I)) (q : (List I)) : (List I) :=
  bif ((ad_ p) || (ad_ q)) then (F_poly_bad) else (bif (((((p).length : Nat) : Int) == 0) || ((((q).length : Nat) : Int) == 0)) then (([] : List I)) else ((bz_ (((((p).length + (q).length) : Nat) : Int) - 1) (fun (y : Nat) => (dg_ y q p)) (fun (y : I) => (bP_ y)))))
def dp_ (a : I) (b : I) (n : I) : I :=
  (E (Z.mul a.dec n.dec))
def c1_ (p : (List I)) (n : I) : (List I) :=
  bif (dn_ n) then ((bw_ p ([] : List I) (fun (y : I) (z : I) => (dp_ y z n)))) else (F_poly_bad)
def dJ_ (k : Nat) (p : (List I)) : I :=
  (E (Z.mul (Z.of (((k + 1) : Nat) : Int)) (p.getD (k + 1) I0).dec))
def af_ (p : (List I)) : (List I) :=
  bif (ad_ p) then (F_poly_bad) else ((bz_ ((((p).length : Nat) : Int) - 1) (fun (y : Nat) => (dJ_ y p)) (fun (y : I) => (bP_ y))))
def cp_ (p : (List I)) : List I → W → W → W × W
  | [], n, last => (n, last)
  | x0 :: l0, n, last => let r11 : W := (bif ((Z.signW x0.dec).1 != 0) then (bif ((Z.signW x0.dec).1 == (W.neg last).1) then (W.add n (wl 1)) else n) else n)
  let r12 : W := (bif ((Z.signW x0.dec).1 != 0) then (Z.signW x0.dec) else last)
  (cp_ p l0 r11 r12)
def c9_ (p : (List I)) : W :=
  bif (ad_ p) then ((wl 0)) else (ap (fun (s : W × W) => let n : W := s.1
  let last : W := s.2
  n) (cp_ p p (wl 0) (wl 0)))
def b6_ (l : (List I)) : List I → I → I
  | [], mb2 => mb2
  | x0 :: l0, mb2 => (b6_ l l0 (E (Z.gcd mb2.dec x0.dec)))
def aE_ (l : (List I)) : I :=
  ap (fun (s : I) => let mb2 : I := s
  mb2) (b6_ l l I0)
def cC_ (a : I) (b : I) (n : I) : I :=
  (E (Z.quo a.dec n.dec))
def aa_ (p : (List I)) : (List I) :=
  (bw_ p ([] : List I) (fun (y : I) (z : I) => (cC_ y z (aE_ p))))
def bR_ (d : I) (n : Int) : Nat → (List I) → List I
  | 0, out => out
  | k0 + 1, out => bif decide ((((out).length : Nat) : Int) < n) then ((bR_ d n k0 (out ++ [(E (Z.mul (out.getD ((out).length - 1) I0).dec d.dec))]))) else (out)
def aI_ (d : I) (n : Int) : (List I) :=
  ap (fun (s : List I) => let out : List I := s
  out) (bR_ d n ((n.toNat + 1)) [(E (Z.of 1))])
def b8_ (p : (List I)) (x : Rt) : Nat → Int → I → Int × I
  | 0, i, mb3 => (i, mb3)
  | k0 + 1, i, mb3 => bif decide (0 ≤ i) then (let r25 : I := (E (Z.mul (p.getD ((i).toNat) I0).dec ((aI_ x.d (((p).length : Nat) : Int)).getD (((p).length - 1) - (i).toNat) I0).dec))
  (b8_ p x k0 (i - 1) (E (Z.add (Z.mul mb3.dec x.n.dec) r25.dec)))) else ((i, mb3))
def ba_ (p : (List I)) (x : Rt) : I × I :=
  bif ((ad_ p) || (!(b4_ [x]))) then (((E Z.bad), (E (Z.of 1)))) else (ap (fun (s : Int × I) => let i : Int := s.1
  let mb3 : I := s.2
  (mb3, ((aI_ x.d (((p).length : Nat) : Int)).getD ((((((p).length : Nat) : Int) - 1)).toNat) I0))) (b8_ p x ((p.length + 1)) ((((p).length : Nat) : Int) - 1) I0))
def ah_ (p : (List I)) (x : Rt) : Rt :=
  let r3 : Rt := (aj_ ((ba_ p x).1) ((ba_ p x).2))
  r3
def bI_ (p : (List I)) (x : Rt) : W × Bool :=
  ((Z.signW ((ba_ p x).1).dec), (!((ba_ p x).1).1.bad))
def bk_ (p : (List I)) (q : (List I)) (i : Int) (r : List I) (r53 : I) : Nat → Nat → (List I) → (Nat × List I) ⊕ ((List I))
  | 0, k, t => .inl (k, t)
  | k1 + 1, k, t => bif decide (((k : Nat) : Int) < (((r).length : Nat) : Int)) then (let r66 : I := (E (Z.sub (Z.mul (Z.abs (q.getD ((q).length - 1) I0).dec) (t.getD k I0).dec) (Z.mul r53.dec (aV_ q (((k : Nat) : Int) - i)).dec)))
  bif ((t.set k r66).getD k I0).1.bad then (.inr (F_poly_bad)) else ((bk_ p q i r r53 k1 (k + 1) (t.set k r66)))) else (.inl (k, t))
def a4_ (p : (List I)) (q : (List I)) : Nat → Int → (List I) → (Int × List I) ⊕ ((List I))
  | 0, i, r => .inl (i, r)
  | k0 + 1, i, r => bif decide (0 ≤ i) then (let r53 : I := (E (Z.mul (Z.of (Z.signW (q.getD ((q).length - 1) I0).dec).1) (r.getD ((i).toNat + ((q).length - 1)) I0).dec))
  sm (fun (s : Nat × List I) => let k : Nat := s.1
  let t : List I := s.2
  (a4_ p q k0 (i - 1) t)) (fun r => .inr r) (bk_ p q i r r53 ((r.length + 1)) 0 r)) else (.inl (i, r))
def aP_ (p : (List I)) (q : (List I)) : (List I) :=
  bif ((ad_ p) || ((ad_ q) || ((((q).length : Nat) : Int) == 0))) then (F_poly_bad) else (sm (fun (s : Int × List I) => let i : Int := s.1
  let r : List I := s.2
  (ap_ r)) (fun r => r) (a4_ p q ((p.length + 1)) (((((p).length : Nat) : Int) - 1) - ((((q).length : Nat) : Int) - 1)) ([] ++ p)))
def cG_ (n : Int) (i : Int) : Nat → Int → I → Int × I
  | 0, j, mb1 => (j, mb1)
  | k0 + 1, j, mb1 => bif decide (j ≤ n) then ((cG_ n i k0 (j + 1) (E (Z.mul mb1.dec (Z.of j))))) else ((j, mb1))
def bS_ (n : Int) (i : Int) (j : Int) (mb1 : I) : Nat → (List I) → Nat → I → List I × Nat × I
  | 0, out, k, mb1_1 => (out, k, mb1_1)
  | k1 + 1, out, k, mb1_1 => bif decide (((k : Nat) : Int) < (i + 1)) then (bif decide (((k : Nat) : Int) < n) then (let r22 : I := (E (Z.quo (Z.mul mb1_1.dec (Z.of (i - ((k : Nat) : Int)))) (Z.of (n - ((k : Nat) : Int)))))
  (bS_ n i j mb1 k1 (out ++ [mb1_1]) (k + 1) r22)) else ((bS_ n i j mb1 k1 (out ++ [mb1_1]) (k + 1) mb1_1))) else ((out, k, mb1_1))
def aZ_ (n : Int) (i : Int) : (List I) :=
  ap (fun (s_ : Int × I) => let j : Int := s_.1
  let mb1 : I := s_.2
  ap (fun (s : List I × Nat × I) => let out : List I := s.1
  let k : Nat := s.2.1
  let mb1_1 : I := s.2.2
  out) (bS_ n i j mb1 (((i + 1).toNat + 1)) ([] : List I) 0 mb1)) (cG_ n i ((n.toNat + 1)) 2 (E (Z.of 1)))
def cH_ (a : I) : Bool :=
  (!a.1.bad && a.1.valid)
def F_skewbackref08_bad  : (List I) :=
  let q0 : I := (E Z.bad)
  [q0]
def bl_ (l : (List I)) : Nat → Int → Nat → (Int × Nat) ⊕ ((List I))
  | 0, last, i => .inl (last, i)
  | k0 + 1, last, i => bif decide (((i : Nat) : Int) < (((l).length : Nat) : Int)) then (bif (cH_ (l.getD i I0)) then (bif ((Z.signW (l.getD i I0).dec).1 != 0) then ((bl_ l k0 ((i : Nat) : Int) (i + 1))) else ((bl_ l k0 last (i + 1)))) else (.inr (F_skewbackref08_bad))) else (.inl (last, i))
def bB_ (l : (List I)) (last : Int) (i : Nat) : Nat → (List I) → Nat → List I × Nat
  | 0, out, j => (out, j)
  | k1 + 1, out, j => bif decide (((j : Nat) : Int) ≤ last) then ((bB_ l last i k1 (out ++ [(l.getD j I0)]) (j + 1))) else ((out, j))
def bp_ (l : (List I)) : (List I) :=
  sm (fun (s_ : Int × Nat) => let last : Int := s_.1
  let i : Nat := s_.2
  bif decide (24 < last) then (F_skewbackref08_bad) else (ap (fun (s : List I × Nat) => let out : List I := s.1
  let j : Nat := s.2
  out) (bB_ l last i (((last + 1).toNat + 1)) ([] : List I) 0))) (fun r => r) (bl_ l ((l.length + 1)) (-1) 0)
def ch_ (l : (List W)) : Nat → (List I) → Nat → List I × Nat
  | 0, out, i => (out, i)
  | k0 + 1, out, i => bif decide (((i : Nat) : Int) < (((l).length : Nat) : Int)) then ((ch_ l k0 (out ++ [(E (Z.of (l.getD i W.z).1))]) (i + 1))) else ((out, i))
def aG_ (l : (List W)) : (List I) :=
  ap (fun (s : List I × Nat) => let out : List I := s.1
  let i : Nat := s.2
  (bp_ out)) (ch_ l ((l.length + 1)) ([] : List I) 0)
def bg_ (p : (List I)) : Nat → Nat → (Nat) ⊕ (Bool)
  | 0, i => .inl i
  | k0 + 1, i => bif decide (((i : Nat) : Int) < (((p).length : Nat) : Int)) then (bif (cH_ (p.getD i I0)) then ((bg_ p k0 (i + 1))) else (.inr (true))) else (.inl i)
def bv_ (p : (List I)) : Bool :=
  sm (fun (s : Nat) => let i : Nat := s
  false) (fun r => r) (bg_ p ((p.length + 1)) 0)
def bC_ (a : (List I)) (b : (List I)) : Nat → Nat → (Nat) ⊕ (Bool)
  | 0, i => .inl i
  | k0 + 1, i => bif decide (((i : Nat) : Int) < (((a).length : Nat) : Int)) then (bif decide ((a.getD i I0) = (b.getD i I0)) then ((bC_ a b k0 (i + 1))) else (.inr (false))) else (.inl i)
def ae_ (a : (List I)) (b : (List I)) : Bool :=
  bif ((((a).length : Nat) : Int) != (((b).length : Nat) : Int)) then (false) else (sm (fun (s : Nat) => let i : Nat := s
  true) (fun r => r) (bC_ a b ((a.length + 1)) 0))
def a0_ (p : (List I)) : Bool :=
  bif (((((p).length : Nat) : Int) == 1) && decide ((p.getD 0 I0) = (E Z.bad))) then (true) else (bif ((bv_ p) || decide (25 < (((p).length : Nat) : Int))) then (false) else ((((((p).length : Nat) : Int) == 0) || ((Z.signW (p.getD ((p).length - 1) I0).dec).1 != 0))))
def bJ_ (p : (List I)) (d : Int) (b : Int) : Nat → Nat → (Nat) ⊕ (Bool)
  | 0, i => .inl i
  | k0 + 1, i => bif decide (((i : Nat) : Int) < (((p).length : Nat) : Int)) then (bif decide (b < (Z.bitsW (p.getD i I0).dec).1) then (.inr (false)) else ((bJ_ p d b k0 (i + 1)))) else (.inl i)
def ag_ (p : (List I)) (d : Int) (b : Int) : Bool :=
  bif (!(a0_ p) || decide ((d + 1) < (((p).length : Nat) : Int))) then (false) else (sm (fun (s : Nat) => let i : Nat := s
  true) (fun r => r) (bJ_ p d b ((p.length + 1)) 0))
end Go.Num

set_option linter.unusedVariables false
set_option linter.unusedSimpArgs false
namespace Go.Num
open Go Go.Kn
def bG_ (p : (List I)) (q : (List I)) : Nat → (List I) → (List I) → (List I × List I) ⊕ ((List I))
  | 0, a, b => .inl (a, b)
  | k0 + 1, a, b => bif decide (0 < (((b).length : Nat) : Int)) then (bif ((ad_ a) || (ad_ b)) then (.inr (F_poly_bad)) else ((bG_ p q k0 b (aa_ (aP_ a b))))) else (.inl (a, b))
def al_ (p : (List I)) (q : (List I)) : (List I) :=
  sm (fun (s : List I × List I) => let a : List I := s.1
  let b : List I := s.2
  bif (((((a).length : Nat) : Int) == 0) || decide (0 < (Z.signW (a.getD ((a).length - 1) I0).dec).1)) then (a) else ((bw_ ([] : List I) a (fun (y : I) (z : I) => (E (Z.sub y.dec z.dec)))))) (fun r => r) (bG_ p q ((gmP (aa_ q) + 1)) (aa_ p) (aa_ q))
def bt_ (p : (List I)) (a : Rt) (b : Rt) : Nat → (List I) → Int → List I × Int
  | 0, r, i => (r, i)
  | k0 + 1, r, i => bif decide (0 ≤ i) then (let r32 : I := (E (Z.mul (p.getD ((i).toNat) I0).dec ((aI_ (E (Z.mul a.d.dec b.d.dec)) (((p).length : Nat) : Int)).getD (((p).length - 1) - (i).toNat) I0).dec))
  (bt_ p a b k0 (ak_ (ac_ r (ap_ [(E (Z.mul a.n.dec b.d.dec)), (E (Z.mul b.n.dec a.d.dec))])) (ap_ [r32])) (i - 1))) else ((r, i))
def a1_ (p : (List I)) (a : Rt) (b : Rt) : (List I) :=
  bif ((ad_ p) || (!(b4_ [a, b]))) then (F_poly_bad) else (ap (fun (s : List I × Int) => let r : List I := s.1
  let i : Int := s.2
  r) (bt_ p a b ((p.length + 1)) ([] : List I) ((((p).length : Nat) : Int) - 1)))
def ar_ (p : (List I)) (a : Rt) (b : Rt) : (List I) :=
  (aa_ (a1_ p a b))
def ct_ (p : (List I)) (a : Rt) (b : Rt) (out : List I) (i : Nat) : Nat → Nat → I → Nat × I
  | 0, j, mb40 => (j, mb40)
  | k1 + 1, j, mb40 => bif decide (((j : Nat) : Int) < ((((aZ_ ((((p).length : Nat) : Int) - 1) ((i : Nat) : Int))).length : Nat) : Int)) then (let r52 : I := (E (Z.mul ((aZ_ ((((p).length : Nat) : Int) - 1) ((i : Nat) : Int)).getD j I0).dec (aV_ (ar_ p a (cb_ b a)) ((j : Nat) : Int)).dec))
  (ct_ p a b out i k1 (j + 1) (E (Z.add mb40.dec r52.dec)))) else ((j, mb40))
def cu_ (p : (List I)) (a : Rt) (b : Rt) : Nat → (List I) → Nat → (List I × Nat) ⊕ ((List I) × Bool)
  | 0, out, i => .inl (out, i)
  | k0 + 1, out, i => bif decide (((i : Nat) : Int) < (((p).length : Nat) : Int)) then (ap (fun (s : Nat × I) => let j : Nat := s.1
  let mb40 : I := s.2
  bif mb40.1.bad then (.inr ((([] : List I), false))) else ((cu_ p a b k0 (out ++ [mb40]) (i + 1)))) (ct_ p a b out i ((((aZ_ ((((p).length : Nat) : Int) - 1) ((i : Nat) : Int))).length + 1)) 0 I0)) else (.inl (out, i))
def cv_ (p : (List I)) (a : Rt) (b : Rt) (out : List I) (i : Nat) : Nat → Nat → (List I) → Nat × List I
  | 0, k, t => (k, t)
  | k2 + 1, k, t => bif decide (((k : Nat) : Int) < (((out).length : Nat) : Int)) then ((cv_ p a b out i k2 (k + 1) (t.set k (E (Z.quo (t.getD k I0).dec (aE_ out).dec))))) else ((k, t))
def bb_ (p : (List I)) (a : Rt) (b : Rt) : (List I) × Bool :=
  bif ((ad_ p) || (!(b4_ [a, b]))) then ((([] : List I), false)) else (bif (ad_ (ar_ p a (cb_ b a))) then ((([] : List I), false)) else (sm (fun (s_ : List I × Nat) => let out : List I := s_.1
  let i : Nat := s_.2
  bif ((Z.signW (aE_ out).dec).1 != 0) then (ap (fun (s : Nat × List I) => let k : Nat := s.1
  let t : List I := s.2
  (t, true)) (cv_ p a b out i ((out.length + 1)) 0 out)) else ((out, true))) (fun r => r) (cu_ p a b ((p.length + 1)) ([] : List I) 0)))
end Go.Num

set_option linter.unusedVariables false
set_option linter.unusedSimpArgs false
namespace Go.Num
open Go Go.Kn
def dc_ (p : (List I)) (i : Int) (r : List I) (f : List I) (r66 : I) : Nat → Nat → (List I) → (Nat × List I) ⊕ ((List I))
  | 0, k, t => .inl (k, t)
  | k1 + 1, k, t => bif decide (((k : Nat) : Int) < ((((al_ p (af_ p))).length : Nat) : Int)) then (let r82 : I := (E (Z.mul ((f.set ((i).toNat) r66).getD ((i).toNat) I0).dec ((al_ p (af_ p)).getD k I0).dec))
  bif ((t.set ((i).toNat + k) (E (Z.sub (t.getD ((i).toNat + k) I0).dec r82.dec))).getD ((i).toNat + k) I0).1.bad then (.inr (F_poly_bad)) else ((dc_ p i r f r66 k1 (k + 1) (t.set ((i).toNat + k) (E (Z.sub (t.getD ((i).toNat + k) I0).dec r82.dec)))))) else (.inl (k, t))
def dd_ (p : (List I)) : Nat → Int → (List I) → (List I) → (Int × List I × List I) ⊕ ((List I))
  | 0, i, r, f => .inl (i, r, f)
  | k0 + 1, i, r, f => bif decide (0 ≤ i) then (let r66 : I := (E (Z.quo (r.getD ((i).toNat + (((al_ p (af_ p))).length - 1)) I0).dec ((al_ p (af_ p)).getD (((al_ p (af_ p))).length - 1) I0).dec))
  sm (fun (s : Nat × List I) => let k : Nat := s.1
  let t : List I := s.2
  (dd_ p k0 (i - 1) t (f.set ((i).toNat) r66))) (fun r => .inr r) (dc_ p i r f r66 ((((al_ p (af_ p))).length + 1)) 0 r)) else (.inl (i, r, f))
def dy_ (p : (List I)) : (List I) :=
  bif ((ad_ (al_ p (af_ p))) || (ad_ (aa_ p))) then (F_poly_bad) else (bif (((((aa_ p)).length : Nat) : Int) == 0) then (([] : List I)) else (sm (fun (s : Int × List I × List I) => let i : Int := s.1
  let r : List I := s.2.1
  let f : List I := s.2.2
  bif ((((((ap_ f)).length : Nat) : Int) == 0) || decide (0 < (Z.signW ((ap_ f).getD (((ap_ f)).length - 1) I0).dec).1)) then ((ap_ f)) else ((bw_ ([] : List I) (ap_ f) (fun (y : I) (z : I) => (E (Z.sub y.dec z.dec)))))) (fun r => r) (dd_ p (((aa_ p).length + 2)) (((((List.replicate (((aa_ p)).length - (((al_ p (af_ p))).length - 1)) I0)).length : Nat) : Int) - 1) (aa_ p) (List.replicate (((aa_ p)).length - (((al_ p (af_ p))).length - 1)) I0))))
end Go.Num

set_option linter.unusedVariables false
set_option linter.unusedSimpArgs false
namespace Go.Num
open Go Go.Kn
def e4_ (a : W) (b : W) : Rt :=
  let r2 : Rt := (aj_ (E (Z.of a.1)) (E (Z.of b.1)))
  r2
end Go.Num

set_option linter.unusedVariables false
set_option linter.unusedSimpArgs false
namespace Go.Num
open Go Go.Kn
def aJ_  : Bool :=
  let q0 : (List I) := (bu_ [(wl 1), (wl 1)])
  let q1 : (List I) := (bu_ [(wl (-1)), (wl 1)])
  let q2 : (List I) := (ac_ q0 q1)
  let q3 : Rt := (e4_ (wl 1) (wl 2))
  let q4 : (List I) := (aG_ [(wl (-1)), (wl 0), (wl 1)])
  let q5 : Bool := (ae_ q2 q4)
  let q6 : (List I) := (af_ q2)
  let q7 : (List I) := (aG_ [(wl 0), (wl 2)])
  let q8 : Bool := (ae_ q6 q7)
  let q9 : (List I) := (bu_ [(wl 1), (wl 0), (wl 4)])
  let q10 : Rt := (ah_ q9 q3)
  let q11 : Rt := (cW_ (wl 2))
  let q12 : Rt := (cW_ (wl (-3)))
  let q13 : Rt := (ah_ q9 q12)
  let q14 : Rt := (cW_ (wl 37))
  let q15 : (List I) := (aG_ [(wl 5)])
  let q16 : (List I) := (bu_ [(wl 1), (wl 0), (wl 1)])
  let q17 : (List I) := (bu_ [(wl 1), (wl 2)])
  let q18 : (List I) := (aP_ q16 q17)
  let q19 : Bool := (ae_ q18 q15)
  let q20 : (List I) := (bu_ [(wl 1), (wl (-2))])
  let q21 : (List I) := (aP_ q16 q20)
  let q22 : Bool := (ae_ q21 q15)
  let q23 : (List I) := (bu_ [(wl (-4)), (wl 6)])
  let q24 : (List I) := (aa_ q23)
  let q25 : (List I) := (aG_ [(wl (-2)), (wl 3)])
  let q26 : Bool := (ae_ q24 q25)
  let q27 : (List I) := (bu_ [(wl (-1)), (wl 0), (wl 1)])
  let q28 : (List I) := (bu_ [(wl 2), (wl (-2))])
  let q29 : (List I) := (al_ q27 q28)
  let q30 : (List I) := (aG_ [(wl (-1)), (wl 1)])
  let q31 : Bool := (ae_ q29 q30)
  let q32 : (List I) := (bu_ [(wl 0), (wl 0), (wl 3), (wl 3)])
  let q33 : (List I) := (dy_ q32)
  let q34 : (List I) := (aG_ [(wl 0), (wl 1), (wl 1)])
  let q35 : Bool := (ae_ q33 q34)
  let q36 : (List I) := (bu_ [(wl 0), (wl 0), (wl 1)])
  let q37 : Rt := (cW_ (wl 1))
  let q38 : (List I) := (ar_ q36 q3 q37)
  let q39 : (List I) := (aG_ [(wl 1), (wl 4), (wl 4)])
  let q40 : Bool := (ae_ q38 q39)
  let q41 : (List I) := (bu_ [(wl 1), (wl (-1)), (wl 0), (wl 1), (wl 1)])
  let q42 : W := (c9_ q41)
  let q43 : Rt := (cW_ (wl 0))
  let q44 : (List I) := (bb_ q36 q43 q37).1
  let q45 : Bool := (bb_ q36 q43 q37).2
  let q46 : (List I) := (bb_ q27 q43 q11).1
  let q47 : Bool := (bb_ q27 q43 q11).2
  let q48 : I := (E (Z.of 0))
  let q49 : I := (E (Z.of 1))
  let q50 : (List I) := (aG_ [(wl (-1)), (wl (-1)), (wl 3)])
  let q51 : Bool := (ae_ q46 q50)
  let q52 : I := (E Z.bad)
  let q53 : (List I) := (ap_ [q52])
  let q54 : Bool := (ad_ q53)
  let q55 : (List I) := (bu_ ([] : List W))
  let q56 : W := (d9_ q55)
  ((q5 && q8) && (((decide (q10.n = q11.n) && decide (q10.d = q11.d)) && (decide (q13.n = q14.n) && decide (q13.d = q14.d))) && ((q19 && q22) && ((q26 && (q31 && q35)) && ((q40 && (q42.1 == 2)) && ((q45 && (q47 && (((((q44).length : Nat) : Int) == 3) && (decide ((q44.getD 0 I0) = q48) && (decide ((q44.getD 1 I0) = q48) && (decide ((q44.getD 2 I0) = q49) && q51)))))) && (q54 && (q56.1 == (-1)))))))))
end Go.Num

set_option linter.unusedVariables false
set_option linter.unusedSimpArgs false
namespace Go.Num
open Go Go.Kn
def au_ (a : Rt) (b : Int) : Bool :=
  ((ax_ a) && (decide ((Z.bitsW a.n.dec).1 ≤ b) && decide ((Z.bitsW a.d.dec).1 ≤ b)))
def b2_ (p : (List I)) (q : (List I)) (s : (List I)) (x : Rt) : Bool :=
  bif (!(ag_ p 6 100) || (!(ag_ q 6 100) || (!(ag_ s 6 100) || (!(au_ x 20))))) then (aJ_) else ((aJ_ && (((ae_ (ak_ p q) (ak_ q p)) && (ae_ (ac_ p q) (ac_ q p))) && (((ae_ (ac_ p (ak_ q s)) (ak_ (ac_ p q) (ac_ p s))) && (ae_ (ac_ (ac_ p q) s) (ac_ p (ac_ q s)))) && ((decide (((ah_ (ac_ p q) x).n) = ((aO_ (ah_ p x) (ah_ q x)).n)) && decide (((ah_ (ac_ p q) x).d) = ((aO_ (ah_ p x) (ah_ q x)).d))) && (decide (((ah_ (ak_ p q) x).n) = ((a6_ (ah_ p x) (ah_ q x)).n)) && decide (((ah_ (ak_ p q) x).d) = ((a6_ (ah_ p x) (ah_ q x)).d))))))))
def bV_ (p : (List I)) (a : Rt) (b : Rt) (t : Rt) : Bool :=
  bif (!(ag_ p 6 30) || ((ad_ p) || (!(au_ a 16) || (!(au_ b 16) || (!(au_ t 16)))))) then (aJ_) else ((aJ_ && ((bI_ (ar_ p a b) t).2 && ((bI_ p (a6_ a (aO_ b t))).2 && ((((bI_ (ar_ p a b) t).1).1 == ((bI_ p (a6_ a (aO_ b t))).1).1) && (ae_ (aa_ (ar_ p a b)) (ar_ p a b)))))))
def aW_ (q : (List I)) (s : (List I)) (r : (List I)) : Nat → (List I) → Nat → List I × Nat
  | 0, wn, i => (wn, i)
  | k0 + 1, wn, i => bif decide (((i : Nat) : Int) < ((((((ak_ (ac_ q s) r)).length : Nat) : Int) - (((q).length : Nat) : Int)) + 1)) then ((aW_ q s r k0 (c1_ wn (E (Z.abs (q.getD ((q).length - 1) I0).dec))) (i + 1))) else ((wn, i))
def b0_ (q : (List I)) (s : (List I)) (r : (List I)) : Bool :=
  bif (!(ag_ q 4 20) || (!(ag_ s 4 20) || (!(ag_ r 4 20) || ((ad_ q) || ((ad_ s) || ((ad_ r) || decide ((((q).length : Nat) : Int) ≤ (((r).length : Nat) : Int)))))))) then (aJ_) else (ap (fun (s_ : List I × Nat) => let wn : List I := s_.1
  let i : Nat := s_.2
  (aJ_ && ((ae_ (aP_ (ak_ (ac_ q s) r) q) wn) && (ae_ (aP_ r q) r)))) (aW_ q s r (((ak_ (ac_ q s) r).length + 2)) r 0))
end Go.Num

