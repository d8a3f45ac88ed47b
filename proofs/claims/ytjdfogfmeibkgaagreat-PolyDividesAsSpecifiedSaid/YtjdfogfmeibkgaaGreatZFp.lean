/- What these functions compute, as plain functions. No program stands in it. -/
import Derived.Test.YtjdfogfmeibkgaaGreatZGE
set_option linter.unusedVariables false
set_option linter.unusedSimpArgs false
namespace Go.Num
open Go Go.Kn
def bM_ (a : I) : I :=
  a
def dM_ (a : I) : Bool :=
  (!a.1.bad && a.1.valid)
def F_poly_bad  : (List I) :=
  let q0 : I := (E Z.bad)
  [q0]
def b4_ (n : Int) (f : Nat → I) (o : I → I) : Nat → (List I) → Nat → (List I × Nat) ⊕ ((List I))
  | 0, out, i => .inl (out, i)
  | k0 + 1, out, i => bif decide (((i : Nat) : Int) < (((n).toNat : Nat) : Int)) then (bif (dM_ (o (f i))) then ((b4_ n f o k0 (out ++ [(o (f i))]) (i + 1))) else (.inr (F_poly_bad))) else (.inl (out, i))
def b5_ (n : Int) (f : Nat → I) (o : I → I) (out : List I) (i : Nat) : Nat → (List I) → List I
  | 0, cut => cut
  | k1 + 1, cut => bif (decide (0 < (((cut).length : Nat) : Int)) && ((Z.signW (cut.getD ((cut).length - 1) I0).dec).1 == 0)) then ((b5_ n f o out i k1 (cut.take ((cut).length - 1)))) else (cut)
def bD_ (n : Int) (f : Nat → I) (o : I → I) : (List I) :=
  sm (fun (s_ : List I × Nat) => let out : List I := s_.1
  let i : Nat := s_.2
  ap (fun (s : List I) => let cut : List I := s
  bif decide (25 < (((cut).length : Nat) : Int)) then (F_poly_bad) else (cut)) (b5_ n f o out i ((out.length + 1)) out)) (fun r => r) (b4_ n f o ((n.toNat + 1)) ([] : List I) 0)
def cp_ (n : Int) (f : Nat → Go.Num.W) (o : Go.Num.W → I) : Nat → (List I) → Nat → (List I × Nat) ⊕ ((List I))
  | 0, out, i => .inl (out, i)
  | k0 + 1, out, i => bif decide (((i : Nat) : Int) < (((n).toNat : Nat) : Int)) then (bif (dM_ (o (f i))) then ((cp_ n f o k0 (out ++ [(o (f i))]) (i + 1))) else (.inr (F_poly_bad))) else (.inl (out, i))
def ck_ (n : Int) (f : Nat → Go.Num.W) (o : Go.Num.W → I) (out : List I) (i : Nat) : Nat → (List I) → List I
  | 0, cut => cut
  | k1 + 1, cut => bif (decide (0 < (((cut).length : Nat) : Int)) && ((Z.signW (cut.getD ((cut).length - 1) I0).dec).1 == 0)) then ((ck_ n f o out i k1 (cut.take ((cut).length - 1)))) else (cut)
def cW_ (n : Int) (f : Nat → Go.Num.W) (o : Go.Num.W → I) : (List I) :=
  sm (fun (s_ : List I × Nat) => let out : List I := s_.1
  let i : Nat := s_.2
  ap (fun (s : List I) => let cut : List I := s
  bif decide (25 < (((cut).length : Nat) : Int)) then (F_poly_bad) else (cut)) (ck_ n f o out i ((out.length + 1)) out)) (fun r => r) (cp_ n f o ((n.toNat + 1)) ([] : List I) 0)
def cr_ (l : (List I)) (f : I → Bool) : Nat → Nat → (Nat) ⊕ (W)
  | 0, i => .inl i
  | k0 + 1, i => bif decide (((i : Nat) : Int) < (((l).length : Nat) : Int)) then (bif (f (l.getD i I0)) then (.inr ((W.cv ((i : Nat) : Int)))) else ((cr_ l f k0 (i + 1)))) else (.inl i)
def et_ (l : (List I)) (f : I → Bool) : W :=
  sm (fun (s : Nat) => let i : Nat := s
  (wl (-1))) (fun r => r) (cr_ l f ((l.length + 1)) 0)
def dZ_ (l : (List I)) (f : I → Bool) : Bool :=
  (decide (0 ≤ (et_ l f).1))
def eA_ (a : I) : Bool :=
  (!(dM_ a))
def ai_ (p : (List I)) : Bool :=
  (dZ_ p (fun (y : I) => (eA_ y)))
def c9_ (l : (List Rt)) (f : Rt → Bool) : Nat → Nat → (Nat) ⊕ (W)
  | 0, i => .inl i
  | k0 + 1, i => bif decide (((i : Nat) : Int) < (((l).length : Nat) : Int)) then (bif (f (l.getD i Rt0)) then (.inr ((W.cv ((i : Nat) : Int)))) else ((c9_ l f k0 (i + 1)))) else (.inl i)
def eO_ (l : (List Rt)) (f : Rt → Bool) : W :=
  sm (fun (s : Nat) => let i : Nat := s
  (wl (-1))) (fun r => r) (c9_ l f ((l.length + 1)) 0)
def fg_ (l : (List Rt)) (f : Rt → Bool) : Bool :=
  (decide (0 ≤ (eO_ l f).1))
def eS_ (a : Rt) : Bool :=
  (!(cO_ a))
def cJ_ (l : (List Rt)) : Bool :=
  (!(fg_ l (fun (y : Rt) => (eS_ y))))
def dr_ (k : Nat) (l : (List I)) : I :=
  (l.getD k I0)
def aq_ (l : (List I)) : (List I) :=
  (bD_ (((l).length : Nat) : Int) (fun (y : Nat) => (dr_ y l)) (fun (y : I) => (bM_ y)))
def ff_ (k : Nat) (l : (List W)) : W :=
  (l.getD k W.z)
def bA_ (l : (List W)) : (List I) :=
  (cW_ (((l).length : Nat) : Int) (fun (y : Nat) => (ff_ y l)) (fun (y : Go.Num.W) => (E (Z.of y.1))))
def eh_ (p : (List I)) : W :=
  bif (ai_ p) then ((wl (-2))) else ((W.cv ((((p).length : Nat) : Int) - 1)))
def aR_ (p : (List I)) (k : Int) : I :=
  bif (decide (k < 0) || decide ((((p).length : Nat) : Int) ≤ k)) then (I0) else ((p.getD ((k).toNat) I0))
def dN_ (k : Nat) (f : I → I → I) (p : (List I)) (q : (List I)) : I :=
  (f (aR_ p ((k : Nat) : Int)) (aR_ q ((k : Nat) : Int)))
def bO_ (p : (List I)) (q : (List I)) (f : I → I → I) : (List I) :=
  bif ((ai_ p) || (ai_ q)) then (F_poly_bad) else ((bD_ (((max ((p).length) ((q).length)) : Nat) : Int) (fun (y : Nat) => (dN_ y f p q)) (fun (y : I) => (bM_ y))))
def e0_ (p : (List I)) (q : (List I)) : (List I) :=
  (bO_ p q (fun (y : I) (z : I) => (E (Z.add y.dec z.dec))))
def da_ (k : Nat) (q : (List I)) (p : (List I)) : Nat → Nat → I → Nat × I
  | 0, i, mb2 => (i, mb2)
  | k0 + 1, i, mb2 => bif decide (((i : Nat) : Int) ≤ (min ((k : Nat) : Int) ((((p).length : Nat) : Int) - 1))) then ((da_ k q p k0 (i + 1) (E (Z.add mb2.dec (Z.mul (p.getD i I0).dec (q.getD (k - i) I0).dec))))) else ((i, mb2))
def dH_ (k : Nat) (q : (List I)) (p : (List I)) : I :=
  ap (fun (s : Nat × I) => let i : Nat := s.1
  let mb2 : I := s.2
  mb2) (da_ k q p ((k + 2)) ((((((k : Nat) : Int) - (((q).length : Nat) : Int)) + 1)).toNat) I0)
def cH_ (p : (List I)) (q : (List I)) : (List I) :=
  bif ((ai_ p) || (ai_ q)) then (F_poly_bad) else (bif (((((p).length : Nat) : Int) == 0) || ((((q).length : Nat) : Int) == 0)) then (([] : List I)) else ((bD_ (((((p).length + (q).length) : Nat) : Int) - 1) (fun (y : Nat) => (dH_ y q p)) (fun (y : I) => (bM_ y)))))
def iN_ (a : I) (b : I) (n : I) : I :=
  (E (Z.mul a.dec n.dec))
def gD_ (p : (List I)) (n : I) : (List I) :=
  bif (dM_ n) then ((bO_ p ([] : List I) (fun (y : I) (z : I) => (iN_ y z n)))) else (F_poly_bad)
def dj_ (k : Nat) (p : (List I)) : I :=
  (E (Z.mul (Z.of (((k + 1) : Nat) : Int)) (p.getD (k + 1) I0).dec))
def af_ (p : (List I)) : (List I) :=
  bif (ai_ p) then (F_poly_bad) else ((bD_ ((((p).length : Nat) : Int) - 1) (fun (y : Nat) => (dj_ y p)) (fun (y : I) => (bM_ y))))
def cv_ (p : (List I)) : List I → W → W → W × W
  | [], n, last => (n, last)
  | x0 :: l0, n, last => let r11 : W := (bif ((Z.signW x0.dec).1 != 0) then (bif ((Z.signW x0.dec).1 == (W.neg last).1) then (W.add n (wl 1)) else n) else n)
  let r12 : W := (bif ((Z.signW x0.dec).1 != 0) then (Z.signW x0.dec) else last)
  (cv_ p l0 r11 r12)
def dk_ (p : (List I)) : W :=
  bif (ai_ p) then ((wl 0)) else (ap (fun (s : W × W) => let n : W := s.1
  let last : W := s.2
  n) (cv_ p p (wl 0) (wl 0)))
def b0_ (l : (List I)) : List I → I → I
  | [], mb2 => mb2
  | x0 :: l0, mb2 => (b0_ l l0 (E (Z.gcd mb2.dec x0.dec)))
def aD_ (l : (List I)) : I :=
  ap (fun (s : I) => let mb2 : I := s
  mb2) (b0_ l l I0)
def cR_ (a : I) (b : I) (n : I) : I :=
  (E (Z.quo a.dec n.dec))
def ab_ (p : (List I)) : (List I) :=
  (bO_ p ([] : List I) (fun (y : I) (z : I) => (cR_ y z (aD_ p))))
def cm_ (d : I) (n : Int) : Nat → (List I) → List I
  | 0, out => out
  | k0 + 1, out => bif decide ((((out).length : Nat) : Int) < n) then ((cm_ d n k0 (out ++ [(E (Z.mul (out.getD ((out).length - 1) I0).dec d.dec))]))) else (out)
def aM_ (d : I) (n : Int) : (List I) :=
  ap (fun (s : List I) => let out : List I := s
  out) (cm_ d n ((n.toNat + 1)) [(E (Z.of 1))])
def c8_ (p : (List I)) (x : Rt) : Nat → Int → I → Int × I
  | 0, i, mb3 => (i, mb3)
  | k0 + 1, i, mb3 => bif decide (0 ≤ i) then (let r25 : I := (E (Z.mul (p.getD ((i).toNat) I0).dec ((aM_ x.d (((p).length : Nat) : Int)).getD (((p).length - 1) - (i).toNat) I0).dec))
  (c8_ p x k0 (i - 1) (E (Z.add (Z.mul mb3.dec x.n.dec) r25.dec)))) else ((i, mb3))
def cA_ (p : (List I)) (x : Rt) : I × I :=
  bif ((ai_ p) || (!(cJ_ [x]))) then (((E Z.bad), (E (Z.of 1)))) else (ap (fun (s : Int × I) => let i : Int := s.1
  let mb3 : I := s.2
  (mb3, ((aM_ x.d (((p).length : Nat) : Int)).getD ((((((p).length : Nat) : Int) - 1)).toNat) I0))) (c8_ p x ((p.length + 1)) ((((p).length : Nat) : Int) - 1) I0))
def eq_ (p : (List I)) (x : Rt) : Rt :=
  let r3 : Rt := (ca_ ((cA_ p x).1) ((cA_ p x).2))
  r3
def bj_ (p : (List I)) (q : (List I)) (i : Int) (r : List I) (r53 : I) : Nat → Nat → (List I) → (Nat × List I) ⊕ ((List I))
  | 0, k, t => .inl (k, t)
  | k1 + 1, k, t => bif decide (((k : Nat) : Int) < (((r).length : Nat) : Int)) then (let r66 : I := (E (Z.sub (Z.mul (Z.abs (q.getD ((q).length - 1) I0).dec) (t.getD k I0).dec) (Z.mul r53.dec (aR_ q (((k : Nat) : Int) - i)).dec)))
  bif ((t.set k r66).getD k I0).1.bad then (.inr (F_poly_bad)) else ((bj_ p q i r r53 k1 (k + 1) (t.set k r66)))) else (.inl (k, t))
def bf_ (p : (List I)) (q : (List I)) : Nat → Int → (List I) → (Int × List I) ⊕ ((List I))
  | 0, i, r => .inl (i, r)
  | k0 + 1, i, r => bif decide (0 ≤ i) then (let r53 : I := (E (Z.mul (Z.of (Z.signW (q.getD ((q).length - 1) I0).dec).1) (r.getD ((i).toNat + ((q).length - 1)) I0).dec))
  sm (fun (s : Nat × List I) => let k : Nat := s.1
  let t : List I := s.2
  (bf_ p q k0 (i - 1) t)) (fun r => .inr r) (bj_ p q i r r53 ((r.length + 1)) 0 r)) else (.inl (i, r))
def a8_ (p : (List I)) (q : (List I)) : (List I) :=
  bif ((ai_ p) || ((ai_ q) || ((((q).length : Nat) : Int) == 0))) then (F_poly_bad) else (sm (fun (s : Int × List I) => let i : Int := s.1
  let r : List I := s.2
  (aq_ r)) (fun r => r) (bf_ p q ((p.length + 1)) (((((p).length : Nat) : Int) - 1) - ((((q).length : Nat) : Int) - 1)) ([] ++ p)))
def cT_ (n : Int) (i : Int) : Nat → Int → I → Int × I
  | 0, j, mb1 => (j, mb1)
  | k0 + 1, j, mb1 => bif decide (j ≤ n) then ((cT_ n i k0 (j + 1) (E (Z.mul mb1.dec (Z.of j))))) else ((j, mb1))
def bY_ (n : Int) (i : Int) (j : Int) (mb1 : I) : Nat → (List I) → Nat → I → List I × Nat × I
  | 0, out, k, mb1_1 => (out, k, mb1_1)
  | k1 + 1, out, k, mb1_1 => bif decide (((k : Nat) : Int) < (i + 1)) then (bif decide (((k : Nat) : Int) < n) then (let r22 : I := (E (Z.quo (Z.mul mb1_1.dec (Z.of (i - ((k : Nat) : Int)))) (Z.of (n - ((k : Nat) : Int)))))
  (bY_ n i j mb1 k1 (out ++ [mb1_1]) (k + 1) r22)) else ((bY_ n i j mb1 k1 (out ++ [mb1_1]) (k + 1) mb1_1))) else ((out, k, mb1_1))
def a3_ (n : Int) (i : Int) : (List I) :=
  ap (fun (s_ : Int × I) => let j : Int := s_.1
  let mb1 : I := s_.2
  ap (fun (s : List I × Nat × I) => let out : List I := s.1
  let k : Nat := s.2.1
  let mb1_1 : I := s.2.2
  out) (bY_ n i j mb1 (((i + 1).toNat + 1)) ([] : List I) 0 mb1)) (cT_ n i ((n.toNat + 1)) 2 (E (Z.of 1)))
def bZ_ (a : I) : Bool :=
  (!a.1.bad && a.1.valid)
def F_skewbackref08_bad  : (List I) :=
  let q0 : I := (E Z.bad)
  [q0]
def bv_ (l : (List I)) : Nat → Int → Nat → (Int × Nat) ⊕ ((List I))
  | 0, last, i => .inl (last, i)
  | k0 + 1, last, i => bif decide (((i : Nat) : Int) < (((l).length : Nat) : Int)) then (bif (bZ_ (l.getD i I0)) then (bif ((Z.signW (l.getD i I0).dec).1 != 0) then ((bv_ l k0 ((i : Nat) : Int) (i + 1))) else ((bv_ l k0 last (i + 1)))) else (.inr (F_skewbackref08_bad))) else (.inl (last, i))
def bH_ (l : (List I)) (last : Int) (i : Nat) : Nat → (List I) → Nat → List I × Nat
  | 0, out, j => (out, j)
  | k1 + 1, out, j => bif decide (((j : Nat) : Int) ≤ last) then ((bH_ l last i k1 (out ++ [(l.getD j I0)]) (j + 1))) else ((out, j))
def ah_ (l : (List I)) : (List I) :=
  sm (fun (s_ : Int × Nat) => let last : Int := s_.1
  let i : Nat := s_.2
  bif decide (24 < last) then (F_skewbackref08_bad) else (ap (fun (s : List I × Nat) => let out : List I := s.1
  let j : Nat := s.2
  out) (bH_ l last i (((last + 1).toNat + 1)) ([] : List I) 0))) (fun r => r) (bv_ l ((l.length + 1)) (-1) 0)
def cs_ (l : (List W)) : Nat → (List I) → Nat → List I × Nat
  | 0, out, i => (out, i)
  | k0 + 1, out, i => bif decide (((i : Nat) : Int) < (((l).length : Nat) : Int)) then ((cs_ l k0 (out ++ [(E (Z.of (l.getD i W.z).1))]) (i + 1))) else ((out, i))
def aI_ (l : (List W)) : (List I) :=
  ap (fun (s : List I × Nat) => let out : List I := s.1
  let i : Nat := s.2
  (ah_ out)) (cs_ l ((l.length + 1)) ([] : List I) 0)
def bn_ (p : (List I)) : Nat → Nat → (Nat) ⊕ (Bool)
  | 0, i => .inl i
  | k0 + 1, i => bif decide (((i : Nat) : Int) < (((p).length : Nat) : Int)) then (bif (bZ_ (p.getD i I0)) then ((bn_ p k0 (i + 1))) else (.inr (true))) else (.inl i)
def ad_ (p : (List I)) : Bool :=
  sm (fun (s : Nat) => let i : Nat := s
  false) (fun r => r) (bn_ p ((p.length + 1)) 0)
def aQ_ (p : (List I)) (k : Int) : I :=
  bif (decide (k < 0) || decide ((((p).length : Nat) : Int) ≤ k)) then (I0) else ((p.getD ((k).toNat) I0))
def bp_ (p : (List I)) (n : I) : Nat → (List I) → Nat → List I × Nat
  | 0, out, i => (out, i)
  | k0 + 1, out, i => bif decide (((i : Nat) : Int) < (((p).length : Nat) : Int)) then ((bp_ p n k0 (out ++ [(E (Z.mul (p.getD i I0).dec n.dec))]) (i + 1))) else ((out, i))
def a5_ (p : (List I)) (n : I) : (List I) :=
  bif ((ad_ p) || (!(bZ_ n))) then (F_skewbackref08_bad) else (ap (fun (s : List I × Nat) => let out : List I := s.1
  let i : Nat := s.2
  (ah_ out)) (bp_ p n ((p.length + 1)) ([] : List I) 0))
def bh_ (p : (List I)) : Nat → (List I) → Nat → List I × Nat
  | 0, out, i => (out, i)
  | k0 + 1, out, i => bif decide (((i : Nat) : Int) < (((p).length : Nat) : Int)) then ((bh_ p k0 (out ++ [(E (Z.mul (Z.of ((i : Nat) : Int)) (p.getD i I0).dec))]) (i + 1))) else ((out, i))
def ac_ (p : (List I)) : (List I) :=
  bif (ad_ p) then (F_skewbackref08_bad) else (ap (fun (s : List I × Nat) => let out : List I := s.1
  let i : Nat := s.2
  (ah_ out)) (bh_ p ((p.length + 1)) ([] : List I) 1))
def bu_ (l : (List I)) : Nat → Nat → I → Nat × I
  | 0, i, mb2 => (i, mb2)
  | k0 + 1, i, mb2 => bif decide (((i : Nat) : Int) < (((l).length : Nat) : Int)) then ((bu_ l k0 (i + 1) (E (Z.gcd mb2.dec (l.getD i I0).dec)))) else ((i, mb2))
def ay_ (l : (List I)) : I :=
  ap (fun (s : Nat × I) => let i : Nat := s.1
  let mb2 : I := s.2
  mb2) (bu_ l ((l.length + 1)) 0 I0)
def a6_ (p : (List I)) : Nat → (List I) → Nat → List I × Nat
  | 0, out, i => (out, i)
  | k0 + 1, out, i => bif decide (((i : Nat) : Int) < (((p).length : Nat) : Int)) then ((a6_ p k0 (out ++ [(E (Z.quo (p.getD i I0).dec (ay_ p).dec))]) (i + 1))) else ((out, i))
def aa_ (p : (List I)) : (List I) :=
  bif (ad_ p) then (F_skewbackref08_bad) else (ap (fun (s : List I × Nat) => let out : List I := s.1
  let i : Nat := s.2
  (ah_ out)) (a6_ p ((p.length + 1)) ([] : List I) 0))
def bI_ (a : (List I)) (b : (List I)) : Nat → Nat → (Nat) ⊕ (Bool)
  | 0, i => .inl i
  | k0 + 1, i => bif decide (((i : Nat) : Int) < (((a).length : Nat) : Int)) then (bif decide ((a.getD i I0) = (b.getD i I0)) then ((bI_ a b k0 (i + 1))) else (.inr (false))) else (.inl i)
def al_ (a : (List I)) (b : (List I)) : Bool :=
  bif ((((a).length : Nat) : Int) != (((b).length : Nat) : Int)) then (false) else (sm (fun (s : Nat) => let i : Nat := s
  true) (fun r => r) (bI_ a b ((a.length + 1)) 0))
def a7_ (p : (List I)) : Bool :=
  bif (((((p).length : Nat) : Int) == 1) && decide ((p.getD 0 I0) = (E Z.bad))) then (true) else (bif ((ad_ p) || decide (25 < (((p).length : Nat) : Int))) then (false) else ((((((p).length : Nat) : Int) == 0) || ((Z.signW (p.getD ((p).length - 1) I0).dec).1 != 0))))
def ci_ (p : (List I)) (d : Int) (b : Int) : Nat → Nat → (Nat) ⊕ (Bool)
  | 0, i => .inl i
  | k0 + 1, i => bif decide (((i : Nat) : Int) < (((p).length : Nat) : Int)) then (bif decide (b < (Z.bitsW (p.getD i I0).dec).1) then (.inr (false)) else ((ci_ p d b k0 (i + 1)))) else (.inl i)
def aK_ (p : (List I)) (d : Int) (b : Int) : Bool :=
  bif (!(a7_ p) || decide ((d + 1) < (((p).length : Nat) : Int))) then (false) else (sm (fun (s : Nat) => let i : Nat := s
  true) (fun r => r) (ci_ p d b ((p.length + 1)) 0))
def bN_ (p : (List I)) (q : (List I)) (r : List I) (i : Int) (r57 : I) : Nat → Nat → (List I) → (Nat × List I) ⊕ ((List I))
  | 0, k, t => .inl (k, t)
  | k1 + 1, k, t => bif decide (((k : Nat) : Int) < (((r).length : Nat) : Int)) then (let r75 : I := (E (Z.sub (Z.mul (Z.abs (q.getD ((q).length - 1) I0).dec) (r.getD k I0).dec) (Z.mul r57.dec (aQ_ q (((k : Nat) : Int) - i)).dec)))
  bif ((t.set k r75).getD k I0).1.bad then (.inr (F_skewbackref08_bad)) else ((bN_ p q r i r57 k1 (k + 1) (t.set k r75)))) else (.inl (k, t))
def bP_ (p : (List I)) (q : (List I)) : Nat → (List I) → Int → (List I × Int) ⊕ ((List I))
  | 0, r, i => .inl (r, i)
  | k0 + 1, r, i => bif decide (0 ≤ i) then (let r57 : I := (E (Z.mul (Z.of (Z.signW (q.getD ((q).length - 1) I0).dec).1) (r.getD ((i).toNat + ((q).length - 1)) I0).dec))
  sm (fun (s : Nat × List I) => let k : Nat := s.1
  let t : List I := s.2
  (bP_ p q k0 t (i - 1))) (fun r => .inr r) (bN_ p q r i r57 ((r.length + 1)) 0 ([] ++ r))) else (.inl (r, i))
def ax_ (p : (List I)) (q : (List I)) : (List I) :=
  bif ((ad_ p) || ((ad_ q) || ((((q).length : Nat) : Int) == 0))) then (F_skewbackref08_bad) else (sm (fun (s : List I × Int) => let r : List I := s.1
  let i : Int := s.2
  (ah_ r)) (fun r => r) (bP_ p q ((p.length + 1)) ([] ++ p) (((((p).length : Nat) : Int) - 1) - ((((q).length : Nat) : Int) - 1))))
end Go.Num

set_option linter.unusedVariables false
set_option linter.unusedSimpArgs false
namespace Go.Num
open Go Go.Kn
def bb_ (p : (List I)) (q : (List I)) : Nat → (List I) → (List I) → (List I × List I) ⊕ ((List I))
  | 0, a, b => .inl (a, b)
  | k0 + 1, a, b => bif decide (0 < (((b).length : Nat) : Int)) then (bif ((ai_ a) || (ai_ b)) then (.inr (F_poly_bad)) else ((bb_ p q k0 b (ab_ (a8_ a b))))) else (.inl (a, b))
def ak_ (p : (List I)) (q : (List I)) : (List I) :=
  sm (fun (s : List I × List I) => let a : List I := s.1
  let b : List I := s.2
  bif (((((a).length : Nat) : Int) == 0) || decide (0 < (Z.signW (a.getD ((a).length - 1) I0).dec).1)) then (a) else ((bO_ ([] : List I) a (fun (y : I) (z : I) => (E (Z.sub y.dec z.dec)))))) (fun r => r) (bb_ p q ((gmP (ab_ q) + 1)) (ab_ p) (ab_ q))
def aP_ (p : (List I)) (q : (List I)) : Nat → (List I) → (List I) → (List I × List I) ⊕ ((List I))
  | 0, a, b => .inl (a, b)
  | k0 + 1, a, b => bif decide (0 < (((b).length : Nat) : Int)) then (bif ((ad_ a) || (ad_ b)) then (.inr (F_skewbackref08_bad)) else ((aP_ p q k0 b (aa_ (ax_ a b))))) else (.inl (a, b))
def ae_ (p : (List I)) (q : (List I)) : (List I) :=
  sm (fun (s : List I × List I) => let a : List I := s.1
  let b : List I := s.2
  bif (((((a).length : Nat) : Int) == 0) || ((ad_ a) || decide (0 < (Z.signW (a.getD ((a).length - 1) I0).dec).1))) then (a) else ((a5_ a (E (Z.of (-1)))))) (fun r => r) (aP_ p q ((gmP (aa_ q) + 1)) (aa_ p) (aa_ q))
def bV_ (p : (List I)) (a : Rt) (b : Rt) : Nat → (List I) → Int → List I × Int
  | 0, r, i => (r, i)
  | k0 + 1, r, i => bif decide (0 ≤ i) then (let r32 : I := (E (Z.mul (p.getD ((i).toNat) I0).dec ((aM_ (E (Z.mul a.d.dec b.d.dec)) (((p).length : Nat) : Int)).getD (((p).length - 1) - (i).toNat) I0).dec))
  (bV_ p a b k0 (e0_ (cH_ r (aq_ [(E (Z.mul a.n.dec b.d.dec)), (E (Z.mul b.n.dec a.d.dec))])) (aq_ [r32])) (i - 1))) else ((r, i))
def bW_ (p : (List I)) (a : Rt) (b : Rt) : (List I) :=
  bif ((ai_ p) || (!(cJ_ [a, b]))) then (F_poly_bad) else (ap (fun (s : List I × Int) => let r : List I := s.1
  let i : Int := s.2
  r) (bV_ p a b ((p.length + 1)) ([] : List I) ((((p).length : Nat) : Int) - 1)))
def bE_ (p : (List I)) (a : Rt) (b : Rt) : (List I) :=
  (ab_ (bW_ p a b))
def cD_ (p : (List I)) (a : Rt) (b : Rt) (out : List I) (i : Nat) : Nat → Nat → I → Nat × I
  | 0, j, mb40 => (j, mb40)
  | k1 + 1, j, mb40 => bif decide (((j : Nat) : Int) < ((((a3_ ((((p).length : Nat) : Int) - 1) ((i : Nat) : Int))).length : Nat) : Int)) then (let r52 : I := (E (Z.mul ((a3_ ((((p).length : Nat) : Int) - 1) ((i : Nat) : Int)).getD j I0).dec (aR_ (bE_ p a (cn_ b a)) ((j : Nat) : Int)).dec))
  (cD_ p a b out i k1 (j + 1) (E (Z.add mb40.dec r52.dec)))) else ((j, mb40))
def cG_ (p : (List I)) (a : Rt) (b : Rt) : Nat → (List I) → Nat → (List I × Nat) ⊕ ((List I) × Bool)
  | 0, out, i => .inl (out, i)
  | k0 + 1, out, i => bif decide (((i : Nat) : Int) < (((p).length : Nat) : Int)) then (ap (fun (s : Nat × I) => let j : Nat := s.1
  let mb40 : I := s.2
  bif mb40.1.bad then (.inr ((([] : List I), false))) else ((cG_ p a b k0 (out ++ [mb40]) (i + 1)))) (cD_ p a b out i ((((a3_ ((((p).length : Nat) : Int) - 1) ((i : Nat) : Int))).length + 1)) 0 I0)) else (.inl (out, i))
def cF_ (p : (List I)) (a : Rt) (b : Rt) (out : List I) (i : Nat) : Nat → Nat → (List I) → Nat × List I
  | 0, k, t => (k, t)
  | k2 + 1, k, t => bif decide (((k : Nat) : Int) < (((out).length : Nat) : Int)) then ((cF_ p a b out i k2 (k + 1) (t.set k (E (Z.quo (t.getD k I0).dec (aD_ out).dec))))) else ((k, t))
def bk_ (p : (List I)) (a : Rt) (b : Rt) : (List I) × Bool :=
  bif ((ai_ p) || (!(cJ_ [a, b]))) then ((([] : List I), false)) else (bif (ai_ (bE_ p a (cn_ b a))) then ((([] : List I), false)) else (sm (fun (s_ : List I × Nat) => let out : List I := s_.1
  let i : Nat := s_.2
  bif ((Z.signW (aD_ out).dec).1 != 0) then (ap (fun (s : Nat × List I) => let k : Nat := s.1
  let t : List I := s.2
  (t, true)) (cF_ p a b out i ((out.length + 1)) 0 out)) else ((out, true))) (fun r => r) (cG_ p a b ((p.length + 1)) ([] : List I) 0)))
end Go.Num

set_option linter.unusedVariables false
set_option linter.unusedSimpArgs false
namespace Go.Num
open Go Go.Kn
def bX_ (p : (List I)) (i : Int) (r : List I) (f : List I) (r66 : I) : Nat → Nat → (List I) → (Nat × List I) ⊕ ((List I))
  | 0, k, t => .inl (k, t)
  | k1 + 1, k, t => bif decide (((k : Nat) : Int) < ((((ak_ p (af_ p))).length : Nat) : Int)) then (let r82 : I := (E (Z.mul ((f.set ((i).toNat) r66).getD ((i).toNat) I0).dec ((ak_ p (af_ p)).getD k I0).dec))
  bif ((t.set ((i).toNat + k) (E (Z.sub (t.getD ((i).toNat + k) I0).dec r82.dec))).getD ((i).toNat + k) I0).1.bad then (.inr (F_poly_bad)) else ((bX_ p i r f r66 k1 (k + 1) (t.set ((i).toNat + k) (E (Z.sub (t.getD ((i).toNat + k) I0).dec r82.dec)))))) else (.inl (k, t))
def ct_ (p : (List I)) : Nat → Int → (List I) → (List I) → (Int × List I × List I) ⊕ ((List I))
  | 0, i, r, f => .inl (i, r, f)
  | k0 + 1, i, r, f => bif decide (0 ≤ i) then (let r66 : I := (E (Z.quo (r.getD ((i).toNat + (((ak_ p (af_ p))).length - 1)) I0).dec ((ak_ p (af_ p)).getD (((ak_ p (af_ p))).length - 1) I0).dec))
  sm (fun (s : Nat × List I) => let k : Nat := s.1
  let t : List I := s.2
  (ct_ p k0 (i - 1) t (f.set ((i).toNat) r66))) (fun r => .inr r) (bX_ p i r f r66 ((((ak_ p (af_ p))).length + 1)) 0 r)) else (.inl (i, r, f))
def cl_ (p : (List I)) : (List I) :=
  bif ((ai_ (ak_ p (af_ p))) || (ai_ (ab_ p))) then (F_poly_bad) else (bif (((((ab_ p)).length : Nat) : Int) == 0) then (([] : List I)) else (sm (fun (s : Int × List I × List I) => let i : Int := s.1
  let r : List I := s.2.1
  let f : List I := s.2.2
  bif ((((((aq_ f)).length : Nat) : Int) == 0) || decide (0 < (Z.signW ((aq_ f).getD (((aq_ f)).length - 1) I0).dec).1)) then ((aq_ f)) else ((bO_ ([] : List I) (aq_ f) (fun (y : I) (z : I) => (E (Z.sub y.dec z.dec)))))) (fun r => r) (ct_ p (((ab_ p).length + 2)) (((((List.replicate (((ab_ p)).length - (((ak_ p (af_ p))).length - 1)) I0)).length : Nat) : Int) - 1) (ab_ p) (List.replicate (((ab_ p)).length - (((ak_ p (af_ p))).length - 1)) I0))))
def a4_ (p : (List I)) (r : List I) (i : Int) (f : List I) (r72 : I) (r73 : I) : Nat → Nat → (List I) → (Nat × List I) ⊕ ((List I))
  | 0, k, t => .inl (k, t)
  | k1 + 1, k, t => bif decide (((k : Nat) : Int) < (((r).length : Nat) : Int)) then (let r93 : I := (aQ_ (ae_ p (ac_ p)) (((k : Nat) : Int) - i))
  let r94 : I := (E (Z.sub (r.getD k I0).dec (Z.mul ((f.set ((i).toNat) r73).getD ((i).toNat) I0).dec r93.dec)))
  bif ((t.set k r94).getD k I0).1.bad then (.inr (F_skewbackref08_bad)) else ((a4_ p r i f r72 r73 k1 (k + 1) (t.set k r94)))) else (.inl (k, t))
def bJ_ (p : (List I)) : Nat → (List I) → Int → (List I) → (List I × Int × List I) ⊕ ((List I))
  | 0, r, i, f => .inl (r, i, f)
  | k0 + 1, r, i, f => bif decide (0 ≤ i) then (let r72 : I := (aQ_ r (i + (((((ae_ p (ac_ p))).length : Nat) : Int) - 1)))
  let r73 : I := (E (Z.quo r72.dec ((ae_ p (ac_ p)).getD (((ae_ p (ac_ p))).length - 1) I0).dec))
  sm (fun (s : Nat × List I) => let k : Nat := s.1
  let t : List I := s.2
  (bJ_ p k0 t (i - 1) (f.set ((i).toNat) r73))) (fun r => .inr r) (a4_ p r i f r72 r73 ((r.length + 1)) 0 ([] ++ r))) else (.inl (r, i, f))
def bd_ (p : (List I)) : (List I) :=
  bif ((ad_ (ae_ p (ac_ p))) || (ad_ (aa_ p))) then (F_skewbackref08_bad) else (bif (((((aa_ p)).length : Nat) : Int) == 0) then (([] : List I)) else (sm (fun (s : List I × Int × List I) => let r : List I := s.1
  let i : Int := s.2.1
  let f : List I := s.2.2
  bif ((((((ah_ f)).length : Nat) : Int) == 0) || ((ad_ (ah_ f)) || decide (0 < (Z.signW ((ah_ f).getD (((ah_ f)).length - 1) I0).dec).1))) then ((ah_ f)) else ((a5_ (ah_ f) (E (Z.of (-1)))))) (fun r => r) (bJ_ p (((aa_ p).length + 2)) (aa_ p) ((((((aa_ p)).length : Nat) : Int) - 1) - (((((ae_ p (ac_ p))).length : Nat) : Int) - 1)) (List.replicate (((aa_ p)).length - (((ae_ p (ac_ p))).length - 1)) I0))))
end Go.Num

set_option linter.unusedVariables false
set_option linter.unusedSimpArgs false
namespace Go.Num
open Go Go.Kn
def fq_ (a : W) (b : W) : Rt :=
  let r2 : Rt := (ca_ (E (Z.of a.1)) (E (Z.of b.1)))
  r2
end Go.Num

set_option linter.unusedVariables false
set_option linter.unusedSimpArgs false
namespace Go.Num
open Go Go.Kn
def cf_  : Bool :=
  let q0 : (List I) := (bA_ [(wl 1), (wl 1)])
  let q1 : (List I) := (bA_ [(wl (-1)), (wl 1)])
  let q2 : (List I) := (cH_ q0 q1)
  let q3 : Rt := (fq_ (wl 1) (wl 2))
  let q4 : (List I) := (aI_ [(wl (-1)), (wl 0), (wl 1)])
  let q5 : Bool := (al_ q2 q4)
  let q6 : (List I) := (af_ q2)
  let q7 : (List I) := (aI_ [(wl 0), (wl 2)])
  let q8 : Bool := (al_ q6 q7)
  let q9 : (List I) := (bA_ [(wl 1), (wl 0), (wl 4)])
  let q10 : Rt := (eq_ q9 q3)
  let q11 : Rt := (c6_ (wl 2))
  let q12 : Rt := (c6_ (wl (-3)))
  let q13 : Rt := (eq_ q9 q12)
  let q14 : Rt := (c6_ (wl 37))
  let q15 : (List I) := (aI_ [(wl 5)])
  let q16 : (List I) := (bA_ [(wl 1), (wl 0), (wl 1)])
  let q17 : (List I) := (bA_ [(wl 1), (wl 2)])
  let q18 : (List I) := (a8_ q16 q17)
  let q19 : Bool := (al_ q18 q15)
  let q20 : (List I) := (bA_ [(wl 1), (wl (-2))])
  let q21 : (List I) := (a8_ q16 q20)
  let q22 : Bool := (al_ q21 q15)
  let q23 : (List I) := (bA_ [(wl (-4)), (wl 6)])
  let q24 : (List I) := (ab_ q23)
  let q25 : (List I) := (aI_ [(wl (-2)), (wl 3)])
  let q26 : Bool := (al_ q24 q25)
  let q27 : (List I) := (bA_ [(wl (-1)), (wl 0), (wl 1)])
  let q28 : (List I) := (bA_ [(wl 2), (wl (-2))])
  let q29 : (List I) := (ak_ q27 q28)
  let q30 : (List I) := (aI_ [(wl (-1)), (wl 1)])
  let q31 : Bool := (al_ q29 q30)
  let q32 : (List I) := (bA_ [(wl 0), (wl 0), (wl 3), (wl 3)])
  let q33 : (List I) := (cl_ q32)
  let q34 : (List I) := (aI_ [(wl 0), (wl 1), (wl 1)])
  let q35 : Bool := (al_ q33 q34)
  let q36 : (List I) := (bA_ [(wl 0), (wl 0), (wl 1)])
  let q37 : Rt := (c6_ (wl 1))
  let q38 : (List I) := (bE_ q36 q3 q37)
  let q39 : (List I) := (aI_ [(wl 1), (wl 4), (wl 4)])
  let q40 : Bool := (al_ q38 q39)
  let q41 : (List I) := (bA_ [(wl 1), (wl (-1)), (wl 0), (wl 1), (wl 1)])
  let q42 : W := (dk_ q41)
  let q43 : Rt := (c6_ (wl 0))
  let q44 : (List I) := (bk_ q36 q43 q37).1
  let q45 : Bool := (bk_ q36 q43 q37).2
  let q46 : (List I) := (bk_ q27 q43 q11).1
  let q47 : Bool := (bk_ q27 q43 q11).2
  let q48 : I := (E (Z.of 0))
  let q49 : I := (E (Z.of 1))
  let q50 : (List I) := (aI_ [(wl (-1)), (wl (-1)), (wl 3)])
  let q51 : Bool := (al_ q46 q50)
  let q52 : I := (E Z.bad)
  let q53 : (List I) := (aq_ [q52])
  let q54 : Bool := (ai_ q53)
  let q55 : (List I) := (bA_ ([] : List W))
  let q56 : W := (eh_ q55)
  ((q5 && q8) && (((decide (q10.n = q11.n) && decide (q10.d = q11.d)) && (decide (q13.n = q14.n) && decide (q13.d = q14.d))) && ((q19 && q22) && ((q26 && (q31 && q35)) && ((q40 && (q42.1 == 2)) && ((q45 && (q47 && (((((q44).length : Nat) : Int) == 3) && (decide ((q44.getD 0 I0) = q48) && (decide ((q44.getD 1 I0) = q48) && (decide ((q44.getD 2 I0) = q49) && q51)))))) && (q54 && (q56.1 == (-1)))))))))
end Go.Num

set_option linter.unusedVariables false
set_option linter.unusedSimpArgs false
namespace Go.Num
open Go Go.Kn
def br_ (p : (List I)) (q : (List I)) : Bool :=
  bif (!(aK_ p 10 512) || (!(aK_ q 10 512))) then (cf_) else ((cf_ && (((al_ (a8_ p q) (ax_ p q)) && (al_ (ab_ p) (aa_ p))) && ((al_ (ak_ p q) (ae_ p q)) && (al_ (cl_ p) (bd_ p))))))
end Go.Num

