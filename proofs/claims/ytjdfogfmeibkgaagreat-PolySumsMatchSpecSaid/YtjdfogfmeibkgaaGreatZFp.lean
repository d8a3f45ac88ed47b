/- What these functions compute, as plain functions. No program stands in it. Closed facts of the program's types and functions. -/
import Derived.Test.YtjdfogfmeibkgaaGreatZGE
import Derived.Test.YtjdfogfmeibkgaaGreatProg
set_option linter.unusedVariables false
set_option linter.unusedSimpArgs false
namespace Go.Num
open Go Go.Kn
def b4_ (a : I) : I :=
  a
def d3_ (a : I) : Bool :=
  (!a.1.bad && a.1.valid)
def F_poly_bad  : (List I) :=
  let q0 : I := (E Z.bad)
  [q0]
def ck_ (n : Int) (f : Nat → I) (o : I → I) : Nat → (List I) → Nat → (List I × Nat) ⊕ ((List I))
  | 0, out, i => .inl (out, i)
  | k0 + 1, out, i => bif decide (((i : Nat) : Int) < (((n).toNat : Nat) : Int)) then (bif (d3_ (o (f i))) then ((ck_ n f o k0 (out ++ [(o (f i))]) (i + 1))) else (.inr (F_poly_bad))) else (.inl (out, i))
def cl_ (n : Int) (f : Nat → I) (o : I → I) (out : List I) (i : Nat) : Nat → (List I) → List I
  | 0, cut => cut
  | k1 + 1, cut => bif (decide (0 < (((cut).length : Nat) : Int)) && ((Z.signW (cut.getD ((cut).length - 1) I0).dec).1 == 0)) then ((cl_ n f o out i k1 (cut.take ((cut).length - 1)))) else (cut)
def bH_ (n : Int) (f : Nat → I) (o : I → I) : (List I) :=
  sm (fun (s : List I × Nat) => let out : List I := s.1
  let i : Nat := s.2
  ap (fun (s : List I) => let cut : List I := s
  bif decide (25 < (((cut).length : Nat) : Int)) then (F_poly_bad) else (cut)) (cl_ n f o out i ((out.length + 1)) out)) (fun r => r) (ck_ n f o ((n.toNat + 1)) ([] : List I) 0)
def cz_ (n : Int) (f : Nat → Go.Num.W) (o : Go.Num.W → I) : Nat → (List I) → Nat → (List I × Nat) ⊕ ((List I))
  | 0, out, i => .inl (out, i)
  | k0 + 1, out, i => bif decide (((i : Nat) : Int) < (((n).toNat : Nat) : Int)) then (bif (d3_ (o (f i))) then ((cz_ n f o k0 (out ++ [(o (f i))]) (i + 1))) else (.inr (F_poly_bad))) else (.inl (out, i))
def cy_ (n : Int) (f : Nat → Go.Num.W) (o : Go.Num.W → I) (out : List I) (i : Nat) : Nat → (List I) → List I
  | 0, cut => cut
  | k1 + 1, cut => bif (decide (0 < (((cut).length : Nat) : Int)) && ((Z.signW (cut.getD ((cut).length - 1) I0).dec).1 == 0)) then ((cy_ n f o out i k1 (cut.take ((cut).length - 1)))) else (cut)
def c9_ (n : Int) (f : Nat → Go.Num.W) (o : Go.Num.W → I) : (List I) :=
  sm (fun (s : List I × Nat) => let out : List I := s.1
  let i : Nat := s.2
  ap (fun (s : List I) => let cut : List I := s
  bif decide (25 < (((cut).length : Nat) : Int)) then (F_poly_bad) else (cut)) (cy_ n f o out i ((out.length + 1)) out)) (fun r => r) (cz_ n f o ((n.toNat + 1)) ([] : List I) 0)
def cD_ (l : (List I)) (f : I → Bool) : Nat → Nat → (Nat) ⊕ (W)
  | 0, i => .inl i
  | k0 + 1, i => bif decide (((i : Nat) : Int) < (((l).length : Nat) : Int)) then (bif (f (l.getD i I0)) then (.inr ((W.cv ((i : Nat) : Int)))) else ((cD_ l f k0 (i + 1)))) else (.inl i)
def eK_ (l : (List I)) (f : I → Bool) : W :=
  sm (fun (s : Nat) => let i : Nat := s
  (wl (-1))) (fun r => r) (cD_ l f ((l.length + 1)) 0)
def ei_ (l : (List I)) (f : I → Bool) : Bool :=
  (decide (0 ≤ (eK_ l f).1))
def eU_ (a : I) : Bool :=
  (!(d3_ a))
def ag_ (p : (List I)) : Bool :=
  (ei_ p (fun (y : I) => (eU_ y)))
def c2_ (l : (List Rt)) (f : Rt → Bool) : Nat → Nat → (Nat) ⊕ (W)
  | 0, i => .inl i
  | k0 + 1, i => bif decide (((i : Nat) : Int) < (((l).length : Nat) : Int)) then (bif (f (l.getD i Rt0)) then (.inr ((W.cv ((i : Nat) : Int)))) else ((c2_ l f k0 (i + 1)))) else (.inl i)
def er_ (l : (List Rt)) (f : Rt → Bool) : W :=
  sm (fun (s : Nat) => let i : Nat := s
  (wl (-1))) (fun r => r) (c2_ l f ((l.length + 1)) 0)
def ez_ (l : (List Rt)) (f : Rt → Bool) : Bool :=
  (decide (0 ≤ (er_ l f).1))
def dP_ (a : Rt) : Bool :=
  (!(bV_ a))
def cA_ (l : (List Rt)) : Bool :=
  (!(ez_ l (fun (y : Rt) => (dP_ y))))
def d7_ (k : Nat) (l : (List I)) : I :=
  (l.getD k I0)
def an_ (l : (List I)) : (List I) :=
  (bH_ (((l).length : Nat) : Int) (fun (y : Nat) => (d7_ y l)) (fun (y : I) => (b4_ y)))
def fm_ (k : Nat) (l : (List W)) : W :=
  (l.getD k W.z)
def bC_ (l : (List W)) : (List I) :=
  (c9_ (((l).length : Nat) : Int) (fun (y : Nat) => (fm_ y l)) (fun (y : Go.Num.W) => (E (Z.of y.1))))
def cU_ (p : (List I)) : W :=
  bif (ag_ p) then ((wl (-2))) else ((W.cv ((((p).length : Nat) : Int) - 1)))
def aZ_ (p : (List I)) (k : Int) : I :=
  bif (decide (k < 0) || decide ((((p).length : Nat) : Int) ≤ k)) then (I0) else ((p.getD ((k).toNat) I0))
def d8_ (k : Nat) (f : I → I → I) (p : (List I)) (q : (List I)) : I :=
  (f (aZ_ p ((k : Nat) : Int)) (aZ_ q ((k : Nat) : Int)))
def br_ (p : (List I)) (q : (List I)) (f : I → I → I) : (List I) :=
  bif ((ag_ p) || (ag_ q)) then (F_poly_bad) else ((bH_ (((max ((p).length) ((q).length)) : Nat) : Int) (fun (y : Nat) => (d8_ y f p q)) (fun (y : I) => (b4_ y))))
def cL_ (p : (List I)) (q : (List I)) : (List I) :=
  (br_ p q (fun (y : I) (z : I) => (E (Z.add y.dec z.dec))))
def dc_ (p : (List I)) (q : (List I)) : (List I) :=
  (br_ p q (fun (y : I) (z : I) => (E (Z.sub y.dec z.dec))))
def cj_ (k : Nat) (q : (List I)) (p : (List I)) : Nat → Nat → I → Nat × I
  | 0, i, mb2 => (i, mb2)
  | k0 + 1, i, mb2 => bif decide (((i : Nat) : Int) ≤ (min ((k : Nat) : Int) ((((p).length : Nat) : Int) - 1))) then ((cj_ k q p k0 (i + 1) (E (Z.add mb2.dec (Z.mul (p.getD i I0).dec (q.getD (k - i) I0).dec))))) else ((i, mb2))
def da_ (k : Nat) (q : (List I)) (p : (List I)) : I :=
  ap (fun (s : Nat × I) => let i : Nat := s.1
  let mb2 : I := s.2
  mb2) (cj_ k q p ((k + 2)) ((((((k : Nat) : Int) - (((q).length : Nat) : Int)) + 1)).toNat) I0)
def bW_ (p : (List I)) (q : (List I)) : (List I) :=
  bif ((ag_ p) || (ag_ q)) then (F_poly_bad) else (bif (((((p).length : Nat) : Int) == 0) || ((((q).length : Nat) : Int) == 0)) then (([] : List I)) else ((bH_ (((((p).length + (q).length) : Nat) : Int) - 1) (fun (y : Nat) => (da_ y q p)) (fun (y : I) => (b4_ y)))))
def ef_ (a : I) (b : I) (n : I) : I :=
  (E (Z.mul a.dec n.dec))
def cC_ (p : (List I)) (n : I) : (List I) :=
  bif (d3_ n) then ((br_ p ([] : List I) (fun (y : I) (z : I) => (ef_ y z n)))) else (F_poly_bad)
def dE_ (k : Nat) (p : (List I)) : I :=
  (E (Z.mul (Z.of (((k + 1) : Nat) : Int)) (p.getD (k + 1) I0).dec))
def ad_ (p : (List I)) : (List I) :=
  bif (ag_ p) then (F_poly_bad) else ((bH_ ((((p).length : Nat) : Int) - 1) (fun (y : Nat) => (dE_ y p)) (fun (y : I) => (b4_ y))))
def b7_ (p : (List I)) : List I → W → W → W × W
  | [], n, last => (n, last)
  | x0 :: l0, n, last => let r11 : W := (bif ((Z.signW x0.dec).1 != 0) then (bif ((Z.signW x0.dec).1 == (W.neg last).1) then (W.add n (wl 1)) else n) else n)
  let r12 : W := (bif ((Z.signW x0.dec).1 != 0) then (Z.signW x0.dec) else last)
  (b7_ p l0 r11 r12)
def b3_ (p : (List I)) : W :=
  bif (ag_ p) then ((wl 0)) else (ap (fun (s : W × W) => let n : W := s.1
  let last : W := s.2
  n) (b7_ p p (wl 0) (wl 0)))
def cv_ (l : (List I)) : List I → I → I
  | [], mb2 => mb2
  | x0 :: l0, mb2 => (cv_ l l0 (E (Z.gcd mb2.dec x0.dec)))
def aG_ (l : (List I)) : I :=
  ap (fun (s : I) => let mb2 : I := s
  mb2) (cv_ l l I0)
def c3_ (a : I) (b : I) (n : I) : I :=
  (E (Z.quo a.dec n.dec))
def aa_ (p : (List I)) : (List I) :=
  (br_ p ([] : List I) (fun (y : I) (z : I) => (c3_ y z (aG_ p))))
def b8_ (d : I) (n : Int) : Nat → (List I) → List I
  | 0, out => out
  | k0 + 1, out => bif decide ((((out).length : Nat) : Int) < n) then ((b8_ d n k0 (out ++ [(E (Z.mul (out.getD ((out).length - 1) I0).dec d.dec))]))) else (out)
def aJ_ (d : I) (n : Int) : (List I) :=
  ap (fun (s : List I) => let out : List I := s
  out) (b8_ d n ((n.toNat + 1)) [(E (Z.of 1))])
def cH_ (p : (List I)) (x : Rt) : Nat → Int → I → Int × I
  | 0, i, mb3 => (i, mb3)
  | k0 + 1, i, mb3 => bif decide (0 ≤ i) then (let r25 : I := (E (Z.mul (p.getD ((i).toNat) I0).dec ((aJ_ x.d (((p).length : Nat) : Int)).getD (((p).length - 1) - (i).toNat) I0).dec))
  (cH_ p x k0 (i - 1) (E (Z.add (Z.mul mb3.dec x.n.dec) r25.dec)))) else ((i, mb3))
def bf_ (p : (List I)) (x : Rt) : I × I :=
  bif ((ag_ p) || (!(cA_ [x]))) then (((E Z.bad), (E (Z.of 1)))) else (ap (fun (s : Int × I) => let i : Int := s.1
  let mb3 : I := s.2
  (mb3, ((aJ_ x.d (((p).length : Nat) : Int)).getD ((((((p).length : Nat) : Int) - 1)).toNat) I0))) (cH_ p x ((p.length + 1)) ((((p).length : Nat) : Int) - 1) I0))
def ch_ (p : (List I)) (x : Rt) : Rt :=
  let r3 : Rt := (cc_ ((bf_ p x).1) ((bf_ p x).2))
  r3
def dd_ (p : (List I)) (x : Rt) : W × Bool :=
  ((Z.signW ((bf_ p x).1).dec), (!((bf_ p x).1).1.bad))
def bQ_ (p : (List I)) (q : (List I)) (i : Int) (r : List I) (r53 : I) : Nat → Nat → (List I) → (Nat × List I) ⊕ ((List I))
  | 0, k, t => .inl (k, t)
  | k1 + 1, k, t => bif decide (((k : Nat) : Int) < (((r).length : Nat) : Int)) then (let r66 : I := (E (Z.sub (Z.mul (Z.abs (q.getD ((q).length - 1) I0).dec) (t.getD k I0).dec) (Z.mul r53.dec (aZ_ q (((k : Nat) : Int) - i)).dec)))
  bif ((t.set k r66).getD k I0).1.bad then (.inr (F_poly_bad)) else ((bQ_ p q i r r53 k1 (k + 1) (t.set k r66)))) else (.inl (k, t))
def bR_ (p : (List I)) (q : (List I)) : Nat → Int → (List I) → (Int × List I) ⊕ ((List I))
  | 0, i, r => .inl (i, r)
  | k0 + 1, i, r => bif decide (0 ≤ i) then (let r53 : I := (E (Z.mul (Z.of (Z.signW (q.getD ((q).length - 1) I0).dec).1) (r.getD ((i).toNat + ((q).length - 1)) I0).dec))
  sm (fun (s : Nat × List I) => let k : Nat := s.1
  let t : List I := s.2
  (bR_ p q k0 (i - 1) t)) (fun r => .inr r) (bQ_ p q i r r53 ((r.length + 1)) 0 r)) else (.inl (i, r))
def bP_ (p : (List I)) (q : (List I)) : (List I) :=
  bif ((ag_ p) || ((ag_ q) || ((((q).length : Nat) : Int) == 0))) then (F_poly_bad) else (sm (fun (s : Int × List I) => let i : Int := s.1
  let r : List I := s.2
  (an_ r)) (fun r => r) (bR_ p q ((p.length + 1)) (((((p).length : Nat) : Int) - 1) - ((((q).length : Nat) : Int) - 1)) ([] ++ p)))
def c5_ (n : Int) (i : Int) : Nat → Int → I → Int × I
  | 0, j, mb1 => (j, mb1)
  | k0 + 1, j, mb1 => bif decide (j ≤ n) then ((c5_ n i k0 (j + 1) (E (Z.mul mb1.dec (Z.of j))))) else ((j, mb1))
def cd_ (n : Int) (i : Int) (j : Int) (mb1 : I) : Nat → (List I) → Nat → I → List I × Nat × I
  | 0, out, k, mb1_1 => (out, k, mb1_1)
  | k1 + 1, out, k, mb1_1 => bif decide (((k : Nat) : Int) < (i + 1)) then (bif decide (((k : Nat) : Int) < n) then (let r22 : I := (E (Z.quo (Z.mul mb1_1.dec (Z.of (i - ((k : Nat) : Int)))) (Z.of (n - ((k : Nat) : Int)))))
  (cd_ n i j mb1 k1 (out ++ [mb1_1]) (k + 1) r22)) else ((cd_ n i j mb1 k1 (out ++ [mb1_1]) (k + 1) mb1_1))) else ((out, k, mb1_1))
def a3_ (n : Int) (i : Int) : (List I) :=
  ap (fun (s : Int × I) => let j : Int := s.1
  let mb1 : I := s.2
  ap (fun (s : List I × Nat × I) => let out : List I := s.1
  let k : Nat := s.2.1
  let mb1_1 : I := s.2.2
  out) (cd_ n i j mb1 (((i + 1).toNat + 1)) ([] : List I) 0 mb1)) (c5_ n i ((n.toNat + 1)) 2 (E (Z.of 1)))
def aN_ (a : I) : Bool :=
  (!a.1.bad && a.1.valid)
def F_skewbackref08_bad  : (List I) :=
  let q0 : I := (E Z.bad)
  [q0]
def bt_ (l : (List I)) : Nat → Int → Nat → (Int × Nat) ⊕ ((List I))
  | 0, last, i => .inl (last, i)
  | k0 + 1, last, i => bif decide (((i : Nat) : Int) < (((l).length : Nat) : Int)) then (bif (aN_ (l.getD i I0)) then (bif ((Z.signW (l.getD i I0).dec).1 != 0) then ((bt_ l k0 ((i : Nat) : Int) (i + 1))) else ((bt_ l k0 last (i + 1)))) else (.inr (F_skewbackref08_bad))) else (.inl (last, i))
def bN_ (l : (List I)) (last : Int) (i : Nat) : Nat → (List I) → Nat → List I × Nat
  | 0, out, j => (out, j)
  | k1 + 1, out, j => bif decide (((j : Nat) : Int) ≤ last) then ((bN_ l last i k1 (out ++ [(l.getD j I0)]) (j + 1))) else ((out, j))
def ae_ (l : (List I)) : (List I) :=
  sm (fun (s : Int × Nat) => let last : Int := s.1
  let i : Nat := s.2
  bif decide (24 < last) then (F_skewbackref08_bad) else (ap (fun (s : List I × Nat) => let out : List I := s.1
  let j : Nat := s.2
  out) (bN_ l last i (((last + 1).toNat + 1)) ([] : List I) 0))) (fun r => r) (bt_ l ((l.length + 1)) (-1) 0)
def cE_ (l : (List W)) : Nat → (List I) → Nat → List I × Nat
  | 0, out, i => (out, i)
  | k0 + 1, out, i => bif decide (((i : Nat) : Int) < (((l).length : Nat) : Int)) then ((cE_ l k0 (out ++ [(E (Z.of (l.getD i W.z).1))]) (i + 1))) else ((out, i))
def aH_ (l : (List W)) : (List I) :=
  ap (fun (s : List I × Nat) => let out : List I := s.1
  let i : Nat := s.2
  (ae_ out)) (cE_ l ((l.length + 1)) ([] : List I) 0)
def bl_ (p : (List I)) : Nat → Nat → (Nat) ⊕ (Bool)
  | 0, i => .inl i
  | k0 + 1, i => bif decide (((i : Nat) : Int) < (((p).length : Nat) : Int)) then (bif (aN_ (p.getD i I0)) then ((bl_ p k0 (i + 1))) else (.inr (true))) else (.inl i)
def ab_ (p : (List I)) : Bool :=
  sm (fun (s : Nat) => let i : Nat := s
  false) (fun r => r) (bl_ p ((p.length + 1)) 0)
def bZ_ (p : (List I)) : W :=
  bif (ab_ p) then ((wl (-2))) else ((W.cv ((((p).length : Nat) : Int) - 1)))
def ay_ (p : (List I)) (k : Int) : I :=
  bif (decide (k < 0) || decide ((((p).length : Nat) : Int) ≤ k)) then (I0) else ((p.getD ((k).toNat) I0))
def by_ (p : (List I)) (q : (List I)) : Nat → (List I) → Nat → List I × Nat
  | 0, out, i => (out, i)
  | k0 + 1, out, i => bif decide (((i : Nat) : Int) < (((max ((p).length) ((q).length)) : Nat) : Int)) then (let r11 : I := (E (Z.add (ay_ p ((i : Nat) : Int)).dec (ay_ q ((i : Nat) : Int)).dec))
  (by_ p q k0 (out ++ [r11]) (i + 1))) else ((out, i))
def bb_ (p : (List I)) (q : (List I)) : (List I) :=
  bif ((ab_ p) || (ab_ q)) then (F_skewbackref08_bad) else (ap (fun (s : List I × Nat) => let out : List I := s.1
  let i : Nat := s.2
  (ae_ out)) (by_ p q (((max p.length q.length) + 1)) ([] : List I) 0))
def bz_ (p : (List I)) (q : (List I)) : Nat → (List I) → Nat → List I × Nat
  | 0, out, i => (out, i)
  | k0 + 1, out, i => bif decide (((i : Nat) : Int) < (((max ((p).length) ((q).length)) : Nat) : Int)) then (let r11 : I := (E (Z.sub (ay_ p ((i : Nat) : Int)).dec (ay_ q ((i : Nat) : Int)).dec))
  (bz_ p q k0 (out ++ [r11]) (i + 1))) else ((out, i))
def ba_ (p : (List I)) (q : (List I)) : (List I) :=
  bif ((ab_ p) || (ab_ q)) then (F_skewbackref08_bad) else (ap (fun (s : List I × Nat) => let out : List I := s.1
  let i : Nat := s.2
  (ae_ out)) (bz_ p q (((max p.length q.length) + 1)) ([] : List I) 0))
def aw_ (p : (List I)) (q : (List I)) (out : List I) (k : Nat) : Nat → Nat → I → Nat × I
  | 0, i, mb17 => (i, mb17)
  | k1 + 1, i, mb17 => bif decide (((i : Nat) : Int) ≤ ((k : Nat) : Int)) then (bif (decide (((i : Nat) : Int) < (((p).length : Nat) : Int)) && decide ((((k : Nat) : Int) - ((i : Nat) : Int)) < (((q).length : Nat) : Int))) then ((aw_ p q out k k1 (i + 1) (E (Z.add mb17.dec (Z.mul (p.getD i I0).dec (q.getD (k - i) I0).dec))))) else ((aw_ p q out k k1 (i + 1) mb17))) else ((i, mb17))
def bB_ (p : (List I)) (q : (List I)) : Nat → (List I) → Nat → List I × Nat
  | 0, out, k => (out, k)
  | k0 + 1, out, k => bif decide (((k : Nat) : Int) < (((((p).length + (q).length) : Nat) : Int) - 1)) then (ap (fun (s : Nat × I) => let i : Nat := s.1
  let mb17 : I := s.2
  (bB_ p q k0 (out ++ [mb17]) (k + 1))) (aw_ p q out k ((k + 2)) 0 I0)) else ((out, k))
def a9_ (p : (List I)) (q : (List I)) : (List I) :=
  bif ((ab_ p) || (ab_ q)) then (F_skewbackref08_bad) else (bif (((((p).length : Nat) : Int) == 0) || ((((q).length : Nat) : Int) == 0)) then (([] : List I)) else (ap (fun (s : List I × Nat) => let out : List I := s.1
  let k : Nat := s.2
  (ae_ out)) (bB_ p q ((p.length + q.length)) ([] : List I) 0)))
def bm_ (p : (List I)) (n : I) : Nat → (List I) → Nat → List I × Nat
  | 0, out, i => (out, i)
  | k0 + 1, out, i => bif decide (((i : Nat) : Int) < (((p).length : Nat) : Int)) then ((bm_ p n k0 (out ++ [(E (Z.mul (p.getD i I0).dec n.dec))]) (i + 1))) else ((out, i))
def a5_ (p : (List I)) (n : I) : (List I) :=
  bif ((ab_ p) || (!(aN_ n))) then (F_skewbackref08_bad) else (ap (fun (s : List I × Nat) => let out : List I := s.1
  let i : Nat := s.2
  (ae_ out)) (bm_ p n ((p.length + 1)) ([] : List I) 0))
def bg_ (p : (List I)) : Nat → (List I) → Nat → List I × Nat
  | 0, out, i => (out, i)
  | k0 + 1, out, i => bif decide (((i : Nat) : Int) < (((p).length : Nat) : Int)) then ((bg_ p k0 (out ++ [(E (Z.mul (Z.of ((i : Nat) : Int)) (p.getD i I0).dec))]) (i + 1))) else ((out, i))
def aY_ (p : (List I)) : (List I) :=
  bif (ab_ p) then (F_skewbackref08_bad) else (ap (fun (s : List I × Nat) => let out : List I := s.1
  let i : Nat := s.2
  (ae_ out)) (bg_ p ((p.length + 1)) ([] : List I) 1))
def bD_ (n : I) (k : Int) : Nat → Nat → I → Nat × I
  | 0, i, mb3 => (i, mb3)
  | k0 + 1, i, mb3 => bif decide (((i : Nat) : Int) < k) then ((bD_ n k k0 (i + 1) (E (Z.mul mb3.dec n.dec)))) else ((i, mb3))
def bn_ (n : I) (k : Int) : I :=
  ap (fun (s : Nat × I) => let i : Nat := s.1
  let mb3 : I := s.2
  mb3) (bD_ n k ((k.toNat + 1)) 0 (E (Z.of 1)))
def cb_ (a : Rt) : Bool :=
  bif (!(aN_ a.n) || (!(aN_ a.d) || decide ((Z.signW a.d.dec).1 ≤ 0))) then (false) else ((decide ((E (Z.gcd a.n.dec a.d.dec)) = (E (Z.of 1)))))
def bF_ (p : (List I)) (x : Rt) : Nat → Int → I → Int × I
  | 0, i, mb7 => (i, mb7)
  | k0 + 1, i, mb7 => bif decide (0 ≤ i) then (let r12 : I := (E (Z.mul (p.getD ((i).toNat) I0).dec (bn_ x.d (((((p).length : Nat) : Int) - 1) - i)).dec))
  (bF_ p x k0 (i - 1) (E (Z.add (Z.mul mb7.dec x.n.dec) r12.dec)))) else ((i, mb7))
def ap_ (p : (List I)) (x : Rt) : I :=
  bif ((ab_ p) || (!(cb_ x))) then ((E Z.bad)) else (ap (fun (s : Int × I) => let i : Int := s.1
  let mb7 : I := s.2
  mb7) (bF_ p x ((p.length + 1)) ((((p).length : Nat) : Int) - 1) I0))
def aL_ (p : (List I)) (x : Rt) : Sgd :=
  bif (ap_ p x).1.bad then ((⟨(wl 0), false⟩ : Sgd)) else ((⟨(Z.signW (ap_ p x).dec), true⟩ : Sgd))
def a2_ (p : (List I)) (x : Rt) : Rt :=
  let r3 : I := (bn_ x.d (((((((p).length : Nat) : Int) - 1)).toNat : Nat) : Int))
  let r4 : Rt := (bI_ (ap_ p x) r3)
  r4
def aM_ (p : (List I)) : Nat → W → W → Nat → W × W × Nat
  | 0, n, last, i => (n, last, i)
  | k0 + 1, n, last, i => bif decide (((i : Nat) : Int) < (((p).length : Nat) : Int)) then (bif ((Z.signW (p.getD i I0).dec).1 == 0) then ((aM_ p k0 n last (i + 1))) else (bif (last.1 == (W.neg (Z.signW (p.getD i I0).dec)).1) then ((aM_ p k0 (W.add n (wl 1)) (Z.signW (p.getD i I0).dec) (i + 1))) else ((aM_ p k0 n (Z.signW (p.getD i I0).dec) (i + 1))))) else ((n, last, i))
def bd_ (p : (List I)) : W :=
  bif (ab_ p) then ((wl 0)) else (ap (fun (s : W × W × Nat) => let n : W := s.1
  let last : W := s.2.1
  let i : Nat := s.2.2
  n) (aM_ p ((p.length + 1)) (wl 0) (wl 0) 0))
def bM_ (a : (List I)) (b : (List I)) : Nat → Nat → (Nat) ⊕ (Bool)
  | 0, i => .inl i
  | k0 + 1, i => bif decide (((i : Nat) : Int) < (((a).length : Nat) : Int)) then (bif decide ((a.getD i I0) = (b.getD i I0)) then ((bM_ a b k0 (i + 1))) else (.inr (false))) else (.inl i)
def af_ (a : (List I)) (b : (List I)) : Bool :=
  bif ((((a).length : Nat) : Int) != (((b).length : Nat) : Int)) then (false) else (sm (fun (s : Nat) => let i : Nat := s
  true) (fun r => r) (bM_ a b ((a.length + 1)) 0))
def as_ (p : (List I)) : Bool :=
  bif (((((p).length : Nat) : Int) == 1) && decide ((p.getD 0 I0) = (E Z.bad))) then (true) else (bif ((ab_ p) || decide (25 < (((p).length : Nat) : Int))) then (false) else ((((((p).length : Nat) : Int) == 0) || ((Z.signW (p.getD ((p).length - 1) I0).dec).1 != 0))))
end Go.Num

set_option linter.unusedVariables false
set_option linter.unusedSimpArgs false
namespace Go.Num
open Go Go.Kn
def bS_ (p : (List I)) (q : (List I)) : Nat → (List I) → (List I) → (List I × List I) ⊕ ((List I))
  | 0, a, b => .inl (a, b)
  | k0 + 1, a, b => bif decide (0 < (((b).length : Nat) : Int)) then (bif ((ag_ a) || (ag_ b)) then (.inr (F_poly_bad)) else ((bS_ p q k0 b (aa_ (bP_ a b))))) else (.inl (a, b))
def ak_ (p : (List I)) (q : (List I)) : (List I) :=
  sm (fun (s : List I × List I) => let a : List I := s.1
  let b : List I := s.2
  bif (((((a).length : Nat) : Int) == 0) || decide (0 < (Z.signW (a.getD ((a).length - 1) I0).dec).1)) then (a) else ((br_ ([] : List I) a (fun (y : I) (z : I) => (E (Z.sub y.dec z.dec)))))) (fun r => r) (bS_ p q ((gmP (aa_ q) + 1)) (aa_ p) (aa_ q))
def b9_ (p : (List I)) (a : Rt) (b : Rt) : Nat → (List I) → Int → List I × Int
  | 0, r, i => (r, i)
  | k0 + 1, r, i => bif decide (0 ≤ i) then (let r32 : I := (E (Z.mul (p.getD ((i).toNat) I0).dec ((aJ_ (E (Z.mul a.d.dec b.d.dec)) (((p).length : Nat) : Int)).getD (((p).length - 1) - (i).toNat) I0).dec))
  (b9_ p a b k0 (cL_ (bW_ r (an_ [(E (Z.mul a.n.dec b.d.dec)), (E (Z.mul b.n.dec a.d.dec))])) (an_ [r32])) (i - 1))) else ((r, i))
def ca_ (p : (List I)) (a : Rt) (b : Rt) : (List I) :=
  bif ((ag_ p) || (!(cA_ [a, b]))) then (F_poly_bad) else (ap (fun (s : List I × Int) => let r : List I := s.1
  let i : Int := s.2
  r) (b9_ p a b ((p.length + 1)) ([] : List I) ((((p).length : Nat) : Int) - 1)))
def bJ_ (p : (List I)) (a : Rt) (b : Rt) : (List I) :=
  (aa_ (ca_ p a b))
def cN_ (p : (List I)) (a : Rt) (b : Rt) (out : List I) (i : Nat) : Nat → Nat → I → Nat × I
  | 0, j, mb40 => (j, mb40)
  | k1 + 1, j, mb40 => bif decide (((j : Nat) : Int) < ((((a3_ ((((p).length : Nat) : Int) - 1) ((i : Nat) : Int))).length : Nat) : Int)) then (let r52 : I := (E (Z.mul ((a3_ ((((p).length : Nat) : Int) - 1) ((i : Nat) : Int)).getD j I0).dec (aZ_ (bJ_ p a (cB_ b a)) ((j : Nat) : Int)).dec))
  (cN_ p a b out i k1 (j + 1) (E (Z.add mb40.dec r52.dec)))) else ((j, mb40))
def cQ_ (p : (List I)) (a : Rt) (b : Rt) : Nat → (List I) → Nat → (List I × Nat) ⊕ ((List I) × Bool)
  | 0, out, i => .inl (out, i)
  | k0 + 1, out, i => bif decide (((i : Nat) : Int) < (((p).length : Nat) : Int)) then (ap (fun (s : Nat × I) => let j : Nat := s.1
  let mb40 : I := s.2
  bif mb40.1.bad then (.inr ((([] : List I), false))) else ((cQ_ p a b k0 (out ++ [mb40]) (i + 1)))) (cN_ p a b out i ((((a3_ ((((p).length : Nat) : Int) - 1) ((i : Nat) : Int))).length + 1)) 0 I0)) else (.inl (out, i))
def cO_ (p : (List I)) (a : Rt) (b : Rt) (out : List I) (i : Nat) : Nat → Nat → (List I) → Nat × List I
  | 0, k, t => (k, t)
  | k2 + 1, k, t => bif decide (((k : Nat) : Int) < (((out).length : Nat) : Int)) then ((cO_ p a b out i k2 (k + 1) (t.set k (E (Z.quo (t.getD k I0).dec (aG_ out).dec))))) else ((k, t))
def bi_ (p : (List I)) (a : Rt) (b : Rt) : (List I) × Bool :=
  bif ((ag_ p) || (!(cA_ [a, b]))) then ((([] : List I), false)) else (bif (ag_ (bJ_ p a (cB_ b a))) then ((([] : List I), false)) else (sm (fun (s : List I × Nat) => let out : List I := s.1
  let i : Nat := s.2
  bif ((Z.signW (aG_ out).dec).1 != 0) then (ap (fun (s : Nat × List I) => let k : Nat := s.1
  let t : List I := s.2
  (t, true)) (cO_ p a b out i ((out.length + 1)) 0 out)) else ((out, true))) (fun r => r) (cQ_ p a b ((p.length + 1)) ([] : List I) 0)))
end Go.Num

set_option linter.unusedVariables false
set_option linter.unusedSimpArgs false
namespace Go.Num
open Go Go.Kn
def dC_ (p : (List I)) (i : Int) (r : List I) (f : List I) (r66 : I) : Nat → Nat → (List I) → (Nat × List I) ⊕ ((List I))
  | 0, k, t => .inl (k, t)
  | k1 + 1, k, t => bif decide (((k : Nat) : Int) < ((((ak_ p (ad_ p))).length : Nat) : Int)) then (let r82 : I := (E (Z.mul ((f.set ((i).toNat) r66).getD ((i).toNat) I0).dec ((ak_ p (ad_ p)).getD k I0).dec))
  bif ((t.set ((i).toNat + k) (E (Z.sub (t.getD ((i).toNat + k) I0).dec r82.dec))).getD ((i).toNat + k) I0).1.bad then (.inr (F_poly_bad)) else ((dC_ p i r f r66 k1 (k + 1) (t.set ((i).toNat + k) (E (Z.sub (t.getD ((i).toNat + k) I0).dec r82.dec)))))) else (.inl (k, t))
def dD_ (p : (List I)) : Nat → Int → (List I) → (List I) → (Int × List I × List I) ⊕ ((List I))
  | 0, i, r, f => .inl (i, r, f)
  | k0 + 1, i, r, f => bif decide (0 ≤ i) then (let r66 : I := (E (Z.quo (r.getD ((i).toNat + (((ak_ p (ad_ p))).length - 1)) I0).dec ((ak_ p (ad_ p)).getD (((ak_ p (ad_ p))).length - 1) I0).dec))
  sm (fun (s : Nat × List I) => let k : Nat := s.1
  let t : List I := s.2
  (dD_ p k0 (i - 1) t (f.set ((i).toNat) r66))) (fun r => .inr r) (dC_ p i r f r66 ((((ak_ p (ad_ p))).length + 1)) 0 r)) else (.inl (i, r, f))
def dX_ (p : (List I)) : (List I) :=
  bif ((ag_ (ak_ p (ad_ p))) || (ag_ (aa_ p))) then (F_poly_bad) else (bif (((((aa_ p)).length : Nat) : Int) == 0) then (([] : List I)) else (sm (fun (s : Int × List I × List I) => let i : Int := s.1
  let r : List I := s.2.1
  let f : List I := s.2.2
  bif ((((((an_ f)).length : Nat) : Int) == 0) || decide (0 < (Z.signW ((an_ f).getD (((an_ f)).length - 1) I0).dec).1)) then ((an_ f)) else ((br_ ([] : List I) (an_ f) (fun (y : I) (z : I) => (E (Z.sub y.dec z.dec)))))) (fun r => r) (dD_ p (((aa_ p).length + 2)) (((((List.replicate (((aa_ p)).length - (((ak_ p (ad_ p))).length - 1)) I0)).length : Nat) : Int) - 1) (aa_ p) (List.replicate (((aa_ p)).length - (((ak_ p (ad_ p))).length - 1)) I0))))
end Go.Num

set_option linter.unusedVariables false
set_option linter.unusedSimpArgs false
namespace Go.Num
open Go Go.Kn
def fC_ (a : W) (b : W) : Rt :=
  let r2 : Rt := (cc_ (E (Z.of a.1)) (E (Z.of b.1)))
  r2
end Go.Num

set_option linter.unusedVariables false
set_option linter.unusedSimpArgs false
namespace Go.Num
open Go Go.Kn
def aO_  : Bool :=
  let q0 : (List I) := (bC_ [(wl 1), (wl 1)])
  let q1 : (List I) := (bC_ [(wl (-1)), (wl 1)])
  let q2 : (List I) := (bW_ q0 q1)
  let q3 : Rt := (fC_ (wl 1) (wl 2))
  let q4 : (List I) := (aH_ [(wl (-1)), (wl 0), (wl 1)])
  let q5 : Bool := (af_ q2 q4)
  let q6 : (List I) := (ad_ q2)
  let q7 : (List I) := (aH_ [(wl 0), (wl 2)])
  let q8 : Bool := (af_ q6 q7)
  let q9 : (List I) := (bC_ [(wl 1), (wl 0), (wl 4)])
  let q10 : Rt := (ch_ q9 q3)
  let q11 : Rt := (dl_ (wl 2))
  let q12 : Rt := (dl_ (wl (-3)))
  let q13 : Rt := (ch_ q9 q12)
  let q14 : Rt := (dl_ (wl 37))
  let q15 : (List I) := (aH_ [(wl 5)])
  let q16 : (List I) := (bC_ [(wl 1), (wl 0), (wl 1)])
  let q17 : (List I) := (bC_ [(wl 1), (wl 2)])
  let q18 : (List I) := (bP_ q16 q17)
  let q19 : Bool := (af_ q18 q15)
  let q20 : (List I) := (bC_ [(wl 1), (wl (-2))])
  let q21 : (List I) := (bP_ q16 q20)
  let q22 : Bool := (af_ q21 q15)
  let q23 : (List I) := (bC_ [(wl (-4)), (wl 6)])
  let q24 : (List I) := (aa_ q23)
  let q25 : (List I) := (aH_ [(wl (-2)), (wl 3)])
  let q26 : Bool := (af_ q24 q25)
  let q27 : (List I) := (bC_ [(wl (-1)), (wl 0), (wl 1)])
  let q28 : (List I) := (bC_ [(wl 2), (wl (-2))])
  let q29 : (List I) := (ak_ q27 q28)
  let q30 : (List I) := (aH_ [(wl (-1)), (wl 1)])
  let q31 : Bool := (af_ q29 q30)
  let q32 : (List I) := (bC_ [(wl 0), (wl 0), (wl 3), (wl 3)])
  let q33 : (List I) := (dX_ q32)
  let q34 : (List I) := (aH_ [(wl 0), (wl 1), (wl 1)])
  let q35 : Bool := (af_ q33 q34)
  let q36 : (List I) := (bC_ [(wl 0), (wl 0), (wl 1)])
  let q37 : Rt := (dl_ (wl 1))
  let q38 : (List I) := (bJ_ q36 q3 q37)
  let q39 : (List I) := (aH_ [(wl 1), (wl 4), (wl 4)])
  let q40 : Bool := (af_ q38 q39)
  let q41 : (List I) := (bC_ [(wl 1), (wl (-1)), (wl 0), (wl 1), (wl 1)])
  let q42 : W := (b3_ q41)
  let q43 : Rt := (dl_ (wl 0))
  let q44 : (List I) := (bi_ q36 q43 q37).1
  let q45 : Bool := (bi_ q36 q43 q37).2
  let q46 : (List I) := (bi_ q27 q43 q11).1
  let q47 : Bool := (bi_ q27 q43 q11).2
  let q48 : I := (E (Z.of 0))
  let q49 : I := (E (Z.of 1))
  let q50 : (List I) := (aH_ [(wl (-1)), (wl (-1)), (wl 3)])
  let q51 : Bool := (af_ q46 q50)
  let q52 : I := (E Z.bad)
  let q53 : (List I) := (an_ [q52])
  let q54 : Bool := (ag_ q53)
  let q55 : (List I) := (bC_ ([] : List W))
  let q56 : W := (cU_ q55)
  ((q5 && q8) && (((decide (q10.n = q11.n) && decide (q10.d = q11.d)) && (decide (q13.n = q14.n) && decide (q13.d = q14.d))) && ((q19 && q22) && ((q26 && (q31 && q35)) && ((q40 && (q42.1 == 2)) && ((q45 && (q47 && (((((q44).length : Nat) : Int) == 3) && (decide ((q44.getD 0 I0) = q48) && (decide ((q44.getD 1 I0) = q48) && (decide ((q44.getD 2 I0) = q49) && q51)))))) && (q54 && (q56.1 == (-1)))))))))
end Go.Num

set_option linter.unusedVariables false
set_option linter.unusedSimpArgs false
namespace Go.Num
open Go Go.Kn
def bA_ (l : (List I)) : Bool :=
  bif decide (30 < (((l).length : Nat) : Int)) then (aO_) else ((aO_ && ((af_ (an_ l) (ae_ l)) && (((ag_ (ae_ l)) == (ab_ (ae_ l))) && ((cU_ (ae_ l)).1 == (bZ_ (ae_ l)).1)))))
def bT_ (p : (List I)) (q : (List I)) (n : I) : Bool :=
  bif (!(as_ p) || (!(as_ q))) then (aO_) else ((aO_ && (((af_ (cL_ p q) (bb_ p q)) && ((af_ (dc_ p q) (ba_ p q)) && (af_ (bW_ p q) (a9_ p q)))) && ((af_ (cC_ p n) (a5_ p n)) && ((af_ (ad_ p) (aY_ p)) && ((b3_ p).1 == (bd_ p).1))))))
def bG_ (p : (List I)) (x : Rt) : Bool :=
  bif (!(as_ p) || (!(cY_ x))) then (aO_) else ((aO_ && ((decide (((ch_ p x).n) = ((a2_ p x).n)) && decide (((ch_ p x).d) = ((a2_ p x).d))) && ((((dd_ p x).1).1 == ((aL_ p x).s).1) && ((dd_ p x).2 == (aL_ p x).ok)))))
end Go.Num

set_option linter.unusedVariables false
set_option linter.unusedSimpArgs false
namespace Go.Proofs.YtjdfogfmeibkgaaGreat
open Go.Kn Go.Num
theorem en_23 : ai_ Tryz.prog 23 = true := by kernel_rfl
theorem en_25 : ai_ Tryz.prog 25 = true := by kernel_rfl
theorem en_31 : ai_ Tryz.prog 31 = true := by kernel_rfl
theorem en_42 : ai_ Tryz.prog 42 = true := by kernel_rfl
theorem en_49 : ai_ Tryz.prog 49 = true := by kernel_rfl
theorem en_55 : ai_ Tryz.prog 55 = true := by kernel_rfl
theorem en_60 : ai_ Tryz.prog 60 = true := by kernel_rfl
theorem en_91 : ai_ Tryz.prog 91 = true := by kernel_rfl
theorem rc_ : ai_ Tryz.prog 112 = true := by kernel_rfl
theorem rd_ : ai_ Tryz.prog 117 = true := by kernel_rfl
end Go.Proofs.YtjdfogfmeibkgaaGreat

set_option linter.unusedVariables false
set_option linter.unusedSimpArgs false
namespace Go.Proofs.YtjdfogfmeibkgaaGreat
open Go.Kn Go.Num
theorem en_27 : ai_ Tryz.prog 27 = true := by kernel_rfl
theorem en_33 : ai_ Tryz.prog 33 = true := by kernel_rfl
theorem en_50 : ai_ Tryz.prog 50 = true := by kernel_rfl
end Go.Proofs.YtjdfogfmeibkgaaGreat

