/- The statements about vectors, third part: Lagrange's identity, and the rational vectors of integers. No program stands in it. -/
import Derived.Test.YthbjhbmpfeeilaaPc
set_option linter.unusedVariables false
set_option linter.unusedSimpArgs false
namespace Go.Num
open Go Go.Kn
/-- The rational number v / 1. -/
def RI (v : Int) : Rt := ⟨E (Z.of v), E (Z.of 1)⟩
theorem good_E (z : Z) : F_ratio_good (E z) = z.o.isSome := by
  rw [← Z.enc_good]; rfl
theorem fit1 : Fit (Z.of 1) 1 1 := ⟨rfl, by decide⟩
theorem ofs {v : Int} {k : Nat} (h : v.natAbs < 2 ^ k) (hk : k ≤ 511) : (Z.of v).o = some v := Z.of_some (p512 hk h)
theorem gcd1 {v : Int} (h : (Z.of v).o = some v) : Z.gcd (Z.of v) (Z.of 1) = Z.of 1 := by
  rw [Z.gcd, lift2_some h (Z.of_some (by decide)), Int.gcd_one]; rfl
theorem quo1 {v : Int} (h : (Z.of v).o = some v) : Z.quo (Z.of v) (Z.of 1) = Z.of v := by
  rw [Z.quo, lift2_some h (Z.of_some (by decide)), if_neg (by decide), Int.fdiv_one]
theorem make1 {v : Int} (h : (Z.of v).o = some v) : F_ratio_Make (E (Z.of v)) (E (Z.of 1)) = RI v := by
  unfold F_ratio_Make
  simp only [good_E, E_dec, gcd1 h, quo1 h, h, quo1 (v := 1) (Z.of_some (by decide))]
  rfl
theorem goodR {v : Int} (h : (Z.of v).o = some v) : F_ratio_Good (RI v) = true := by
  unfold F_ratio_Good RI
  simp only [good_E, E_dec, gcd1 h, h]
  show (true && (true && (_ && decide (E (Z.of 1) = E (Z.of 1))))) = true
  simp only [decide_true, Bool.and_true, Bool.true_and]
  decide
theorem ofR (w : W) : F_ratio_Of w = RI w.1 := make1 ((fitW w).o (by decide))
theorem mulR {v w : Int} {k l : Nat} (hv : v.natAbs < 2 ^ k) (hw : w.natAbs < 2 ^ l) (hk : k + l ≤ 511) : F_ratio_Mul (RI v) (RI w) = RI (v * w) := by
  have ov := ofs hv (by omega); have ow := ofs hw (by omega)
  have hm : Fit (Z.mul (Z.of v) (Z.of w)) (v * w) (k + l) := Fit.mul ⟨rfl, hv⟩ ⟨rfl, hw⟩ (by omega)
  have h1 : Z.mul (Z.of 1) (Z.of 1) = Z.of 1 := (fit1.mul fit1 (by decide)).eq
  unfold F_ratio_Mul
  rw [goodR ov, goodR ow]
  show (bif (false || false) then _ else _) = _
  simp only [Bool.or_self, cond_false]
  have e1 : F_ratio_Make (RI v).n (RI w).d = RI v := make1 ov
  have e2 : F_ratio_Make (RI w).n (RI v).d = RI w := make1 ow
  rw [e1, e2]
  show (bif ((E (Z.mul (E (Z.of v)).dec (E (Z.of w)).dec)).1.bad || (E (Z.mul (E (Z.of 1)).dec (E (Z.of 1)).dec)).1.bad) then F_ratio_Bad else (⟨E (Z.mul (E (Z.of v)).dec (E (Z.of w)).dec), E (Z.mul (E (Z.of 1)).dec (E (Z.of 1)).dec)⟩ : Rt)) = _
  simp only [E_dec, h1, hm.eq, E_bad, ofs hm.lt hk]
  rfl
theorem addR {v w : Int} {k : Nat} (hv : v.natAbs < 2 ^ k) (hw : w.natAbs < 2 ^ k) (hk : k + 1 ≤ 511) : F_ratio_Add (RI v) (RI w) = RI (v + w) := by
  have ov := ofs hv (by omega); have ow := ofs hw (by omega)
  have hm : Fit (Z.add (Z.of v) (Z.of w)) (v + w) (max k k + 1) := Fit.add ⟨rfl, hv⟩ ⟨rfl, hw⟩ (by omega)
  have h1 : Z.mul (Z.of 1) (Z.of 1) = Z.of 1 := (fit1.mul fit1 (by decide)).eq
  have mv : Z.mul (Z.of v) (Z.of 1) = Z.of v := by rw [Z.mul, lift2_some ov (Z.of_some (by decide)), Int.mul_one]
  have mw : Z.mul (Z.of w) (Z.of 1) = Z.of w := by rw [Z.mul, lift2_some ow (Z.of_some (by decide)), Int.mul_one]
  unfold F_ratio_Add
  rw [goodR ov, goodR ow]
  show (bif (false || false) then _ else _) = _
  simp only [Bool.or_self, cond_false]
  show F_ratio_Make (E (Z.add (Z.mul (E (Z.of v)).dec (Z.quo (E (Z.of 1)).dec (Z.gcd (E (Z.of 1)).dec (E (Z.of 1)).dec))) (Z.mul (E (Z.of w)).dec (Z.quo (E (Z.of 1)).dec (Z.gcd (E (Z.of 1)).dec (E (Z.of 1)).dec)))))
    (E (Z.mul (Z.quo (E (Z.of 1)).dec (Z.gcd (E (Z.of 1)).dec (E (Z.of 1)).dec)) (E (Z.of 1)).dec)) = _
  have g1 : Z.gcd (Z.of 1) (Z.of 1) = Z.of 1 := gcd1 (Z.of_some (by decide))
  have q1 : Z.quo (Z.of 1) (Z.of 1) = Z.of 1 := quo1 (Z.of_some (by decide))
  simp only [E_dec, g1, q1, mv, mw, h1, hm.eq]
  exact make1 (ofs hm.lt (by omega))
theorem negR {v : Int} {k : Nat} (hv : v.natAbs < 2 ^ k) (hk : k ≤ 511) : F_ratio_Neg (RI v) = RI (-v) := by
  unfold F_ratio_Neg
  rw [goodR (ofs hv hk), cond_true]
  show (⟨E (Z.neg (E (Z.of v)).dec), E (Z.of 1)⟩ : Rt) = _
  rw [E_dec, (Fit.neg ⟨rfl, hv⟩ hk).eq]; rfl
theorem subR {v w : Int} {k : Nat} (hv : v.natAbs < 2 ^ k) (hw : w.natAbs < 2 ^ k) (hk : k + 1 ≤ 511) : F_ratio_Sub (RI v) (RI w) = RI (v - w) := by
  show F_ratio_Add (RI v) (F_ratio_Neg (RI w)) = _
  rw [negR hw (by omega), addR hv (by rw [Int.natAbs_neg]; exact hw) hk, Int.sub_eq_add_neg]
theorem mul128 (a b : W) : (a.1 * b.1).natAbs < 2 ^ 128 := ((fitW a).mul (fitW b) (by decide)).lt
theorem lift_k {v : Int} {k l : Nat} (h : v.natAbs < 2 ^ k) (hk : k ≤ l) : v.natAbs < 2 ^ l := Nat.lt_of_lt_of_le h (Nat.pow_le_pow_right (by decide) hk)
theorem ofV (a : A3 W) : F_vector_Of a = ⟨RI a.x.1, RI a.y.1, RI a.z.1⟩ := by unfold F_vector_Of; rw [ofR, ofR, ofR]
theorem innerR (a b : A3 W) : F_vector_Inner (F_vector_Of a) (F_vector_Of b) = RI (a.x.1 * b.x.1 + a.y.1 * b.y.1 + a.z.1 * b.z.1) := by
  rw [ofV, ofV]
  unfold F_vector_Inner
  have m := fun p q : W => mulR (fitW p).lt (fitW q).lt (by decide)
  have s1 : (0 + a.x.1 * b.x.1).natAbs < 2 ^ 129 := by rw [Int.zero_add]; exact lift_k (mul128 _ _) (by decide)
  have s2 : (0 + a.x.1 * b.x.1 + a.y.1 * b.y.1).natAbs < 2 ^ 130 := by have := mul128 a.y b.y; omega
  simp only [m, ofR]
  rw [addR (k := 128) (by decide) (mul128 _ _) (by decide), addR s1 (lift_k (mul128 _ _) (by decide)) (by decide), addR s2 (lift_k (mul128 _ _) (by decide)) (by decide), Int.zero_add]
theorem sideR (a b : A3 W) : F_vector_Side a (F_vector_Of b) = F_vector_Inner (F_vector_Of a) (F_vector_Of b) := rfl
theorem outerR (a b : A3 W) : F_vector_Outer (F_vector_Of a) (F_vector_Of b) = ⟨RI (a.y.1 * b.z.1 - a.z.1 * b.y.1), RI (a.z.1 * b.x.1 - a.x.1 * b.z.1), RI (a.x.1 * b.y.1 - a.y.1 * b.x.1)⟩ := by
  rw [ofV, ofV]
  unfold F_vector_Outer
  have m := fun p q : W => mulR (fitW p).lt (fitW q).lt (by decide)
  have s := fun p q r t : W => subR (mul128 p q) (mul128 r t) (by decide)
  simp only [m, s]
theorem fitc (p q r t : W) : Fit (Z.sub (Z.mul (Z.of p.1) (Z.of q.1)) (Z.mul (Z.of r.1) (Z.of t.1))) (p.1 * q.1 - r.1 * t.1) 129 := ((fitW p).mul (fitW q) (by decide)).sub ((fitW r).mul (fitW t) (by decide)) (by decide)
theorem crossW (a b : A3 W) : F_vector_Cross a b = ⟨E (Z.of (a.y.1 * b.z.1 - a.z.1 * b.y.1)), E (Z.of (a.z.1 * b.x.1 - a.x.1 * b.z.1)), E (Z.of (a.x.1 * b.y.1 - a.y.1 * b.x.1))⟩ := by
  rw [Cross_eq]
  show F_skewbackref06_CrossOf (F_skewbackref06_Wide a) (F_skewbackref06_Wide b) = _
  have e : ∀ p q r t : W, F_skewbackref06_minor (E (Z.of p.1)) (E (Z.of q.1)) (E (Z.of r.1)) (E (Z.of t.1)) = E (Z.of (p.1 * q.1 - r.1 * t.1)) := fun p q r t => by
    unfold F_skewbackref06_minor; simp only [E_dec]; rw [(fitc p q r t).eq]
  show (⟨F_skewbackref06_minor _ _ _ _, F_skewbackref06_minor _ _ _ _, F_skewbackref06_minor _ _ _ _⟩ : A3 I) = _
  simp only [e, F_skewbackref06_Wide]
theorem dotZ {x y z x' y' z' : Int} {k l : Nat} (h1 : x.natAbs < 2 ^ k) (h2 : y.natAbs < 2 ^ k) (h3 : z.natAbs < 2 ^ k) (k1 : x'.natAbs < 2 ^ l) (k2 : y'.natAbs < 2 ^ l) (k3 : z'.natAbs < 2 ^ l) (hk : k + l + 2 ≤ 511) :
    F_skewbackref06_DotOf ⟨E (Z.of x), E (Z.of y), E (Z.of z)⟩ ⟨E (Z.of x'), E (Z.of y'), E (Z.of z')⟩ = E (Z.of (x * x' + y * y' + z * z')) := by
  rw [dotof_dec]
  simp only [E_dec]
  have hx : Fit (Z.of x) x k := ⟨rfl, h1⟩; have hy : Fit (Z.of y) y k := ⟨rfl, h2⟩; have hz : Fit (Z.of z) z k := ⟨rfl, h3⟩
  have hx' : Fit (Z.of x') x' l := ⟨rfl, k1⟩; have hy' : Fit (Z.of y') y' l := ⟨rfl, k2⟩; have hz' : Fit (Z.of z') z' l := ⟨rfl, k3⟩
  have m1 := hx.mul hx' (by omega); have m2 := hy.mul hy' (by omega); have m3 := hz.mul hz' (by omega)
  exact congrArg E ((m1.add m2 (by omega)).add m3 (by rw [Nat.max_self]; omega)).eq
theorem VectorLagrange_true (a b : A3 W) : F_skewbacklaw06_VectorLagrange a b = true := by
  unfold F_skewbacklaw06_VectorLagrange
  have c1 := (fitc a.y b.z a.z b.y).lt; have c2 := (fitc a.z b.x a.x b.z).lt; have c3 := (fitc a.x b.y a.y b.x).lt
  have w := fun p : W => (fitW p).lt
  simp only [crossW, innerR, outerR, sideR, (dotW _ _).1, E_dec, F_skewbackref06_Wide, sanity06, RI]
  rw [dotZ c1 c2 c3 c1 c2 c3 (by decide), dotZ c1 c2 c3 (w _) (w _) (w _) (by decide), dotZ c1 c2 c3 (w _) (w _) (w _) (by decide)]
  have d := fun p q : A3 W => (dotW p q).2
  rw [(((d a a).mul (d b b) (by decide)).sub ((d a b).mul (d a b) (by decide)) (by decide)).eq]
  have n : ∀ p q r t : W, Z.neg (Z.of (p.1 * q.1 - r.1 * t.1)) = Z.of (-(p.1 * q.1 - r.1 * t.1)) := fun p q r t => (Fit.neg ⟨rfl, (fitc p q r t).lt⟩ (by decide)).eq
  rw [n, n, n]
  have i1 : (a.y.1 * b.z.1 - a.z.1 * b.y.1) * (a.y.1 * b.z.1 - a.z.1 * b.y.1) + (a.z.1 * b.x.1 - a.x.1 * b.z.1) * (a.z.1 * b.x.1 - a.x.1 * b.z.1) + (a.x.1 * b.y.1 - a.y.1 * b.x.1) * (a.x.1 * b.y.1 - a.y.1 * b.x.1) =
      (a.x.1 * a.x.1 + a.y.1 * a.y.1 + a.z.1 * a.z.1) * (b.x.1 * b.x.1 + b.y.1 * b.y.1 + b.z.1 * b.z.1) - (a.x.1 * b.x.1 + a.y.1 * b.y.1 + a.z.1 * b.z.1) * (a.x.1 * b.x.1 + a.y.1 * b.y.1 + a.z.1 * b.z.1) := by grind
  have i2 : (a.y.1 * b.z.1 - a.z.1 * b.y.1) * a.x.1 + (a.z.1 * b.x.1 - a.x.1 * b.z.1) * a.y.1 + (a.x.1 * b.y.1 - a.y.1 * b.x.1) * a.z.1 = 0 := by grind
  have i3 : (a.y.1 * b.z.1 - a.z.1 * b.y.1) * b.x.1 + (a.z.1 * b.x.1 - a.x.1 * b.z.1) * b.y.1 + (a.x.1 * b.y.1 - a.y.1 * b.x.1) * b.z.1 = 0 := by grind
  rw [i1, i2, i3]
  have j1 : -(b.y.1 * a.z.1 - b.z.1 * a.y.1) = a.y.1 * b.z.1 - a.z.1 * b.y.1 := by grind
  have j2 : -(b.z.1 * a.x.1 - b.x.1 * a.z.1) = a.z.1 * b.x.1 - a.x.1 * b.z.1 := by grind
  have j3 : -(b.x.1 * a.y.1 - b.y.1 * a.x.1) = a.x.1 * b.y.1 - a.y.1 * b.x.1 := by grind
  rw [j1, j2, j3]
  simp
end Go.Num
