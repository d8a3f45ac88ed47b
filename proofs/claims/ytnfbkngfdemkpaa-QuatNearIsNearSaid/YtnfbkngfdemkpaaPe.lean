/- Rational numbers: the program's and the reference's functions are the same; what they compute of fractions. No program stands in it. -/
import Derived.Test.YtnfbkngfdemkpaaFn

set_option linter.unusedVariables false
set_option linter.unusedSimpArgs false
namespace Go.Num
open Go Go.Kn
abbrev B512 (v : Int) : Prop := v.natAbs < 4294967296 ^ 16
theorem enc_dec_I {x : I} (h : x.1.good = true) : E x.dec = x := Subtype.ext (enc_dec x.2 h)
theorem good_o {x : I} (h : x.1.good = true) : ∃ v : Int, B512 v ∧ x = E (Z.of v) := by
  have h1 := dec_good x.2 h
  refine ⟨_, x.dec.h _ h1, ?_⟩
  rw [← Z.eq_of h1]; exact (enc_dec_I h).symm
theorem good_E {v : Int} (h : B512 v) : (E (Z.of v)).1.good = true := by
  show (Z.of v).enc.good = true
  rw [Z.enc_good, Z.of_some h]; rfl
theorem bad_Ez {v : Int} (h : B512 v) : (E (Z.of v)).1.bad = false := by
  have := good_E h; unfold R.good at this; simp only [Bool.and_eq_true, Bool.not_eq_true'] at this; exact this.1
theorem bad_E0 : (E Z.bad).1.bad = true := rfl
theorem good_bad : (E Z.bad).1.good = false := rfl
theorem sign_of {v : Int} (h : B512 v) : (Z.of v).sign = v.sign := by unfold Z.sign; rw [Z.of_some h]
theorem signW_of {v : Int} (h : B512 v) : (Z.signW (Z.of v)).1 = v.sign := sign_of h
theorem gcd_of {u v : Int} (hu : B512 u) (hv : B512 v) : Z.gcd (Z.of u) (Z.of v) = Z.of (Int.gcd u v) := by rw [Z.gcd, lift2_some (Z.of_some hu) (Z.of_some hv)]
theorem quo_of {u v : Int} (hu : B512 u) (hv : B512 v) (h : v ≠ 0) : Z.quo (Z.of u) (Z.of v) = Z.of (u.fdiv v) := by rw [Z.quo, lift2_some (Z.of_some hu) (Z.of_some hv), if_neg h]
theorem mul_of {u v : Int} (hu : B512 u) (hv : B512 v) : Z.mul (Z.of u) (Z.of v) = Z.of (u * v) := by rw [Z.mul, lift2_some (Z.of_some hu) (Z.of_some hv)]
theorem add_of {u v : Int} (hu : B512 u) (hv : B512 v) : Z.add (Z.of u) (Z.of v) = Z.of (u + v) := by rw [Z.add, lift2_some (Z.of_some hu) (Z.of_some hv)]
theorem neg_of {u : Int} (hu : B512 u) : Z.neg (Z.of u) = Z.of (-u) := by rw [Z.neg, lift1_some (Z.of_some hu)]
theorem of_big {v : Int} (h : ¬ B512 v) : Z.of v = Z.bad := by unfold Z.of; rw [dif_neg h]
theorem B1 : B512 1 := by decide
theorem B0 : B512 0 := by decide
theorem gcd_B {u v : Int} (hv : B512 v) (h : v ≠ 0) : B512 (Int.gcd u v : Nat) := by
  have : Int.gcd u v ≤ v.natAbs := Nat.le_of_dvd (by omega) (Int.gcd_dvd_natAbs_right u v)
  show ((Int.gcd u v : Nat) : Int).natAbs < _
  rw [Int.natAbs_natCast]; exact Nat.lt_of_le_of_lt this hv
theorem of_inj {u v : Int} (hu : B512 u) (hv : B512 v) (h : Z.of u = Z.of v) : u = v := by
  have := congrArg Z.o h
  rw [Z.of_some hu, Z.of_some hv] at this; exact Option.some.inj this
/-- a is the fraction n / d in lowest terms. -/
structure Rt.Is (a : Rt) (n d : Int) : Prop where
  en : a.n = E (Z.of n)
  ed : a.d = E (Z.of d)
  hn : B512 n
  hd : B512 d
  pos : 0 < d
  cop : Int.gcd n d = 1
theorem Rt.ext {a b : Rt} (h : a.n = b.n) (k : a.d = b.d) : a = b := by cases a; cases b; simp_all
theorem one_r : F_ratio_one = E (Z.of 1) := rfl
theorem good_r (a : I) : F_ratio_good a = a.1.good := rfl
theorem E_eq1 {z : Z} (h : E z = E (Z.of 1)) : z = Z.of 1 := E_inj h
theorem fdiv_one' (v : Int) : v.fdiv 1 = v := by rw [Int.fdiv_eq_ediv_of_nonneg _ (by decide)]; exact Int.ediv_one v
theorem fdiv_pos {u g : Int} (hg : 0 < g) : u.fdiv g = u / g := Int.fdiv_eq_ediv_of_nonneg _ (Int.le_of_lt hg)
theorem div_B {u g : Int} (hu : B512 u) (hg : 0 < g) (hd : g ∣ u) : B512 (u / g) := by
  obtain ⟨k, rfl⟩ := hd
  rw [Int.mul_ediv_cancel_left _ (by omega)]
  refine Nat.lt_of_le_of_lt ?_ hu
  rw [Int.natAbs_mul]
  exact Nat.le_mul_of_pos_left _ (by omega)
theorem B_one_of_pos_mul {q s : Int} (h : B512 (q * s)) (hq : 0 < q) (hs : 0 < s) : 0 < q * s := Int.mul_pos hq hs
end Go.Num
