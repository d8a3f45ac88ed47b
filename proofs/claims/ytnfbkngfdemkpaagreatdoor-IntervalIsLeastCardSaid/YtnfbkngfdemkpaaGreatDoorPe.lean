/- Rational numbers: the program's and the reference's functions are the same; what they compute of fractions. No program stands in it. -/
import Derived.Test.YtnfbkngfdemkpaaGreatDoorFn

set_option linter.unusedVariables false
set_option linter.unusedSimpArgs false
namespace Go.Num
open Go Go.Kn
abbrev B512 (v : Int) : Prop := v.natAbs < 4294967296 ^ 16
theorem enc_dec_I {x : I} (h : x.1.good = true) : E x.dec = x := Subtype.ext (enc_dec x.2 h)
theorem good_o {x : I} (h : x.1.good = true) : ∃ v : Int, B512 v ∧ x = E (Z.of v) := by
  have h1 := dec_good x.2 h
  refine ⟨_, x.dec.h _ h1, ?_⟩
  rw [← Z.eq_of h1]; exact (enc_dec_I h).symm
theorem good_E {v : Int} (h : B512 v) : (E (Z.of v)).1.good = true := by
  show (Z.of v).enc.good = true
  rw [Z.enc_good, Z.of_some h]; rfl
theorem bad_Ez {v : Int} (h : B512 v) : (E (Z.of v)).1.bad = false := by
  have := good_E h; unfold R.good at this; simp only [Bool.and_eq_true, Bool.not_eq_true'] at this; exact this.1
theorem bad_E0 : (E Z.bad).1.bad = true := rfl
theorem good_bad : (E Z.bad).1.good = false := rfl
theorem sign_of {v : Int} (h : B512 v) : (Z.of v).sign = v.sign := by unfold Z.sign; rw [Z.of_some h]
theorem signW_of {v : Int} (h : B512 v) : (Z.signW (Z.of v)).1 = v.sign := sign_of h
theorem gcd_of {u v : Int} (hu : B512 u) (hv : B512 v) : Z.gcd (Z.of u) (Z.of v) = Z.of (Int.gcd u v) := by rw [Z.gcd, lift2_some (Z.of_some hu) (Z.of_some hv)]
theorem quo_of {u v : Int} (hu : B512 u) (hv : B512 v) (h : v ≠ 0) : Z.quo (Z.of u) (Z.of v) = Z.of (u.fdiv v) := by rw [Z.quo, lift2_some (Z.of_some hu) (Z.of_some hv), if_neg h]
theorem mul_of {u v : Int} (hu : B512 u) (hv : B512 v) : Z.mul (Z.of u) (Z.of v) = Z.of (u * v) := by rw [Z.mul, lift2_some (Z.of_some hu) (Z.of_some hv)]
theorem add_of {u v : Int} (hu : B512 u) (hv : B512 v) : Z.add (Z.of u) (Z.of v) = Z.of (u + v) := by rw [Z.add, lift2_some (Z.of_some hu) (Z.of_some hv)]
theorem neg_of {u : Int} (hu : B512 u) : Z.neg (Z.of u) = Z.of (-u) := by rw [Z.neg, lift1_some (Z.of_some hu)]
theorem of_big {v : Int} (h : ¬ B512 v) : Z.of v = Z.bad := by unfold Z.of; rw [dif_neg h]
theorem B1 : B512 1 := by decide
theorem B0 : B512 0 := by decide
theorem gcd_B {u v : Int} (hv : B512 v) (h : v ≠ 0) : B512 (Int.gcd u v : Nat) := by
  have : Int.gcd u v ≤ v.natAbs := Nat.le_of_dvd (by omega) (Int.gcd_dvd_natAbs_right u v)
  show ((Int.gcd u v : Nat) : Int).natAbs < _
  rw [Int.natAbs_natCast]; exact Nat.lt_of_le_of_lt this hv
theorem of_inj {u v : Int} (hu : B512 u) (hv : B512 v) (h : Z.of u = Z.of v) : u = v := by
  have := congrArg Z.o h
  rw [Z.of_some hu, Z.of_some hv] at this; exact Option.some.inj this
/-- a is the fraction n / d in lowest terms. -/
structure Rt.Is (a : Rt) (n d : Int) : Prop where
  en : a.n = E (Z.of n)
  ed : a.d = E (Z.of d)
  hn : B512 n
  hd : B512 d
  pos : 0 < d
  cop : Int.gcd n d = 1
theorem Rt.ext {a b : Rt} (h : a.n = b.n) (k : a.d = b.d) : a = b := by cases a; cases b; simp_all
theorem one4 : F_skewbackref04_one = E (Z.of 1) := rfl
theorem one_r : F_ratio_one = E (Z.of 1) := rfl
theorem Bad_eq : F_ratio_Bad = F_skewbackref04_Bad := rfl
theorem good_r (a : I) : F_ratio_good a = a.1.good := rfl
theorem Good_eq (a : Rt) : F_ratio_Good a = F_skewbackref04_Good a := by
  unfold F_ratio_Good F_skewbackref04_Good
  rw [good_r, good_r, one4, one_r]
  cases a.n.1.good <;> cases a.d.1.good <;> rfl
theorem Make_eq (a b : I) : F_ratio_Make a b = F_skewbackref04_Make a b := rfl
theorem Of_eq (a : W) : F_ratio_Of a = F_skewbackref04_Of a := rfl
theorem Neg_eq (a : Rt) : F_ratio_Neg a = F_skewbackref04_Neg a := by unfold F_ratio_Neg F_skewbackref04_Neg; rw [Good_eq, Bad_eq]
theorem Add_eq (a b : Rt) : F_ratio_Add a b = F_skewbackref04_Add a b := by unfold F_ratio_Add F_skewbackref04_Add; rw [Good_eq, Good_eq, Bad_eq]; rfl
theorem Sub_eq (a b : Rt) : F_ratio_Sub a b = F_skewbackref04_Sub a b := by unfold F_ratio_Sub F_skewbackref04_Sub; rw [Neg_eq, Add_eq]
theorem E_eq1 {z : Z} (h : E z = E (Z.of 1)) : z = Z.of 1 := E_inj h
theorem Good_iff {a : Rt} : F_skewbackref04_Good a = true ↔ ∃ n d, Rt.Is a n d := by
  unfold F_skewbackref04_Good
  constructor
  · intro h
    cases gn : a.n.1.good <;> cases gd : a.d.1.good <;> simp only [gn, gd, Bool.not_true, Bool.not_false, Bool.or_true, Bool.true_or, Bool.or_false, cond_true, cond_false, Bool.false_eq_true] at h
    obtain ⟨n, hn, en⟩ := good_o gn
    obtain ⟨d, hd, ed⟩ := good_o gd
    rw [en, ed] at h
    simp only [E_dec, Bool.and_eq_true, decide_eq_true_eq, signW_of hd] at h
    obtain ⟨h1, h2⟩ := h
    have hp : 0 < d := Int.sign_pos_iff.1 h1
    rw [gcd_of hn hd, one4] at h2
    have h3 := of_inj (gcd_B hd (by omega)) B1 (E_inj h2)
    exact ⟨n, d, en, ed, hn, hd, hp, by exact_mod_cast h3⟩
  · rintro ⟨n, d, h⟩
    rw [h.en, h.ed, good_E h.hn, good_E h.hd]
    simp only [Bool.not_true, Bool.or_false, cond_false, E_dec, Bool.and_eq_true, decide_eq_true_eq, signW_of h.hd]
    refine ⟨Int.sign_pos_iff.2 h.pos, ?_⟩
    rw [gcd_of h.hn h.hd, h.cop]; rfl
theorem fdiv_one' (v : Int) : v.fdiv 1 = v := by rw [Int.fdiv_eq_ediv_of_nonneg _ (by decide)]; exact Int.ediv_one v
theorem make_is {n d : Int} (hn : B512 n) (hd : B512 d) (hp : 0 < d) (hc : Int.gcd n d = 1) : F_skewbackref04_Make (E (Z.of n)) (E (Z.of d)) = ⟨E (Z.of n), E (Z.of d)⟩ := by
  unfold F_skewbackref04_Make
  have h1 : ((Z.signW (E (Z.of d)).dec).1 == 0) = false := by rw [E_dec, signW_of hd, Int.sign_eq_one_of_pos hp]; rfl
  have h2 : decide ((Z.signW (E (Z.of d)).dec).1 < 0) = false := by rw [E_dec, signW_of hd, Int.sign_eq_one_of_pos hp]; rfl
  rw [good_E hn, good_E hd, h1, h2, E_dec, E_dec, gcd_of hn hd, hc]
  simp only [Bool.not_true, Bool.or_false, cond_false]
  rw [show ((1 : Nat) : Int) = 1 from rfl, quo_of hn B1 (by decide), quo_of hd B1 (by decide), fdiv_one', fdiv_one']
theorem make_bad1 (b : I) : F_skewbackref04_Make (E Z.bad) b = F_skewbackref04_Bad := by unfold F_skewbackref04_Make; rw [good_bad]; rfl
theorem make_bad2 (a : I) : F_skewbackref04_Make a (E Z.bad) = F_skewbackref04_Bad := by
  unfold F_skewbackref04_Make; rw [good_bad]
  cases a.1.good <;> rfl
theorem fdiv_pos {u g : Int} (hg : 0 < g) : u.fdiv g = u / g := Int.fdiv_eq_ediv_of_nonneg _ (Int.le_of_lt hg)
theorem div_B {u g : Int} (hu : B512 u) (hg : 0 < g) (hd : g ∣ u) : B512 (u / g) := by
  obtain ⟨k, rfl⟩ := hd
  rw [Int.mul_ediv_cancel_left _ (by omega)]
  refine Nat.lt_of_le_of_lt ?_ hu
  rw [Int.natAbs_mul]
  exact Nat.le_mul_of_pos_left _ (by omega)
/-- Make of a positive denominator. -/
theorem make_pos {n d : Int} (hn : B512 n) (hd : B512 d) (hp : 0 < d) :
    F_skewbackref04_Make (E (Z.of n)) (E (Z.of d)) = ⟨E (Z.of (n / (Int.gcd n d : Nat))), E (Z.of (d / (Int.gcd n d : Nat)))⟩ := by
  unfold F_skewbackref04_Make
  have h1 : ((Z.signW (E (Z.of d)).dec).1 == 0) = false := by rw [E_dec, signW_of hd, Int.sign_eq_one_of_pos hp]; rfl
  have h2 : decide ((Z.signW (E (Z.of d)).dec).1 < 0) = false := by rw [E_dec, signW_of hd, Int.sign_eq_one_of_pos hp]; rfl
  have hg : 0 < ((Int.gcd n d : Nat) : Int) := by
    have := Int.gcd_pos_of_ne_zero_right n (show d ≠ 0 by omega)
    omega
  have hb := gcd_B (u := n) hd (by omega)
  rw [good_E hn, good_E hd, h1, h2, E_dec, E_dec, gcd_of hn hd]
  simp only [Bool.not_true, Bool.or_false, cond_false]
  rw [quo_of hn hb (by omega), quo_of hd hb (by omega), fdiv_pos hg, fdiv_pos hg]
theorem make_pos_is {n d : Int} (hn : B512 n) (hd : B512 d) (hp : 0 < d) : Rt.Is (F_skewbackref04_Make (E (Z.of n)) (E (Z.of d))) (n / (Int.gcd n d : Nat)) (d / (Int.gcd n d : Nat)) := by
  have hg : 0 < ((Int.gcd n d : Nat) : Int) := by
    have := Int.gcd_pos_of_ne_zero_right n (show d ≠ 0 by omega)
    omega
  have d1 : ((Int.gcd n d : Nat) : Int) ∣ n := Int.gcd_dvd_left ..
  have d2 : ((Int.gcd n d : Nat) : Int) ∣ d := Int.gcd_dvd_right ..
  rw [make_pos hn hd hp]
  refine ⟨rfl, rfl, div_B hn hg d1, div_B hd hg d2, Int.ediv_pos_of_pos_of_dvd hp (by omega) d2, ?_⟩
  rw [Int.gcd_ediv d1 d2, Int.natAbs_natCast, Nat.div_self (by omega)]
/-- Two values of the reference's functions: bad, or a fraction. -/
theorem Mul_pair {a b : Rt} {n d m e : Int} (ha : a.Is n d) (hb : b.Is m e) :
    ∃ p q r s : Int, F_skewbackref04_Make a.n b.d = ⟨E (Z.of p), E (Z.of q)⟩ ∧ F_skewbackref04_Make b.n a.d = ⟨E (Z.of r), E (Z.of s)⟩ ∧ B512 p ∧ B512 q ∧ B512 r ∧ B512 s ∧ 0 < q ∧ 0 < s ∧ Int.gcd (p * r) (q * s) = 1 ∧ n * m * (q * s) = p * r * (d * e) := by
  have h1 := make_pos_is ha.hn hb.hd hb.pos
  have h2 := make_pos_is hb.hn ha.hd ha.pos
  have g1 : ((Int.gcd n e : Nat) : Int) ∣ n := Int.gcd_dvd_left ..
  have g2 : ((Int.gcd n e : Nat) : Int) ∣ e := Int.gcd_dvd_right ..
  have g3 : ((Int.gcd m d : Nat) : Int) ∣ m := Int.gcd_dvd_left ..
  have g4 : ((Int.gcd m d : Nat) : Int) ∣ d := Int.gcd_dvd_right ..
  refine ⟨n / (Int.gcd n e : Nat), e / (Int.gcd n e : Nat), m / (Int.gcd m d : Nat), d / (Int.gcd m d : Nat), ?_, ?_, h1.hn, h1.hd, h2.hn, h2.hd, h1.pos, h2.pos, ?_, ?_⟩
  · rw [ha.en, hb.ed]; exact Rt.ext h1.en h1.ed
  · rw [hb.en, ha.ed]; exact Rt.ext h2.en h2.ed
  · generalize hG : ((Int.gcd n e : Nat) : Int) = G at *
    generalize hH : ((Int.gcd m d : Nat) : Int) = H at *
    have c1 : Nat.Coprime (n / G).natAbs (e / G).natAbs := h1.cop
    have c2 : Nat.Coprime (m / H).natAbs (d / H).natAbs := h2.cop
    have k1 : Nat.Coprime n.natAbs d.natAbs := ha.cop
    have k2 : Nat.Coprime m.natAbs e.natAbs := hb.cop
    have d1 : (n / G).natAbs ∣ n.natAbs := Int.natAbs_dvd_natAbs.2 (Int.ediv_dvd_of_dvd g1)
    have d2 : (e / G).natAbs ∣ e.natAbs := Int.natAbs_dvd_natAbs.2 (Int.ediv_dvd_of_dvd g2)
    have d3 : (m / H).natAbs ∣ m.natAbs := Int.natAbs_dvd_natAbs.2 (Int.ediv_dvd_of_dvd g3)
    have d4 : (d / H).natAbs ∣ d.natAbs := Int.natAbs_dvd_natAbs.2 (Int.ediv_dvd_of_dvd g4)
    show Nat.gcd (n / G * (m / H)).natAbs (e / G * (d / H)).natAbs = 1
    rw [Int.natAbs_mul, Int.natAbs_mul]
    have x1 : Nat.Coprime (n / G).natAbs (d / H).natAbs := (k1.coprime_dvd_left d1).coprime_dvd_right d4
    have x2 : Nat.Coprime (m / H).natAbs (e / G).natAbs := (k2.coprime_dvd_left d3).coprime_dvd_right d2
    exact (Nat.Coprime.mul_right c1 x1).mul_left (Nat.Coprime.mul_right x2 c2)
  · obtain ⟨x, hx⟩ := g1
    obtain ⟨y, hy⟩ := g2
    obtain ⟨z, hz⟩ := g3
    obtain ⟨t, ht⟩ := g4
    have p1 : 0 < ((Int.gcd n e : Nat) : Int) := by have := Int.gcd_pos_of_ne_zero_right n (show e ≠ 0 by have := hb.pos; omega); omega
    have p2 : 0 < ((Int.gcd m d : Nat) : Int) := by have := Int.gcd_pos_of_ne_zero_right m (show d ≠ 0 by have := ha.pos; omega); omega
    generalize ((Int.gcd n e : Nat) : Int) = G at *
    generalize ((Int.gcd m d : Nat) : Int) = H at *
    have q1 : n / G = x := by rw [hx]; exact Int.mul_ediv_cancel_left _ (by omega)
    have q2 : e / G = y := by rw [hy]; exact Int.mul_ediv_cancel_left _ (by omega)
    have q3 : m / H = z := by rw [hz]; exact Int.mul_ediv_cancel_left _ (by omega)
    have q4 : d / H = t := by rw [ht]; exact Int.mul_ediv_cancel_left _ (by omega)
    rw [q1, q2, q3, q4, hx, hy, hz, ht]; grind
theorem B_one_of_pos_mul {q s : Int} (h : B512 (q * s)) (hq : 0 < q) (hs : 0 < s) : 0 < q * s := Int.mul_pos hq hs
theorem Mul_eq (a b : Rt) : F_ratio_Mul a b = F_skewbackref04_Mul a b := by
  unfold F_ratio_Mul F_skewbackref04_Mul
  rw [Good_eq, Good_eq, Bad_eq, Make_eq, Make_eq]
  cases hga : F_skewbackref04_Good a <;> cases hgb : F_skewbackref04_Good b <;> simp only [Bool.not_true, Bool.not_false, Bool.or_true, Bool.true_or, Bool.or_false, cond_true, cond_false]
  obtain ⟨n, d, ha⟩ := Good_iff.1 hga
  obtain ⟨m, e, hb⟩ := Good_iff.1 hgb
  obtain ⟨p, q, r, s, e1, e2, hp, hq, hr, hs, q0, s0, hc, _⟩ := Mul_pair ha hb
  rw [e1, e2]
  simp only [E_dec, mul_of hp hr, mul_of hq hs]
  by_cases b1 : B512 (p * r)
  · by_cases b2 : B512 (q * s)
    · rw [make_is b1 b2 (Int.mul_pos q0 s0) hc, bad_Ez b1, bad_Ez b2]; rfl
    · rw [of_big b2, make_bad2, bad_E0, Bool.or_true]; rfl
  · rw [of_big b1, make_bad1]; rfl
end Go.Num
