/- Rational arithmetic at numbers, with their sizes: no result lacks digits. No program stands in it. -/
import Derived.Test.YtnfbkngfdemkpaaGreatDoorPx

import Derived.KernelRfl
set_option linter.unusedVariables false
set_option linter.unusedSimpArgs false
namespace Go.Num
open Go Go.Kn
/-- Above and below of less than k bits. -/
structure Sz (q : Rat) (k : Nat) : Prop where
  n : q.num.natAbs < 2 ^ k
  d : q.den < 2 ^ k
theorem pow_le {a b : Nat} (h : a ≤ b) : (2 : Nat) ^ a ≤ 2 ^ b := Nat.pow_le_pow_right (by decide) h
theorem B_pow' {v : Int} {k : Nat} (m : Nat) (hm : 4294967296 ^ 16 = 2 ^ m) (h : v.natAbs < 2 ^ k) (hk : k ≤ m) : B512 v := by
  unfold B512
  rw [hm]
  exact Nat.lt_of_lt_of_le h (pow_le hk)
theorem B_pow {v : Int} {k : Nat} (h : v.natAbs < 2 ^ k) (hk : k ≤ 512) : B512 v := B_pow' 512 two_512 h hk
theorem Sz.mono {q : Rat} {j k : Nat} (h : Sz q j) (hk : j ≤ k) : Sz q k := ⟨Nat.lt_of_lt_of_le h.n (pow_le hk), Nat.lt_of_lt_of_le h.d (pow_le hk)⟩
theorem Sz.bn {q : Rat} {k : Nat} (h : Sz q k) (hk : k ≤ 512) : B512 q.num := B_pow h.n hk
theorem Sz.bd {q : Rat} {k : Nat} (h : Sz q k) (hk : k ≤ 512) : B512 (q.den : Int) := B_pow (by simpa using h.d) hk
theorem pmul_lt {a b j k : Nat} (h : a < 2 ^ j) (g : b < 2 ^ k) : a * b < 2 ^ (j + k) := by
  rw [Nat.pow_add]
  exact Nat.mul_lt_mul_of_lt_of_le h (Nat.le_of_lt g) (Nat.pow_pos (by decide))
theorem Sz.mul {p q : Rat} {j k : Nat} (h : Sz p j) (g : Sz q k) : Sz (p * q) (j + k) := by
  constructor
  · rw [Rat.num_mul]
    refine Nat.lt_of_le_of_lt (Int.natAbs_ediv_le_natAbs _ _) ?_
    rw [Int.natAbs_mul]; exact pmul_lt h.n g.n
  · rw [Rat.den_mul]
    exact Nat.lt_of_le_of_lt (Nat.div_le_self _ _) (pmul_lt h.d g.d)
theorem Sz.neg {p : Rat} {k : Nat} (h : Sz p k) : Sz (-p) k := ⟨by rw [Rat.neg_num, Int.natAbs_neg]; exact h.n, h.d⟩
theorem add_num_lt {n m : Int} {d e j k : Nat} (h1 : n.natAbs < 2 ^ j) (h2 : e < 2 ^ k) (h3 : m.natAbs < 2 ^ k) (h4 : d < 2 ^ j) : (n * e + m * d).natAbs < 2 ^ (j + k + 1) := by
  have a := pmul_lt h1 h2
  have b := pmul_lt h4 h3
  have c := Int.natAbs_add_le (n * e) (m * d)
  rw [Int.natAbs_mul, Int.natAbs_mul, Int.natAbs_natCast, Int.natAbs_natCast] at c
  rw [Nat.pow_succ]
  rw [Nat.mul_comm d] at b
  omega
theorem Sz.add {p q : Rat} {j k : Nat} (h : Sz p j) (g : Sz q k) : Sz (p + q) (j + k + 1) := by
  constructor
  · rw [Rat.num_add]
    exact Nat.lt_of_le_of_lt (Int.natAbs_ediv_le_natAbs _ _) (add_num_lt h.n g.d g.n h.d)
  · rw [Rat.den_add]
    exact Nat.lt_of_le_of_lt (Nat.div_le_self _ _) (Nat.lt_of_lt_of_le (pmul_lt h.d g.d) (pow_le (by omega)))
theorem Sz.inv {p : Rat} {k : Nat} (h : Sz p k) (h0 : p ≠ 0) : Sz p⁻¹ k := by
  have hn : p.num ≠ 0 := fun h => h0 (Rat.num_eq_zero.1 h)
  constructor
  · rw [Rat.num_inv, Int.natAbs_mul, Int.natAbs_sign_of_ne_zero hn, Nat.one_mul, Int.natAbs_natCast]; exact h.d
  · rw [Rat.den_inv, if_neg hn]; exact h.n
theorem Sz.int {n : Int} {k : Nat} (h : n.natAbs < 2 ^ k) (hk : 0 < k) : Sz (n : Rat) k := ⟨h, Nat.one_lt_two_pow (by omega)⟩
/-! what the functions return -/
theorem At_of {a : Rt} {n d : Int} {q : Rat} (h : a.Is n d) (he : q.num * d = n * q.den) : a.At q := by
  obtain ⟨p, hp, h1, h2⟩ := Is_At h
  have : p = q := Rat.eq_iff_mul_eq_mul.2 (by rw [h1, h2]; exact he.symm)
  rw [← this]; exact hp
theorem At.is {a : Rt} {q : Rat} (h : a.At q) : a.Is q.num (q.den : Int) := h
theorem Make_At {n d : Int} {q : Rat} (hn : B512 n) (hd : B512 d) (hp : 0 < d) (he : q.num * d = n * q.den) : (F_skewbackref04_Make (E (Z.of n)) (E (Z.of d))).At q := by
  refine At_of (make_pos_is hn hd hp) ?_
  have g1 : ((Int.gcd n d : Nat) : Int) ∣ n := Int.gcd_dvd_left ..
  have g2 : ((Int.gcd n d : Nat) : Int) ∣ d := Int.gcd_dvd_right ..
  have p1 : 0 < ((Int.gcd n d : Nat) : Int) := by have := Int.gcd_pos_of_ne_zero_right n (show d ≠ 0 by omega); omega
  obtain ⟨x, hx⟩ := g1
  obtain ⟨y, hy⟩ := g2
  generalize ((Int.gcd n d : Nat) : Int) = G at *
  have q1 : n / G = x := by rw [hx]; exact Int.mul_ediv_cancel_left _ (by omega)
  have q2 : d / G = y := by rw [hy]; exact Int.mul_ediv_cancel_left _ (by omega)
  rw [q1, q2]
  rw [hx, hy] at he
  exact Int.eq_of_mul_eq_mul_left (show G ≠ 0 by omega) (by grind)
theorem Of_At (c : W) : (F_skewbackref04_Of c).At (c.1 : Rat) := by
  unfold F_skewbackref04_Of
  rw [one4]
  have := c.2
  unfold I64 at this
  exact Make_At (B_pow (k := 64) (by omega) (by decide)) B1 (by decide) (by simp)
theorem Neg_At {a : Rt} {p : Rat} (h : a.At p) : (F_skewbackref04_Neg a).At (-p) := Neg_is h
theorem ne_den {q : Rat} : (0 : Int) < q.den := by have := q.den_nz; omega
theorem Mul_At {a b : Rt} {p q : Rat} (ha : a.At p) (hb : b.At q) (hn : B512 (p * q).num) (hd : B512 ((p * q).den : Int)) : (F_skewbackref04_Mul a b).At (p * q) := by
  unfold F_skewbackref04_Mul
  rw [At_good ha, At_good hb]
  obtain ⟨x, y, r, s, e1, e2, b1, b2, b3, b4, h1, h2, hc, he⟩ := Mul_pair ha hb
  simp only [Bool.not_true, Bool.or_false, cond_false, e1, e2, E_dec]
  rw [mul_of b1 b3, mul_of b2 b4]
  have hps : 0 < y * s := Int.mul_pos h1 h2
  have hpq : p * q = Rat.divInt (x * r) (y * s) := by
    rw [← Rat.num_divInt_den p, ← Rat.num_divInt_den q, Rat.divInt_mul_divInt]
    exact (Rat.divInt_eq_divInt_iff (by have := @ne_den p; have := @ne_den q; exact Int.mul_ne_zero (by omega) (by omega)) (by omega)).2 (by rw [he])
  have hnum : (p * q).num = x * r := by
    rw [hpq, Rat.num_divInt, Int.gcd_comm, hc, Int.sign_eq_one_of_pos hps]; simp
  have hden : ((p * q).den : Int) = y * s := by
    rw [hpq, Rat.den_divInt, if_neg (by omega), Int.gcd_comm, hc, Nat.div_one]; omega
  rw [hnum] at hn
  rw [hden] at hd
  exact Make_At hn hd hps (by rw [hnum, hden])
theorem Mul_sz {a b : Rt} {p q : Rat} {j k : Nat} (ha : a.At p) (hb : b.At q) (hp : Sz p j) (hq : Sz q k) (h : j + k ≤ 512) : (F_skewbackref04_Mul a b).At (p * q) :=
  Mul_At ha hb ((hp.mul hq).bn h) ((hp.mul hq).bd h)
theorem Add_At {a b : Rt} {p q : Rat} {j k : Nat} (ha : a.At p) (hb : b.At q) (hp : Sz p j) (hq : Sz q k) (h : j + k + 1 ≤ 512) : (F_skewbackref04_Add a b).At (p + q) := by
  unfold F_skewbackref04_Add
  rw [At_good ha, At_good hb]
  simp only [Bool.not_true, Bool.or_false, cond_false]
  have ia := At.is ha
  have ib := At.is hb
  rw [ia.en, ia.ed, ib.en, ib.ed]
  simp only [E_dec]
  have hdp := @ne_den p
  have hdq := @ne_den q
  have hg : 0 < ((Int.gcd (p.den : Int) (q.den : Int) : Nat) : Int) := by
    have := Int.gcd_pos_of_ne_zero_right (p.den : Int) (show (q.den : Int) ≠ 0 by omega)
    omega
  have hbg := gcd_B (u := (p.den : Int)) ib.hd (by omega)
  have g1 : ((Int.gcd (p.den : Int) (q.den : Int) : Nat) : Int) ∣ (p.den : Int) := Int.gcd_dvd_left ..
  have g2 : ((Int.gcd (p.den : Int) (q.den : Int) : Nat) : Int) ∣ (q.den : Int) := Int.gcd_dvd_right ..
  rw [gcd_of ia.hd ib.hd, quo_of' ib.hd hbg hg, quo_of' ia.hd hbg hg]
  generalize ((Int.gcd (p.den : Int) (q.den : Int) : Nat) : Int) = G at *
  obtain ⟨x, hx⟩ := g1
  obtain ⟨y, hy⟩ := g2
  have q1 : (p.den : Int) / G = x := by rw [hx]; exact Int.mul_ediv_cancel_left _ (by omega)
  have q2 : (q.den : Int) / G = y := by rw [hy]; exact Int.mul_ediv_cancel_left _ (by omega)
  rw [q1, q2]
  have x0 : 0 < x := by rw [hx] at hdp; exact Int.pos_of_mul_pos_right hdp hg
  have y0 : 0 < y := by rw [hy] at hdq; exact Int.pos_of_mul_pos_right hdq hg
  have xl : x ≤ p.den := by rw [hx]; have := Int.mul_le_mul_of_nonneg_right (show (1 : Int) ≤ G by omega) (Int.le_of_lt x0); omega
  have yl : y ≤ q.den := by rw [hy]; have := Int.mul_le_mul_of_nonneg_right (show (1 : Int) ≤ G by omega) (Int.le_of_lt y0); omega
  have x1 : x.toNat < 2 ^ j := Nat.lt_of_le_of_lt (by omega) hp.d
  have y1 : y.toNat < 2 ^ k := Nat.lt_of_le_of_lt (by omega) hq.d
  have xe : x = (x.toNat : Int) := by omega
  have ye : y = (y.toNat : Int) := by omega
  have bx : B512 x := B_pow (k := j) (by rw [xe, Int.natAbs_natCast]; exact x1) (by omega)
  have by' : B512 y := B_pow (k := k) (by rw [ye, Int.natAbs_natCast]; exact y1) (by omega)
  rw [mul_of ia.hn by', mul_of ib.hn bx, mul_of bx ib.hd]
  have t1 : (p.num * y).natAbs < 2 ^ (j + k) := by rw [Int.natAbs_mul]; exact pmul_lt hp.n (by omega)
  have t2 : (q.num * x).natAbs < 2 ^ (j + k) := by rw [Int.natAbs_mul, Nat.mul_comm]; exact pmul_lt (by omega) hq.n
  have t3 : (x * (q.den : Int)).natAbs < 2 ^ (j + k) := by rw [Int.natAbs_mul]; exact pmul_lt (by omega) (by simpa using hq.d)
  rw [add_of (B_pow t1 (by omega)) (B_pow t2 (by omega))]
  have t4 : (p.num * y + q.num * x).natAbs < 2 ^ (j + k + 1) := by rw [Nat.pow_succ]; omega
  refine Make_At (B_pow t4 h) (B_pow t3 (by omega)) (Int.mul_pos x0 hdq) ?_
  have key : p + q = Rat.divInt (p.num * y + q.num * x) (x * q.den) := by
    conv => lhs; rw [← Rat.num_divInt_den p, ← Rat.num_divInt_den q, Rat.divInt_add_divInt _ _ (by omega) (by omega)]
    refine (Rat.divInt_eq_divInt_iff (Int.mul_ne_zero (by omega) (by omega)) (Int.mul_ne_zero (by omega) (by omega))).2 ?_
    rw [hx, hy]; grind
  have h3 := Rat.num_divInt_den (p + q)
  rw [key] at h3 ⊢
  have h4 := (Rat.divInt_eq_divInt_iff (by have := @ne_den (Rat.divInt (p.num * y + q.num * x) (x * q.den)); omega) (Int.mul_ne_zero (by omega) (by omega))).1 h3
  exact h4
theorem Sub_At {a b : Rt} {p q : Rat} {j k : Nat} (ha : a.At p) (hb : b.At q) (hp : Sz p j) (hq : Sz q k) (h : j + k + 1 ≤ 512) : (F_skewbackref04_Sub a b).At (p - q) := by
  unfold F_skewbackref04_Sub
  rw [Rat.sub_eq_add_neg]
  exact Add_At ha (Neg_At hb) hp hq.neg h
theorem make_neg {n d : Int} (hn : B512 n) (hd : B512 d) (hp : d < 0) : F_skewbackref04_Make (E (Z.of n)) (E (Z.of d)) = F_skewbackref04_Make (E (Z.of (-n))) (E (Z.of (-d))) := by
  have hn' : B512 (-n) := by unfold B512 at *; rw [Int.natAbs_neg]; exact hn
  have hd' : B512 (-d) := by unfold B512 at *; rw [Int.natAbs_neg]; exact hd
  rw [make_pos hn' hd' (by omega)]
  unfold F_skewbackref04_Make
  have h1 : ((Z.signW (E (Z.of d)).dec).1 == 0) = false := by rw [E_dec, signW_of hd, Int.sign_eq_neg_one_of_neg hp]; rfl
  have h2 : decide ((Z.signW (E (Z.of d)).dec).1 < 0) = true := by rw [E_dec, signW_of hd, Int.sign_eq_neg_one_of_neg hp]; rfl
  have hg : 0 < ((Int.gcd n d : Nat) : Int) := by
    have := Int.gcd_pos_of_ne_zero_right n (show d ≠ 0 by omega)
    omega
  have hb := gcd_B (u := n) hd (by omega)
  have hb' : B512 (-((Int.gcd n d : Nat) : Int)) := by unfold B512 at *; rw [Int.natAbs_neg]; exact hb
  rw [good_E hn, good_E hd, h1, h2, E_dec, E_dec, gcd_of hn hd, neg_of hb]
  simp only [Bool.not_true, Bool.or_false, cond_false, cond_true]
  rw [quo_of hn hb' (by omega), quo_of hd hb' (by omega), Int.neg_gcd, Int.gcd_neg]
  have e : ∀ u : Int, u.fdiv (-((Int.gcd n d : Nat) : Int)) = (-u) / ((Int.gcd n d : Nat) : Int) := fun u => by
    rw [← fdiv_pos hg, ← Int.neg_fdiv_neg, Int.neg_neg]
  rw [e, e]
theorem Inv_At {b : Rt} {q : Rat} (hb : b.At q) (h0 : q ≠ 0) : (F_skewbackref04_Make b.d b.n).At q⁻¹ := by
  have ib := At.is hb
  rw [ib.en, ib.ed]
  have hn : q.num ≠ 0 := fun h => h0 (Rat.num_eq_zero.1 h)
  have hd := @ne_den q
  have e1 := Rat.num_inv q
  have e2 := Rat.den_inv q
  rw [if_neg hn] at e2
  rcases Int.lt_or_gt_of_ne hn with h | h
  · rw [make_neg ib.hd ib.hn h]
    rw [Int.sign_eq_neg_one_of_neg h] at e1
    have b1 : B512 (-(q.den : Int)) := by have := ib.hd; unfold B512 at *; rw [Int.natAbs_neg]; exact this
    have b2 : B512 (-q.num) := by have := ib.hn; unfold B512 at *; rw [Int.natAbs_neg]; exact this
    have e3 : (q.num.natAbs : Int) = -q.num := by omega
    exact Make_At b1 b2 (by omega) (by rw [e1, e2, e3]; grind)
  · rw [Int.sign_eq_one_of_pos h] at e1
    have e3 : (q.num.natAbs : Int) = q.num := by omega
    exact Make_At ib.hd ib.hn h (by rw [e1, e2, e3]; grind)
theorem Div_At {a b : Rt} {p q : Rat} {j k : Nat} (ha : a.At p) (hb : b.At q) (h0 : q ≠ 0) (hp : Sz p j) (hq : Sz q k) (h : j + k ≤ 512) : (F_skewbackref04_Div a b).At (p / q) := by
  unfold F_skewbackref04_Div
  rw [At_good hb, Rat.div_def]
  exact Mul_sz ha (Inv_At hb h0) hp (hq.inv h0) h
theorem Sign_At {a : Rt} {p : Rat} (h : a.At p) : (F_skewbackref04_Sign a).1 = p.num.sign := by
  unfold F_skewbackref04_Sign
  rw [At_good h, (At.is h).en, E_dec]
  exact signW_of (At.is h).hn
theorem bits_of {v : Int} (h : B512 v) : (Z.of v).bits = bl v.natAbs := by unfold Z.bits; rw [Z.of_some h]
theorem few_At {a : Rt} {k : W} (h : F_skewbacklaw05_few a k = true) : ∃ p, a.At p ∧ Sz p k.1.toNat := by
  unfold F_skewbacklaw05_few at h
  simp only [Bool.and_eq_true, decide_eq_true_eq] at h
  obtain ⟨g, h1, h2⟩ := h
  obtain ⟨p, hp⟩ := good_At g
  refine ⟨p, hp, ?_⟩
  rw [(At.is hp).en] at h1
  rw [(At.is hp).ed] at h2
  rw [E_dec] at h1 h2
  have e1 : (Z.bitsW (Z.of p.num)).1 = ((bl p.num.natAbs : Nat) : Int) := congrArg Int.ofNat (bits_of (At.is hp).hn)
  have e2 : (Z.bitsW (Z.of (p.den : Int))).1 = ((bl p.den : Nat) : Int) := congrArg Int.ofNat (bits_of (At.is hp).hd)
  rw [e1] at h1
  rw [e2] at h2
  exact ⟨Nat.lt_of_lt_of_le (bl_lt _) (pow_le (by omega)), Nat.lt_of_lt_of_le (bl_lt _) (pow_le (by omega))⟩
end Go.Num
