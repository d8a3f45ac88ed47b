/- Intervals: products, quotients, powers, hulls, what is in two of them. No program stands in it. Intervals as intervals of rational numbers: what they share, hulls, order; the statement on sets. No program stands in it. Rational arithmetic at numbers, with their sizes: no result lacks digits. No program stands in it. Rational arithmetic at numbers, with the sizes above and below apart. No program stands in it. Cones: tangents, slopes and vectors at numbers. No program stands in it. Cones: the program returns what the specification defines; three statements. No program stands in it. -/
import Derived.Test.YtapbefpeopaecaaGreatDoorUPQ
import Derived.KernelRfl

set_option linter.unusedVariables false
set_option linter.unusedSimpArgs false
namespace Go.Num
open Go Go.Kn
/-- The number that a fraction is. -/
def Rt.At (a : Rt) (q : Rat) : Prop := a.Is q.num (q.den : Int)
theorem Is_At {a : Rt} {n d : Int} (h : a.Is n d) : ∃ q : Rat, a.At q ∧ q.num = n ∧ (q.den : Int) = d := by
  have hd : (d.toNat : Int) = d := Int.toNat_of_nonneg (Int.le_of_lt h.pos)
  have hc : n.natAbs.Coprime d.toNat := by
    have := h.cop
    unfold Int.gcd at this
    rw [show d.natAbs = d.toNat by omega] at this
    exact this
  refine ⟨⟨n, d.toNat, by have := h.pos; omega, hc⟩, ?_, rfl, hd⟩
  show a.Is n (d.toNat : Int)
  rw [hd]; exact h
theorem g5_ {a : Rt} {q : Rat} (h : a.At q) : ai_ a = true := gW_ h
theorem rl_ {a b : Rt} {p q : Rat} (ha : a.At p) (hb : b.At q) : (cc_ a b).1 = (p.num * q.den - q.num * p.den).sign := rV_ ha hb
theorem rW_ {a b : Rt} {p q : Rat} (ha : a.At p) (hb : b.At q) : (cc_ a b).1 ≤ 0 ↔ p ≤ q := by
  rw [rl_ ha hb, nT_, Rat.le_iff]; omega
/-- An interval from p to q. -/
structure Iv.At (a : Iv) (p q : Rat) : Prop where
  lo : a.lo.At p
  hi : a.hi.At q
  le : p ≤ q
end Go.Num

set_option linter.unusedVariables false
set_option linter.unusedSimpArgs false
namespace Go.Num
open Go Go.Kn
end Go.Num

set_option linter.unusedVariables false
set_option linter.unusedSimpArgs false
namespace Go.Num
open Go Go.Kn
/-- Above and below of less than k bits. -/
structure Sz (q : Rat) (k : Nat) : Prop where
  n : q.num.natAbs < 2 ^ k
  d : q.den < 2 ^ k
theorem e0_ {a b : Nat} (h : a ≤ b) : (2 : Nat) ^ a ≤ 2 ^ b := Nat.pow_le_pow_right (by decide) h
theorem q0_ {v : Int} {k : Nat} (m : Nat) (hm : 4294967296 ^ 16 = 2 ^ m) (h : v.natAbs < 2 ^ k) (hk : k ≤ m) : B512 v := by
  unfold B512
  rw [hm]
  exact Nat.lt_of_lt_of_le h (e0_ hk)
theorem B_pow {v : Int} {k : Nat} (h : v.natAbs < 2 ^ k) (hk : k ≤ 512) : B512 v := q0_ 512 hO_ h hk
theorem Sz.mono {q : Rat} {j k : Nat} (h : Sz q j) (hk : j ≤ k) : Sz q k := ⟨Nat.lt_of_lt_of_le h.n (e0_ hk), Nat.lt_of_lt_of_le h.d (e0_ hk)⟩
theorem Sz.bn {q : Rat} {k : Nat} (h : Sz q k) (hk : k ≤ 512) : B512 q.num := B_pow h.n hk
theorem Sz.bd {q : Rat} {k : Nat} (h : Sz q k) (hk : k ≤ 512) : B512 (q.den : Int) := B_pow (by simpa using h.d) hk
theorem dq_ {a b j k : Nat} (h : a < 2 ^ j) (g : b < 2 ^ k) : a * b < 2 ^ (j + k) := by
  rw [Nat.pow_add]
  exact Nat.mul_lt_mul_of_lt_of_le h (Nat.le_of_lt g) (Nat.pow_pos (by decide))
theorem Sz.mul {p q : Rat} {j k : Nat} (h : Sz p j) (g : Sz q k) : Sz (p * q) (j + k) := by
  constructor
  · rw [Rat.num_mul]
    refine Nat.lt_of_le_of_lt (Int.natAbs_ediv_le_natAbs _ _) ?_
    rw [Int.natAbs_mul]; exact dq_ h.n g.n
  · rw [Rat.den_mul]
    exact Nat.lt_of_le_of_lt (Nat.div_le_self _ _) (dq_ h.d g.d)
theorem Sz.neg {p : Rat} {k : Nat} (h : Sz p k) : Sz (-p) k := ⟨by rw [Rat.neg_num, Int.natAbs_neg]; exact h.n, h.d⟩
theorem lS_ {n m : Int} {d e j k : Nat} (h1 : n.natAbs < 2 ^ j) (h2 : e < 2 ^ k) (h3 : m.natAbs < 2 ^ k) (h4 : d < 2 ^ j) : (n * e + m * d).natAbs < 2 ^ (j + k + 1) := by
  have a := dq_ h1 h2
  have b := dq_ h4 h3
  have c := Int.natAbs_add_le (n * e) (m * d)
  rw [Int.natAbs_mul, Int.natAbs_mul, Int.natAbs_natCast, Int.natAbs_natCast] at c
  rw [Nat.pow_succ]
  rw [Nat.mul_comm d] at b
  omega
theorem Sz.add {p q : Rat} {j k : Nat} (h : Sz p j) (g : Sz q k) : Sz (p + q) (j + k + 1) := by
  constructor
  · rw [Rat.num_add]
    exact Nat.lt_of_le_of_lt (Int.natAbs_ediv_le_natAbs _ _) (lS_ h.n g.d g.n h.d)
  · rw [Rat.den_add]
    exact Nat.lt_of_le_of_lt (Nat.div_le_self _ _) (Nat.lt_of_lt_of_le (dq_ h.d g.d) (e0_ (by omega)))
theorem Sz.inv {p : Rat} {k : Nat} (h : Sz p k) (h0 : p ≠ 0) : Sz p⁻¹ k := by
  have hn : p.num ≠ 0 := fun h => h0 (Rat.num_eq_zero.1 h)
  constructor
  · rw [Rat.num_inv, Int.natAbs_mul, Int.natAbs_sign_of_ne_zero hn, Nat.one_mul, Int.natAbs_natCast]; exact h.d
  · rw [Rat.den_inv, if_neg hn]; exact h.n
theorem Sz.int {n : Int} {k : Nat} (h : n.natAbs < 2 ^ k) (hk : 0 < k) : Sz (n : Rat) k := ⟨h, Nat.one_lt_two_pow (by omega)⟩
theorem At_of {a : Rt} {n d : Int} {q : Rat} (h : a.Is n d) (he : q.num * d = n * q.den) : a.At q := by
  obtain ⟨p, hp, h1, h2⟩ := Is_At h
  have : p = q := Rat.eq_iff_mul_eq_mul.2 (by rw [h1, h2]; exact he.symm)
  rw [← this]; exact hp
theorem At.is {a : Rt} {q : Rat} (h : a.At q) : a.Is q.num (q.den : Int) := h
theorem gn_ {n d : Int} {q : Rat} (hn : B512 n) (hd : B512 d) (hp : 0 < d) (he : q.num * d = n * q.den) : (ae_ (E (Z.of n)) (E (Z.of d))).At q := by
  refine At_of (gu_ hn hd hp) ?_
  have g1 : ((Int.gcd n d : Nat) : Int) ∣ n := Int.gcd_dvd_left ..
  have g2 : ((Int.gcd n d : Nat) : Int) ∣ d := Int.gcd_dvd_right ..
  have p1 : 0 < ((Int.gcd n d : Nat) : Int) := by have := Int.gcd_pos_of_ne_zero_right n (show d ≠ 0 by omega); omega
  obtain ⟨x, hx⟩ := g1
  obtain ⟨y, hy⟩ := g2
  generalize ((Int.gcd n d : Nat) : Int) = G at *
  have q1 : n / G = x := by rw [hx]; exact Int.mul_ediv_cancel_left _ (by omega)
  have q2 : d / G = y := by rw [hy]; exact Int.mul_ediv_cancel_left _ (by omega)
  rw [q1, q2]
  rw [hx, hy] at he
  exact Int.eq_of_mul_eq_mul_left (show G ≠ 0 by omega) (by grind)
theorem Of_At (c : W) : (af_ c).At (c.1 : Rat) := by
  unfold af_
  rw [one4]
  have := c.2
  unfold I64 at this
  exact gn_ (B_pow (k := 64) (by omega) (by decide)) B1 (by decide) (by simp)
theorem rS_ {a : Rt} {p : Rat} (h : a.At p) : (a6_ a).At (-p) := kY_ h
theorem hL_ {q : Rat} : (0 : Int) < q.den := by have := q.den_nz; omega
theorem rh_ {a b : Rt} {p q : Rat} (ha : a.At p) (hb : b.At q) (hn : B512 (p * q).num) (hd : B512 ((p * q).den : Int)) : (ag_ a b).At (p * q) := by
  unfold ag_
  rw [g5_ ha, g5_ hb]
  obtain ⟨x, y, r, s, e1, e2, b1, b2, b3, b4, h1, h2, hc, he⟩ := iT_ ha hb
  simp only [Bool.not_true, Bool.or_false, cond_false, e1, e2, E_dec]
  rw [e4_ b1 b3, e4_ b2 b4]
  have hps : 0 < y * s := Int.mul_pos h1 h2
  have hpq : p * q = Rat.divInt (x * r) (y * s) := by
    rw [← Rat.num_divInt_den p, ← Rat.num_divInt_den q, Rat.divInt_mul_divInt]
    exact (Rat.divInt_eq_divInt_iff (by have := @hL_ p; have := @hL_ q; exact Int.mul_ne_zero (by omega) (by omega)) (by omega)).2 (by rw [he])
  have hnum : (p * q).num = x * r := by
    rw [hpq, Rat.num_divInt, Int.gcd_comm, hc, Int.sign_eq_one_of_pos hps]; simp
  have hden : ((p * q).den : Int) = y * s := by
    rw [hpq, Rat.den_divInt, if_neg (by omega), Int.gcd_comm, hc, Nat.div_one]; omega
  rw [hnum] at hn
  rw [hden] at hd
  exact gn_ hn hd hps (by rw [hnum, hden])
theorem nN_ {n d : Int} (hn : B512 n) (hd : B512 d) (hp : d < 0) : ae_ (E (Z.of n)) (E (Z.of d)) = ae_ (E (Z.of (-n))) (E (Z.of (-d))) := by
  have hn' : B512 (-n) := by unfold B512 at *; rw [Int.natAbs_neg]; exact hn
  have hd' : B512 (-d) := by unfold B512 at *; rw [Int.natAbs_neg]; exact hd
  rw [kH_ hn' hd' (by omega)]
  unfold ae_
  have h1 : ((Z.signW (E (Z.of d)).dec).1 == 0) = false := by rw [E_dec, dF_ hd, Int.sign_eq_neg_one_of_neg hp]; rfl
  have h2 : decide ((Z.signW (E (Z.of d)).dec).1 < 0) = true := by rw [E_dec, dF_ hd, Int.sign_eq_neg_one_of_neg hp]; rfl
  have hg : 0 < ((Int.gcd n d : Nat) : Int) := by
    have := Int.gcd_pos_of_ne_zero_right n (show d ≠ 0 by omega)
    omega
  have hb := gcd_B (u := n) hd (by omega)
  have hb' : B512 (-((Int.gcd n d : Nat) : Int)) := by unfold B512 at *; rw [Int.natAbs_neg]; exact hb
  rw [gy_ hn, gy_ hd, h1, h2, E_dec, E_dec, gi_ hn hd, oJ_ hb]
  simp only [Bool.not_true, Bool.or_false, cond_false, cond_true]
  rw [gK_ hn hb' (by omega), gK_ hd hb' (by omega), Int.neg_gcd, Int.gcd_neg]
  have e : ∀ u : Int, u.fdiv (-((Int.gcd n d : Nat) : Int)) = (-u) / ((Int.gcd n d : Nat) : Int) := fun u => by
    rw [← ht_ hg, ← Int.neg_fdiv_neg, Int.neg_neg]
  rw [e, e]
theorem rR_ {b : Rt} {q : Rat} (hb : b.At q) (h0 : q ≠ 0) : (ae_ b.d b.n).At q⁻¹ := by
  have ib := At.is hb
  rw [ib.en, ib.ed]
  have hn : q.num ≠ 0 := fun h => h0 (Rat.num_eq_zero.1 h)
  have hd := @hL_ q
  have e1 := Rat.num_inv q
  have e2 := Rat.den_inv q
  rw [if_neg hn] at e2
  rcases Int.lt_or_gt_of_ne hn with h | h
  · rw [nN_ ib.hd ib.hn h]
    rw [Int.sign_eq_neg_one_of_neg h] at e1
    have b1 : B512 (-(q.den : Int)) := by have := ib.hd; unfold B512 at *; rw [Int.natAbs_neg]; exact this
    have b2 : B512 (-q.num) := by have := ib.hn; unfold B512 at *; rw [Int.natAbs_neg]; exact this
    have e3 : (q.num.natAbs : Int) = -q.num := by omega
    exact gn_ b1 b2 (by omega) (by rw [e1, e2, e3]; grind)
  · rw [Int.sign_eq_one_of_pos h] at e1
    have e3 : (q.num.natAbs : Int) = q.num := by omega
    exact gn_ ib.hd ib.hn h (by rw [e1, e2, e3]; grind)
theorem iS_ {a : Rt} {p : Rat} (h : a.At p) : (aX_ a).1 = p.num.sign := by
  unfold aX_
  rw [g5_ h, (At.is h).en, E_dec]
  exact dF_ (At.is h).hn
end Go.Num


set_option linter.unusedVariables false
set_option linter.unusedSimpArgs false
namespace Go.Num
open Go Go.Kn
/-- Above of less than a bits, below of less than b bits. -/
structure Az (q : Rat) (a b : Nat) : Prop where
  n : q.num.natAbs < 2 ^ a
  d : q.den < 2 ^ b
theorem Sz.az {q : Rat} {k : Nat} (h : Sz q k) : Az q k k := ⟨h.n, h.d⟩
theorem Az.sz {q : Rat} {a b k : Nat} (h : Az q a b) (h1 : a ≤ k) (h2 : b ≤ k) : Sz q k := ⟨Nat.lt_of_lt_of_le h.n (e0_ h1), Nat.lt_of_lt_of_le h.d (e0_ h2)⟩
section
variable {p q : Rat} {a b a' b' : Nat}
theorem Az.mono (h : Az q a b) (h1 : a ≤ a') (h2 : b ≤ b') : Az q a' b' := ⟨Nat.lt_of_lt_of_le h.n (e0_ h1), Nat.lt_of_lt_of_le h.d (e0_ h2)⟩
theorem Az.bn (h : Az q a b) (hk : a ≤ 512) : B512 q.num := B_pow h.n hk
theorem Az.bd (h : Az q a b) (hk : b ≤ 512) : B512 (q.den : Int) := B_pow (by simpa using h.d) hk
theorem mv_ {q : Rat} {n d : Int} (h : (n : Rat) = (d : Rat) * q) : q.num * d = n * q.den := by
  have h1 := Rat.num_divInt_den q
  have hd := @hL_ q
  by_cases h0 : d = 0
  · subst h0
    have : n = 0 := Rat.intCast_eq_zero_iff.1 (by rw [h]; exact Rat.zero_mul _)
    rw [this]; omega
  · have e : q = Rat.divInt n d := by
      rw [Rat.divInt_eq_div, h, Rat.div_def, Rat.mul_comm, ← Rat.mul_assoc, Rat.inv_mul_cancel _ (fun e => h0 (Rat.intCast_eq_zero_iff.1 e)), Rat.one_mul]
    rw [e] at h1
    conv at h1 => lhs; rw [← e]
    exact (Rat.divInt_eq_divInt_iff (by omega) h0).1 h1
theorem Az_of {n d : Int} (h : (n : Rat) = (d : Rat) * q) (h0 : 0 < d) (hn : n.natAbs < 2 ^ a) (hd : d.natAbs < 2 ^ b) : Az q a b := by
  have e := congrArg Int.natAbs (mv_ h)
  rw [Int.natAbs_mul, Int.natAbs_mul, Int.natAbs_natCast] at e
  have hr := q.reduced
  have k1 : q.den ∣ d.natAbs := (Nat.Coprime.symm hr).dvd_of_dvd_mul_left (by rw [e]; exact Nat.dvd_mul_left ..)
  have k2 : q.num.natAbs ∣ n.natAbs := Nat.Coprime.dvd_of_dvd_mul_right hr (by rw [← e]; exact Nat.dvd_mul_right ..)
  refine ⟨?_, Nat.lt_of_le_of_lt (Nat.le_of_dvd (by omega) k1) hd⟩
  by_cases hz : n.natAbs = 0
  · rw [hz, Nat.zero_mul] at e
    rcases Nat.mul_eq_zero.1 e with h1 | h1
    · rw [h1]; exact Nat.pow_pos (by decide)
    · omega
  · exact Nat.lt_of_le_of_lt (Nat.le_of_dvd (by omega) k2) hn
theorem Az.mul (h : Az p a b) (g : Az q a' b') : Az (p * q) (a + a') (b + b') := by
  constructor
  · rw [Rat.num_mul]
    refine Nat.lt_of_le_of_lt (Int.natAbs_ediv_le_natAbs _ _) ?_
    rw [Int.natAbs_mul]; exact dq_ h.n g.n
  · rw [Rat.den_mul]
    exact Nat.lt_of_le_of_lt (Nat.div_le_self _ _) (dq_ h.d g.d)
theorem Az.neg (h : Az p a b) : Az (-p) a b := ⟨by rw [Rat.neg_num, Int.natAbs_neg]; exact h.n, h.d⟩
theorem kb_ {n m : Int} {d e c : Nat} (h1 : n.natAbs < 2 ^ a) (h2 : e < 2 ^ b') (h3 : m.natAbs < 2 ^ a') (h4 : d < 2 ^ b) (k1 : a + b' < c) (k2 : a' + b < c) : (n * e + m * d).natAbs < 2 ^ c := by
  obtain ⟨c, rfl⟩ : ∃ k, c = k + 1 := ⟨c - 1, by omega⟩
  have x := Nat.lt_of_lt_of_le (dq_ h1 h2) (e0_ (show a + b' ≤ c by omega))
  have y := Nat.lt_of_lt_of_le (dq_ h3 h4) (e0_ (show a' + b ≤ c by omega))
  have z := Int.natAbs_add_le (n * e) (m * d)
  rw [Int.natAbs_mul, Int.natAbs_mul, Int.natAbs_natCast, Int.natAbs_natCast] at z
  rw [Nat.pow_succ]
  omega
theorem Az.add {c : Nat} (h : Az p a b) (g : Az q a' b') (k1 : a + b' < c) (k2 : a' + b < c) : Az (p + q) c (b + b') := by
  constructor
  · rw [Rat.num_add]
    exact Nat.lt_of_le_of_lt (Int.natAbs_ediv_le_natAbs _ _) (kb_ h.n g.d g.n h.d k1 k2)
  · rw [Rat.den_add]
    exact Nat.lt_of_le_of_lt (Nat.div_le_self _ _) (dq_ h.d g.d)
theorem Az.sub {c : Nat} (h : Az p a b) (g : Az q a' b') (k1 : a + b' < c) (k2 : a' + b < c) : Az (p - q) c (b + b') := by rw [Rat.sub_eq_add_neg]; exact h.add g.neg k1 k2
theorem Az.inv (h : Az p a b) (h0 : p ≠ 0) : Az p⁻¹ b a := by
  have hn : p.num ≠ 0 := fun h => h0 (Rat.num_eq_zero.1 h)
  constructor
  · rw [Rat.num_inv, Int.natAbs_mul, Int.natAbs_sign_of_ne_zero hn, Nat.one_mul, Int.natAbs_natCast]; exact h.d
  · rw [Rat.den_inv, if_neg hn]; exact h.n
theorem Az.div (h : Az p a b) (g : Az q a' b') (h0 : q ≠ 0) : Az (p / q) (a + b') (b + a') := by rw [Rat.div_def]; exact h.mul (g.inv h0)
theorem Az.int {n : Int} (h : n.natAbs < 2 ^ a) : Az (n : Rat) a 1 := ⟨h, (by show 1 < 2 ^ 1; decide)⟩
theorem eY_ {x y : Rt} (hx : x.At p) (hy : y.At q) (hp : Az p a b) (hq : Az q a' b') (h : a + a' ≤ 512) (h' : b + b' ≤ 512) : (ag_ x y).At (p * q) :=
  rh_ hx hy ((hp.mul hq).bn h) ((hp.mul hq).bd h')
theorem o3_ {x y : Rt} (hx : x.At p) (hy : y.At q) (h0 : q ≠ 0) (hp : Az p a b) (hq : Az q a' b') (h : a + b' ≤ 512) (h' : b + a' ≤ 512) : (bW_ x y).At (p / q) := by
  unfold bW_
  rw [g5_ hy, Rat.div_def]
  exact eY_ hx (rR_ hy h0) hp (hq.inv h0) h h'
theorem gw_ {x' y' : Rt} (ha : x'.At p) (hb : y'.At q) (hp : Az p a b) (hq : Az q a' b') (h1 : a + b' < 512) (h2 : a' + b < 512) (h3 : b + b' ≤ 512) : (ak_ x' y').At (p + q) := by
  unfold ak_
  rw [g5_ ha, g5_ hb]
  simp only [Bool.not_true, Bool.or_false, cond_false]
  have ia := At.is ha
  have ib := At.is hb
  rw [ia.en, ia.ed, ib.en, ib.ed]
  simp only [E_dec]
  have hdp := @hL_ p
  have hdq := @hL_ q
  have hg : 0 < ((Int.gcd (p.den : Int) (q.den : Int) : Nat) : Int) := by
    have := Int.gcd_pos_of_ne_zero_right (p.den : Int) (show (q.den : Int) ≠ 0 by omega)
    omega
  have hbg := gcd_B (u := (p.den : Int)) ib.hd (by omega)
  have g1 : ((Int.gcd (p.den : Int) (q.den : Int) : Nat) : Int) ∣ (p.den : Int) := Int.gcd_dvd_left ..
  have g2 : ((Int.gcd (p.den : Int) (q.den : Int) : Nat) : Int) ∣ (q.den : Int) := Int.gcd_dvd_right ..
  rw [gi_ ia.hd ib.hd, g0_ ib.hd hbg hg, g0_ ia.hd hbg hg]
  generalize ((Int.gcd (p.den : Int) (q.den : Int) : Nat) : Int) = G at *
  obtain ⟨x, hx⟩ := g1
  obtain ⟨y, hy⟩ := g2
  have q1 : (p.den : Int) / G = x := by rw [hx]; exact Int.mul_ediv_cancel_left _ (by omega)
  have q2 : (q.den : Int) / G = y := by rw [hy]; exact Int.mul_ediv_cancel_left _ (by omega)
  rw [q1, q2]
  have x0 : 0 < x := by rw [hx] at hdp; exact Int.pos_of_mul_pos_right hdp hg
  have y0 : 0 < y := by rw [hy] at hdq; exact Int.pos_of_mul_pos_right hdq hg
  have xl : x ≤ p.den := by rw [hx]; have := Int.mul_le_mul_of_nonneg_right (show (1 : Int) ≤ G by omega) (Int.le_of_lt x0); omega
  have yl : y ≤ q.den := by rw [hy]; have := Int.mul_le_mul_of_nonneg_right (show (1 : Int) ≤ G by omega) (Int.le_of_lt y0); omega
  have x1 : x.toNat < 2 ^ b := Nat.lt_of_le_of_lt (by omega) hp.d
  have y1 : y.toNat < 2 ^ b' := Nat.lt_of_le_of_lt (by omega) hq.d
  have xe : x = (x.toNat : Int) := by omega
  have ye : y = (y.toNat : Int) := by omega
  have bx : B512 x := B_pow (k := b) (by rw [xe, Int.natAbs_natCast]; exact x1) (by omega)
  have by' : B512 y := B_pow (k := b') (by rw [ye, Int.natAbs_natCast]; exact y1) (by omega)
  rw [e4_ ia.hn by', e4_ ib.hn bx, e4_ bx ib.hd]
  have t1 : (p.num * y).natAbs < 2 ^ (a + b') := by rw [Int.natAbs_mul]; exact dq_ hp.n (by omega)
  have t2 : (q.num * x).natAbs < 2 ^ (a' + b) := by rw [Int.natAbs_mul]; exact dq_ hq.n (by omega)
  have t3 : (x * (q.den : Int)).natAbs < 2 ^ (b + b') := by rw [Int.natAbs_mul]; exact dq_ (by omega) (by simpa using hq.d)
  rw [o2_ (B_pow t1 (by omega)) (B_pow t2 (by omega))]
  have t4 : (p.num * y + q.num * x).natAbs < 2 ^ (max (a + b') (a' + b) + 1) := by
    have u1 := Nat.lt_of_lt_of_le t1 (e0_ (show a + b' ≤ max (a + b') (a' + b) by omega))
    have u2 := Nat.lt_of_lt_of_le t2 (e0_ (show a' + b ≤ max (a + b') (a' + b) by omega))
    rw [Nat.pow_succ]; omega
  refine gn_ (B_pow t4 (by omega)) (B_pow t3 h3) (Int.mul_pos x0 hdq) ?_
  have key : p + q = Rat.divInt (p.num * y + q.num * x) (x * q.den) := by
    conv => lhs; rw [← Rat.num_divInt_den p, ← Rat.num_divInt_den q, Rat.divInt_add_divInt _ _ (by omega) (by omega)]
    refine (Rat.divInt_eq_divInt_iff (Int.mul_ne_zero (by omega) (by omega)) (Int.mul_ne_zero (by omega) (by omega))).2 ?_
    rw [hx, hy]; grind
  have h3 := Rat.num_divInt_den (p + q)
  rw [key] at h3 ⊢
  have h4 := (Rat.divInt_eq_divInt_iff (by have := @hL_ (Rat.divInt (p.num * y + q.num * x) (x * q.den)); omega) (Int.mul_ne_zero (by omega) (by omega))).1 h3
  exact h4
theorem it_ {x y : Rt} (ha : x.At p) (hb : y.At q) (hp : Az p a b) (hq : Az q a' b') (h1 : a + b' < 512) (h2 : a' + b < 512) (h3 : b + b' ≤ 512) : (aq_ x y).At (p - q) := by
  unfold aq_
  rw [Rat.sub_eq_add_neg]
  exact gw_ ha (rS_ hb) hp hq.neg h1 h2 h3
end
end Go.Num


set_option linter.unusedVariables false
set_option linter.unusedSimpArgs false
namespace Go.Num
open Go Go.Kn
theorem okW_v {v : Int} (h : -2305843009213693952 < v ∧ v < 2305843009213693952) : okW (Z.of v) = true := by
  have hv : (W.cv v).1 = v := by
    show IntKind.i64.wrap v = v
    exact wi (by omega)
  exact (rU_ (w := W.cv v) (by rw [hv]) (by rw [hv]; exact h)).1
theorem msn (a : Int) : 0 ≤ a * a := by
  rcases Int.le_total 0 a with h | h
  · exact Int.mul_nonneg h h
  · exact Int.mul_nonneg_of_nonpos_of_nonpos h h
theorem msz {a : Int} (h : a * a = 0) : a = 0 := by rcases Int.mul_eq_zero.1 h with h | h <;> exact h
theorem ir_ {a : A3 I} {x y z : Int} (hx : a.x.dec = Z.of x) (hy : a.y.dec = Z.of y) (hz : a.z.dec = Z.of z) (bx : x.natAbs < 2 ^ 61) (bY : y.natAbs < 2 ^ 61) (bz : z.natAbs < 2 ^ 61) (h0 : ¬ (x = 0 ∧ y = 0 ∧ z = 0)) : (prim a).2.1 = 0 := by
  have e61 : (2 : Nat) ^ 61 = 2305843009213693952 := rfl
  have B : ∀ {v : Int}, v.natAbs < 2 ^ 61 → B512 v := fun h => B_pow h (by decide)
  have g1 : (Int.gcd 0 x : Nat) = x.natAbs := by simp
  have B1 : B512 ((Int.gcd 0 x : Nat) : Int) := B (by rw [Int.natAbs_natCast, g1]; exact bx)
  have le2 : ∀ (u v : Int), u.natAbs < 2 ^ 61 → v.natAbs < 2 ^ 61 → Int.gcd u v < 2 ^ 61 := fun u v hu hv => by
    by_cases h : u = 0
    · subst h; simpa using hv
    · exact Nat.lt_of_le_of_lt (Nat.le_of_dvd (by omega) (Nat.gcd_dvd_left _ _)) hu
  have b1 := le2 0 x (by decide) bx
  have b2 := le2 (Int.gcd 0 x : Nat) y (by rw [Int.natAbs_natCast]; exact b1) bY
  have b3 := le2 (Int.gcd (Int.gcd 0 x : Nat) y : Nat) z (by rw [Int.natAbs_natCast]; exact b2) bz
  have hg : gcd3 a = Z.of ((Int.gcd (Int.gcd (Int.gcd 0 x : Nat) y : Nat) z : Nat) : Int) := by
    unfold gcd3
    rw [hx, hy, hz, gi_ B0 (B bx), gi_ (B (by rw [Int.natAbs_natCast]; exact b1)) (B bY), gi_ (B (by rw [Int.natAbs_natCast]; exact b2)) (B bz)]
  have hpos : 0 < Int.gcd (Int.gcd (Int.gcd 0 x : Nat) y : Nat) z := by
    rcases Nat.eq_zero_or_pos (Int.gcd (Int.gcd (Int.gcd 0 x : Nat) y : Nat) z) with h | h
    · obtain ⟨h1, h2⟩ := Int.gcd_eq_zero_iff.1 h
      obtain ⟨h3, h4⟩ := Int.gcd_eq_zero_iff.1 (show Int.gcd (Int.gcd 0 x : Nat) y = 0 by omega)
      obtain ⟨_, h5⟩ := Int.gcd_eq_zero_iff.1 (show Int.gcd 0 x = 0 by omega)
      exact absurd ⟨h5, h4, h2⟩ h0
    · exact h
  generalize Int.gcd (Int.gcd (Int.gcd 0 x : Nat) y : Nat) z = G at *
  have BG : B512 (G : Int) := B (by rw [Int.natAbs_natCast]; exact b3)
  have hq : ∀ v : Int, v.natAbs < 2 ^ 61 → okW (Z.quo (Z.of v) (Z.of (G : Int))) = true := fun v hv => by
    rw [g0_ (B hv) BG (by omega)]
    have := Int.natAbs_ediv_le_natAbs v G
    exact okW_v (by omega)
  unfold prim
  rw [hg, Z.of_some BG, if_neg (by simp), hx, hy, hz, hq x bx, hq y bY, hq z bz]
  have hs : (Z.of (G : Int)).sign ≠ 0 := by
    have := mo_ BG
    rw [Int.sign_eq_one_of_pos (by omega)] at this
    omega
  rw [if_neg hs]; rfl
theorem mbits {u v : Int} {b c : Nat} (h : u.natAbs < 2 ^ b) (g : v.natAbs < 2 ^ c) : (u * v).natAbs < 2 ^ (b + c) := by rw [Int.natAbs_mul]; exact dq_ h g
/-- Two tangents of a normal. -/
structure Tg (n t u : A3 W) : Prop where
  o1 : n.x.1 * t.x.1 + n.y.1 * t.y.1 + n.z.1 * t.z.1 = 0
  o2 : n.x.1 * u.x.1 + n.y.1 * u.y.1 + n.z.1 * u.z.1 = 0
  o3 : t.x.1 * u.x.1 + t.y.1 * u.y.1 + t.z.1 * u.z.1 = 0
  t0 : ¬ (t.x.1 = 0 ∧ t.y.1 = 0 ∧ t.z.1 = 0)
  u0 : ¬ (u.x.1 = 0 ∧ u.y.1 = 0 ∧ u.z.1 = 0)
  tb : ∀ A : Nat, 1 ≤ A → n.x.1.natAbs < 2 ^ A → n.y.1.natAbs < 2 ^ A → n.z.1.natAbs < 2 ^ A → t.x.1.natAbs < 2 ^ A ∧ t.y.1.natAbs < 2 ^ A ∧ t.z.1.natAbs < 2 ^ A
  ub : ∀ A : Nat, 1 ≤ A → n.x.1.natAbs < 2 ^ A → n.y.1.natAbs < 2 ^ A → n.z.1.natAbs < 2 ^ A → u.x.1.natAbs < 2 ^ (2 * A + 1) ∧ u.y.1.natAbs < 2 ^ (2 * A + 1) ∧ u.z.1.natAbs < 2 ^ (2 * A + 1)
  full : ∀ f g h : Rat, let nn : Rat := (n.x.1 : Rat) * n.x.1 + n.y.1 * n.y.1 + n.z.1 * n.z.1
    let tt : Rat := (t.x.1 : Rat) * t.x.1 + t.y.1 * t.y.1 + t.z.1 * t.z.1
    let uu : Rat := (u.x.1 : Rat) * u.x.1 + u.y.1 * u.y.1 + u.z.1 * u.z.1
    let fn : Rat := (n.x.1 : Rat) * f + n.y.1 * g + n.z.1 * h
    let ft : Rat := (t.x.1 : Rat) * f + t.y.1 * g + t.z.1 * h
    let fu : Rat := (u.x.1 : Rat) * f + u.y.1 * g + u.z.1 * h
    f * (nn * tt * uu) = fn * n.x.1 * (tt * uu) + ft * t.x.1 * (nn * uu) + fu * u.x.1 * (nn * tt) ∧
    g * (nn * tt * uu) = fn * n.y.1 * (tt * uu) + ft * t.y.1 * (nn * uu) + fu * u.y.1 * (nn * tt) ∧
    h * (nn * tt * uu) = fn * n.z.1 * (tt * uu) + ft * t.z.1 * (nn * uu) + fu * u.z.1 * (nn * tt)
theorem hT_ {G v : Int} (hG : 0 < G) (h : G * v = 0) : v = 0 := by rcases Int.mul_eq_zero.1 h with h | h; omega; exact h
theorem jP_ {g t v : Int} (hg : 0 < g) (h : g * t = v) {A : Nat} (hv : v.natAbs < A) : t.natAbs < A := by
  have e := congrArg Int.natAbs h
  rw [Int.natAbs_mul] at e
  have := Nat.le_mul_of_pos_left t.natAbs (show 0 < g.natAbs by omega)
  omega
theorem ko_ {a b : Rat} (ha : a ≠ 0) (hb : b ≠ 0) : a * b ≠ 0 := fun h => by
  rcases Rat.mul_eq_zero.1 h with h1 | h1
  · exact ha h1
  · exact hb h1
theorem iq_ {F X : Rat} {H : Rat} (hH : H ≠ 0) (h : H * F = H * X) : F = X := by
  have := Rat.inv_mul_cancel H hH
  have e : H⁻¹ * (H * F) = H⁻¹ * (H * X) := by rw [h]
  rw [← Rat.mul_assoc, ← Rat.mul_assoc, this, Rat.one_mul, Rat.one_mul] at e
  exact e
theorem iE_ {n : A3 W} (bx : n.x.1.natAbs < 2 ^ 29) (bY : n.y.1.natAbs < 2 ^ 29) (bz : n.z.1.natAbs < 2 ^ 29) (h0 : ¬ (n.x.1 = 0 ∧ n.y.1 = 0 ∧ n.z.1 = 0)) : Tg n (tang n).1 (tang n).2 := by
  have pw1 : ∀ A : Nat, 1 ≤ A → 1 < 2 ^ A := fun A hA => Nat.one_lt_two_pow (by omega)
  unfold tang
  by_cases h : n.x.1 = 0 ∧ n.y.1 = 0
  · rw [if_pos h]
    obtain ⟨h1, h2⟩ := h
    have w1 : (wl 1).1 = 1 := rfl
    have w0 : (wl 0).1 = 0 := rfl
    refine ⟨?_, ?_, ?_, ?_, ?_, ?_, ?_, ?_⟩
    · show n.x.1 * 1 + n.y.1 * 0 + n.z.1 * 0 = 0
      rw [h1]; omega
    · show n.x.1 * 0 + n.y.1 * 1 + n.z.1 * 0 = 0
      rw [h2]; omega
    · rfl
    · exact fun h => absurd h.1 (by decide)
    · exact fun h => absurd h.2.1 (by decide)
    · exact fun A hA _ _ _ => ⟨pw1 A hA, Nat.pow_pos (by decide), Nat.pow_pos (by decide)⟩
    · exact fun A hA _ _ _ => ⟨Nat.pow_pos (by decide), pw1 _ (by omega), Nat.pow_pos (by decide)⟩
    · intro f g h
      simp only [h1, h2, w1, w0]
      have c0 : (((0 : Int)) : Rat) = 0 := rfl
      have c1 : (((1 : Int)) : Rat) = 1 := rfl
      rw [c0, c1]
      refine ⟨?_, ?_, ?_⟩ <;> grind
  · rw [if_neg h]
    have e29 : (2 : Nat) ^ 29 = 536870912 := rfl
    have p1 : (prim ⟨E (Z.neg (Z.of n.y.1)), E (Z.of n.x.1), E (Z.of 0)⟩).2.1 = 0 := by
      refine ir_ (x := -n.y.1) (y := n.x.1) (z := 0) ?_ (E_dec _) (E_dec _) (by rw [Int.natAbs_neg]; exact Nat.lt_trans bY (by decide)) (Nat.lt_trans bx (by decide)) (by decide) (fun hx => h ⟨by omega, by omega⟩)
      show (E (Z.neg (Z.of n.y.1))).dec = _
      rw [E_dec, ((fitW n.y).neg (by decide)).eq]
    obtain ⟨x, y, z, g, H⟩ := mh_ p1
    have n1 := nc_ H
    have ex : x = -n.y.1 := by
      have := H.ax; rw [show (E (Z.neg (Z.of n.y.1))).dec = Z.neg (Z.of n.y.1) from E_dec _, ((fitW n.y).neg (by decide)).o (by decide)] at this; exact (Option.some.inj this).symm
    have ey : y = n.x.1 := by
      have := H.ay; rw [show (E (Z.of n.x.1)).dec = Z.of n.x.1 from E_dec _, (fitW n.x).o (by decide)] at this; exact (Option.some.inj this).symm
    have ez : z = 0 := by
      have := H.az; rw [show (E (Z.of 0)).dec = Z.of 0 from E_dec _, fit0.o (by decide)] at this; exact (Option.some.inj this).symm
    generalize (prim ⟨E (Z.neg (Z.of n.y.1)), E (Z.of n.x.1), E (Z.of 0)⟩).1 = s at *
    have hx := H.px; have hy := H.py; have hz := H.pz; have g0 := H.g0
    rw [ex] at hx; rw [ey] at hy; rw [ez] at hz
    have sz : s.z.1 = 0 := hT_ g0 hz
    have sb : ∀ A : Nat, 1 ≤ A → n.x.1.natAbs < 2 ^ A → n.y.1.natAbs < 2 ^ A → s.x.1.natAbs < 2 ^ A ∧ s.y.1.natAbs < 2 ^ A := fun A hA hx' hy' => ⟨jP_ g0 hx (by rw [Int.natAbs_neg]; exact hy'), jP_ g0 hy hx'⟩
    have cr : ∀ (p q r t : W), (cy_ (E (Z.of p.1)) (E (Z.of q.1)) (E (Z.of r.1)) (E (Z.of t.1))).dec = Z.of (p.1 * q.1 - r.1 * t.1) := fun p q r t => by
      rw [jG_, E_dec, E_dec, E_dec, E_dec, (((fitW p).mul (fitW q) (by decide)).sub ((fitW r).mul (fitW t) (by decide)) (by decide)).eq]
    have pm : ∀ (u v w k : Int) (A : Nat), u.natAbs < 2 ^ A → v.natAbs < 2 ^ A → w.natAbs < 2 ^ A → k.natAbs < 2 ^ A → (u * v - w * k).natAbs < 2 ^ (2 * A + 1) := fun u v w k A hu hv hw hk => by
      have h1 := dq_ hu hv
      have h2 := dq_ hw hk
      rw [← Int.natAbs_mul] at h1 h2
      rw [show 2 * A + 1 = A + A + 1 by omega, Nat.pow_succ]
      omega
    obtain ⟨sx29, sy29⟩ := sb 29 (by decide) bx bY
    have sz29 : s.z.1.natAbs < 2 ^ 29 := by rw [sz]; decide
    have p2 : (prim (ch_ (a2_ n) (a2_ s))).2.1 = 0 := by
      refine ir_ (cr n.y s.z n.z s.y) (cr n.z s.x n.x s.z) (cr n.x s.y n.y s.x) (Nat.lt_trans (pm _ _ _ _ 29 bY sz29 bz sy29) (by decide)) (Nat.lt_trans (pm _ _ _ _ 29 bz sx29 bx sz29) (by decide)) (Nat.lt_trans (pm _ _ _ _ 29 bx sy29 bY sx29) (by decide)) (fun ⟨_, _, h3⟩ => ?_)
      have h4 : g * (s.x.1 * s.x.1 + s.y.1 * s.y.1) = 0 := by
        have q1 : n.y.1 = -(g * s.x.1) := by omega
        have q2 : n.x.1 = g * s.y.1 := by omega
        rw [q1, q2] at h3
        grind
      have h5 := hT_ g0 h4
      have q1 : 0 ≤ s.x.1 * s.x.1 := msn _
      have q2 : 0 ≤ s.y.1 * s.y.1 := msn _
      exact n1 ⟨msz (by omega), msz (by omega), sz⟩
    rw [if_neg (by rintro (h | h); exact h p1; exact h p2)]
    obtain ⟨x', y', z', g', K⟩ := mh_ p2
    have n2 := nc_ K
    generalize (prim (ch_ (a2_ n) (a2_ s))).1 = t at *
    have co : ∀ (p q r t : W) (v : Int), (cy_ (E (Z.of p.1)) (E (Z.of q.1)) (E (Z.of r.1)) (E (Z.of t.1))).dec.o = some v → v = p.1 * q.1 - r.1 * t.1 := fun p q r t v hv => by
      rw [jG_, E_dec, E_dec, E_dec, E_dec, (((fitW p).mul (fitW q) (by decide)).sub ((fitW r).mul (fitW t) (by decide)) (by decide)).o (by decide)] at hv
      exact (Option.some.inj hv).symm
    have ex' : x' = n.y.1 * s.z.1 - n.z.1 * s.y.1 := co n.y s.z n.z s.y x' K.ax
    have ey' : y' = n.z.1 * s.x.1 - n.x.1 * s.z.1 := co n.z s.x n.x s.z y' K.ay
    have ez' : z' = n.x.1 * s.y.1 - n.y.1 * s.x.1 := co n.x s.y n.y s.x z' K.az
    have kx := K.px; have ky := K.py; have kz := K.pz; have g0' := K.g0
    rw [ex'] at kx; rw [ey'] at ky; rw [ez'] at kz
    refine ⟨hT_ g0 ?_, hT_ g0' ?_, hT_ g0' ?_, n1, n2, fun A hA b1 b2 b3 => ?_, fun A hA b1 b2 b3 => ?_, fun a b c => ?_⟩
    · have : g * (n.x.1 * s.x.1 + n.y.1 * s.y.1 + n.z.1 * s.z.1) = n.x.1 * (g * s.x.1) + n.y.1 * (g * s.y.1) + n.z.1 * (g * s.z.1) := by grind
      rw [this, hx, hy, hz]; grind
    · have : g' * (n.x.1 * t.x.1 + n.y.1 * t.y.1 + n.z.1 * t.z.1) = n.x.1 * (g' * t.x.1) + n.y.1 * (g' * t.y.1) + n.z.1 * (g' * t.z.1) := by grind
      rw [this, kx, ky, kz]; grind
    · have : g' * (s.x.1 * t.x.1 + s.y.1 * t.y.1 + s.z.1 * t.z.1) = s.x.1 * (g' * t.x.1) + s.y.1 * (g' * t.y.1) + s.z.1 * (g' * t.z.1) := by grind
      rw [this, kx, ky, kz]; grind
    · obtain ⟨k1, k2⟩ := sb A hA b1 b2
      exact ⟨k1, k2, by rw [sz]; exact Nat.pow_pos (by decide)⟩
    · obtain ⟨k1, k2⟩ := sb A hA b1 b2
      have k3 : s.z.1.natAbs < 2 ^ A := by rw [sz]; exact Nat.pow_pos (by decide)
      exact ⟨jP_ g0' kx (pm _ _ _ _ A b2 k3 b3 k2), jP_ g0' ky (pm _ _ _ _ A b3 k1 b1 k3), jP_ g0' kz (pm _ _ _ _ A b1 k2 b2 k1)⟩
    · rw [sz] at kx ky
      have hg' : ((g' : Int) : Rat) ≠ 0 := fun e => by have := Rat.intCast_eq_zero_iff.1 e; omega
      have r1 : ((n.y.1 : Int) : Rat) = -((g : Rat) * (s.x.1 : Rat)) := by rw [← Rat.intCast_mul, hx, Rat.intCast_neg, Rat.neg_neg]
      have r2 : ((n.x.1 : Int) : Rat) = (g : Rat) * (s.y.1 : Rat) := by rw [← Rat.intCast_mul, hy]
      have r3 : (g' : Rat) * (t.x.1 : Rat) = -((n.z.1 : Rat) * (s.y.1 : Rat)) := by rw [← Rat.intCast_mul, kx, ← Rat.intCast_mul, ← Rat.intCast_neg]; congr 1; omega
      have r4 : (g' : Rat) * (t.y.1 : Rat) = (n.z.1 : Rat) * (s.x.1 : Rat) := by rw [← Rat.intCast_mul, ky, ← Rat.intCast_mul]; congr 1; omega
      have r5 : (g' : Rat) * (t.z.1 : Rat) = (n.x.1 : Rat) * (s.y.1 : Rat) - (n.y.1 : Rat) * (s.x.1 : Rat) := by rw [← Rat.intCast_mul, kz, Rat.intCast_sub, Rat.intCast_mul, Rat.intCast_mul]
      have r6 : ((s.z.1 : Int) : Rat) = 0 := by rw [sz]; rfl
      rw [r1, r2] at r5
      simp only [r1, r2, r6]
      generalize (n.z.1 : Rat) = C at *
      generalize (g : Rat) = G at *
      generalize (s.x.1 : Rat) = S1 at *
      generalize (s.y.1 : Rat) = S2 at *
      generalize (t.x.1 : Rat) = T1 at *
      generalize (t.y.1 : Rat) = T2 at *
      generalize (t.z.1 : Rat) = T3 at *
      generalize (g' : Rat) = Q at *
      have hQ : Q * Q ≠ 0 := ko_ hg' hg'
      have u2 : Q * Q * (T1 * T1 + T2 * T2 + T3 * T3) = (Q * T1) * (Q * T1) + (Q * T2) * (Q * T2) + (Q * T3) * (Q * T3) := by grind
      have fz : ∀ F T : Rat, Q * Q * (F * T) = (Q * F) * (Q * T) := fun F T => by grind
      have q3 : Q * (T1 * a + T2 * b + T3 * c) = (Q * T1) * a + (Q * T2) * b + (Q * T3) * c := by grind
      rw [r3, r4, r5] at u2 q3
      have sp : ∀ F A N B S D T nn tt uu : Rat, Q * Q * (F * (nn * tt * uu)) = Q * Q * (A * N * (tt * uu) + B * S * (nn * uu) + D * T * (nn * tt)) ↔ F * (nn * tt * (Q * Q * uu)) = A * N * (tt * (Q * Q * uu)) + B * S * (nn * (Q * Q * uu)) + (Q * D) * (Q * T) * (nn * tt) := fun F A N B S D T nn tt uu => by
        constructor <;> intro h <;> grind
      refine ⟨iq_ hQ ((sp _ _ _ _ _ _ _ _ _ _).2 ?_), iq_ hQ ((sp _ _ _ _ _ _ _ _ _ _).2 ?_), iq_ hQ ((sp _ _ _ _ _ _ _ _ _ _).2 ?_)⟩ <;> rw [u2, q3] <;> first | rw [r3] | rw [r4] | rw [r5]
      · grind
      · grind
      · grind
def nrm (a : A3 W) : Int := a.x.1 * a.x.1 + a.y.1 * a.y.1 + a.z.1 * a.z.1
theorem d1_ {a : A3 W} (h : ¬ (a.x.1 = 0 ∧ a.y.1 = 0 ∧ a.z.1 = 0)) : 0 < nrm a := by
  unfold nrm
  have q1 : 0 ≤ a.x.1 * a.x.1 := msn _
  have q2 : 0 ≤ a.y.1 * a.y.1 := msn _
  have q3 : 0 ≤ a.z.1 * a.z.1 := msn _
  refine Int.lt_iff_le_and_ne.2 ⟨by omega, fun e => h ⟨msz (by omega), msz (by omega), msz (by omega)⟩⟩
theorem rJ_ {a : A3 W} {A : Nat} (hx : a.x.1.natAbs < 2 ^ A) (hy : a.y.1.natAbs < 2 ^ A) (hz : a.z.1.natAbs < 2 ^ A) : (nrm a).natAbs < 2 ^ (2 * A + 2) := by
  have h1 := dq_ hx hx
  have h2 := dq_ hy hy
  have h3 := dq_ hz hz
  rw [← Int.natAbs_mul] at h1 h2 h3
  unfold nrm
  rw [show 2 * A + 2 = A + A + 1 + 1 by omega, Nat.pow_succ, Nat.pow_succ]
  omega
/-- What the root is taken of. -/
def slQ (n t : A3 W) (b : Int) : Int := (b * b * nrm n * 65536) / (1000000 * nrm t)
def slS (n t : A3 W) (b : Int) : Int := (isqrt (slQ n t b).toNat : Nat)
section
variable {n t : A3 W} {b c : Int}
theorem pv_ (hb : 0 ≤ b) (ht : 0 < nrm t) (hn : 0 ≤ nrm n) : 0 ≤ slQ n t b := Int.ediv_nonneg (Int.mul_nonneg (Int.mul_nonneg (Int.mul_nonneg hb hb) hn) (by decide)) (by omega)
theorem pp_ {K : Int} (hb : 0 ≤ b) (hbk : b ≤ 4000) (ht : 0 < nrm t) (hn : 0 ≤ nrm n) (hk : nrm n ≤ K) : slQ n t b ≤ 1048576 * K := by
  unfold slQ
  have h1 : b * b ≤ 4000 * 4000 := Int.mul_le_mul hbk hbk hb (by decide)
  have h2 : b * b * nrm n ≤ 16000000 * nrm n := Int.mul_le_mul_of_nonneg_right h1 hn
  have hK : 0 ≤ K := Int.le_trans hn hk
  refine Int.ediv_le_of_le_mul (by omega) ?_
  have h3 : 1048576000000 * K * 1 ≤ 1048576000000 * K * nrm t := Int.mul_le_mul_of_nonneg_left (by omega) (by omega)
  have h4 : 1048576 * K * (1000000 * nrm t) = 1048576000000 * K * nrm t := by grind
  rw [h4]
  omega
theorem pB_ (hb : 0 ≤ b) (ht : 0 < nrm t) (hn : 0 ≤ nrm n) (hB : (slQ n t b).toNat < 4294967296 ^ 16) : slS n t b * slS n t b ≤ slQ n t b ∧ slQ n t b < (slS n t b + 1) * (slS n t b + 1) := by
  obtain ⟨h1, h2⟩ := eb_ hB
  have h0 := pv_ (t := t) hb ht hn
  unfold slS
  constructor
  · have : (((isqrt (slQ n t b).toNat * isqrt (slQ n t b).toNat : Nat)) : Int) ≤ (((slQ n t b).toNat : Nat) : Int) := Int.ofNat_le.2 h1
    rw [Int.natCast_mul] at this
    omega
  · have : ((((slQ n t b).toNat : Nat)) : Int) < (((isqrt (slQ n t b).toNat + 1) * (isqrt (slQ n t b).toNat + 1) : Nat) : Int) := Int.ofNat_lt.2 h2
    rw [Int.natCast_mul, Int.natCast_add, Int.toNat_of_nonneg h0] at this
    exact this
/-- The slope s = S / 256 is the greatest one in the cone. -/
theorem qZ_ (hb : 0 ≤ b) (ht : 0 < nrm t) (hn : 0 ≤ nrm n) (hB : (slQ n t b).toNat < 4294967296 ^ 16) : slS n t b * slS n t b * (1000000 * nrm t) ≤ b * b * nrm n * 65536 ∧ b * b * nrm n * 65536 < (slS n t b + 1) * (slS n t b + 1) * (1000000 * nrm t) := by
  obtain ⟨h1, h2⟩ := pB_ hb ht hn hB
  have h3 : slQ n t b * (1000000 * nrm t) ≤ b * b * nrm n * 65536 := Int.ediv_mul_le _ (by omega)
  have h4 : b * b * nrm n * 65536 < (slQ n t b + 1) * (1000000 * nrm t) := Int.lt_ediv_add_one_mul_self _ (by omega)
  exact ⟨Int.le_trans (Int.mul_le_mul_of_nonneg_right h1 (by omega)) h3, Int.lt_of_lt_of_le h4 (Int.mul_le_mul_of_nonneg_right (by omega) (by omega))⟩
theorem jV_ : 0 ≤ slS n t b := by unfold slS; omega
end
structure V3 (a : A3 Rt) (x y z : Rat) (A B : Nat) : Prop where
  hx : a.x.At x
  hy : a.y.At y
  hz : a.z.At z
  sx : Az x A B
  sy : Az y A B
  sz : Az z A B
section
variable {a b : A3 Rt} {x y z u v w : Rat} {A B C D : Nat}
theorem V3.mono (h : V3 a x y z A B) {A' B' : Nat} (h1 : A ≤ A') (h2 : B ≤ B') : V3 a x y z A' B' := ⟨h.hx, h.hy, h.hz, h.sx.mono h1 h2, h.sy.mono h1 h2, h.sz.mono h1 h2⟩
theorem of3 {n : A3 W} (hx : n.x.1.natAbs < 2 ^ A) (hy : n.y.1.natAbs < 2 ^ A) (hz : n.z.1.natAbs < 2 ^ A) : V3 (aj_ n) n.x.1 n.y.1 n.z.1 A 1 := ⟨Of_At _, Of_At _, Of_At _, .int hx, .int hy, .int hz⟩
theorem mp_ (ha : V3 a x y z A B) (hb : V3 b u v w C D) (h1 : A + C + 2 * (B + D) + 2 ≤ 512) (h2 : 3 * (B + D) ≤ 512) : (by_ a b).At (x * u + y * v + z * w) ∧ Az (x * u + y * v + z * w) (A + C + 2 * (B + D) + 2) (3 * (B + D)) := by
  have m1 := eY_ ha.hx hb.hx ha.sx hb.sx (by omega) (by omega)
  have m2 := eY_ ha.hy hb.hy ha.sy hb.sy (by omega) (by omega)
  have m3 := eY_ ha.hz hb.hz ha.sz hb.sz (by omega) (by omega)
  have s1 := ha.sx.mul hb.sx
  have s2 := ha.sy.mul hb.sy
  have s3 := ha.sz.mul hb.sz
  have p1 := gw_ m1 m2 s1 s2 (by omega) (by omega) (by omega)
  have q1 := s1.add (c := A + C + (B + D) + 1) s2 (by omega) (by omega)
  have p2 := gw_ p1 m3 q1 s3 (by omega) (by omega) (by omega)
  have q2 := q1.add (c := A + C + 2 * (B + D) + 2) s3 (by omega) (by omega)
  exact ⟨p2, q2.mono (Nat.le_refl _) (by omega)⟩
theorem kp_ {a b c d : Rt} {p q r s : Rat} {A B C D : Nat} (ha : a.At p) (hb : b.At q) (hc : c.At r) (hd : d.At s) (sa : Az p A B) (sb : Az q C D) (sc : Az r A B) (sd : Az s C D) (h1 : A + C + (B + D) + 1 ≤ 512) (h2 : 2 * (B + D) ≤ 512) : (aq_ (ag_ a b) (ag_ c d)).At (p * q - r * s) ∧ Az (p * q - r * s) (A + C + (B + D) + 1) (2 * (B + D)) := by
  have m1 := eY_ ha hb sa sb (by omega) (by omega)
  have m2 := eY_ hc hd sc sd (by omega) (by omega)
  have s1 := sa.mul sb
  have s2 := sc.mul sd
  exact ⟨it_ m1 m2 s1 s2 (by omega) (by omega) (by omega), (s1.sub (c := A + C + (B + D) + 1) s2 (by omega) (by omega)).mono (Nat.le_refl _) (by omega)⟩
theorem rN_ (ha : V3 a x y z A B) (hb : V3 b u v w C D) (h1 : A + C + (B + D) + 1 ≤ 512) (h2 : 2 * (B + D) ≤ 512) : V3 (ct_ a b) (y * w - z * v) (z * u - x * w) (x * v - y * u) (A + C + (B + D) + 1) (2 * (B + D)) := by
  obtain ⟨p1, q1⟩ := kp_ ha.hy hb.hz ha.hz hb.hy ha.sy hb.sz ha.sz hb.sy h1 h2
  obtain ⟨p2, q2⟩ := kp_ ha.hz hb.hx ha.hx hb.hz ha.sz hb.sx ha.sx hb.sz h1 h2
  obtain ⟨p3, q3⟩ := kp_ ha.hx hb.hy ha.hy hb.hx ha.sx hb.sy ha.sy hb.sx h1 h2
  exact ⟨p1, p2, p3, q1, q2, q3⟩
theorem py_ {k : Rt} {q : Rat} (hk : k.At q) (sk : Az q C D) (ha : V3 a x y z A B) (h1 : C + A ≤ 512) (h2 : D + B ≤ 512) : V3 (aG_ k a) (q * x) (q * y) (q * z) (C + A) (D + B) :=
  ⟨eY_ hk ha.hx sk ha.sx h1 h2, eY_ hk ha.hy sk ha.sy h1 h2, eY_ hk ha.hz sk ha.sz h1 h2, sk.mul ha.sx, sk.mul ha.sy, sk.mul ha.sz⟩
theorem plus3 {E : Nat} (ha : V3 a x y z A B) (hb : V3 b u v w C D) (h1 : A + D < E) (h2 : C + B < E) (hE : E ≤ 512) (h3 : B + D ≤ 512) : V3 (aQ_ a b) (x + u) (y + v) (z + w) E (B + D) :=
  ⟨gw_ ha.hx hb.hx ha.sx hb.sx (by omega) (by omega) h3, gw_ ha.hy hb.hy ha.sy hb.sy (by omega) (by omega) h3, gw_ ha.hz hb.hz ha.sz hb.sz (by omega) (by omega) h3, ha.sx.add hb.sx h1 h2, ha.sy.add hb.sy h1 h2, ha.sz.add hb.sz h1 h2⟩
theorem oC_ {E : Nat} (ha : V3 a x y z A B) (hb : V3 b u v w C D) (h1 : A + D < E) (h2 : C + B < E) (hE : E ≤ 512) (h3 : B + D ≤ 512) : V3 (aP_ a b) (x - u) (y - v) (z - w) E (B + D) :=
  ⟨it_ ha.hx hb.hx ha.sx hb.sx (by omega) (by omega) h3, it_ ha.hy hb.hy ha.sy hb.sy (by omega) (by omega) h3, it_ ha.hz hb.hz ha.sz hb.sz (by omega) (by omega) h3, ha.sx.sub hb.sx h1 h2, ha.sy.sub hb.sy h1 h2, ha.sz.sub hb.sz h1 h2⟩
end
end Go.Num


set_option linter.unusedVariables false
set_option linter.unusedSimpArgs false
namespace Go.Num
open Go Go.Kn
theorem on_ : cn_ = true := by kernel_rfl
theorem g2_ (a : A3 W) (b : W) : bO_ a b = au_ a b := rfl
theorem pU_ (a : A3 W) : al_ a = aU_ a := (nj_ a).trans (iW_ a).symm
theorem shl16 (z : Z) : Z.shl z 16 = Z.mul z (Z.of 65536) := by
  rcases Z.cases z with rfl | ⟨v, h, rfl, ho⟩
  · rfl
  · unfold Z.shl Z.mul
    rw [b9_ ho, a3_ ho (Z.of_some (by decide))]; rfl
theorem lv_ (a : A3 W) (b : W) (t : A3 W) : ao_ (cv_ (E (Z.quo (Z.shl (Z.mul (Z.of (W.mul b b).1) (a7_ a a).dec) 16) (E (Z.mul (Z.of 1000000) (a7_ t t).dec)).dec))) (E (Z.of 256)) = aF_ a b t := by
  unfold aF_
  rw [qB_, hC_, shl16, jB_, jB_, E_dec]
  simp only [E_dec]
theorem mg_ (a : A3 W) (b : W) : bJ_ a b = (⟨(aU_ a).1, (aU_ a).2⟩, ⟨aF_ a b (aU_ a).1, aF_ a b (aU_ a).2⟩) := by
  unfold bJ_
  dsimp only
  rw [lv_, lv_, pU_]
theorem il_ (a : A3 W) (b : W) : an_ a b = ((bU_ a b).l, (bU_ a b).e) := by
  unfold an_ bU_
  rw [g2_, mg_]
  simp only [md_, n6_, qI_, nP_]
  cases au_ a b with
  | false => rfl
  | true => cases (b.1 == 0) <;> rfl
theorem n2_ (t : A3 W) (f : A3 Rt) : ap_ t f = aW_ t f := by
  unfold ap_ aW_ db_
  dsimp only
  rw [hC_, pJ_, ny_, jB_]; rfl
theorem jO_ (a : A3 W) (b : W) (c : A3 Rt) : a4_ a b c = c7_ a b c := by
  unfold a4_ c7_ dU_
  simp only [g2_, ki_, ny_, md_, oo_, kw_, hy_, Of_eq, qU_]
theorem p2_ {a : Rt} {n d : Int} (h : a.Is n d) : (aX_ a).1 = n.sign := by
  unfold aX_
  rw [gW_ h, h.en, E_dec]
  exact dF_ h.hn
theorem ml_ {a : Rt} {n d : Int} (h : a.Is n d) : Rt.Is (bV_ a) (n.natAbs : Int) d := by
  have e : bV_ a = ⟨E (Z.of (n.natAbs : Int)), E (Z.of d)⟩ := by
    unfold bV_
    rw [gW_ h, h.en, h.ed, E_dec, Z.abs, b9_ (Z.of_some h.hn)]; rfl
  rw [e]
  have := h.hn
  exact ⟨rfl, rfl, by unfold B512 at *; simpa using this, h.hd, h.pos, h.cop⟩
theorem pI_ {a b : Rt} {n d m e : Int} (ha : a.Is n d) (hb : b.Is m e) (h : n = m) (k : d = e) : a = b := by
  subst h k
  exact Rt.ext (ha.en.trans hb.en.symm) (ha.ed.trans hb.ed.symm)
theorem rv_ (a : Rt) : cD_ a = bV_ a := by
  unfold cD_
  simp only [ki_, o7_]
  cases hg : ai_ a with
  | false =>
    have e : bV_ a = bh_ := by unfold bV_; rw [hg]; rfl
    rw [e, kE_ hg, kE_ pV_]
    cases decide ((aX_ a).1 < 0) <;> rfl
  | true =>
    obtain ⟨n, d, h⟩ := Is_of hg
    rw [p2_ h]
    by_cases hn : n < 0
    · rw [decide_eq_true (Int.sign_neg_iff.2 hn)]
      exact pI_ (kY_ h) (ml_ h) (by omega) rfl
    · rw [decide_eq_false (fun hh => hn (Int.sign_neg_iff.1 hh)), cond_false]
      rw [p6_ h]
      exact pI_ h (ml_ h) (by omega) rfl
theorem qx_ (r : Rt) : bW_ r (af_ (wl 2)) = ag_ r (ar_ (wl 1) (wl 2)) := by
  unfold bW_
  have h : ai_ (af_ (wl 2)) = true := by decide +kernel
  rw [h]
  have e : ae_ (af_ (wl 2)).d (af_ (wl 2)).n = ar_ (wl 1) (wl 2) := by decide +kernel
  rw [e]; rfl
theorem jt_ (s : Int) : (s = 0 ∧ (s == 0) = true ∧ (s != 0) = false ∧ decide (0 ≤ s) = true ∧ decide (s < 0) = false) ∨ (0 < s ∧ (s == 0) = false ∧ (s != 0) = true ∧ decide (0 ≤ s) = true ∧ decide (s < 0) = false) ∨ (s < 0 ∧ (s == 0) = false ∧ (s != 0) = true ∧ decide (0 ≤ s) = false ∧ decide (s < 0) = true) := by
  rcases Int.lt_trichotomy s 0 with h | h | h
  · exact .inr (.inr ⟨h, beq_eq_false_iff_ne.2 (by omega), bne_iff_ne.2 (by omega), decide_eq_false (by omega), decide_eq_true h⟩)
  · subst h; exact .inl ⟨rfl, rfl, rfl, rfl, rfl⟩
  · exact .inr (.inl ⟨h, beq_eq_false_iff_ne.2 (by omega), bne_iff_ne.2 (by omega), decide_eq_true (by omega), decide_eq_false (by omega)⟩)
theorem ot_ (a : A3 W) (b : W) (c : A3 Rt) : aD_ a b c = ((cw_ a b c).l, (cw_ a b c).is) := by
  unfold aD_ cw_ bQ_
  rw [g2_, mg_]
  simp only [ki_, n2_, rv_, jj_, pJ_, iz_, Of_eq, qx_]
  cases au_ a b with
  | false => rfl
  | true =>
  have hz : ∀ r : Rt, ak_ (af_ (wl 0)) (ag_ r (ar_ (wl 1) (wl 2))) = ag_ r (ar_ (wl 1) (wl 2)) := fun r => jU_ (mn_ _ _)
  generalize aW_ (aU_ a).1 c = x
  generalize aW_ (aU_ a).2 c = y
  generalize aW_ a c = z
  generalize aF_ a b (aU_ a).1 = s
  generalize aF_ a b (aU_ a).2 = t
  generalize af_ (wl 0) = o at hz ⊢
  generalize ar_ (wl 1) (wl 2) = hf at hz ⊢
  generalize ag_ = mul at hz ⊢
  generalize ak_ = add at hz ⊢
  generalize aq_ = sub
  generalize bW_ = div
  generalize bV_ = ab
  generalize aX_ = sg
  generalize (b.1 == 0) = b0
  have hx := jt_ (sg x).1
  have hy := jt_ (sg y).1
  generalize ((sg x).1 == 0) = xa at hx ⊢
  generalize ((sg x).1 != 0) = xb at hx ⊢
  generalize decide (0 ≤ (sg x).1) = xc at hx ⊢
  generalize decide ((sg x).1 < 0) = xd at hx ⊢
  generalize ((sg y).1 == 0) = ya at hy ⊢
  generalize ((sg y).1 != 0) = yb at hy ⊢
  generalize decide (0 ≤ (sg y).1) = yc at hy ⊢
  generalize decide ((sg y).1 < 0) = yd at hy ⊢
  generalize ((sg s).1 == 0) = sa
  generalize ((sg t).1 == 0) = ta
  rcases hx with ⟨_, rfl, rfl, rfl, rfl⟩ | ⟨_, rfl, rfl, rfl, rfl⟩ | ⟨_, rfl, rfl, rfl, rfl⟩ <;>
  rcases hy with ⟨_, rfl, rfl, rfl, rfl⟩ | ⟨_, rfl, rfl, rfl, rfl⟩ | ⟨_, rfl, rfl, rfl, rfl⟩ <;>
  dsimp only [cond_true, cond_false, Bool.not_true, Bool.not_false] <;>
  cases sa <;> cases ta <;>
  (try dsimp only [cond_true, cond_false, Bool.not_true, Bool.not_false, Bool.true_or, Bool.false_or, Bool.or_true, Bool.or_false]) <;>
  (try (generalize decide (_ < (0 : Int)) = w; cases w)) <;> cases b0 <;>
  (try dsimp only [cond_true, cond_false, List.nil_append, List.cons_append, List.getD_cons_zero, List.getD_cons_succ, List.set_cons_zero, List.set_cons_succ]) <;>
  first
  | rfl
  | simp [hz]
end Go.Num

