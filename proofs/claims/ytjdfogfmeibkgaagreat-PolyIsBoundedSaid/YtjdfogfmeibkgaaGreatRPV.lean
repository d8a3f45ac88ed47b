/- What Cmp returns: the sign of a difference; order, the greater and the lesser. No program stands in it. Intervals: what the program computes is what the reference defines. No program stands in it. Intervals: products, quotients, powers, hulls, what is in two of them. No program stands in it. Intervals as intervals of rational numbers: what they share, hulls, order; the statement on sets. No program stands in it. Rational arithmetic at numbers, with their sizes: no result lacks digits. No program stands in it. Rational arithmetic at numbers, with the sizes above and below apart. No program stands in it. Polynomials as functions from Nat: sums, products, values. No program stands in it. -/
import Derived.Test.YtjdfogfmeibkgaaGreatRYg
import Derived.Test.YtjdfogfmeibkgaaGreatRGE
import Derived.KernelRfl

set_option linter.unusedVariables false
set_option linter.unusedSimpArgs false
namespace Go.Num
open Go Go.Kn
theorem lC_ {u g : Int} (hu : B512 u) (hg : 0 < g) : B512 (u / g) := by
  unfold B512 at *
  have h1 := Int.mul_ediv_add_emod u g
  have h2 := Int.emod_nonneg u (by omega : g ≠ 0)
  have h3 := Int.emod_lt_of_pos u hg
  have h4 : (u / g).natAbs ≤ u.natAbs := by
    rcases Int.lt_or_le u 0 with h | h
    · have h5 : u / g < 0 := Int.ediv_neg_of_neg_of_pos h hg
      have h6 : u ≤ u / g := by
        have h7 : g * (u / g) ≤ u / g := by
          have := Int.mul_le_mul_of_nonpos_right (show (1 : Int) ≤ g by omega) (Int.le_of_lt h5)
          omega
        have h8 : u < g * (u / g) + g := by omega
        rcases Int.lt_or_le u (g * (u / g)) with h9 | h9
        · omega
        · have h10 : (g - 1) * (u / g) ≤ -(g - 1) := by
            have := Int.mul_le_mul_of_nonneg_left (show u / g ≤ -1 by omega) (show 0 ≤ g - 1 by omega)
            omega
          have h11 : g * (u / g) = (g - 1) * (u / g) + u / g := by rw [Int.sub_mul]; omega
          omega
      omega
    · have h5 : 0 ≤ u / g := Int.ediv_nonneg h (by omega)
      have h6 : u / g ≤ u := Int.ediv_le_self _ h
      omega
  omega
theorem mj_ {u g : Int} (hg : 0 < g) (hb : B512 g) : B512 (u % g) := by
  unfold B512 at *
  have h2 := Int.emod_nonneg u (by omega : g ≠ 0)
  have h3 := Int.emod_lt_of_pos u hg
  omega
theorem om_ {u v : Int} (hu : B512 u) (hv : B512 v) (h : 0 < v) : Z.rem (Z.of u) (Z.of v) = Z.of (u % v) := by
  rw [Z.rem, bq_ (Z.of_some hu) (Z.of_some hv), if_neg (by omega), Int.fmod_eq_emod_of_nonneg _ (by omega)]
theorem gK_ {u v : Int} (hu : B512 u) (hv : B512 v) (h : 0 < v) : Z.quo (Z.of u) (Z.of v) = Z.of (u / v) := by
  rw [i6_ hu hv (by omega), jw_ h]
theorem kR_ {u v : Int} (hu : B512 u) (hv : B512 v) : (Z.cmpW (Z.of u) (Z.of v)).1 = (u - v).sign := by
  show Z.cmp _ _ = _
  unfold Z.cmp
  rw [Z.of_some hu, Z.of_some hv]
  simp only
  rcases Int.lt_trichotomy u v with h | h | h
  · rw [h7_ h, Int.sign_eq_neg_one_of_neg (by omega)]
  · subst h; rw [ld_, Int.sub_self]; rfl
  · rw [iE_ h, Int.sign_eq_one_of_pos (by omega)]
theorem ho_ {n : Int} (h : -4 ≤ n ∧ n ≤ 4) : IntKind.i64.wrap n = n := wi ⟨by omega, by omega⟩
theorem jY_ (x : Int) : -1 ≤ x.sign ∧ x.sign ≤ 1 := by
  rcases Int.lt_trichotomy x 0 with h | h | h
  · rw [Int.sign_eq_neg_one_of_neg h]; omega
  · subst h; decide
  · rw [Int.sign_eq_one_of_pos h]; omega
theorem mul_o {o x : W} (ho : o.1 = 1 ∨ o.1 = -1) (hx : -2 ≤ x.1 ∧ x.1 ≤ 2) : (W.mul o x).1 = o.1 * x.1 := by
  show IntKind.i64.wrap (o.1 * x.1) = _
  refine ho_ ?_
  rcases ho with h | h <;> rw [h] <;> omega
theorem neg_o {o : W} (ho : o.1 = 1 ∨ o.1 = -1) : (W.neg o).1 = -o.1 := by
  show IntKind.i64.wrap (0 - o.1) = _
  rw [ho_ (by omega)]; omega
theorem oK_ {b d p r s : Int} (hb : 0 < b) (hd : 0 < d) (h0 : p ≠ 0) (hr : 0 ≤ r) (hrb : r < b) (hs : 0 ≤ s) (hsd : s < d) : (b * d * p + (r * d - s * b)).sign = p.sign := by
  have hbd : 0 < b * d := Int.mul_pos hb hd
  have h1 : r * d < b * d := Int.mul_lt_mul_of_pos_right hrb hd
  have h2 : s * b < d * b := Int.mul_lt_mul_of_pos_right hsd hb
  have h3 : 0 ≤ r * d := Int.mul_nonneg hr (by omega)
  have h4 : 0 ≤ s * b := Int.mul_nonneg hs (by omega)
  rw [Int.mul_comm d b] at h2
  rcases Int.lt_trichotomy p 0 with h | h | h
  · rw [Int.sign_eq_neg_one_of_neg h, Int.sign_eq_neg_one_of_neg]
    have : b * d * p ≤ b * d * (-1) := Int.mul_le_mul_of_nonneg_left (by omega) (by omega)
    omega
  · exact absurd h h0
  · rw [Int.sign_eq_one_of_pos h, Int.sign_eq_one_of_pos]
    have : b * d * 1 ≤ b * d * p := Int.mul_le_mul_of_nonneg_left (by omega) (by omega)
    omega
theorem q9_ : ∀ (k : Nat) (o : W) (a b c d : Int), b.toNat ≤ k → 0 < b → 0 < d → B512 a → B512 b → B512 c → B512 d → (o.1 = 1 ∨ o.1 = -1) →
    (cf k o (E (Z.of a)) (E (Z.of b)) (E (Z.of c)) (E (Z.of d))).1 = o.1 * (a * d - c * b).sign := by
  intro k
  induction k with
  | zero => intro o a b c d hk hb; omega
  | succ k ih =>
    intro o a b c d hk hb hd ha hb' hc hd' ho
    unfold cf
    simp only [E_dec]
    rw [gK_ ha hb' hb, gK_ hc hd' hd, om_ ha hb' hb, om_ hc hd' hd, c3_ (mj_ hb hb'), c3_ (mj_ hd hd'), kR_ (lC_ ha hb) (lC_ hc hd)]
    have e1 := Int.mul_ediv_add_emod a b
    have e2 := Int.mul_ediv_add_emod c d
    have r1 := Int.emod_nonneg a (by omega : b ≠ 0)
    have r2 := Int.emod_lt_of_pos a hb
    have s1 := Int.emod_nonneg c (by omega : d ≠ 0)
    have s2 := Int.emod_lt_of_pos c hd
    have hrB := mj_ (u := a) hb hb'
    have hsB := mj_ (u := c) hd hd'
    have hpB := lC_ ha hb
    have hqB := lC_ hc hd
    generalize hp : a / b = p at *
    generalize hr : a % b = r at *
    generalize hq : c / d = q at *
    generalize hs : c % d = s at *
    have key : a * d - c * b = b * d * (p - q) + (r * d - s * b) := by
      rw [← e1, ← e2]; grind
    rw [key]
    by_cases hpq : p = q
    · have h1 : (p - q).sign = 0 := by rw [hpq, Int.sub_self]; rfl
      have h2 : b * d * (p - q) + (r * d - s * b) = r * d - s * b := by rw [hpq]; grind
      rw [h1, h2]
      have h3 : ((0 : Int) != 0) = false := rfl
      rw [h3]
      simp only [cond_false]
      by_cases h0 : r = 0 ∨ s = 0
      · have h4 : ((r.sign == 0) || (s.sign == 0)) = true := by
          rcases h0 with h | h <;> subst h <;> simp
        rw [h4]
        simp only [cond_true]
        have h5 := jY_ r
        have h6 := jY_ s
        have e5 : (W.sub (Z.signW (Z.of r)) (Z.signW (Z.of s))).1 = r.sign - s.sign := by
          show IntKind.i64.wrap ((Z.signW (Z.of r)).1 - (Z.signW (Z.of s)).1) = _
          rw [c3_ hrB, c3_ hsB]
          exact ho_ (by omega)
        rw [mul_o ho (by rw [e5]; omega), e5]
        congr 1
        rcases h0 with h | h
        · subst h
          rw [Int.zero_mul, Int.zero_sub, Int.sign_neg, Int.sign_mul, Int.sign_eq_one_of_pos hb]; simp
        · subst h
          rw [Int.zero_mul, Int.sub_zero, Int.sign_mul, Int.sign_eq_one_of_pos hd]; simp
      · have hr0 : 0 < r := by omega
        have hs0 : 0 < s := by omega
        have h4 : ((r.sign == 0) || (s.sign == 0)) = false := by
          rw [Int.sign_eq_one_of_pos hr0, Int.sign_eq_one_of_pos hs0]; rfl
        rw [h4]
        simp only [cond_false]
        rw [ih _ _ _ _ _ (by omega) hr0 hs0 hb' hrB hd' hsB (by rw [neg_o ho]; omega), neg_o ho]
        have : b * s - d * r = -(r * d - s * b) := by grind
        rw [this, Int.sign_neg, Int.neg_mul_neg]
    · have h1 : ((p - q).sign != 0) = true := by
        rcases Int.lt_trichotomy (p - q) 0 with h | h | h
        · rw [Int.sign_eq_neg_one_of_neg h]; rfl
        · omega
        · rw [Int.sign_eq_one_of_pos h]; rfl
      rw [h1]
      simp only [cond_true]
      rw [mul_o ho (by rw [kR_ hpB hqB]; have := jY_ (p - q); omega), kR_ hpB hqB]
      rw [oK_ hb hd (by omega) r1 r2 s1 s2]
theorem sr_ {d : Int} (h : B512 d) : cfN (E (Z.of d)) = d.toNat := by
  unfold cfN
  rw [E_dec, Z.of_some h]
theorem il_ {a : Rt} {n d : Int} (h : a.Is n d) : at_ a = true := tn_.2 ⟨n, d, h⟩
theorem sl_ {a b : Rt} {n d m e : Int} (ha : a.Is n d) (hb : b.Is m e) : (bP_ a b).1 = (n * e - m * d).sign := by
  unfold bP_
  rw [en_, en_, il_ ha, il_ hb]
  simp only [Bool.not_true, Bool.and_false, cond_true, cond_false]
  rw [ha.en, ha.ed, hb.en, hb.ed, sr_ ha.hd, q9_ _ _ _ _ _ _ (Nat.le_refl _) ha.pos hb.pos ha.hn ha.hd hb.hn hb.hd (.inl rfl)]
  exact Int.one_mul _
end Go.Num

set_option linter.unusedVariables false
set_option linter.unusedSimpArgs false
namespace Go.Num
open Go Go.Kn
theorem rr_ (a b : W) : df_ a b = eG_ a b := rfl
theorem nF_ (a : Rt) : bF_ a = c6_ a := by unfold bF_ c6_; rw [en_]
theorem s5_ {a : Rt} {n d : Int} (h : a.Is n d) : Rt.Is (ck_ a) (-n) d := by
  have e : ck_ a = ⟨E (Z.of (-n)), E (Z.of d)⟩ := by
    unfold ck_
    rw [il_ h, h.en, h.ed, E_dec, pS_ h.hn]; rfl
  rw [e]
  refine ⟨rfl, rfl, ?_, h.hd, h.pos, by rw [Int.neg_gcd]; exact h.cop⟩
  have := h.hn
  unfold B512 at *
  rw [Int.natAbs_neg]; exact this
theorem Is_of {a : Rt} (h : at_ a = true) : ∃ n d, Rt.Is a n d := tn_.1 h
theorem ow_ {x : Int} : 0 < x.sign ↔ 0 < x := Int.sign_pos_iff
/-- An interval that is not bad: its ends, in order. -/
structure Iv.Is (a : Iv) (n d m e : Int) : Prop where
  lo : a.lo.Is n d
  hi : a.hi.Is m e
  le : n * e ≤ m * d
end Go.Num

set_option linter.unusedVariables false
set_option linter.unusedSimpArgs false
namespace Go.Num
open Go Go.Kn
/-- The number that a fraction is. -/
def Rt.At (a : Rt) (q : Rat) : Prop := a.Is q.num (q.den : Int)
theorem Is_At {a : Rt} {n d : Int} (h : a.Is n d) : ∃ q : Rat, a.At q ∧ q.num = n ∧ (q.den : Int) = d := by
  have hd : (d.toNat : Int) = d := Int.toNat_of_nonneg (Int.le_of_lt h.pos)
  have hc : n.natAbs.Coprime d.toNat := by
    have := h.cop
    unfold Int.gcd at this
    rw [show d.natAbs = d.toNat by omega] at this
    exact this
  refine ⟨⟨n, d.toNat, by have := h.pos; omega, hc⟩, ?_, rfl, hd⟩
  show a.Is n (d.toNat : Int)
  rw [hd]; exact h
theorem rF_ {a : Rt} (h : at_ a = true) : ∃ q, a.At q := by
  obtain ⟨n, d, h1⟩ := Is_of h
  obtain ⟨q, h2, _⟩ := Is_At h1
  exact ⟨q, h2⟩
theorem eS_ {a : Rt} {q : Rat} (h : a.At q) : at_ a = true := il_ h
theorem s7_ {a b : Rt} {p q : Rat} (ha : a.At p) (hb : b.At q) : (bP_ a b).1 = (p.num * q.den - q.num * p.den).sign := sl_ ha hb
theorem sz_ {a b : Rt} {p q : Rat} (ha : a.At p) (hb : b.At q) : 0 < (bP_ a b).1 ↔ q < p := by
  rw [s7_ ha hb, ow_, Rat.lt_iff]; omega
/-- An interval from p to q. -/
structure Iv.At (a : Iv) (p q : Rat) : Prop where
  lo : a.lo.At p
  hi : a.hi.At q
  le : p ≤ q
end Go.Num

set_option linter.unusedVariables false
set_option linter.unusedSimpArgs false
namespace Go.Num
open Go Go.Kn
end Go.Num

set_option linter.unusedVariables false
set_option linter.unusedSimpArgs false
namespace Go.Num
open Go Go.Kn
/-- Above and below of less than k bits. -/
structure Sz (q : Rat) (k : Nat) : Prop where
  n : q.num.natAbs < 2 ^ k
  d : q.den < 2 ^ k
theorem eW_ {a b : Nat} (h : a ≤ b) : (2 : Nat) ^ a ≤ 2 ^ b := Nat.pow_le_pow_right (by decide) h
theorem sX_ {v : Int} {k : Nat} (m : Nat) (hm : 4294967296 ^ 16 = 2 ^ m) (h : v.natAbs < 2 ^ k) (hk : k ≤ m) : B512 v := by
  unfold B512
  rw [hm]
  exact Nat.lt_of_lt_of_le h (eW_ hk)
theorem B_pow {v : Int} {k : Nat} (h : v.natAbs < 2 ^ k) (hk : k ≤ 512) : B512 v := sX_ 512 nu_ h hk
theorem Sz.mono {q : Rat} {j k : Nat} (h : Sz q j) (hk : j ≤ k) : Sz q k := ⟨Nat.lt_of_lt_of_le h.n (eW_ hk), Nat.lt_of_lt_of_le h.d (eW_ hk)⟩
theorem Sz.bn {q : Rat} {k : Nat} (h : Sz q k) (hk : k ≤ 512) : B512 q.num := B_pow h.n hk
theorem Sz.bd {q : Rat} {k : Nat} (h : Sz q k) (hk : k ≤ 512) : B512 (q.den : Int) := B_pow (by simpa using h.d) hk
theorem dN_ {a b j k : Nat} (h : a < 2 ^ j) (g : b < 2 ^ k) : a * b < 2 ^ (j + k) := by
  rw [Nat.pow_add]
  exact Nat.mul_lt_mul_of_lt_of_le h (Nat.le_of_lt g) (Nat.pow_pos (by decide))
theorem Sz.mul {p q : Rat} {j k : Nat} (h : Sz p j) (g : Sz q k) : Sz (p * q) (j + k) := by
  constructor
  · rw [Rat.num_mul]
    refine Nat.lt_of_le_of_lt (Int.natAbs_ediv_le_natAbs _ _) ?_
    rw [Int.natAbs_mul]; exact dN_ h.n g.n
  · rw [Rat.den_mul]
    exact Nat.lt_of_le_of_lt (Nat.div_le_self _ _) (dN_ h.d g.d)
theorem Sz.neg {p : Rat} {k : Nat} (h : Sz p k) : Sz (-p) k := ⟨by rw [Rat.neg_num, Int.natAbs_neg]; exact h.n, h.d⟩
theorem mF_ {n m : Int} {d e j k : Nat} (h1 : n.natAbs < 2 ^ j) (h2 : e < 2 ^ k) (h3 : m.natAbs < 2 ^ k) (h4 : d < 2 ^ j) : (n * e + m * d).natAbs < 2 ^ (j + k + 1) := by
  have a := dN_ h1 h2
  have b := dN_ h4 h3
  have c := Int.natAbs_add_le (n * e) (m * d)
  rw [Int.natAbs_mul, Int.natAbs_mul, Int.natAbs_natCast, Int.natAbs_natCast] at c
  rw [Nat.pow_succ]
  rw [Nat.mul_comm d] at b
  omega
theorem Sz.add {p q : Rat} {j k : Nat} (h : Sz p j) (g : Sz q k) : Sz (p + q) (j + k + 1) := by
  constructor
  · rw [Rat.num_add]
    exact Nat.lt_of_le_of_lt (Int.natAbs_ediv_le_natAbs _ _) (mF_ h.n g.d g.n h.d)
  · rw [Rat.den_add]
    exact Nat.lt_of_le_of_lt (Nat.div_le_self _ _) (Nat.lt_of_lt_of_le (dN_ h.d g.d) (eW_ (by omega)))
theorem Sz.int {n : Int} {k : Nat} (h : n.natAbs < 2 ^ k) (hk : 0 < k) : Sz (n : Rat) k := ⟨h, Nat.one_lt_two_pow (by omega)⟩
theorem At_of {a : Rt} {n d : Int} {q : Rat} (h : a.Is n d) (he : q.num * d = n * q.den) : a.At q := by
  obtain ⟨p, hp, h1, h2⟩ := Is_At h
  have : p = q := Rat.eq_iff_mul_eq_mul.2 (by rw [h1, h2]; exact he.symm)
  rw [← this]; exact hp
theorem At.is {a : Rt} {q : Rat} (h : a.At q) : a.Is q.num (q.den : Int) := h
theorem hn_ {n d : Int} {q : Rat} (hn : B512 n) (hd : B512 d) (hp : 0 < d) (he : q.num * d = n * q.den) : (ay_ (E (Z.of n)) (E (Z.of d))).At q := by
  refine At_of (gL_ hn hd hp) ?_
  have g1 : ((Int.gcd n d : Nat) : Int) ∣ n := Int.gcd_dvd_left ..
  have g2 : ((Int.gcd n d : Nat) : Int) ∣ d := Int.gcd_dvd_right ..
  have p1 : 0 < ((Int.gcd n d : Nat) : Int) := by have := Int.gcd_pos_of_ne_zero_right n (show d ≠ 0 by omega); omega
  obtain ⟨x, hx⟩ := g1
  obtain ⟨y, hy⟩ := g2
  generalize ((Int.gcd n d : Nat) : Int) = G at *
  have q1 : n / G = x := by rw [hx]; exact Int.mul_ediv_cancel_left _ (by omega)
  have q2 : d / G = y := by rw [hy]; exact Int.mul_ediv_cancel_left _ (by omega)
  rw [q1, q2]
  rw [hx, hy] at he
  exact Int.eq_of_mul_eq_mul_left (show G ≠ 0 by omega) (by grind)
theorem Of_At (c : W) : (d4_ c).At (c.1 : Rat) := by
  unfold d4_
  rw [one4]
  have := c.2
  unfold I64 at this
  exact hn_ (B_pow (k := 64) (by omega) (by decide)) B1 (by decide) (by simp)
theorem qw_ {a : Rt} {p : Rat} (h : a.At p) : (ck_ a).At (-p) := s5_ h
theorem eg_ {q : Rat} : (0 : Int) < q.den := by have := q.den_nz; omega
theorem pB_ {a b : Rt} {p q : Rat} (ha : a.At p) (hb : b.At q) (hn : B512 (p * q).num) (hd : B512 ((p * q).den : Int)) : (cS_ a b).At (p * q) := by
  unfold cS_
  rw [eS_ ha, eS_ hb]
  obtain ⟨x, y, r, s, e1, e2, b1, b2, b3, b4, h1, h2, hc, he⟩ := l7_ ha hb
  simp only [Bool.not_true, Bool.or_false, cond_false, e1, e2, E_dec]
  rw [ec_ b1 b3, ec_ b2 b4]
  have hps : 0 < y * s := Int.mul_pos h1 h2
  have hpq : p * q = Rat.divInt (x * r) (y * s) := by
    rw [← Rat.num_divInt_den p, ← Rat.num_divInt_den q, Rat.divInt_mul_divInt]
    exact (Rat.divInt_eq_divInt_iff (by have := @eg_ p; have := @eg_ q; exact Int.mul_ne_zero (by omega) (by omega)) (by omega)).2 (by rw [he])
  have hnum : (p * q).num = x * r := by
    rw [hpq, Rat.num_divInt, Int.gcd_comm, hc, Int.sign_eq_one_of_pos hps]; simp
  have hden : ((p * q).den : Int) = y * s := by
    rw [hpq, Rat.den_divInt, if_neg (by omega), Int.gcd_comm, hc, Nat.div_one]; omega
  rw [hnum] at hn
  rw [hden] at hd
  exact hn_ hn hd hps (by rw [hnum, hden])
theorem pL_ {a b : Rt} {p q : Rat} {j k : Nat} (ha : a.At p) (hb : b.At q) (hp : Sz p j) (hq : Sz q k) (h : j + k + 1 ≤ 512) : (cj_ a b).At (p + q) := by
  unfold cj_
  rw [eS_ ha, eS_ hb]
  simp only [Bool.not_true, Bool.or_false, cond_false]
  have ia := At.is ha
  have ib := At.is hb
  rw [ia.en, ia.ed, ib.en, ib.ed]
  simp only [E_dec]
  have hdp := @eg_ p
  have hdq := @eg_ q
  have hg : 0 < ((Int.gcd (p.den : Int) (q.den : Int) : Nat) : Int) := by
    have := Int.gcd_pos_of_ne_zero_right (p.den : Int) (show (q.den : Int) ≠ 0 by omega)
    omega
  have hbg := gcd_B (u := (p.den : Int)) ib.hd (by omega)
  have g1 : ((Int.gcd (p.den : Int) (q.den : Int) : Nat) : Int) ∣ (p.den : Int) := Int.gcd_dvd_left ..
  have g2 : ((Int.gcd (p.den : Int) (q.den : Int) : Nat) : Int) ∣ (q.den : Int) := Int.gcd_dvd_right ..
  rw [iA_ ia.hd ib.hd, gK_ ib.hd hbg hg, gK_ ia.hd hbg hg]
  generalize ((Int.gcd (p.den : Int) (q.den : Int) : Nat) : Int) = G at *
  obtain ⟨x, hx⟩ := g1
  obtain ⟨y, hy⟩ := g2
  have q1 : (p.den : Int) / G = x := by rw [hx]; exact Int.mul_ediv_cancel_left _ (by omega)
  have q2 : (q.den : Int) / G = y := by rw [hy]; exact Int.mul_ediv_cancel_left _ (by omega)
  rw [q1, q2]
  have x0 : 0 < x := by rw [hx] at hdp; exact Int.pos_of_mul_pos_right hdp hg
  have y0 : 0 < y := by rw [hy] at hdq; exact Int.pos_of_mul_pos_right hdq hg
  have xl : x ≤ p.den := by rw [hx]; have := Int.mul_le_mul_of_nonneg_right (show (1 : Int) ≤ G by omega) (Int.le_of_lt x0); omega
  have yl : y ≤ q.den := by rw [hy]; have := Int.mul_le_mul_of_nonneg_right (show (1 : Int) ≤ G by omega) (Int.le_of_lt y0); omega
  have x1 : x.toNat < 2 ^ j := Nat.lt_of_le_of_lt (by omega) hp.d
  have y1 : y.toNat < 2 ^ k := Nat.lt_of_le_of_lt (by omega) hq.d
  have xe : x = (x.toNat : Int) := by omega
  have ye : y = (y.toNat : Int) := by omega
  have bx : B512 x := B_pow (k := j) (by rw [xe, Int.natAbs_natCast]; exact x1) (by omega)
  have by' : B512 y := B_pow (k := k) (by rw [ye, Int.natAbs_natCast]; exact y1) (by omega)
  rw [ec_ ia.hn by', ec_ ib.hn bx, ec_ bx ib.hd]
  have t1 : (p.num * y).natAbs < 2 ^ (j + k) := by rw [Int.natAbs_mul]; exact dN_ hp.n (by omega)
  have t2 : (q.num * x).natAbs < 2 ^ (j + k) := by rw [Int.natAbs_mul, Nat.mul_comm]; exact dN_ (by omega) hq.n
  have t3 : (x * (q.den : Int)).natAbs < 2 ^ (j + k) := by rw [Int.natAbs_mul]; exact dN_ (by omega) (by simpa using hq.d)
  rw [ib_ (B_pow t1 (by omega)) (B_pow t2 (by omega))]
  have t4 : (p.num * y + q.num * x).natAbs < 2 ^ (j + k + 1) := by rw [Nat.pow_succ]; omega
  refine hn_ (B_pow t4 h) (B_pow t3 (by omega)) (Int.mul_pos x0 hdq) ?_
  have key : p + q = Rat.divInt (p.num * y + q.num * x) (x * q.den) := by
    conv => lhs; rw [← Rat.num_divInt_den p, ← Rat.num_divInt_den q, Rat.divInt_add_divInt _ _ (by omega) (by omega)]
    refine (Rat.divInt_eq_divInt_iff (Int.mul_ne_zero (by omega) (by omega)) (Int.mul_ne_zero (by omega) (by omega))).2 ?_
    rw [hx, hy]; grind
  have h3 := Rat.num_divInt_den (p + q)
  rw [key] at h3 ⊢
  have h4 := (Rat.divInt_eq_divInt_iff (by have := @eg_ (Rat.divInt (p.num * y + q.num * x) (x * q.den)); omega) (Int.mul_ne_zero (by omega) (by omega))).1 h3
  exact h4
theorem r4_ {a b : Rt} {p q : Rat} {j k : Nat} (ha : a.At p) (hb : b.At q) (hp : Sz p j) (hq : Sz q k) (h : j + k + 1 ≤ 512) : (cE_ a b).At (p - q) := by
  unfold cE_
  rw [Rat.sub_eq_add_neg]
  exact pL_ ha (qw_ hb) hp hq.neg h
theorem n6_ {a : Rt} {p : Rat} (h : a.At p) : (c6_ a).1 = p.num.sign := by
  unfold c6_
  rw [eS_ h, (At.is h).en, E_dec]
  exact c3_ (At.is h).hn
end Go.Num


set_option linter.unusedVariables false
set_option linter.unusedSimpArgs false
namespace Go.Num
open Go Go.Kn
/-- Above of less than a bits, below of less than b bits. -/
structure Az (q : Rat) (a b : Nat) : Prop where
  n : q.num.natAbs < 2 ^ a
  d : q.den < 2 ^ b
theorem Sz.az {q : Rat} {k : Nat} (h : Sz q k) : Az q k k := ⟨h.n, h.d⟩
theorem Az.sz {q : Rat} {a b k : Nat} (h : Az q a b) (h1 : a ≤ k) (h2 : b ≤ k) : Sz q k := ⟨Nat.lt_of_lt_of_le h.n (eW_ h1), Nat.lt_of_lt_of_le h.d (eW_ h2)⟩
section
variable {p q : Rat} {a b a' b' : Nat}
theorem Az.mono (h : Az q a b) (h1 : a ≤ a') (h2 : b ≤ b') : Az q a' b' := ⟨Nat.lt_of_lt_of_le h.n (eW_ h1), Nat.lt_of_lt_of_le h.d (eW_ h2)⟩
theorem Az.bn (h : Az q a b) (hk : a ≤ 512) : B512 q.num := B_pow h.n hk
theorem Az.bd (h : Az q a b) (hk : b ≤ 512) : B512 (q.den : Int) := B_pow (by simpa using h.d) hk
theorem nZ_ {q : Rat} {n d : Int} (h : (n : Rat) = (d : Rat) * q) : q.num * d = n * q.den := by
  have h1 := Rat.num_divInt_den q
  have hd := @eg_ q
  by_cases h0 : d = 0
  · subst h0
    have : n = 0 := Rat.intCast_eq_zero_iff.1 (by rw [h]; exact Rat.zero_mul _)
    rw [this]; omega
  · have e : q = Rat.divInt n d := by
      rw [Rat.divInt_eq_div, h, Rat.div_def, Rat.mul_comm, ← Rat.mul_assoc, Rat.inv_mul_cancel _ (fun e => h0 (Rat.intCast_eq_zero_iff.1 e)), Rat.one_mul]
    rw [e] at h1
    conv at h1 => lhs; rw [← e]
    exact (Rat.divInt_eq_divInt_iff (by omega) h0).1 h1
theorem Az_of {n d : Int} (h : (n : Rat) = (d : Rat) * q) (h0 : 0 < d) (hn : n.natAbs < 2 ^ a) (hd : d.natAbs < 2 ^ b) : Az q a b := by
  have e := congrArg Int.natAbs (nZ_ h)
  rw [Int.natAbs_mul, Int.natAbs_mul, Int.natAbs_natCast] at e
  have hr := q.reduced
  have k1 : q.den ∣ d.natAbs := (Nat.Coprime.symm hr).dvd_of_dvd_mul_left (by rw [e]; exact Nat.dvd_mul_left ..)
  have k2 : q.num.natAbs ∣ n.natAbs := Nat.Coprime.dvd_of_dvd_mul_right hr (by rw [← e]; exact Nat.dvd_mul_right ..)
  refine ⟨?_, Nat.lt_of_le_of_lt (Nat.le_of_dvd (by omega) k1) hd⟩
  by_cases hz : n.natAbs = 0
  · rw [hz, Nat.zero_mul] at e
    rcases Nat.mul_eq_zero.1 e with h1 | h1
    · rw [h1]; exact Nat.pow_pos (by decide)
    · omega
  · exact Nat.lt_of_le_of_lt (Nat.le_of_dvd (by omega) k2) hn
theorem Az.mul (h : Az p a b) (g : Az q a' b') : Az (p * q) (a + a') (b + b') := by
  constructor
  · rw [Rat.num_mul]
    refine Nat.lt_of_le_of_lt (Int.natAbs_ediv_le_natAbs _ _) ?_
    rw [Int.natAbs_mul]; exact dN_ h.n g.n
  · rw [Rat.den_mul]
    exact Nat.lt_of_le_of_lt (Nat.div_le_self _ _) (dN_ h.d g.d)
theorem Az.neg (h : Az p a b) : Az (-p) a b := ⟨by rw [Rat.neg_num, Int.natAbs_neg]; exact h.n, h.d⟩
theorem k4_ {n m : Int} {d e c : Nat} (h1 : n.natAbs < 2 ^ a) (h2 : e < 2 ^ b') (h3 : m.natAbs < 2 ^ a') (h4 : d < 2 ^ b) (k1 : a + b' < c) (k2 : a' + b < c) : (n * e + m * d).natAbs < 2 ^ c := by
  obtain ⟨c, rfl⟩ : ∃ k, c = k + 1 := ⟨c - 1, by omega⟩
  have x := Nat.lt_of_lt_of_le (dN_ h1 h2) (eW_ (show a + b' ≤ c by omega))
  have y := Nat.lt_of_lt_of_le (dN_ h3 h4) (eW_ (show a' + b ≤ c by omega))
  have z := Int.natAbs_add_le (n * e) (m * d)
  rw [Int.natAbs_mul, Int.natAbs_mul, Int.natAbs_natCast, Int.natAbs_natCast] at z
  rw [Nat.pow_succ]
  omega
theorem Az.add {c : Nat} (h : Az p a b) (g : Az q a' b') (k1 : a + b' < c) (k2 : a' + b < c) : Az (p + q) c (b + b') := by
  constructor
  · rw [Rat.num_add]
    exact Nat.lt_of_le_of_lt (Int.natAbs_ediv_le_natAbs _ _) (k4_ h.n g.d g.n h.d k1 k2)
  · rw [Rat.den_add]
    exact Nat.lt_of_le_of_lt (Nat.div_le_self _ _) (dN_ h.d g.d)
theorem Az.sub {c : Nat} (h : Az p a b) (g : Az q a' b') (k1 : a + b' < c) (k2 : a' + b < c) : Az (p - q) c (b + b') := by rw [Rat.sub_eq_add_neg]; exact h.add g.neg k1 k2
theorem Az.int {n : Int} (h : n.natAbs < 2 ^ a) : Az (n : Rat) a 1 := ⟨h, (by show 1 < 2 ^ 1; decide)⟩
theorem m6_ {x y : Rt} (hx : x.At p) (hy : y.At q) (hp : Az p a b) (hq : Az q a' b') (h : a + a' ≤ 512) (h' : b + b' ≤ 512) : (cS_ x y).At (p * q) :=
  pB_ hx hy ((hp.mul hq).bn h) ((hp.mul hq).bd h')
theorem pN_ {x' y' : Rt} (ha : x'.At p) (hb : y'.At q) (hp : Az p a b) (hq : Az q a' b') (h1 : a + b' < 512) (h2 : a' + b < 512) (h3 : b + b' ≤ 512) : (cj_ x' y').At (p + q) := by
  unfold cj_
  rw [eS_ ha, eS_ hb]
  simp only [Bool.not_true, Bool.or_false, cond_false]
  have ia := At.is ha
  have ib := At.is hb
  rw [ia.en, ia.ed, ib.en, ib.ed]
  simp only [E_dec]
  have hdp := @eg_ p
  have hdq := @eg_ q
  have hg : 0 < ((Int.gcd (p.den : Int) (q.den : Int) : Nat) : Int) := by
    have := Int.gcd_pos_of_ne_zero_right (p.den : Int) (show (q.den : Int) ≠ 0 by omega)
    omega
  have hbg := gcd_B (u := (p.den : Int)) ib.hd (by omega)
  have g1 : ((Int.gcd (p.den : Int) (q.den : Int) : Nat) : Int) ∣ (p.den : Int) := Int.gcd_dvd_left ..
  have g2 : ((Int.gcd (p.den : Int) (q.den : Int) : Nat) : Int) ∣ (q.den : Int) := Int.gcd_dvd_right ..
  rw [iA_ ia.hd ib.hd, gK_ ib.hd hbg hg, gK_ ia.hd hbg hg]
  generalize ((Int.gcd (p.den : Int) (q.den : Int) : Nat) : Int) = G at *
  obtain ⟨x, hx⟩ := g1
  obtain ⟨y, hy⟩ := g2
  have q1 : (p.den : Int) / G = x := by rw [hx]; exact Int.mul_ediv_cancel_left _ (by omega)
  have q2 : (q.den : Int) / G = y := by rw [hy]; exact Int.mul_ediv_cancel_left _ (by omega)
  rw [q1, q2]
  have x0 : 0 < x := by rw [hx] at hdp; exact Int.pos_of_mul_pos_right hdp hg
  have y0 : 0 < y := by rw [hy] at hdq; exact Int.pos_of_mul_pos_right hdq hg
  have xl : x ≤ p.den := by rw [hx]; have := Int.mul_le_mul_of_nonneg_right (show (1 : Int) ≤ G by omega) (Int.le_of_lt x0); omega
  have yl : y ≤ q.den := by rw [hy]; have := Int.mul_le_mul_of_nonneg_right (show (1 : Int) ≤ G by omega) (Int.le_of_lt y0); omega
  have x1 : x.toNat < 2 ^ b := Nat.lt_of_le_of_lt (by omega) hp.d
  have y1 : y.toNat < 2 ^ b' := Nat.lt_of_le_of_lt (by omega) hq.d
  have xe : x = (x.toNat : Int) := by omega
  have ye : y = (y.toNat : Int) := by omega
  have bx : B512 x := B_pow (k := b) (by rw [xe, Int.natAbs_natCast]; exact x1) (by omega)
  have by' : B512 y := B_pow (k := b') (by rw [ye, Int.natAbs_natCast]; exact y1) (by omega)
  rw [ec_ ia.hn by', ec_ ib.hn bx, ec_ bx ib.hd]
  have t1 : (p.num * y).natAbs < 2 ^ (a + b') := by rw [Int.natAbs_mul]; exact dN_ hp.n (by omega)
  have t2 : (q.num * x).natAbs < 2 ^ (a' + b) := by rw [Int.natAbs_mul]; exact dN_ hq.n (by omega)
  have t3 : (x * (q.den : Int)).natAbs < 2 ^ (b + b') := by rw [Int.natAbs_mul]; exact dN_ (by omega) (by simpa using hq.d)
  rw [ib_ (B_pow t1 (by omega)) (B_pow t2 (by omega))]
  have t4 : (p.num * y + q.num * x).natAbs < 2 ^ (max (a + b') (a' + b) + 1) := by
    have u1 := Nat.lt_of_lt_of_le t1 (eW_ (show a + b' ≤ max (a + b') (a' + b) by omega))
    have u2 := Nat.lt_of_lt_of_le t2 (eW_ (show a' + b ≤ max (a + b') (a' + b) by omega))
    rw [Nat.pow_succ]; omega
  refine hn_ (B_pow t4 (by omega)) (B_pow t3 h3) (Int.mul_pos x0 hdq) ?_
  have key : p + q = Rat.divInt (p.num * y + q.num * x) (x * q.den) := by
    conv => lhs; rw [← Rat.num_divInt_den p, ← Rat.num_divInt_den q, Rat.divInt_add_divInt _ _ (by omega) (by omega)]
    refine (Rat.divInt_eq_divInt_iff (Int.mul_ne_zero (by omega) (by omega)) (Int.mul_ne_zero (by omega) (by omega))).2 ?_
    rw [hx, hy]; grind
  have h3 := Rat.num_divInt_den (p + q)
  rw [key] at h3 ⊢
  have h4 := (Rat.divInt_eq_divInt_iff (by have := @eg_ (Rat.divInt (p.num * y + q.num * x) (x * q.den)); omega) (Int.mul_ne_zero (by omega) (by omega))).1 h3
  exact h4
theorem r8_ {x y : Rt} (ha : x.At p) (hb : y.At q) (hp : Az p a b) (hq : Az q a' b') (h1 : a + b' < 512) (h2 : a' + b < 512) (h3 : b + b' ≤ 512) : (cE_ x y).At (p - q) := by
  unfold cE_
  rw [Rat.sub_eq_add_neg]
  exact pN_ ha (qw_ hb) hp hq.neg h1 h2 h3
end
end Go.Num


set_option linter.unusedVariables false
set_option linter.unusedSimpArgs false
namespace Go.Num
class Rg (α : Type) [Add α] [Mul α] [OfNat α 0] : Prop where
  aa : ∀ a b c : α, a + b + c = a + (b + c)
  ac : ∀ a b : α, a + b = b + a
  a0 : ∀ a : α, a + 0 = a
  ma : ∀ a b c : α, a * b * c = a * (b * c)
  mc : ∀ a b : α, a * b = b * a
  md : ∀ a b c : α, a * (b + c) = a * b + a * c
  m0 : ∀ a : α, a * 0 = 0
instance : Rg Int := ⟨Int.add_assoc, Int.add_comm, Int.add_zero, Int.mul_assoc, Int.mul_comm, Int.mul_add, Int.mul_zero⟩
instance : Rg Rat := ⟨Rat.add_assoc, Rat.add_comm, Rat.add_zero, Rat.mul_assoc, Rat.mul_comm, Rat.mul_add, Rat.mul_zero⟩
theorem Rg.za {α : Type} [Add α] [Mul α] [OfNat α 0] [Rg α] (a : α) : 0 + a = a := by rw [Rg.ac, Rg.a0]
theorem Rg.zm {α : Type} [Add α] [Mul α] [OfNat α 0] [Rg α] (a : α) : 0 * a = 0 := by rw [Rg.mc, Rg.m0]
/-- The sum of the first n values. -/
def sumN {α : Type} [Add α] [OfNat α 0] (f : Nat → α) : Nat → α
  | 0 => 0
  | n + 1 => sumN f n + f n
theorem b7_ {α : Type} [Add α] [OfNat α 0] {f g : Nat → α} : ∀ {n : Nat}, (∀ i, i < n → f i = g i) → sumN f n = sumN g n
  | 0, _ => rfl
  | n + 1, h => by simp only [sumN]; rw [b7_ fun i hi => h i (by omega), h n (by omega)]
theorem dz_ {α : Type} [Add α] [Mul α] [OfNat α 0] [Rg α] {f : Nat → α} : ∀ {n : Nat}, (∀ i, i < n → f i = 0) → sumN f n = 0
  | 0, _ => rfl
  | n + 1, h => by simp only [sumN]; rw [dz_ fun i hi => h i (by omega), h n (by omega), Rg.a0]
theorem hU_ {α : Type} [Add α] [Mul α] [OfNat α 0] [Rg α] (f g : Nat → α) : ∀ n : Nat, sumN (fun i => f i + g i) n = sumN f n + sumN g n
  | 0 => (Rg.a0 _).symm
  | n + 1 => by
    simp only [sumN]
    rw [hU_ f g n, Rg.aa, Rg.aa, ← Rg.aa (sumN g n), Rg.ac (sumN g n) (f n), Rg.aa]
theorem fa_ {α : Type} [Add α] [Mul α] [OfNat α 0] [Rg α] (c : α) (f : Nat → α) : ∀ n : Nat, sumN (fun i => c * f i) n = c * sumN f n
  | 0 => (Rg.m0 _).symm
  | n + 1 => by simp only [sumN]; rw [fa_ c f n, Rg.md]
theorem h1_ {α : Type} [Add α] [Mul α] [OfNat α 0] [Rg α] (c : α) (f : Nat → α) (n : Nat) : sumN (fun i => f i * c) n = sumN f n * c := by
  rw [Rg.mc _ c, ← fa_]; exact b7_ fun i _ => Rg.mc _ _
theorem hx_ {α : Type} [Add α] [Mul α] [OfNat α 0] [Rg α] (f : Nat → α) : ∀ n : Nat, sumN f (n + 1) = f 0 + sumN (fun i => f (i + 1)) n
  | 0 => by simp only [sumN]; rw [Rg.ac]
  | n + 1 => by rw [sumN, hx_ f n, Rg.aa]; rfl
theorem lU_ {α : Type} [Add α] [Mul α] [OfNat α 0] [Rg α] (f : Nat → α) : ∀ n : Nat, sumN f n = sumN (fun i => f (n - 1 - i)) n
  | 0 => rfl
  | n + 1 => by
    rw [hx_ (fun i => f (n + 1 - 1 - i)), sumN, Rg.ac, lU_ f n]
    rw [show n + 1 - 1 - 0 = n by omega]
    congr 1
    exact b7_ fun i hi => congrArg f (by omega)
theorem eR_ {α : Type} [Add α] [Mul α] [OfNat α 0] [Rg α] {f : Nat → α} {n : Nat} (h : ∀ i, n ≤ i → f i = 0) : ∀ m : Nat, n ≤ m → sumN f m = sumN f n
  | 0, hm => by rw [show n = 0 by omega]
  | m + 1, hm => by
    rcases Nat.lt_or_ge n (m + 1) with g | g
    · rw [sumN, h m (by omega), Rg.a0, eR_ h m (by omega)]
    · rw [show n = m + 1 by omega]
theorem jO_ {α : Type} [Add α] [Mul α] [OfNat α 0] [Rg α] {f : Nat → α} {a : Nat} (h : ∀ i, i ≠ a → f i = 0) {n : Nat} (hn : a < n) : sumN f n = f a := by
  rw [eR_ (n := a + 1) (fun i hi => h i (by omega)) n hn, sumN, dz_ fun i hi => h i (by omega), Rg.za]
theorem ji_ {α : Type} [Add α] [Mul α] [OfNat α 0] [Rg α] (f : Nat → Nat → α) : ∀ n : Nat, sumN (fun k => sumN (fun i => f i (k - i)) (k + 1)) n = sumN (fun i => sumN (fun j => f i j) (n - i)) n
  | 0 => rfl
  | n + 1 => by
    rw [sumN, ji_ f n]
    rw [b7_ (f := fun i => sumN (fun j => f i j) (n + 1 - i)) (g := fun i => sumN (fun j => f i j) (n - i) + f i (n - i)) (fun i hi => by
      rw [show n + 1 - i = n - i + 1 by omega]; rfl)]
    rw [hU_]
    congr 1
    rw [sumN, Nat.sub_self, sumN, Rg.a0]
/-- The coefficients of a product. -/
def conv {α : Type} [Add α] [Mul α] [OfNat α 0] (c d : Nat → α) (k : Nat) : α := sumN (fun i => c i * d (k - i)) (k + 1)
theorem m9_ {α : Type} [Add α] [Mul α] [OfNat α 0] [Rg α] (c d : Nat → α) : conv c d = conv d c := by
  funext k
  unfold conv
  rw [lU_]
  refine b7_ fun i hi => ?_
  rw [Rg.mc, show k - (k + 1 - 1 - i) = i by omega, show k + 1 - 1 - i = k - i by omega]
theorem oB_ {α : Type} [Add α] [Mul α] [OfNat α 0] [Rg α] (c d e : Nat → α) : conv c (fun i => d i + e i) = fun k => conv c d k + conv c e k := by
  funext k
  unfold conv
  rw [← hU_]
  exact b7_ fun i _ => Rg.md _ _ _
theorem my_ {α : Type} [Add α] [Mul α] [OfNat α 0] [Rg α] (c d e : Nat → α) : conv (conv c d) e = conv c (conv d e) := by
  funext k
  unfold conv
  have h := ji_ (fun j m => c j * (d m * e (k - j - m))) (k + 1)
  refine Eq.trans (b7_ fun i hi => ?_) (h.trans (b7_ fun i hi => ?_))
  · rw [← h1_]
    refine b7_ fun j hj => ?_
    rw [Rg.ma, show k - j - (i - j) = k - i by omega]
  · rw [fa_, show k + 1 - i = k - i + 1 by omega]
theorem gY_ {α : Type} [Add α] [Mul α] [OfNat α 0] [Rg α] {c d : Nat → α} {n m : Nat} (hc : ∀ i, n ≤ i → c i = 0) (hd : ∀ i, m ≤ i → d i = 0) (k : Nat) (hk : n + m ≤ k + 1) : conv c d k = 0 := by
  refine dz_ fun i hi => ?_
  rcases Nat.lt_or_ge i n with h | h
  · rw [hd _ (by omega), Rg.m0]
  · rw [hc _ h, Rg.zm]
theorem pi_ {α : Type} [Add α] [Mul α] [OfNat α 0] [Rg α] {c d : Nat → α} {n m : Nat} (hc : ∀ i, n < i → c i = 0) (hd : ∀ i, m < i → d i = 0) : conv c d (n + m) = c n * d m := by
  unfold conv
  rw [jO_ (a := n) (fun i hi => ?_) (by omega), show n + m - n = m by omega]
  rcases Nat.lt_or_ge n i with h | h
  · rw [hc _ h, Rg.zm]
  · rw [hd _ (by omega), Rg.m0]
/-- Coefficients as rational numbers. -/
def cR (c : Nat → Int) (i : Nat) : Rat := (c i : Rat)
theorem jC_ (f : Nat → Int) : ∀ n : Nat, ((sumN f n : Int) : Rat) = sumN (fun i => (f i : Rat)) n
  | 0 => rfl
  | n + 1 => by simp only [sumN]; rw [Rat.intCast_add, jC_ f n]
theorem nU_ (c d : Nat → Int) : cR (conv c d) = conv (cR c) (cR d) := by
  funext k
  unfold cR conv
  rw [jC_]
  exact b7_ fun i _ => Rat.intCast_mul ..
theorem nx_ (q : Rat) : q * ((q.den : Int) : Rat) = ((q.num : Int) : Rat) := by
  have h := Rat.num_divInt_den q
  rw [Rat.divInt_eq_div, Rat.div_def] at h
  have h0 : (((q.den : Nat) : Int) : Rat) ≠ 0 := fun h => q.den_nz (by have := Rat.intCast_eq_zero_iff.1 h; omega)
  have e : (((q.num : Int) : Rat) * (((q.den : Nat) : Int) : Rat)⁻¹) * (((q.den : Nat) : Int) : Rat) = ((q.num : Int) : Rat) := by rw [Rat.mul_assoc, Rat.inv_mul_cancel _ h0, Rat.mul_one]
  rw [h] at e; exact e
end Go.Num

