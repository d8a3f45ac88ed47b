/- What Cmp returns: the sign of a difference; order, the greater and the lesser. No program stands in it. -/
import Derived.Test.YtnfbkngfdemkpaaGreatDoorPe
import Derived.Test.YtnfbkngfdemkpaaGreatDoorFGc

set_option linter.unusedVariables false
set_option linter.unusedSimpArgs false
namespace Go.Num
open Go Go.Kn
theorem ediv_B {u g : Int} (hu : B512 u) (hg : 0 < g) : B512 (u / g) := by
  unfold B512 at *
  have h1 := Int.mul_ediv_add_emod u g
  have h2 := Int.emod_nonneg u (by omega : g ≠ 0)
  have h3 := Int.emod_lt_of_pos u hg
  have h4 : (u / g).natAbs ≤ u.natAbs := by
    rcases Int.lt_or_le u 0 with h | h
    · have h5 : u / g < 0 := Int.ediv_neg_of_neg_of_pos h hg
      have h6 : u ≤ u / g := by
        have h7 : g * (u / g) ≤ u / g := by
          have := Int.mul_le_mul_of_nonpos_right (show (1 : Int) ≤ g by omega) (Int.le_of_lt h5)
          omega
        have h8 : u < g * (u / g) + g := by omega
        rcases Int.lt_or_le u (g * (u / g)) with h9 | h9
        · omega
        · have h10 : (g - 1) * (u / g) ≤ -(g - 1) := by
            have := Int.mul_le_mul_of_nonneg_left (show u / g ≤ -1 by omega) (show 0 ≤ g - 1 by omega)
            omega
          have h11 : g * (u / g) = (g - 1) * (u / g) + u / g := by rw [Int.sub_mul]; omega
          omega
      omega
    · have h5 : 0 ≤ u / g := Int.ediv_nonneg h (by omega)
      have h6 : u / g ≤ u := Int.ediv_le_self _ h
      omega
  omega
theorem emod_B {u g : Int} (hg : 0 < g) (hb : B512 g) : B512 (u % g) := by
  unfold B512 at *
  have h2 := Int.emod_nonneg u (by omega : g ≠ 0)
  have h3 := Int.emod_lt_of_pos u hg
  omega
theorem rem_of' {u v : Int} (hu : B512 u) (hv : B512 v) (h : 0 < v) : Z.rem (Z.of u) (Z.of v) = Z.of (u % v) := by
  rw [Z.rem, lift2_some (Z.of_some hu) (Z.of_some hv), if_neg (by omega), Int.fmod_eq_emod_of_nonneg _ (by omega)]
theorem quo_of' {u v : Int} (hu : B512 u) (hv : B512 v) (h : 0 < v) : Z.quo (Z.of u) (Z.of v) = Z.of (u / v) := by
  rw [quo_of hu hv (by omega), fdiv_pos h]
theorem cmpW_of {u v : Int} (hu : B512 u) (hv : B512 v) : (Z.cmpW (Z.of u) (Z.of v)).1 = (u - v).sign := by
  show Z.cmp _ _ = _
  unfold Z.cmp
  rw [Z.of_some hu, Z.of_some hv]
  simp only
  rcases Int.lt_trichotomy u v with h | h | h
  · rw [cmpI_lt h, Int.sign_eq_neg_one_of_neg (by omega)]
  · subst h; rw [cmpI_eq, Int.sub_self]; rfl
  · rw [cmpI_gt h, Int.sign_eq_one_of_pos (by omega)]
theorem wrap_small {n : Int} (h : -4 ≤ n ∧ n ≤ 4) : IntKind.i64.wrap n = n := wi ⟨by omega, by omega⟩
theorem sign_rng (x : Int) : -1 ≤ x.sign ∧ x.sign ≤ 1 := by
  rcases Int.lt_trichotomy x 0 with h | h | h
  · rw [Int.sign_eq_neg_one_of_neg h]; omega
  · subst h; decide
  · rw [Int.sign_eq_one_of_pos h]; omega
theorem mul_o {o x : W} (ho : o.1 = 1 ∨ o.1 = -1) (hx : -2 ≤ x.1 ∧ x.1 ≤ 2) : (W.mul o x).1 = o.1 * x.1 := by
  show IntKind.i64.wrap (o.1 * x.1) = _
  refine wrap_small ?_
  rcases ho with h | h <;> rw [h] <;> omega
theorem neg_o {o : W} (ho : o.1 = 1 ∨ o.1 = -1) : (W.neg o).1 = -o.1 := by
  show IntKind.i64.wrap (0 - o.1) = _
  rw [wrap_small (by omega)]; omega
theorem sign_big {b d p r s : Int} (hb : 0 < b) (hd : 0 < d) (h0 : p ≠ 0) (hr : 0 ≤ r) (hrb : r < b) (hs : 0 ≤ s) (hsd : s < d) : (b * d * p + (r * d - s * b)).sign = p.sign := by
  have hbd : 0 < b * d := Int.mul_pos hb hd
  have h1 : r * d < b * d := Int.mul_lt_mul_of_pos_right hrb hd
  have h2 : s * b < d * b := Int.mul_lt_mul_of_pos_right hsd hb
  have h3 : 0 ≤ r * d := Int.mul_nonneg hr (by omega)
  have h4 : 0 ≤ s * b := Int.mul_nonneg hs (by omega)
  rw [Int.mul_comm d b] at h2
  rcases Int.lt_trichotomy p 0 with h | h | h
  · rw [Int.sign_eq_neg_one_of_neg h, Int.sign_eq_neg_one_of_neg]
    have : b * d * p ≤ b * d * (-1) := Int.mul_le_mul_of_nonneg_left (by omega) (by omega)
    omega
  · exact absurd h h0
  · rw [Int.sign_eq_one_of_pos h, Int.sign_eq_one_of_pos]
    have : b * d * 1 ≤ b * d * p := Int.mul_le_mul_of_nonneg_left (by omega) (by omega)
    omega
theorem cf_spec : ∀ (k : Nat) (o : W) (a b c d : Int), b.toNat ≤ k → 0 < b → 0 < d → B512 a → B512 b → B512 c → B512 d → (o.1 = 1 ∨ o.1 = -1) →
    (cf k o (E (Z.of a)) (E (Z.of b)) (E (Z.of c)) (E (Z.of d))).1 = o.1 * (a * d - c * b).sign := by
  intro k
  induction k with
  | zero => intro o a b c d hk hb; omega
  | succ k ih =>
    intro o a b c d hk hb hd ha hb' hc hd' ho
    unfold cf
    simp only [E_dec]
    rw [quo_of' ha hb' hb, quo_of' hc hd' hd, rem_of' ha hb' hb, rem_of' hc hd' hd, signW_of (emod_B hb hb'), signW_of (emod_B hd hd'), cmpW_of (ediv_B ha hb) (ediv_B hc hd)]
    have e1 := Int.mul_ediv_add_emod a b
    have e2 := Int.mul_ediv_add_emod c d
    have r1 := Int.emod_nonneg a (by omega : b ≠ 0)
    have r2 := Int.emod_lt_of_pos a hb
    have s1 := Int.emod_nonneg c (by omega : d ≠ 0)
    have s2 := Int.emod_lt_of_pos c hd
    have hrB := emod_B (u := a) hb hb'
    have hsB := emod_B (u := c) hd hd'
    have hpB := ediv_B ha hb
    have hqB := ediv_B hc hd
    generalize hp : a / b = p at *
    generalize hr : a % b = r at *
    generalize hq : c / d = q at *
    generalize hs : c % d = s at *
    have key : a * d - c * b = b * d * (p - q) + (r * d - s * b) := by
      rw [← e1, ← e2]; grind
    rw [key]
    by_cases hpq : p = q
    · have h1 : (p - q).sign = 0 := by rw [hpq, Int.sub_self]; rfl
      have h2 : b * d * (p - q) + (r * d - s * b) = r * d - s * b := by rw [hpq]; grind
      rw [h1, h2]
      have h3 : ((0 : Int) != 0) = false := rfl
      rw [h3]
      simp only [cond_false]
      by_cases h0 : r = 0 ∨ s = 0
      · have h4 : ((r.sign == 0) || (s.sign == 0)) = true := by
          rcases h0 with h | h <;> subst h <;> simp
        rw [h4]
        simp only [cond_true]
        have h5 := sign_rng r
        have h6 := sign_rng s
        have e5 : (W.sub (Z.signW (Z.of r)) (Z.signW (Z.of s))).1 = r.sign - s.sign := by
          show IntKind.i64.wrap ((Z.signW (Z.of r)).1 - (Z.signW (Z.of s)).1) = _
          rw [signW_of hrB, signW_of hsB]
          exact wrap_small (by omega)
        rw [mul_o ho (by rw [e5]; omega), e5]
        congr 1
        rcases h0 with h | h
        · subst h
          rw [Int.zero_mul, Int.zero_sub, Int.sign_neg, Int.sign_mul, Int.sign_eq_one_of_pos hb]; simp
        · subst h
          rw [Int.zero_mul, Int.sub_zero, Int.sign_mul, Int.sign_eq_one_of_pos hd]; simp
      · have hr0 : 0 < r := by omega
        have hs0 : 0 < s := by omega
        have h4 : ((r.sign == 0) || (s.sign == 0)) = false := by
          rw [Int.sign_eq_one_of_pos hr0, Int.sign_eq_one_of_pos hs0]; rfl
        rw [h4]
        simp only [cond_false]
        rw [ih _ _ _ _ _ (by omega) hr0 hs0 hb' hrB hd' hsB (by rw [neg_o ho]; omega), neg_o ho]
        have : b * s - d * r = -(r * d - s * b) := by grind
        rw [this, Int.sign_neg, Int.neg_mul_neg]
    · have h1 : ((p - q).sign != 0) = true := by
        rcases Int.lt_trichotomy (p - q) 0 with h | h | h
        · rw [Int.sign_eq_neg_one_of_neg h]; rfl
        · omega
        · rw [Int.sign_eq_one_of_pos h]; rfl
      rw [h1]
      simp only [cond_true]
      rw [mul_o ho (by rw [cmpW_of hpB hqB]; have := sign_rng (p - q); omega), cmpW_of hpB hqB]
      rw [sign_big hb hd (by omega) r1 r2 s1 s2]
theorem cfN_of {d : Int} (h : B512 d) : cfN (E (Z.of d)) = d.toNat := by
  unfold cfN
  rw [E_dec, Z.of_some h]
theorem Good_is {a : Rt} {n d : Int} (h : a.Is n d) : F_skewbackref04_Good a = true := Good_iff.2 ⟨n, d, h⟩
theorem Cmp_is {a b : Rt} {n d m e : Int} (ha : a.Is n d) (hb : b.Is m e) : (F_ratio_Cmp a b).1 = (n * e - m * d).sign := by
  unfold F_ratio_Cmp
  rw [Good_eq, Good_eq, Good_is ha, Good_is hb]
  simp only [Bool.not_true, Bool.and_false, cond_true, cond_false]
  rw [ha.en, ha.ed, hb.en, hb.ed, cfN_of ha.hd, cf_spec _ _ _ _ _ _ (Nat.le_refl _) ha.pos hb.pos ha.hn ha.hd hb.hn hb.hd (.inl rfl)]
  exact Int.one_mul _
end Go.Num
