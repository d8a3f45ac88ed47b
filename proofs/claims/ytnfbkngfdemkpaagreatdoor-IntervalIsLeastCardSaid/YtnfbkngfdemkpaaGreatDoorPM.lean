/- What Cmp returns: the sign of a difference; order, the greater and the lesser. No program stands in it. Intervals: what the program computes is what the reference defines. No program stands in it. Intervals: products, quotients, powers, hulls, what is in two of them. No program stands in it. Intervals: powers, hulls of lists; the two statements on what the specification returns. No program stands in it. Intervals as intervals of rational numbers: what they share, hulls, order; the statement on sets. No program stands in it. Rational arithmetic at numbers, with their sizes: no result lacks digits. No program stands in it. What the operations on intervals return, at rational numbers; what they contain. No program stands in it. Widening at numbers; the statements that the operations are monotone, and that they include. No program stands in it. The statement that the results are least. No program stands in it. -/
import Derived.Test.YtnfbkngfdemkpaaGreatDoorPe
import Derived.Test.YtnfbkngfdemkpaaGreatDoorFGc
import Derived.Test.YtnfbkngfdemkpaaGreatDoorFSl
import Derived.Test.YtnfbkngfdemkpaaGreatDoorFi
import Derived.Test.YtnfbkngfdemkpaaGreatDoorFl
import Derived.Test.YtnfbkngfdemkpaaGreatDoorFl4

import Derived.KernelRfl
set_option linter.unusedVariables false
set_option linter.unusedSimpArgs false
namespace Go.Num
open Go Go.Kn
theorem ediv_B {u g : Int} (hu : B512 u) (hg : 0 < g) : B512 (u / g) := by
  unfold B512 at *
  have h1 := Int.mul_ediv_add_emod u g
  have h2 := Int.emod_nonneg u (by omega : g ≠ 0)
  have h3 := Int.emod_lt_of_pos u hg
  have h4 : (u / g).natAbs ≤ u.natAbs := by
    rcases Int.lt_or_le u 0 with h | h
    · have h5 : u / g < 0 := Int.ediv_neg_of_neg_of_pos h hg
      have h6 : u ≤ u / g := by
        have h7 : g * (u / g) ≤ u / g := by
          have := Int.mul_le_mul_of_nonpos_right (show (1 : Int) ≤ g by omega) (Int.le_of_lt h5)
          omega
        have h8 : u < g * (u / g) + g := by omega
        rcases Int.lt_or_le u (g * (u / g)) with h9 | h9
        · omega
        · have h10 : (g - 1) * (u / g) ≤ -(g - 1) := by
            have := Int.mul_le_mul_of_nonneg_left (show u / g ≤ -1 by omega) (show 0 ≤ g - 1 by omega)
            omega
          have h11 : g * (u / g) = (g - 1) * (u / g) + u / g := by rw [Int.sub_mul]; omega
          omega
      omega
    · have h5 : 0 ≤ u / g := Int.ediv_nonneg h (by omega)
      have h6 : u / g ≤ u := Int.ediv_le_self _ h
      omega
  omega
theorem emod_B {u g : Int} (hg : 0 < g) (hb : B512 g) : B512 (u % g) := by
  unfold B512 at *
  have h2 := Int.emod_nonneg u (by omega : g ≠ 0)
  have h3 := Int.emod_lt_of_pos u hg
  omega
theorem rem_of' {u v : Int} (hu : B512 u) (hv : B512 v) (h : 0 < v) : Z.rem (Z.of u) (Z.of v) = Z.of (u % v) := by
  rw [Z.rem, lift2_some (Z.of_some hu) (Z.of_some hv), if_neg (by omega), Int.fmod_eq_emod_of_nonneg _ (by omega)]
theorem quo_of' {u v : Int} (hu : B512 u) (hv : B512 v) (h : 0 < v) : Z.quo (Z.of u) (Z.of v) = Z.of (u / v) := by
  rw [quo_of hu hv (by omega), fdiv_pos h]
theorem cmpW_of {u v : Int} (hu : B512 u) (hv : B512 v) : (Z.cmpW (Z.of u) (Z.of v)).1 = (u - v).sign := by
  show Z.cmp _ _ = _
  unfold Z.cmp
  rw [Z.of_some hu, Z.of_some hv]
  simp only
  rcases Int.lt_trichotomy u v with h | h | h
  · rw [cmpI_lt h, Int.sign_eq_neg_one_of_neg (by omega)]
  · subst h; rw [cmpI_eq, Int.sub_self]; rfl
  · rw [cmpI_gt h, Int.sign_eq_one_of_pos (by omega)]
theorem wrap_small {n : Int} (h : -4 ≤ n ∧ n ≤ 4) : IntKind.i64.wrap n = n := wi ⟨by omega, by omega⟩
theorem sign_rng (x : Int) : -1 ≤ x.sign ∧ x.sign ≤ 1 := by
  rcases Int.lt_trichotomy x 0 with h | h | h
  · rw [Int.sign_eq_neg_one_of_neg h]; omega
  · subst h; decide
  · rw [Int.sign_eq_one_of_pos h]; omega
theorem mul_o {o x : W} (ho : o.1 = 1 ∨ o.1 = -1) (hx : -2 ≤ x.1 ∧ x.1 ≤ 2) : (W.mul o x).1 = o.1 * x.1 := by
  show IntKind.i64.wrap (o.1 * x.1) = _
  refine wrap_small ?_
  rcases ho with h | h <;> rw [h] <;> omega
theorem neg_o {o : W} (ho : o.1 = 1 ∨ o.1 = -1) : (W.neg o).1 = -o.1 := by
  show IntKind.i64.wrap (0 - o.1) = _
  rw [wrap_small (by omega)]; omega
theorem sign_big {b d p r s : Int} (hb : 0 < b) (hd : 0 < d) (h0 : p ≠ 0) (hr : 0 ≤ r) (hrb : r < b) (hs : 0 ≤ s) (hsd : s < d) : (b * d * p + (r * d - s * b)).sign = p.sign := by
  have hbd : 0 < b * d := Int.mul_pos hb hd
  have h1 : r * d < b * d := Int.mul_lt_mul_of_pos_right hrb hd
  have h2 : s * b < d * b := Int.mul_lt_mul_of_pos_right hsd hb
  have h3 : 0 ≤ r * d := Int.mul_nonneg hr (by omega)
  have h4 : 0 ≤ s * b := Int.mul_nonneg hs (by omega)
  rw [Int.mul_comm d b] at h2
  rcases Int.lt_trichotomy p 0 with h | h | h
  · rw [Int.sign_eq_neg_one_of_neg h, Int.sign_eq_neg_one_of_neg]
    have : b * d * p ≤ b * d * (-1) := Int.mul_le_mul_of_nonneg_left (by omega) (by omega)
    omega
  · exact absurd h h0
  · rw [Int.sign_eq_one_of_pos h, Int.sign_eq_one_of_pos]
    have : b * d * 1 ≤ b * d * p := Int.mul_le_mul_of_nonneg_left (by omega) (by omega)
    omega
theorem cf_spec : ∀ (k : Nat) (o : W) (a b c d : Int), b.toNat ≤ k → 0 < b → 0 < d → B512 a → B512 b → B512 c → B512 d → (o.1 = 1 ∨ o.1 = -1) →
    (cf k o (E (Z.of a)) (E (Z.of b)) (E (Z.of c)) (E (Z.of d))).1 = o.1 * (a * d - c * b).sign := by
  intro k
  induction k with
  | zero => intro o a b c d hk hb; omega
  | succ k ih =>
    intro o a b c d hk hb hd ha hb' hc hd' ho
    unfold cf
    simp only [E_dec]
    rw [quo_of' ha hb' hb, quo_of' hc hd' hd, rem_of' ha hb' hb, rem_of' hc hd' hd, signW_of (emod_B hb hb'), signW_of (emod_B hd hd'), cmpW_of (ediv_B ha hb) (ediv_B hc hd)]
    have e1 := Int.mul_ediv_add_emod a b
    have e2 := Int.mul_ediv_add_emod c d
    have r1 := Int.emod_nonneg a (by omega : b ≠ 0)
    have r2 := Int.emod_lt_of_pos a hb
    have s1 := Int.emod_nonneg c (by omega : d ≠ 0)
    have s2 := Int.emod_lt_of_pos c hd
    have hrB := emod_B (u := a) hb hb'
    have hsB := emod_B (u := c) hd hd'
    have hpB := ediv_B ha hb
    have hqB := ediv_B hc hd
    generalize hp : a / b = p at *
    generalize hr : a % b = r at *
    generalize hq : c / d = q at *
    generalize hs : c % d = s at *
    have key : a * d - c * b = b * d * (p - q) + (r * d - s * b) := by
      rw [← e1, ← e2]; grind
    rw [key]
    by_cases hpq : p = q
    · have h1 : (p - q).sign = 0 := by rw [hpq, Int.sub_self]; rfl
      have h2 : b * d * (p - q) + (r * d - s * b) = r * d - s * b := by rw [hpq]; grind
      rw [h1, h2]
      have h3 : ((0 : Int) != 0) = false := rfl
      rw [h3]
      simp only [cond_false]
      by_cases h0 : r = 0 ∨ s = 0
      · have h4 : ((r.sign == 0) || (s.sign == 0)) = true := by
          rcases h0 with h | h <;> subst h <;> simp
        rw [h4]
        simp only [cond_true]
        have h5 := sign_rng r
        have h6 := sign_rng s
        have e5 : (W.sub (Z.signW (Z.of r)) (Z.signW (Z.of s))).1 = r.sign - s.sign := by
          show IntKind.i64.wrap ((Z.signW (Z.of r)).1 - (Z.signW (Z.of s)).1) = _
          rw [signW_of hrB, signW_of hsB]
          exact wrap_small (by omega)
        rw [mul_o ho (by rw [e5]; omega), e5]
        congr 1
        rcases h0 with h | h
        · subst h
          rw [Int.zero_mul, Int.zero_sub, Int.sign_neg, Int.sign_mul, Int.sign_eq_one_of_pos hb]; simp
        · subst h
          rw [Int.zero_mul, Int.sub_zero, Int.sign_mul, Int.sign_eq_one_of_pos hd]; simp
      · have hr0 : 0 < r := by omega
        have hs0 : 0 < s := by omega
        have h4 : ((r.sign == 0) || (s.sign == 0)) = false := by
          rw [Int.sign_eq_one_of_pos hr0, Int.sign_eq_one_of_pos hs0]; rfl
        rw [h4]
        simp only [cond_false]
        rw [ih _ _ _ _ _ (by omega) hr0 hs0 hb' hrB hd' hsB (by rw [neg_o ho]; omega), neg_o ho]
        have : b * s - d * r = -(r * d - s * b) := by grind
        rw [this, Int.sign_neg, Int.neg_mul_neg]
    · have h1 : ((p - q).sign != 0) = true := by
        rcases Int.lt_trichotomy (p - q) 0 with h | h | h
        · rw [Int.sign_eq_neg_one_of_neg h]; rfl
        · omega
        · rw [Int.sign_eq_one_of_pos h]; rfl
      rw [h1]
      simp only [cond_true]
      rw [mul_o ho (by rw [cmpW_of hpB hqB]; have := sign_rng (p - q); omega), cmpW_of hpB hqB]
      rw [sign_big hb hd (by omega) r1 r2 s1 s2]
theorem cfN_of {d : Int} (h : B512 d) : cfN (E (Z.of d)) = d.toNat := by
  unfold cfN
  rw [E_dec, Z.of_some h]
theorem Good_is {a : Rt} {n d : Int} (h : a.Is n d) : F_skewbackref04_Good a = true := Good_iff.2 ⟨n, d, h⟩
theorem Cmp_is {a b : Rt} {n d m e : Int} (ha : a.Is n d) (hb : b.Is m e) : (F_ratio_Cmp a b).1 = (n * e - m * d).sign := by
  unfold F_ratio_Cmp
  rw [Good_eq, Good_eq, Good_is ha, Good_is hb]
  simp only [Bool.not_true, Bool.and_false, cond_true, cond_false]
  rw [ha.en, ha.ed, hb.en, hb.ed, cfN_of ha.hd, cf_spec _ _ _ _ _ _ (Nat.le_refl _) ha.pos hb.pos ha.hn ha.hd hb.hn hb.hd (.inl rfl)]
  exact Int.one_mul _
end Go.Num

set_option linter.unusedVariables false
set_option linter.unusedSimpArgs false
namespace Go.Num
open Go Go.Kn
theorem Cmp_eq5 (a b : Rt) : F_ratio_Cmp a b = F_skewbackref04_Cmp a b := by
  unfold F_ratio_Cmp F_skewbackref04_Cmp F_skewbackref04_kept
  rw [Good_eq, Good_eq]
  cases F_skewbackref04_Good a <;> cases F_skewbackref04_Good b <;> simp only [Bool.not_true, Bool.not_false, Bool.or_true, Bool.true_or, Bool.or_false, Bool.and_true, Bool.and_false, Bool.false_and, Bool.true_and, cond_true, cond_false, E_dec] <;> rfl
theorem Frac_eq (a b : W) : F_ratio_Frac a b = F_skewbackref04_Frac a b := rfl
theorem Sign_eq (a : Rt) : F_ratio_Sign a = F_skewbackref04_Sign a := by unfold F_ratio_Sign F_skewbackref04_Sign; rw [Good_eq]
theorem Div_eq (a b : Rt) : F_ratio_Div a b = F_skewbackref04_Div a b := by unfold F_ratio_Div F_skewbackref04_Div; rw [Good_eq, Make_eq, Mul_eq, Bad_eq]
theorem Mid_eq (a b : Rt) : F_ratio_Mid a b = F_skewbackref04_Mid a b := by unfold F_ratio_Mid F_skewbackref04_Mid; rw [Add_eq, Mul_eq, Frac_eq]
theorem good_not {a : Rt} (h : F_skewbackref04_Good a = false) : F_skewbackref04_Neg a = F_skewbackref04_Bad := by unfold F_skewbackref04_Neg; rw [h]; rfl
theorem bad_not : F_skewbackref04_Good F_skewbackref04_Bad = false := by decide +kernel
theorem Neg_is {a : Rt} {n d : Int} (h : a.Is n d) : Rt.Is (F_skewbackref04_Neg a) (-n) d := by
  have e : F_skewbackref04_Neg a = ⟨E (Z.of (-n)), E (Z.of d)⟩ := by
    unfold F_skewbackref04_Neg
    rw [Good_is h, h.en, h.ed, E_dec, neg_of h.hn]; rfl
  rw [e]
  refine ⟨rfl, rfl, ?_, h.hd, h.pos, by rw [Int.neg_gcd]; exact h.cop⟩
  have := h.hn
  unfold B512 at *
  rw [Int.natAbs_neg]; exact this
theorem Neg_Neg {a : Rt} {n d : Int} (h : a.Is n d) : F_skewbackref04_Neg (F_skewbackref04_Neg a) = a := by
  have h1 := Neg_is (Neg_is h)
  rw [Int.neg_neg] at h1
  exact Rt.ext (h1.en.trans h.en.symm) (h1.ed.trans h.ed.symm)
theorem Is_of {a : Rt} (h : F_skewbackref04_Good a = true) : ∃ n d, Rt.Is a n d := Good_iff.1 h
theorem sign_le0 {x : Int} : x.sign ≤ 0 ↔ x ≤ 0 := Int.sign_nonpos_iff
theorem sign_lt0 {x : Int} : x.sign < 0 ↔ x < 0 := Int.sign_neg_iff
theorem sign_gt0 {x : Int} : 0 < x.sign ↔ 0 < x := Int.sign_pos_iff
theorem Min_eq (a b : Rt) : F_ratio_Min a b = F_skewbackref04_Min a b := by
  unfold F_ratio_Min F_skewbackref04_Min
  rw [Good_eq, Good_eq, Bad_eq, ← Cmp_eq5]
  by_cases h : 0 < (F_ratio_Cmp a b).1
  · rw [decide_eq_true h, decide_eq_false (by omega)]
    cases F_skewbackref04_Good a <;> cases F_skewbackref04_Good b <;> rfl
  · rw [decide_eq_false h, decide_eq_true (by omega)]
    cases F_skewbackref04_Good a <;> cases F_skewbackref04_Good b <;> rfl
theorem Max_eq (a b : Rt) : F_ratio_Max a b = F_skewbackref04_Max a b := by
  unfold F_ratio_Max F_skewbackref04_Max
  rw [Good_eq, Good_eq, Bad_eq]
  cases ga : F_skewbackref04_Good a with
  | false =>
    rw [good_not ga]
    unfold F_skewbackref04_Min
    rw [bad_not]
    exact (good_not bad_not).symm
  | true =>
    cases gb : F_skewbackref04_Good b with
    | false =>
      rw [good_not gb]
      unfold F_skewbackref04_Min
      rw [bad_not]
      simp only [Bool.not_true, Bool.not_false, Bool.or_true, cond_true]
      exact (good_not bad_not).symm
    | true =>
      obtain ⟨n, d, ha⟩ := Is_of ga
      obtain ⟨m, e, hb⟩ := Is_of gb
      have h1 := Neg_is ha
      have h2 := Neg_is hb
      unfold F_skewbackref04_Min
      rw [Good_is h1, Good_is h2, ← Cmp_eq5, Cmp_is ha hb, Cmp_is h1 h2]
      simp only [Bool.not_true, Bool.or_false, cond_false, sign_lt0, sign_le0]
      have key : -n * e - -m * d = -(n * e - m * d) := by grind
      rw [key]
      by_cases h : n * e - m * d < 0
      · rw [decide_eq_true h, decide_eq_false (by omega)]
        simp only [cond_true, cond_false]
        exact (Neg_Neg hb).symm
      · rw [decide_eq_false h, decide_eq_true (by omega)]
        simp only [cond_true, cond_false]
        exact (Neg_Neg ha).symm
/-! shifts -/
theorem dec_sign0 {a : R} (ha : a.Ok) (ga : a.good = true) (h0 : val a.w = 0) : a.dec.sign = 0 := by
  unfold Z.sign
  rw [dec_good ha ga, h0]
  cases a.neg <;> simp [sgn]
theorem dec_sign1 {a : R} (ha : a.Ok) (ga : a.good = true) (h0 : val a.w ≠ 0) : a.dec.sign ≠ 0 := by
  rw [sign_dl ha ga h0]
  split <;> decide
theorem sh_zero' {a : R} (ha : a.Ok) (ga : a.good = true) (h0 : val a.w = 0) (m : Nat) : a = (Z.shl a.dec (m : Int)).enc := sh_zero ha ga (dec_sign0 ha ga h0) m
theorem rsh_big' {a : R} (ha : a.Ok) (ga : a.good = true) (h0 : val a.w ≠ 0) {m : Nat} (h : 512 < m) : Z.bad.enc = (Z.shl a.dec (m : Int)).enc := sh_big ha ga (dec_sign1 ha ga h0) (.inr (by omega))
theorem Shift_eq (a : I) (b : W) (h0 : 0 ≤ b.1) : F_skewbackref03_Shift a b = E (Z.shl a.dec b.1) := by
  obtain ⟨m, hm⟩ : ∃ m : Nat, b.1 = (m : Int) := ⟨b.1.toNat, by omega⟩
  unfold F_skewbackref03_Shift
  rw [hm]
  cases hg : a.1.good with
  | false =>
    simp only [cond_false]
    have : a.dec.o = none := by show a.1.dec.o = none; unfold R.dec; rw [if_neg (by simp [hg])]; rfl
    unfold Z.shl
    rw [lift1_bad this]
  | true =>
    simp only [cond_true]
    by_cases hz : val a.1.w = 0
    · rw [hz, dl_zero]
      have h1 := sh_zero' a.2 hg hz m
      exact Subtype.ext h1
    · have h2 : ((((dl (val a.1.w)).length : Nat) : Int) == 0) = false := by
        rw [beq_eq_false_iff_ne]
        intro h
        exact hz (dl_nil.1 (by omega))
      rw [h2]
      simp only [cond_false]
      by_cases hb : 512 < (m : Int)
      · rw [decide_eq_true hb]
        simp only [cond_true]
        exact Subtype.ext (rsh_big' a.2 hg hz (by omega))
      · rw [decide_eq_false hb]
        simp only [cond_false]
        show E _ = E (Z.shl a.1.dec (m : Int))
        rw [shl_dec a.2 hg, Int.toNat_natCast]
theorem Dyadic_eq (a : Rt) (b : W) : F_ratio_Dyadic a b = ((F_skewbackref04_Dyadic a b).lo, (F_skewbackref04_Dyadic a b).hi) := by
  unfold F_ratio_Dyadic F_skewbackref04_Dyadic
  rw [Good_eq, Bad_eq]
  cases hc : (!F_skewbackref04_Good a || (decide (b.1 < 0) || decide (256 < b.1))) with
  | true => rfl
  | false =>
    have h0 : 0 ≤ b.1 := Int.not_lt.1 (of_decide_eq_false (or3_b hc))
    simp only [cond_false, Shift_eq _ _ h0, E_dec, Make_eq, Good_eq, one_r, one4]
    generalize (!F_skewbackref04_Good _ || !F_skewbackref04_Good _) = c
    cases c <;> rfl
/-! intervals -/
theorem IBad_eq : F_interval_Bad = F_skewbackref05_Bad := rfl
theorem IsBad_eq (a : Iv) : F_interval_IsBad a = F_skewbackref05_IsBad a := by
  unfold F_interval_IsBad F_skewbackref05_IsBad
  rw [Good_eq, Good_eq, Cmp_eq5]
  cases g1 : F_skewbackref04_Good a.lo with
  | false => simp
  | true =>
    cases g2 : F_skewbackref04_Good a.hi with
    | false => simp
    | true =>
      have h : ¬ (a.lo.n = F_interval_Bad.lo.n ∧ a.lo.d = F_interval_Bad.lo.d) := fun h => by
        have : a.lo = F_skewbackref04_Bad := Rt.ext h.1 h.2
        rw [this, bad_not] at g1; cases g1
      have h2 : (decide (a.lo.n = F_interval_Bad.lo.n) && (decide (a.lo.d = F_interval_Bad.lo.d) && (decide (a.hi.n = F_interval_Bad.hi.n) && decide (a.hi.d = F_interval_Bad.hi.d)))) = false := by
        rw [Bool.eq_false_iff]
        intro h3
        simp only [Bool.and_eq_true, decide_eq_true_eq] at h3
        exact h ⟨h3.1, h3.2.1⟩
      rw [h2]; rfl
theorem IMake_eq (a b : Rt) : F_interval_Make a b = F_skewbackref05_Make a b := by
  unfold F_interval_Make F_skewbackref05_Make
  rw [IsBad_eq]; rfl
theorem IOf_eq (a : Rt) : F_interval_Of a = F_skewbackref05_Make a a := IMake_eq a a
theorem right1 (a : Iv) : F_interval_right [a] = !F_skewbackref05_IsBad a := by
  unfold F_interval_right F_interval_right_loop0 F_interval_right_loop0
  rw [IsBad_eq]
  cases F_skewbackref05_IsBad a <;> rfl
theorem right2 (a b : Iv) : F_interval_right [a, b] = (!F_skewbackref05_IsBad a && !F_skewbackref05_IsBad b) := by
  unfold F_interval_right F_interval_right_loop0 F_interval_right_loop0 F_interval_right_loop0
  rw [IsBad_eq, IsBad_eq]
  cases F_skewbackref05_IsBad a <;> cases F_skewbackref05_IsBad b <;> rfl
theorem IAdd_eq (a b : Iv) : F_interval_Add a b = F_skewbackref05_Add a b := by
  unfold F_interval_Add F_skewbackref05_Add
  rw [right2, IMake_eq, Add_eq, Add_eq, IBad_eq]
  cases F_skewbackref05_IsBad a <;> cases F_skewbackref05_IsBad b <;> rfl
theorem INeg_eq (a : Iv) : F_interval_Neg a = F_skewbackref05_Neg a := by
  unfold F_interval_Neg F_skewbackref05_Neg
  rw [right1, IMake_eq, Neg_eq, Neg_eq, IBad_eq]
  cases F_skewbackref05_IsBad a <;> rfl
theorem IHas_eq (a : Iv) (x : Rt) : F_interval_Has a x = F_skewbackref05_Has a x := by
  unfold F_interval_Has F_skewbackref05_Has
  rw [right1, Good_eq, Cmp_eq5, Cmp_eq5]
  cases F_skewbackref05_IsBad a <;> cases F_skewbackref04_Good x <;> rfl
theorem ICmp_eq (a b : Iv) : F_interval_Cmp a b = F_skewbackref05_Cmp a b := by
  unfold F_interval_Cmp F_skewbackref05_Cmp
  rw [right2, Cmp_eq5, Cmp_eq5]
  cases F_skewbackref05_IsBad a <;> cases F_skewbackref05_IsBad b <;> rfl
theorem IWidth_eq (a : Iv) : F_interval_Width a = F_skewbackref05_Width a := by
  unfold F_interval_Width F_skewbackref05_Width
  rw [right1, Sub_eq, Bad_eq]
  cases F_skewbackref05_IsBad a <;> rfl
theorem IWiden_eq (a : Iv) (k : W) : F_interval_Widen a k = F_skewbackref05_Widen a k := by
  unfold F_interval_Widen F_skewbackref05_Widen
  rw [right1, IMake_eq, Dyadic_eq, Dyadic_eq, IBad_eq]
  cases F_skewbackref05_IsBad a <;> rfl
/-- An interval that is not bad: its ends, in order. -/
structure Iv.Is (a : Iv) (n d m e : Int) : Prop where
  lo : a.lo.Is n d
  hi : a.hi.Is m e
  le : n * e ≤ m * d
theorem notBad {a : Iv} (h : F_skewbackref05_IsBad a = false) : ∃ n d m e, Iv.Is a n d m e := by
  unfold F_skewbackref05_IsBad at h
  cases g1 : F_skewbackref04_Good a.lo with
  | false => rw [g1] at h; cases h
  | true =>
    cases g2 : F_skewbackref04_Good a.hi with
    | false => rw [g1, g2] at h; cases h
    | true =>
      rw [g1, g2] at h
      obtain ⟨n, d, h1⟩ := Is_of g1
      obtain ⟨m, e, h2⟩ := Is_of g2
      refine ⟨n, d, m, e, h1, h2, ?_⟩
      rw [← Cmp_eq5, Cmp_is h1 h2] at h
      have := of_decide_eq_false h
      rw [sign_gt0] at this
      omega
theorem isBad_of {a : Iv} {n d m e : Int} (h1 : a.lo.Is n d) (h2 : a.hi.Is m e) : F_skewbackref05_IsBad a = decide (m * d < n * e) := by
  unfold F_skewbackref05_IsBad
  rw [Good_is h1, Good_is h2, ← Cmp_eq5, Cmp_is h1 h2]
  simp only [Bool.not_true, Bool.or_false, cond_false, sign_gt0]
  congr 1
  exact propext ⟨fun h => by omega, fun h => by omega⟩
theorem Iv.Is.good {a : Iv} {n d m e : Int} (h : Iv.Is a n d m e) : F_skewbackref05_IsBad a = false := by
  rw [isBad_of h.lo h.hi]
  exact decide_eq_false (by have := h.le; omega)
theorem make_self {a : Iv} (h : F_skewbackref05_IsBad a = false) : F_skewbackref05_Make a.lo a.hi = a := by
  unfold F_skewbackref05_Make
  have : (⟨a.lo, a.hi⟩ : Iv) = a := rfl
  rw [this, h]; rfl
theorem INeg_is {a : Iv} {n d m e : Int} (h : Iv.Is a n d m e) : F_skewbackref05_Neg a = ⟨F_skewbackref04_Neg a.hi, F_skewbackref04_Neg a.lo⟩ ∧ Iv.Is (F_skewbackref05_Neg a) (-m) e (-n) d := by
  have hI : Iv.Is ⟨F_skewbackref04_Neg a.hi, F_skewbackref04_Neg a.lo⟩ (-m) e (-n) d := ⟨Neg_is h.hi, Neg_is h.lo, by have := h.le; grind⟩
  have e1 : F_skewbackref05_Neg a = ⟨F_skewbackref04_Neg a.hi, F_skewbackref04_Neg a.lo⟩ := by
    unfold F_skewbackref05_Neg
    rw [h.good]
    show F_skewbackref05_Make (F_skewbackref04_Neg a.hi) (F_skewbackref04_Neg a.lo) = _
    exact make_self (a := ⟨F_skewbackref04_Neg a.hi, F_skewbackref04_Neg a.lo⟩) hI.good
  exact ⟨e1, by rw [e1]; exact hI⟩
theorem bad_isBad : F_skewbackref05_IsBad F_skewbackref05_Bad = true := by
  unfold F_skewbackref05_IsBad
  have : F_skewbackref04_Good (F_skewbackref05_Bad).lo = false := bad_not
  rw [this]; rfl
theorem ISub_eq (a b : Iv) : F_interval_Sub a b = F_skewbackref05_Sub a b := by
  unfold F_interval_Sub
  show F_interval_Add a (F_interval_Neg b) = _
  rw [INeg_eq, IAdd_eq]
  unfold F_skewbackref05_Add F_skewbackref05_Sub
  cases hb : F_skewbackref05_IsBad b with
  | true =>
    have : F_skewbackref05_Neg b = F_skewbackref05_Bad := by unfold F_skewbackref05_Neg; rw [hb]; rfl
    rw [this, bad_isBad]
    cases F_skewbackref05_IsBad a <;> rfl
  | false =>
    obtain ⟨n, d, m, e, h⟩ := notBad hb
    obtain ⟨h1, h2⟩ := INeg_is h
    rw [h2.good, h1]
    cases F_skewbackref05_IsBad a <;> rfl
theorem IAbs_eq {a : Iv} (hr : F_skewbackref05_Right a = true) : F_interval_Abs a = F_skewbackref05_Abs a := by
  unfold F_interval_Abs F_skewbackref05_Abs
  dsimp only
  rw [right1, Sign_eq, Sign_eq, INeg_eq, IMake_eq, Max_eq, Neg_eq, Of_eq]
  cases h : F_skewbackref05_IsBad a with
  | false => rfl
  | true =>
    unfold F_skewbackref05_Right at hr
    rw [h] at hr
    simp only [Bool.not_true, Bool.false_or] at hr ⊢
    simp only [cond_false, cond_true]
    simp only [Bool.and_eq_true, decide_eq_true_eq] at hr
    obtain ⟨h1, h2, h3, h4⟩ := hr
    cases a with
    | mk lo hi =>
      have e1 : lo = F_skewbackref05_Bad.lo := Rt.ext h1 h2
      have e2 : hi = F_skewbackref05_Bad.hi := Rt.ext h3 h4
      rw [e1, e2]
end Go.Num

set_option linter.unusedVariables false
set_option linter.unusedSimpArgs false
namespace Go.Num
open Go Go.Kn
/-- The number that a fraction is. -/
def Rt.At (a : Rt) (q : Rat) : Prop := a.Is q.num (q.den : Int)
theorem Is_At {a : Rt} {n d : Int} (h : a.Is n d) : ∃ q : Rat, a.At q ∧ q.num = n ∧ (q.den : Int) = d := by
  have hd : (d.toNat : Int) = d := Int.toNat_of_nonneg (Int.le_of_lt h.pos)
  have hc : n.natAbs.Coprime d.toNat := by
    have := h.cop
    unfold Int.gcd at this
    rw [show d.natAbs = d.toNat by omega] at this
    exact this
  refine ⟨⟨n, d.toNat, by have := h.pos; omega, hc⟩, ?_, rfl, hd⟩
  show a.Is n (d.toNat : Int)
  rw [hd]; exact h
theorem good_At {a : Rt} (h : F_skewbackref04_Good a = true) : ∃ q, a.At q := by
  obtain ⟨n, d, h1⟩ := Is_of h
  obtain ⟨q, h2, _⟩ := Is_At h1
  exact ⟨q, h2⟩
theorem At_good {a : Rt} {q : Rat} (h : a.At q) : F_skewbackref04_Good a = true := Good_is h
theorem At_inj {a b : Rt} {q : Rat} (ha : a.At q) (hb : b.At q) : a = b := Rt.ext (ha.en.trans hb.en.symm) (ha.ed.trans hb.ed.symm)
theorem At_num {a : Rt} {p q : Rat} (ha : a.At p) (hb : a.At q) : p = q := by
  have h1 := of_inj ha.hn hb.hn (E_inj (ha.en.symm.trans hb.en))
  have h2 := of_inj ha.hd hb.hd (E_inj (ha.ed.symm.trans hb.ed))
  exact Rat.ext h1 (by omega)
theorem Cmp_At {a b : Rt} {p q : Rat} (ha : a.At p) (hb : b.At q) : (F_ratio_Cmp a b).1 = (p.num * q.den - q.num * p.den).sign := Cmp_is ha hb
theorem Cmp_lt {a b : Rt} {p q : Rat} (ha : a.At p) (hb : b.At q) : (F_ratio_Cmp a b).1 < 0 ↔ p < q := by
  rw [Cmp_At ha hb, sign_lt0, Rat.lt_iff]; omega
theorem Cmp_gt {a b : Rt} {p q : Rat} (ha : a.At p) (hb : b.At q) : 0 < (F_ratio_Cmp a b).1 ↔ q < p := by
  rw [Cmp_At ha hb, sign_gt0, Rat.lt_iff]; omega
theorem Cmp_le {a b : Rt} {p q : Rat} (ha : a.At p) (hb : b.At q) : (F_ratio_Cmp a b).1 ≤ 0 ↔ p ≤ q := by
  rw [Cmp_At ha hb, sign_le0, Rat.le_iff]; omega
theorem Min_a {a b : Rt} {p q : Rat} (ha : a.At p) (hb : b.At q) (h : p ≤ q) : F_skewbackref04_Min a b = a := by
  unfold F_skewbackref04_Min
  rw [At_good ha, At_good hb, ← Cmp_eq5, decide_eq_true ((Cmp_le ha hb).2 h)]; rfl
theorem Min_b {a b : Rt} {p q : Rat} (ha : a.At p) (hb : b.At q) (h : q ≤ p) : F_skewbackref04_Min a b = b := by
  by_cases h1 : p ≤ q
  · have : p = q := Rat.le_antisymm h1 h
    subst this
    rw [Min_a ha hb h1]; exact At_inj ha hb
  · unfold F_skewbackref04_Min
    rw [At_good ha, At_good hb, ← Cmp_eq5, decide_eq_false (fun h2 => h1 ((Cmp_le ha hb).1 h2))]; rfl
theorem Max_b {a b : Rt} {p q : Rat} (ha : a.At p) (hb : b.At q) (h : p ≤ q) : F_skewbackref04_Max a b = b := by
  rw [← Max_eq]
  unfold F_ratio_Max
  rw [Good_eq, Good_eq, At_good ha, At_good hb]
  by_cases h1 : p < q
  · rw [decide_eq_true ((Cmp_lt ha hb).2 h1)]; rfl
  · have : p = q := Rat.le_antisymm h (Rat.not_lt.1 h1)
    subst this
    rw [decide_eq_false (fun h2 => h1 ((Cmp_lt ha hb).1 h2))]; exact At_inj ha hb
theorem Max_a {a b : Rt} {p q : Rat} (ha : a.At p) (hb : b.At q) (h : q ≤ p) : F_skewbackref04_Max a b = a := by
  rw [← Max_eq]
  unfold F_ratio_Max
  rw [Good_eq, Good_eq, At_good ha, At_good hb, decide_eq_false (fun h2 => Rat.not_lt.2 h ((Cmp_lt ha hb).1 h2))]; rfl
/-- An interval from p to q. -/
structure Iv.At (a : Iv) (p q : Rat) : Prop where
  lo : a.lo.At p
  hi : a.hi.At q
  le : p ≤ q
theorem isBad_At {a : Iv} {p q : Rat} (h1 : a.lo.At p) (h2 : a.hi.At q) : F_skewbackref05_IsBad a = decide (q < p) := by
  unfold F_skewbackref05_IsBad
  rw [At_good h1, At_good h2, ← Cmp_eq5]
  simp only [Bool.not_true, Bool.or_false, cond_false]
  congr 1
  exact propext (Cmp_gt h1 h2)
theorem Iv.At.good {a : Iv} {p q : Rat} (h : a.At p q) : F_skewbackref05_IsBad a = false := by
  rw [isBad_At h.lo h.hi]; exact decide_eq_false (Rat.not_lt.2 h.le)
theorem notBad_At {a : Iv} (h : F_skewbackref05_IsBad a = false) : ∃ p q, a.At p q := by
  have h0 := h
  unfold F_skewbackref05_IsBad at h
  cases g1 : F_skewbackref04_Good a.lo with
  | false => rw [g1] at h; cases h
  | true =>
    cases g2 : F_skewbackref04_Good a.hi with
    | false => rw [g1, g2] at h; cases h
    | true =>
      obtain ⟨p, h1⟩ := good_At g1
      obtain ⟨q, h2⟩ := good_At g2
      rw [isBad_At h1 h2] at h0
      exact ⟨p, q, h1, h2, Rat.not_lt.1 (of_decide_eq_false h0)⟩
theorem make_At {a b : Rt} {p q : Rat} (ha : a.At p) (hb : b.At q) (h : p ≤ q) : F_skewbackref05_Make a b = ⟨a, b⟩ := by
  have h1 : Iv.At ⟨a, b⟩ p q := ⟨ha, hb, h⟩
  exact make_self (a := ⟨a, b⟩) h1.good
theorem make_not {a b : Rt} {p q : Rat} (ha : a.At p) (hb : b.At q) (h : q < p) : F_skewbackref05_Make a b = F_skewbackref05_Bad := by
  unfold F_skewbackref05_Make
  rw [isBad_At (a := ⟨a, b⟩) ha hb, decide_eq_true h]; rfl
theorem make_bad {a b : Rt} (h : F_skewbackref04_Good a = false ∨ F_skewbackref04_Good b = false) : F_skewbackref05_Make a b = F_skewbackref05_Bad := by
  have : F_skewbackref05_IsBad ⟨a, b⟩ = true := by
    unfold F_skewbackref05_IsBad
    rcases h with h | h <;> rw [h] <;> cases F_skewbackref04_Good a <;> rfl
  unfold F_skewbackref05_Make
  rw [this]; rfl
/-! two intervals' hull -/
theorem hull2 (a b : Iv) : F_interval_Hull [a, b] = bif (F_skewbackref05_IsBad a || F_skewbackref05_IsBad b) then F_skewbackref05_Bad else ⟨F_skewbackref04_Min a.lo b.lo, F_skewbackref04_Max a.hi b.hi⟩ := by
  unfold F_interval_Hull
  rw [right2]
  have h : ((([a, b].length : Nat) : Int) == 0) = false := rfl
  rw [h]
  cases F_skewbackref05_IsBad a <;> cases F_skewbackref05_IsBad b <;> first | rfl | skip
  show (⟨F_ratio_Min a.lo b.lo, F_ratio_Max a.hi b.hi⟩ : Iv) = _
  rw [Min_eq, Max_eq]; rfl
theorem hull_At {a b : Iv} {p q r s : Rat} (ha : a.At p q) (hb : b.At r s) : ∃ u v, Iv.At ⟨F_skewbackref04_Min a.lo b.lo, F_skewbackref04_Max a.hi b.hi⟩ u v ∧ u ≤ p ∧ u ≤ r ∧ q ≤ v ∧ s ≤ v ∧ (u = p ∨ u = r) ∧ (v = q ∨ v = s) := by
  have h1 := ha.le
  have h2 := hb.le
  rcases Rat.le_total (a := p) (b := r) with h | h <;> rcases Rat.le_total (a := q) (b := s) with k | k
  · exact ⟨p, s, ⟨by rw [Min_a ha.lo hb.lo h]; exact ha.lo, by rw [Max_b ha.hi hb.hi k]; exact hb.hi, by grind⟩, by grind, h, k, by grind, .inl rfl, .inr rfl⟩
  · exact ⟨p, q, ⟨by rw [Min_a ha.lo hb.lo h]; exact ha.lo, by rw [Max_a ha.hi hb.hi k]; exact ha.hi, h1⟩, by grind, h, by grind, k, .inl rfl, .inl rfl⟩
  · exact ⟨r, s, ⟨by rw [Min_b ha.lo hb.lo h]; exact hb.lo, by rw [Max_b ha.hi hb.hi k]; exact hb.hi, h2⟩, h, by grind, k, by grind, .inr rfl, .inr rfl⟩
  · exact ⟨r, q, ⟨by rw [Min_b ha.lo hb.lo h]; exact hb.lo, by rw [Max_a ha.hi hb.hi k]; exact ha.hi, by grind⟩, h, by grind, by grind, k, .inr rfl, .inl rfl⟩
theorem of_At {x : Rt} {p : Rat} (h : x.At p) : F_skewbackref05_Make x x = ⟨x, x⟩ := make_At h h (Rat.le_refl)
theorem hull_bad1 (x : Iv) : F_interval_Hull [F_skewbackref05_Bad, x] = F_skewbackref05_Bad := by rw [hull2, bad_isBad]; rfl
theorem hull_bad2 (x : Iv) : F_interval_Hull [x, F_skewbackref05_Bad] = F_skewbackref05_Bad := by rw [hull2, bad_isBad, Bool.or_true]; rfl
theorem hull_of {a : Iv} {p q r : Rat} {x : Rt} (ha : a.At p q) (hx : x.At r) : F_interval_Hull [a, F_interval_Of x] = ⟨F_skewbackref04_Min a.lo x, F_skewbackref04_Max a.hi x⟩ := by
  rw [IOf_eq, of_At hx, hull2, ha.good]
  have : F_skewbackref05_IsBad ⟨x, x⟩ = false := Iv.At.good (p := r) (q := r) ⟨hx, hx, Rat.le_refl⟩
  rw [this]; rfl
theorem hull_next {a : Iv} {p q r : Rat} {x : Rt} (ha : a.At p q) (hx : x.At r) : ∃ u v, Iv.At ⟨F_skewbackref04_Min a.lo x, F_skewbackref04_Max a.hi x⟩ u v := by
  obtain ⟨u, v, h, _⟩ := hull_At ha (b := ⟨x, x⟩) (r := r) (s := r) ⟨hx, hx, Rat.le_refl⟩
  exact ⟨u, v, h⟩
theorem around_eq (x1 x2 x3 x4 : Rt) : F_interval_Hull [F_interval_Hull [F_interval_Hull [F_interval_Hull [F_interval_Of x1, F_interval_Of x1], F_interval_Of x2], F_interval_Of x3], F_interval_Of x4] = F_skewbackref05_around [x1, x2, x3, x4] := by
  have bad : ∀ {x : Rt}, F_skewbackref04_Good x = false → F_interval_Of x = F_skewbackref05_Bad := fun h => by rw [IOf_eq, make_bad (.inl h)]
  unfold F_skewbackref05_around
  rw [show ([x1, x2, x3, x4].getD 0 Rt0) = x1 from rfl]
  unfold F_skewbackref05_around_loop0
  cases g1 : F_skewbackref04_Good x1 with
  | false => rw [bad g1, hull_bad1, hull_bad1, hull_bad1, hull_bad1]; rfl
  | true =>
  obtain ⟨r1, h1⟩ := good_At g1
  have a1 : Iv.At (F_interval_Of x1) r1 r1 := by rw [IOf_eq, of_At h1]; exact ⟨h1, h1, Rat.le_refl⟩
  have e1 : F_interval_Of x1 = ⟨x1, x1⟩ := by rw [IOf_eq, of_At h1]
  have o1 := hull_of a1 h1
  obtain ⟨u1, v1, A1⟩ := hull_next a1 h1
  rw [o1]
  rw [e1] at A1 ⊢
  simp only [cond_true]
  unfold F_skewbackref05_around_loop0
  cases g2 : F_skewbackref04_Good x2 with
  | false => rw [bad g2, hull_bad2, hull_bad1, hull_bad1]; rfl
  | true =>
  obtain ⟨r2, h2⟩ := good_At g2
  rw [hull_of A1 h2]
  obtain ⟨u2, v2, A2⟩ := hull_next A1 h2
  simp only [cond_true]
  unfold F_skewbackref05_around_loop0
  cases g3 : F_skewbackref04_Good x3 with
  | false => rw [bad g3, hull_bad2, hull_bad1]; rfl
  | true =>
  obtain ⟨r3, h3⟩ := good_At g3
  rw [hull_of A2 h3]
  obtain ⟨u3, v3, A3⟩ := hull_next A2 h3
  simp only [cond_true]
  unfold F_skewbackref05_around_loop0
  cases g4 : F_skewbackref04_Good x4 with
  | false => rw [bad g4, hull_bad2]; rfl
  | true =>
  obtain ⟨r4, h4⟩ := good_At g4
  rw [hull_of A3 h4]
  obtain ⟨u4, v4, A4⟩ := hull_next A3 h4
  simp only [cond_true]
  unfold F_skewbackref05_around_loop0
  exact (make_At A4.lo A4.hi A4.le).symm
theorem IMul_eq (a b : Iv) : F_interval_Mul a b = F_skewbackref05_Mul a b := by
  unfold F_interval_Mul F_skewbackref05_Mul
  dsimp only
  rw [right2, IBad_eq, around_eq]
  simp only [Mul_eq]
  cases F_skewbackref05_IsBad a <;> cases F_skewbackref05_IsBad b <;> rfl
theorem has_bad {a : Iv} (h : F_skewbackref05_IsBad a = true) (x : Rt) : F_skewbackref05_Has a x = false := by unfold F_skewbackref05_Has; rw [h]; rfl
theorem IDiv_eq (a b : Iv) : F_interval_Div a b = F_skewbackref05_Div a b := by
  unfold F_interval_Div F_skewbackref05_Div
  dsimp only
  rw [right2, IBad_eq, IHas_eq, around_eq]
  simp only [Div_eq, Of_eq]
  cases hb : F_skewbackref05_IsBad b with
  | true => rw [has_bad hb]; cases F_skewbackref05_IsBad a <;> rfl
  | false => cases F_skewbackref05_IsBad a <;> cases F_skewbackref05_Has b (F_skewbackref04_Of (wl 0)) <;> rfl
theorem ISplit_eq (a : Iv) : F_interval_Split a = ((F_skewbackref05_Split a).x, (F_skewbackref05_Split a).y) := by
  unfold F_interval_Split F_skewbackref05_Split
  rw [right1]
  simp only [IMake_eq, Mid_eq, IBad_eq]
  cases F_skewbackref05_IsBad a <;> rfl
theorem IInside_eq (a b : Iv) : F_interval_Inside a b = F_skewbackref05_Inside a b := by
  unfold F_interval_Inside F_skewbackref05_Inside
  rw [right1, IHas_eq, IHas_eq]
  cases hb : F_skewbackref05_IsBad b with
  | true => rw [has_bad hb, has_bad hb]; cases F_skewbackref05_IsBad a <;> rfl
  | false => cases F_skewbackref05_IsBad a <;> rfl
theorem IMeet_eq (a b : Iv) : F_interval_Meet a b = ((F_skewbackref05_Meet a b).a, (F_skewbackref05_Meet a b).is) := by
  unfold F_interval_Meet F_skewbackref05_Meet
  dsimp only
  rw [right2, ICmp_eq, IMake_eq, IBad_eq, Max_eq, Min_eq]
  unfold F_skewbackref05_Cmp
  cases ga : F_skewbackref05_IsBad a with
  | true => rfl
  | false =>
    cases gb : F_skewbackref05_IsBad b with
    | true => rfl
    | false =>
      obtain ⟨p, q, ha⟩ := notBad_At ga
      obtain ⟨r, s, hb⟩ := notBad_At gb
      simp only [Bool.not_false, Bool.and_true, Bool.not_true, Bool.false_or, Bool.or_false, cond_false]
      rw [← Cmp_eq5, ← Cmp_eq5]
      have hp := ha.le
      have hr := hb.le
      obtain ⟨m, hm, hm1⟩ : ∃ m, (F_skewbackref04_Max a.lo b.lo).At m ∧ (m = p ∧ r ≤ p ∨ m = r ∧ p ≤ r) := by
        rcases Rat.le_total (a := p) (b := r) with h | h
        · exact ⟨r, by rw [Max_b ha.lo hb.lo h]; exact hb.lo, .inr ⟨rfl, h⟩⟩
        · exact ⟨p, by rw [Max_a ha.lo hb.lo h]; exact ha.lo, .inl ⟨rfl, h⟩⟩
      obtain ⟨n, hn, hn1⟩ : ∃ n, (F_skewbackref04_Min a.hi b.hi).At n ∧ (n = q ∧ q ≤ s ∨ n = s ∧ s ≤ q) := by
        rcases Rat.le_total (a := q) (b := s) with h | h
        · exact ⟨q, by rw [Min_a ha.hi hb.hi h]; exact ha.hi, .inl ⟨rfl, h⟩⟩
        · exact ⟨s, by rw [Min_b ha.hi hb.hi h]; exact hb.hi, .inr ⟨rfl, h⟩⟩
      by_cases h1 : q < r
      · rw [decide_eq_true ((Cmp_lt ha.hi hb.lo).2 h1), make_not hm hn (by grind), bad_isBad]; rfl
      · rw [decide_eq_false (fun h => h1 ((Cmp_lt ha.hi hb.lo).1 h))]
        by_cases h2 : s < p
        · rw [decide_eq_true ((Cmp_gt ha.lo hb.hi).2 h2), make_not hm hn (by grind), bad_isBad]; rfl
        · rw [decide_eq_false (fun h => h2 ((Cmp_gt ha.lo hb.hi).1 h))]
          have hle : m ≤ n := by grind
          have e := make_At hm hn hle
          have hg : F_skewbackref05_IsBad (F_skewbackref05_Make (F_skewbackref04_Max a.lo b.lo) (F_skewbackref04_Min a.hi b.hi)) = false := by
            rw [e]; exact Iv.At.good (p := m) (q := n) ⟨hm, hn, hle⟩
          rw [hg]; rfl
end Go.Num

set_option linter.unusedVariables false
set_option linter.unusedSimpArgs false
namespace Go.Num
open Go Go.Kn
/-- a, times x, n times -/
def itMul (x : Rt) : Nat → Rt → Rt
  | 0, a => a
  | n + 1, a => itMul x n (F_skewbackref04_Mul a x)
theorem inc_1 {i n : W} (h : i.1 < n.1) : (W.add i (wl 1)).1 = i.1 + 1 := by
  have h2 := i.2
  have h3 := n.2
  unfold I64 at h2 h3
  exact wi (by show -9223372036854775808 ≤ i.1 + 1 ∧ i.1 + 1 ≤ _; omega)
theorem rpow_loop (a : Rt) (b : W) : ∀ (k : Nat) (i : W) (m : Rt), (b.1 - i.1).toNat < k → (F_skewbackref05_power_loop0 a b k i m).2 = itMul a (b.1 - i.1).toNat m := by
  intro k
  induction k with
  | zero => intro i m h; omega
  | succ k ih =>
    intro i m h
    unfold F_skewbackref05_power_loop0
    by_cases hc : i.1 < b.1
    · rw [decide_eq_true hc, cond_true, ih _ _ (by rw [inc_1 hc]; omega), inc_1 hc]
      have : (b.1 - i.1).toNat = (b.1 - (i.1 + 1)).toNat + 1 := by omega
      rw [this]; rfl
    · rw [decide_eq_false hc, cond_false]
      have : (b.1 - i.1).toNat = 0 := by omega
      rw [this]; rfl
theorem rpow (a : Rt) (b : W) : F_skewbackref05_power a b = itMul a b.1.toNat (F_skewbackref04_Of (wl 1)) := by
  have := rpow_loop a b (b.1.toNat + 1) (wl 0) (F_skewbackref04_Of (wl 1)) (by show (b.1 - 0).toNat < _; omega)
  have e : (b.1 - (wl 0).1).toNat = b.1.toNat := by show (b.1 - 0).toNat = _; rw [Int.sub_zero]
  rw [e] at this
  exact this
theorem ipow_loop (a : Iv) (b : W) (r s : Iv) : ∀ (k : Nat) (i : W) (m : Iv), (b.1 - i.1).toNat < k → (F_interval_Power_loop0 a b r s k i m).2 = ⟨itMul r.lo (b.1 - i.1).toNat m.lo, itMul r.hi (b.1 - i.1).toNat m.hi⟩ := by
  intro k
  induction k with
  | zero => intro i m h; omega
  | succ k ih =>
    intro i m h
    unfold F_interval_Power_loop0
    by_cases hc : i.1 < b.1
    · rw [decide_eq_true hc, cond_true, ih _ _ (by rw [inc_1 hc]; omega), inc_1 hc, Mul_eq, Mul_eq]
      have : (b.1 - i.1).toNat = (b.1 - (i.1 + 1)).toNat + 1 := by omega
      rw [this]; rfl
    · rw [decide_eq_false hc, cond_false]
      have : (b.1 - i.1).toNat = 0 := by omega
      rw [this]; rfl
theorem merge_iv (c : Bool) (x y : Iv) : (⟨⟨bif c then x.lo.n else y.lo.n, bif c then x.lo.d else y.lo.d⟩, ⟨bif c then x.hi.n else y.hi.n, bif c then x.hi.d else y.hi.d⟩⟩ : Iv) = bif c then x else y := by cases c <;> rfl
theorem IPower_eq {a : Iv} (hr : F_skewbackref05_Right a = true) (b : W) : F_interval_Power a b = F_skewbackref05_Power a b := by
  unfold F_interval_Power F_skewbackref05_Power
  dsimp only
  rw [right1, IBad_eq, Bool.not_not, merge_iv, IAbs_eq hr, IOf_eq, Of_eq]
  cases hc : (F_skewbackref05_IsBad a || (decide (b.1 < 0) || decide (32 < b.1))) with
  | true => rfl
  | false =>
    have h1 : F_skewbackref05_Make (F_skewbackref04_Of (wl 1)) (F_skewbackref04_Of (wl 1)) = ⟨F_skewbackref04_Of (wl 1), F_skewbackref04_Of (wl 1)⟩ := by decide +kernel
    have h2 := fun r : Iv => ipow_loop a b r ⟨F_skewbackref04_Of (wl 1), F_skewbackref04_Of (wl 1)⟩ (b.1.toNat + 1) (wl 0) ⟨F_skewbackref04_Of (wl 1), F_skewbackref04_Of (wl 1)⟩ (by show (b.1 - 0).toNat < _; omega)
    have e : (b.1 - (wl 0).1).toNat = b.1.toNat := by show (b.1 - 0).toNat = _; rw [Int.sub_zero]
    rw [e] at h2
    simp only [cond_false, ap, h1]
    rw [h2, IMake_eq]
    simp only [rpow]
    cases ((W.rem b (wl 2)).1 == 0) <;> rfl
/-! hulls of lists -/
theorem right_all : ∀ (l0 l : List Iv), F_interval_right_loop0 l0 l = bif l.all (fun a => !F_skewbackref05_IsBad a) then .inl () else .inr false
  | _, [] => rfl
  | l0, x :: l => by
    unfold F_interval_right_loop0
    rw [IsBad_eq, right_all l0 l, List.all_cons]
    cases F_skewbackref05_IsBad x <;> rfl
theorem right_l (l : List Iv) : F_interval_right l = l.all (fun a => !F_skewbackref05_IsBad a) := by
  unfold F_interval_right
  rw [right_all]
  cases l.all (fun a => !F_skewbackref05_IsBad a) <;> rfl
theorem rhull_bad : ∀ (l0 l : List Iv) (m : Iv), l.all (fun a => !F_skewbackref05_IsBad a) = false → F_skewbackref05_Hull_loop0 l0 l m = .inr F_skewbackref05_Bad
  | _, [], _, h => by cases h
  | l0, x :: l, m, h => by
    unfold F_skewbackref05_Hull_loop0
    rw [List.all_cons] at h
    cases hx : F_skewbackref05_IsBad x with
    | true => rfl
    | false => rw [hx] at h; exact rhull_bad l0 l _ h
theorem hull_loops : ∀ (l0 l1 l : List Iv) (m : Iv), l.all (fun a => !F_skewbackref05_IsBad a) = true → F_skewbackref05_IsBad m = false → F_skewbackref05_Hull_loop0 l0 l m = .inl (F_interval_Hull_loop0 l1 l m)
  | _, _, [], _, _, _ => rfl
  | l0, l1, x :: l, m, h, hm => by
    unfold F_skewbackref05_Hull_loop0 F_interval_Hull_loop0
    rw [List.all_cons, Bool.and_eq_true, Bool.not_eq_true'] at h
    rw [h.1, cond_false, Min_eq, Max_eq]
    obtain ⟨p, q, a⟩ := notBad_At hm
    obtain ⟨r, s, b⟩ := notBad_At h.1
    obtain ⟨u, v, c, _⟩ := hull_At a b
    have e := make_At c.lo c.hi c.le
    simp only at e
    rw [e]
    exact hull_loops l0 l1 l _ h.2 c.good
theorem IHull_eq (l : List Iv) : F_interval_Hull l = F_skewbackref05_Hull l := by
  unfold F_interval_Hull F_skewbackref05_Hull
  rw [right_l, IBad_eq]
  cases l with
  | nil => rfl
  | cons x l =>
    have h0 : ((((x :: l).length : Nat) : Int) == 0) = false := by rw [beq_eq_false_iff_ne, List.length_cons]; omega
    rw [h0]
    have e1 : (x :: l).getD 0 Iv0 = x := rfl
    have e2 : (x :: l).drop 1 = l := rfl
    rw [e1, e2]
    cases hb : (x :: l).all (fun a => !F_skewbackref05_IsBad a) with
    | false => rw [rhull_bad _ _ _ hb]; rfl
    | true =>
      rw [List.all_cons, Bool.and_eq_true, Bool.not_eq_true'] at hb
      obtain ⟨p, q, a⟩ := notBad_At hb.1
      unfold F_skewbackref05_Hull_loop0
      rw [hb.1, cond_false]
      have e3 : F_skewbackref05_Make (F_skewbackref04_Min x.lo x.lo) (F_skewbackref04_Max x.hi x.hi) = x := by
        rw [Min_a a.lo a.lo Rat.le_refl, Max_a a.hi a.hi Rat.le_refl]; exact make_self hb.1
      dsimp only
      rw [e3, hull_loops _ (x :: l) _ _ hb.2 hb.1]
      rfl
theorem sanity05 : F_skewbacklaw05_sanity = true := by kernel_rfl
theorem IntervalComputes_true (a b : Iv) (c : W) : F_skewbacklaw05_IntervalComputesAsSpecified a b c = true := by
  unfold F_skewbacklaw05_IntervalComputesAsSpecified
  rw [sanity05]
  cases ha : F_skewbackref05_Right a with
  | false => rfl
  | true =>
    cases hb : F_skewbackref05_Right b with
    | false => rfl
    | true =>
      simp only [IAdd_eq, ISub_eq, IMul_eq, IDiv_eq, INeg_eq, IAbs_eq ha, IPower_eq ha, IWidth_eq, IWiden_eq, ISplit_eq]
      simp
theorem sets_loop1 (l : List Iv) (x y : Rt) (x0 : Iv) (l0 : List Iv) (r' : Iv) : ∀ (l1 : List Iv) (r : Iv), F_skewbacklaw05_IntervalSetsAsSpecified_loop1 l x y r x0 l0 r' l1 = .inl ()
  | [], _ => rfl
  | x1 :: l1, r => by
    unfold F_skewbacklaw05_IntervalSetsAsSpecified_loop1
    dsimp only
    rw [sets_loop1 l x y x0 l0 r' l1]
    simp [IMeet_eq, IInside_eq, ICmp_eq]
theorem sets_loop0 (l : List Iv) (x y : Rt) (r : Iv) : ∀ l0 : List Iv, F_skewbacklaw05_IntervalSetsAsSpecified_loop0 l x y r l0 = .inl () ∨ F_skewbacklaw05_IntervalSetsAsSpecified_loop0 l x y r l0 = .inr true
  | [] => .inl rfl
  | x0 :: l0 => by
    unfold F_skewbacklaw05_IntervalSetsAsSpecified_loop0
    rw [sets_loop1, IsBad_eq, IHas_eq, sanity05]
    cases F_skewbackref05_Right x0 with
    | false => exact .inr rfl
    | true =>
      simp only [cond_true, bne_self_eq_false, Bool.or_self, cond_false, sm]
      exact sets_loop0 l x y r l0
theorem IntervalSets_true (l : List Iv) (x y : Rt) : F_skewbacklaw05_IntervalSetsAsSpecified l x y = true := by
  unfold F_skewbacklaw05_IntervalSetsAsSpecified
  rw [sanity05, IMake_eq, IOf_eq, IHull_eq]
  cases decide (12 < ((l.length : Nat) : Int)) with
  | true => rfl
  | false =>
    simp only [cond_false, decide_true, Bool.and_self, Bool.not_true, Bool.or_self]
    rcases sets_loop0 l x y (F_skewbackref05_Make x y) l with h | h
    · rw [h]; simp [sm]
    · rw [h]; rfl
end Go.Num

set_option linter.unusedVariables false
set_option linter.unusedSimpArgs false
namespace Go.Num
open Go Go.Kn
def mn (p q : Rat) : Rat := if p ≤ q then p else q
def mx (p q : Rat) : Rat := if p ≤ q then q else p
theorem min_At {a b : Rt} {p q : Rat} (ha : a.At p) (hb : b.At q) : (F_skewbackref04_Min a b).At (mn p q) := by
  unfold mn
  split
  · rename_i h; rw [Min_a ha hb h]; exact ha
  · rename_i h; rw [Min_b ha hb (by grind)]; exact hb
theorem max_At {a b : Rt} {p q : Rat} (ha : a.At p) (hb : b.At q) : (F_skewbackref04_Max a b).At (mx p q) := by
  unfold mx
  split
  · rename_i h; rw [Max_b ha hb h]; exact hb
  · rename_i h; rw [Max_a ha hb (by grind)]; exact ha
theorem hull_at {a b : Iv} {p q r s : Rat} (ha : a.At p q) (hb : b.At r s) : (F_interval_Hull [a, b]).At (mn p r) (mx q s) := by
  rw [hull2, ha.good, hb.good]
  refine ⟨min_At ha.lo hb.lo, max_At ha.hi hb.hi, ?_⟩
  have h1 := ha.le
  have h2 := hb.le
  unfold mn mx; grind
theorem hull3 {a b c : Iv} {p q r s t u : Rat} (ha : a.At p q) (hb : b.At r s) (hc : c.At t u) : F_interval_Hull [a, b, c] = F_interval_Hull [F_interval_Hull [a, b], c] := by
  rw [hull2 _ c, (hull_at ha hb).good, hc.good]
  rw [hull2, ha.good, hb.good]
  unfold F_interval_Hull
  rw [right_l]
  have h : ((([a, b, c].length : Nat) : Int) == 0) = false := rfl
  rw [h]
  simp only [List.all_cons, List.all_nil, ha.good, hb.good, hc.good]
  show (⟨F_ratio_Min (F_ratio_Min a.lo b.lo) c.lo, F_ratio_Max (F_ratio_Max a.hi b.hi) c.hi⟩ : Iv) = _
  simp only [Min_eq, Max_eq]; rfl
theorem iv_inj {a b : Iv} {p q : Rat} (ha : a.At p q) (hb : b.At p q) : a = b := by
  cases a; cases b
  have h1 := At_inj ha.lo hb.lo
  have h2 := At_inj ha.hi hb.hi
  simp only at h1 h2
  rw [h1, h2]
theorem iv_inj' {a b : Iv} {p q r s : Rat} (ha : a.At p q) (hb : b.At r s) (h1 : p = r) (h2 : q = s) : a = b := by subst h1 h2; exact iv_inj ha hb
theorem has_At {a : Iv} {x : Rt} {p q r : Rat} (ha : a.At p q) (hx : x.At r) : F_interval_Has a x = decide (p ≤ r ∧ r ≤ q) := by
  rw [IHas_eq]
  unfold F_skewbackref05_Has
  rw [ha.good, At_good hx, ← Cmp_eq5, ← Cmp_eq5]
  simp only [Bool.not_true, Bool.or_false, cond_false, Cmp_le ha.lo hx, Cmp_le hx ha.hi, Bool.decide_and]
theorem inside_At {a b : Iv} {p q r s : Rat} (ha : a.At p q) (hb : b.At r s) : F_interval_Inside a b = decide (r ≤ p ∧ q ≤ s) := by
  unfold F_interval_Inside
  rw [right1, ha.good, has_At hb ha.lo, has_At hb ha.hi, Bool.not_false, Bool.true_and, ← Bool.decide_and]
  have := ha.le
  congr 1
  apply propext
  constructor <;> grind
theorem cmp_At {a b : Iv} {p q r s : Rat} (ha : a.At p q) (hb : b.At r s) : (F_interval_Cmp a b).1 = if q < r then -1 else if s < p then 1 else 0 := by
  rw [ICmp_eq]
  unfold F_skewbackref05_Cmp
  rw [ha.good, hb.good, ← Cmp_eq5, ← Cmp_eq5]
  simp only [Bool.or_false, cond_false, Cmp_lt ha.hi hb.lo, Cmp_gt ha.lo hb.hi]
  by_cases h1 : q < r
  · rw [decide_eq_true h1, if_pos h1]; rfl
  · rw [decide_eq_false h1, if_neg h1]
    by_cases h2 : s < p
    · rw [decide_eq_true h2, if_pos h2]; rfl
    · rw [decide_eq_false h2, if_neg h2]; rfl
theorem meet_At {a b : Iv} {p q r s : Rat} (ha : a.At p q) (hb : b.At r s) (h : r ≤ q ∧ p ≤ s) : (F_interval_Meet a b).2 = true ∧ (F_interval_Meet a b).1.At (mx p r) (mn q s) := by
  have h1 := ha.le
  have h2 := hb.le
  have hle : mx p r ≤ mn q s := by unfold mx mn; grind
  rw [IMeet_eq]
  unfold F_skewbackref05_Meet
  rw [ha.good, hb.good, make_At (max_At ha.lo hb.lo) (min_At ha.hi hb.hi) hle]
  have A : Iv.At ⟨F_skewbackref04_Max a.lo b.lo, F_skewbackref04_Min a.hi b.hi⟩ (mx p r) (mn q s) := ⟨max_At ha.lo hb.lo, min_At ha.hi hb.hi, hle⟩
  simp only [Bool.or_false, cond_false, A.good]
  exact ⟨rfl, A⟩
theorem meet_not {a b : Iv} {p q r s : Rat} (ha : a.At p q) (hb : b.At r s) (h : ¬ (r ≤ q ∧ p ≤ s)) : (F_interval_Meet a b).2 = false := by
  have h1 := ha.le
  have h2 := hb.le
  have hle : mn q s < mx p r := by unfold mx mn; grind
  rw [IMeet_eq]
  unfold F_skewbackref05_Meet
  rw [ha.good, hb.good, make_not (max_At ha.lo hb.lo) (min_At ha.hi hb.hi) hle]
  simp only [Bool.or_false, cond_false, bad_isBad]; rfl
theorem cmp_neg {a b : Iv} {p q r s : Rat} (ha : a.At p q) (hb : b.At r s) : (F_interval_Cmp a b).1 = (W.neg (F_interval_Cmp b a)).1 := by
  have h1 := ha.le
  have h2 := hb.le
  have h : (W.neg (F_interval_Cmp b a)).1 = - (F_interval_Cmp b a).1 := by
    have := cmp_At hb ha
    show IntKind.i64.wrap (0 - _) = _
    rw [this]
    split
    · rfl
    · split <;> rfl
  rw [h, cmp_At ha hb, cmp_At hb ha]
  by_cases k1 : q < r
  · rw [if_pos k1, if_neg (by grind), if_pos k1]
  · rw [if_neg k1]
    by_cases k2 : s < p
    · rw [if_pos k2, if_pos k2]; rfl
    · rw [if_neg k2, if_neg k2, if_neg k1]; rfl
theorem IntervalSetsAgree_true (a b c : Iv) : F_skewbacklaw05_IntervalSetsAgree a b c = true := by
  unfold F_skewbacklaw05_IntervalSetsAgree
  rw [sanity05]
  cases ga : F_skewbackref05_IsBad a with
  | true => rfl
  | false =>
  cases gb : F_skewbackref05_IsBad b with
  | true => rfl
  | false =>
  cases gc : F_skewbackref05_IsBad c with
  | true => rfl
  | false =>
  obtain ⟨p, q, ha⟩ := notBad_At ga
  obtain ⟨r, s, hb⟩ := notBad_At gb
  obtain ⟨t, u, hc⟩ := notBad_At gc
  have h1 := ha.le
  have h2 := hb.le
  have h3 := hc.le
  have hab := hull_at ha hb
  have hba := hull_at hb ha
  have e1 : F_interval_Hull [b, a] = F_interval_Hull [a, b] := iv_inj' hba hab (by unfold mn; grind) (by unfold mx; grind)
  have e2 : F_interval_Hull [a, F_interval_Hull [b, c]] = F_interval_Hull [F_interval_Hull [a, b], c] := iv_inj' (hull_at ha (hull_at hb hc)) (hull_at hab hc) (by unfold mn; grind) (by unfold mx; grind)
  have e3 := hull3 ha hb hc
  have i1 := inside_At ha hab
  rw [decide_eq_true (show mn p r ≤ p ∧ q ≤ mx q s by unfold mn mx; grind)] at i1
  have i2 := inside_At hb hab
  rw [decide_eq_true (show mn p r ≤ r ∧ s ≤ mx q s by unfold mn mx; grind)] at i2
  have n1 := cmp_neg hb hc
  dsimp only
  rw [e1, e2, e3, i1, i2, ← n1]
  simp only [Bool.or_false, cond_false, bne_self_eq_false, decide_true, Bool.and_self, Bool.not_true, cond_true, Bool.true_and]
  have i3 := inside_At hab hc
  have hc0 : ((F_interval_Cmp b c).1 == 0) = (F_interval_Meet b c).2 := by
    rw [cmp_At hb hc]
    by_cases hm : t ≤ s ∧ r ≤ u
    · rw [(meet_At hb hc hm).1, if_neg (by grind), if_neg (by grind)]; rfl
    · rw [meet_not hb hc hm]
      by_cases k : s < t
      · rw [if_pos k]; rfl
      · rw [if_neg k, if_pos (by grind)]; rfl
  rw [hc0]
  simp only [bne_self_eq_false, Bool.or_false]
  have hand : (bif F_interval_Inside a c then bif F_interval_Inside b c then F_interval_Inside (F_interval_Hull [a, b]) c else true else true) = true := by
    rw [inside_At ha hc, inside_At hb hc, i3]
    by_cases k1 : t ≤ p ∧ q ≤ u
    · by_cases k2 : t ≤ r ∧ s ≤ u
      · rw [decide_eq_true k1, decide_eq_true k2, decide_eq_true (show t ≤ mn p r ∧ mx q s ≤ u by unfold mn mx; grind)]; rfl
      · rw [decide_eq_true k1, decide_eq_false k2]; rfl
    · rw [decide_eq_false k1]; rfl
  have hall : (F_interval_Inside a b && F_interval_Inside a c) = ((F_interval_Meet b c).2 && F_interval_Inside a (F_interval_Meet b c).1) := by
    rw [inside_At ha hb, inside_At ha hc]
    by_cases hm : t ≤ s ∧ r ≤ u
    · rw [(meet_At hb hc hm).1, inside_At ha (meet_At hb hc hm).2, Bool.true_and, ← Bool.decide_and]
      congr 1
      apply propext
      unfold mx mn
      constructor <;> grind
    · rw [meet_not hb hc hm, Bool.false_and, ← Bool.decide_and]
      exact decide_eq_false (by grind)
  revert hand hall
  cases F_interval_Inside a b <;> cases F_interval_Inside a c <;> cases F_interval_Inside b c <;> cases (F_interval_Meet b c).2 <;> cases F_interval_Inside a (F_interval_Meet b c).1 <;> cases F_interval_Inside (F_interval_Hull [a, b]) c <;> simp
end Go.Num

set_option linter.unusedVariables false
set_option linter.unusedSimpArgs false
namespace Go.Num
open Go Go.Kn
/-- Above and below of less than k bits. -/
structure Sz (q : Rat) (k : Nat) : Prop where
  n : q.num.natAbs < 2 ^ k
  d : q.den < 2 ^ k
theorem pow_le {a b : Nat} (h : a ≤ b) : (2 : Nat) ^ a ≤ 2 ^ b := Nat.pow_le_pow_right (by decide) h
theorem B_pow' {v : Int} {k : Nat} (m : Nat) (hm : 4294967296 ^ 16 = 2 ^ m) (h : v.natAbs < 2 ^ k) (hk : k ≤ m) : B512 v := by
  unfold B512
  rw [hm]
  exact Nat.lt_of_lt_of_le h (pow_le hk)
theorem B_pow {v : Int} {k : Nat} (h : v.natAbs < 2 ^ k) (hk : k ≤ 512) : B512 v := B_pow' 512 two_512 h hk
theorem Sz.mono {q : Rat} {j k : Nat} (h : Sz q j) (hk : j ≤ k) : Sz q k := ⟨Nat.lt_of_lt_of_le h.n (pow_le hk), Nat.lt_of_lt_of_le h.d (pow_le hk)⟩
theorem Sz.bn {q : Rat} {k : Nat} (h : Sz q k) (hk : k ≤ 512) : B512 q.num := B_pow h.n hk
theorem Sz.bd {q : Rat} {k : Nat} (h : Sz q k) (hk : k ≤ 512) : B512 (q.den : Int) := B_pow (by simpa using h.d) hk
theorem pmul_lt {a b j k : Nat} (h : a < 2 ^ j) (g : b < 2 ^ k) : a * b < 2 ^ (j + k) := by
  rw [Nat.pow_add]
  exact Nat.mul_lt_mul_of_lt_of_le h (Nat.le_of_lt g) (Nat.pow_pos (by decide))
theorem Sz.mul {p q : Rat} {j k : Nat} (h : Sz p j) (g : Sz q k) : Sz (p * q) (j + k) := by
  constructor
  · rw [Rat.num_mul]
    refine Nat.lt_of_le_of_lt (Int.natAbs_ediv_le_natAbs _ _) ?_
    rw [Int.natAbs_mul]; exact pmul_lt h.n g.n
  · rw [Rat.den_mul]
    exact Nat.lt_of_le_of_lt (Nat.div_le_self _ _) (pmul_lt h.d g.d)
theorem Sz.neg {p : Rat} {k : Nat} (h : Sz p k) : Sz (-p) k := ⟨by rw [Rat.neg_num, Int.natAbs_neg]; exact h.n, h.d⟩
theorem add_num_lt {n m : Int} {d e j k : Nat} (h1 : n.natAbs < 2 ^ j) (h2 : e < 2 ^ k) (h3 : m.natAbs < 2 ^ k) (h4 : d < 2 ^ j) : (n * e + m * d).natAbs < 2 ^ (j + k + 1) := by
  have a := pmul_lt h1 h2
  have b := pmul_lt h4 h3
  have c := Int.natAbs_add_le (n * e) (m * d)
  rw [Int.natAbs_mul, Int.natAbs_mul, Int.natAbs_natCast, Int.natAbs_natCast] at c
  rw [Nat.pow_succ]
  rw [Nat.mul_comm d] at b
  omega
theorem Sz.add {p q : Rat} {j k : Nat} (h : Sz p j) (g : Sz q k) : Sz (p + q) (j + k + 1) := by
  constructor
  · rw [Rat.num_add]
    exact Nat.lt_of_le_of_lt (Int.natAbs_ediv_le_natAbs _ _) (add_num_lt h.n g.d g.n h.d)
  · rw [Rat.den_add]
    exact Nat.lt_of_le_of_lt (Nat.div_le_self _ _) (Nat.lt_of_lt_of_le (pmul_lt h.d g.d) (pow_le (by omega)))
theorem Sz.inv {p : Rat} {k : Nat} (h : Sz p k) (h0 : p ≠ 0) : Sz p⁻¹ k := by
  have hn : p.num ≠ 0 := fun h => h0 (Rat.num_eq_zero.1 h)
  constructor
  · rw [Rat.num_inv, Int.natAbs_mul, Int.natAbs_sign_of_ne_zero hn, Nat.one_mul, Int.natAbs_natCast]; exact h.d
  · rw [Rat.den_inv, if_neg hn]; exact h.n
theorem Sz.int {n : Int} {k : Nat} (h : n.natAbs < 2 ^ k) (hk : 0 < k) : Sz (n : Rat) k := ⟨h, Nat.one_lt_two_pow (by omega)⟩
/-! what the functions return -/
theorem At_of {a : Rt} {n d : Int} {q : Rat} (h : a.Is n d) (he : q.num * d = n * q.den) : a.At q := by
  obtain ⟨p, hp, h1, h2⟩ := Is_At h
  have : p = q := Rat.eq_iff_mul_eq_mul.2 (by rw [h1, h2]; exact he.symm)
  rw [← this]; exact hp
theorem At.is {a : Rt} {q : Rat} (h : a.At q) : a.Is q.num (q.den : Int) := h
theorem Make_At {n d : Int} {q : Rat} (hn : B512 n) (hd : B512 d) (hp : 0 < d) (he : q.num * d = n * q.den) : (F_skewbackref04_Make (E (Z.of n)) (E (Z.of d))).At q := by
  refine At_of (make_pos_is hn hd hp) ?_
  have g1 : ((Int.gcd n d : Nat) : Int) ∣ n := Int.gcd_dvd_left ..
  have g2 : ((Int.gcd n d : Nat) : Int) ∣ d := Int.gcd_dvd_right ..
  have p1 : 0 < ((Int.gcd n d : Nat) : Int) := by have := Int.gcd_pos_of_ne_zero_right n (show d ≠ 0 by omega); omega
  obtain ⟨x, hx⟩ := g1
  obtain ⟨y, hy⟩ := g2
  generalize ((Int.gcd n d : Nat) : Int) = G at *
  have q1 : n / G = x := by rw [hx]; exact Int.mul_ediv_cancel_left _ (by omega)
  have q2 : d / G = y := by rw [hy]; exact Int.mul_ediv_cancel_left _ (by omega)
  rw [q1, q2]
  rw [hx, hy] at he
  exact Int.eq_of_mul_eq_mul_left (show G ≠ 0 by omega) (by grind)
theorem Of_At (c : W) : (F_skewbackref04_Of c).At (c.1 : Rat) := by
  unfold F_skewbackref04_Of
  rw [one4]
  have := c.2
  unfold I64 at this
  exact Make_At (B_pow (k := 64) (by omega) (by decide)) B1 (by decide) (by simp)
theorem Neg_At {a : Rt} {p : Rat} (h : a.At p) : (F_skewbackref04_Neg a).At (-p) := Neg_is h
theorem ne_den {q : Rat} : (0 : Int) < q.den := by have := q.den_nz; omega
theorem Mul_At {a b : Rt} {p q : Rat} (ha : a.At p) (hb : b.At q) (hn : B512 (p * q).num) (hd : B512 ((p * q).den : Int)) : (F_skewbackref04_Mul a b).At (p * q) := by
  unfold F_skewbackref04_Mul
  rw [At_good ha, At_good hb]
  obtain ⟨x, y, r, s, e1, e2, b1, b2, b3, b4, h1, h2, hc, he⟩ := Mul_pair ha hb
  simp only [Bool.not_true, Bool.or_false, cond_false, e1, e2, E_dec]
  rw [mul_of b1 b3, mul_of b2 b4]
  have hps : 0 < y * s := Int.mul_pos h1 h2
  have hpq : p * q = Rat.divInt (x * r) (y * s) := by
    rw [← Rat.num_divInt_den p, ← Rat.num_divInt_den q, Rat.divInt_mul_divInt]
    exact (Rat.divInt_eq_divInt_iff (by have := @ne_den p; have := @ne_den q; exact Int.mul_ne_zero (by omega) (by omega)) (by omega)).2 (by rw [he])
  have hnum : (p * q).num = x * r := by
    rw [hpq, Rat.num_divInt, Int.gcd_comm, hc, Int.sign_eq_one_of_pos hps]; simp
  have hden : ((p * q).den : Int) = y * s := by
    rw [hpq, Rat.den_divInt, if_neg (by omega), Int.gcd_comm, hc, Nat.div_one]; omega
  rw [hnum] at hn
  rw [hden] at hd
  exact Make_At hn hd hps (by rw [hnum, hden])
theorem Mul_sz {a b : Rt} {p q : Rat} {j k : Nat} (ha : a.At p) (hb : b.At q) (hp : Sz p j) (hq : Sz q k) (h : j + k ≤ 512) : (F_skewbackref04_Mul a b).At (p * q) :=
  Mul_At ha hb ((hp.mul hq).bn h) ((hp.mul hq).bd h)
theorem Add_At {a b : Rt} {p q : Rat} {j k : Nat} (ha : a.At p) (hb : b.At q) (hp : Sz p j) (hq : Sz q k) (h : j + k + 1 ≤ 512) : (F_skewbackref04_Add a b).At (p + q) := by
  unfold F_skewbackref04_Add
  rw [At_good ha, At_good hb]
  simp only [Bool.not_true, Bool.or_false, cond_false]
  have ia := At.is ha
  have ib := At.is hb
  rw [ia.en, ia.ed, ib.en, ib.ed]
  simp only [E_dec]
  have hdp := @ne_den p
  have hdq := @ne_den q
  have hg : 0 < ((Int.gcd (p.den : Int) (q.den : Int) : Nat) : Int) := by
    have := Int.gcd_pos_of_ne_zero_right (p.den : Int) (show (q.den : Int) ≠ 0 by omega)
    omega
  have hbg := gcd_B (u := (p.den : Int)) ib.hd (by omega)
  have g1 : ((Int.gcd (p.den : Int) (q.den : Int) : Nat) : Int) ∣ (p.den : Int) := Int.gcd_dvd_left ..
  have g2 : ((Int.gcd (p.den : Int) (q.den : Int) : Nat) : Int) ∣ (q.den : Int) := Int.gcd_dvd_right ..
  rw [gcd_of ia.hd ib.hd, quo_of' ib.hd hbg hg, quo_of' ia.hd hbg hg]
  generalize ((Int.gcd (p.den : Int) (q.den : Int) : Nat) : Int) = G at *
  obtain ⟨x, hx⟩ := g1
  obtain ⟨y, hy⟩ := g2
  have q1 : (p.den : Int) / G = x := by rw [hx]; exact Int.mul_ediv_cancel_left _ (by omega)
  have q2 : (q.den : Int) / G = y := by rw [hy]; exact Int.mul_ediv_cancel_left _ (by omega)
  rw [q1, q2]
  have x0 : 0 < x := by rw [hx] at hdp; exact Int.pos_of_mul_pos_right hdp hg
  have y0 : 0 < y := by rw [hy] at hdq; exact Int.pos_of_mul_pos_right hdq hg
  have xl : x ≤ p.den := by rw [hx]; have := Int.mul_le_mul_of_nonneg_right (show (1 : Int) ≤ G by omega) (Int.le_of_lt x0); omega
  have yl : y ≤ q.den := by rw [hy]; have := Int.mul_le_mul_of_nonneg_right (show (1 : Int) ≤ G by omega) (Int.le_of_lt y0); omega
  have x1 : x.toNat < 2 ^ j := Nat.lt_of_le_of_lt (by omega) hp.d
  have y1 : y.toNat < 2 ^ k := Nat.lt_of_le_of_lt (by omega) hq.d
  have xe : x = (x.toNat : Int) := by omega
  have ye : y = (y.toNat : Int) := by omega
  have bx : B512 x := B_pow (k := j) (by rw [xe, Int.natAbs_natCast]; exact x1) (by omega)
  have by' : B512 y := B_pow (k := k) (by rw [ye, Int.natAbs_natCast]; exact y1) (by omega)
  rw [mul_of ia.hn by', mul_of ib.hn bx, mul_of bx ib.hd]
  have t1 : (p.num * y).natAbs < 2 ^ (j + k) := by rw [Int.natAbs_mul]; exact pmul_lt hp.n (by omega)
  have t2 : (q.num * x).natAbs < 2 ^ (j + k) := by rw [Int.natAbs_mul, Nat.mul_comm]; exact pmul_lt (by omega) hq.n
  have t3 : (x * (q.den : Int)).natAbs < 2 ^ (j + k) := by rw [Int.natAbs_mul]; exact pmul_lt (by omega) (by simpa using hq.d)
  rw [add_of (B_pow t1 (by omega)) (B_pow t2 (by omega))]
  have t4 : (p.num * y + q.num * x).natAbs < 2 ^ (j + k + 1) := by rw [Nat.pow_succ]; omega
  refine Make_At (B_pow t4 h) (B_pow t3 (by omega)) (Int.mul_pos x0 hdq) ?_
  have key : p + q = Rat.divInt (p.num * y + q.num * x) (x * q.den) := by
    conv => lhs; rw [← Rat.num_divInt_den p, ← Rat.num_divInt_den q, Rat.divInt_add_divInt _ _ (by omega) (by omega)]
    refine (Rat.divInt_eq_divInt_iff (Int.mul_ne_zero (by omega) (by omega)) (Int.mul_ne_zero (by omega) (by omega))).2 ?_
    rw [hx, hy]; grind
  have h3 := Rat.num_divInt_den (p + q)
  rw [key] at h3 ⊢
  have h4 := (Rat.divInt_eq_divInt_iff (by have := @ne_den (Rat.divInt (p.num * y + q.num * x) (x * q.den)); omega) (Int.mul_ne_zero (by omega) (by omega))).1 h3
  exact h4
theorem Sub_At {a b : Rt} {p q : Rat} {j k : Nat} (ha : a.At p) (hb : b.At q) (hp : Sz p j) (hq : Sz q k) (h : j + k + 1 ≤ 512) : (F_skewbackref04_Sub a b).At (p - q) := by
  unfold F_skewbackref04_Sub
  rw [Rat.sub_eq_add_neg]
  exact Add_At ha (Neg_At hb) hp hq.neg h
theorem make_neg {n d : Int} (hn : B512 n) (hd : B512 d) (hp : d < 0) : F_skewbackref04_Make (E (Z.of n)) (E (Z.of d)) = F_skewbackref04_Make (E (Z.of (-n))) (E (Z.of (-d))) := by
  have hn' : B512 (-n) := by unfold B512 at *; rw [Int.natAbs_neg]; exact hn
  have hd' : B512 (-d) := by unfold B512 at *; rw [Int.natAbs_neg]; exact hd
  rw [make_pos hn' hd' (by omega)]
  unfold F_skewbackref04_Make
  have h1 : ((Z.signW (E (Z.of d)).dec).1 == 0) = false := by rw [E_dec, signW_of hd, Int.sign_eq_neg_one_of_neg hp]; rfl
  have h2 : decide ((Z.signW (E (Z.of d)).dec).1 < 0) = true := by rw [E_dec, signW_of hd, Int.sign_eq_neg_one_of_neg hp]; rfl
  have hg : 0 < ((Int.gcd n d : Nat) : Int) := by
    have := Int.gcd_pos_of_ne_zero_right n (show d ≠ 0 by omega)
    omega
  have hb := gcd_B (u := n) hd (by omega)
  have hb' : B512 (-((Int.gcd n d : Nat) : Int)) := by unfold B512 at *; rw [Int.natAbs_neg]; exact hb
  rw [good_E hn, good_E hd, h1, h2, E_dec, E_dec, gcd_of hn hd, neg_of hb]
  simp only [Bool.not_true, Bool.or_false, cond_false, cond_true]
  rw [quo_of hn hb' (by omega), quo_of hd hb' (by omega), Int.neg_gcd, Int.gcd_neg]
  have e : ∀ u : Int, u.fdiv (-((Int.gcd n d : Nat) : Int)) = (-u) / ((Int.gcd n d : Nat) : Int) := fun u => by
    rw [← fdiv_pos hg, ← Int.neg_fdiv_neg, Int.neg_neg]
  rw [e, e]
theorem Inv_At {b : Rt} {q : Rat} (hb : b.At q) (h0 : q ≠ 0) : (F_skewbackref04_Make b.d b.n).At q⁻¹ := by
  have ib := At.is hb
  rw [ib.en, ib.ed]
  have hn : q.num ≠ 0 := fun h => h0 (Rat.num_eq_zero.1 h)
  have hd := @ne_den q
  have e1 := Rat.num_inv q
  have e2 := Rat.den_inv q
  rw [if_neg hn] at e2
  rcases Int.lt_or_gt_of_ne hn with h | h
  · rw [make_neg ib.hd ib.hn h]
    rw [Int.sign_eq_neg_one_of_neg h] at e1
    have b1 : B512 (-(q.den : Int)) := by have := ib.hd; unfold B512 at *; rw [Int.natAbs_neg]; exact this
    have b2 : B512 (-q.num) := by have := ib.hn; unfold B512 at *; rw [Int.natAbs_neg]; exact this
    have e3 : (q.num.natAbs : Int) = -q.num := by omega
    exact Make_At b1 b2 (by omega) (by rw [e1, e2, e3]; grind)
  · rw [Int.sign_eq_one_of_pos h] at e1
    have e3 : (q.num.natAbs : Int) = q.num := by omega
    exact Make_At ib.hd ib.hn h (by rw [e1, e2, e3]; grind)
theorem Div_At {a b : Rt} {p q : Rat} {j k : Nat} (ha : a.At p) (hb : b.At q) (h0 : q ≠ 0) (hp : Sz p j) (hq : Sz q k) (h : j + k ≤ 512) : (F_skewbackref04_Div a b).At (p / q) := by
  unfold F_skewbackref04_Div
  rw [At_good hb, Rat.div_def]
  exact Mul_sz ha (Inv_At hb h0) hp (hq.inv h0) h
theorem Sign_At {a : Rt} {p : Rat} (h : a.At p) : (F_skewbackref04_Sign a).1 = p.num.sign := by
  unfold F_skewbackref04_Sign
  rw [At_good h, (At.is h).en, E_dec]
  exact signW_of (At.is h).hn
theorem bits_of {v : Int} (h : B512 v) : (Z.of v).bits = bl v.natAbs := by unfold Z.bits; rw [Z.of_some h]
theorem few_At {a : Rt} {k : W} (h : F_skewbacklaw05_few a k = true) : ∃ p, a.At p ∧ Sz p k.1.toNat := by
  unfold F_skewbacklaw05_few at h
  simp only [Bool.and_eq_true, decide_eq_true_eq] at h
  obtain ⟨g, h1, h2⟩ := h
  obtain ⟨p, hp⟩ := good_At g
  refine ⟨p, hp, ?_⟩
  rw [(At.is hp).en] at h1
  rw [(At.is hp).ed] at h2
  rw [E_dec] at h1 h2
  have e1 : (Z.bitsW (Z.of p.num)).1 = ((bl p.num.natAbs : Nat) : Int) := congrArg Int.ofNat (bits_of (At.is hp).hn)
  have e2 : (Z.bitsW (Z.of (p.den : Int))).1 = ((bl p.den : Nat) : Int) := congrArg Int.ofNat (bits_of (At.is hp).hd)
  rw [e1] at h1
  rw [e2] at h2
  exact ⟨Nat.lt_of_lt_of_le (bl_lt _) (pow_le (by omega)), Nat.lt_of_lt_of_le (bl_lt _) (pow_le (by omega))⟩
end Go.Num

set_option linter.unusedVariables false
set_option linter.unusedSimpArgs false
namespace Go.Num
open Go Go.Kn
theorem Sz.mn {p q : Rat} {k : Nat} (h : Sz p k) (g : Sz q k) : Sz (mn p q) k := by unfold Go.Num.mn; split <;> assumption
theorem Sz.mx {p q : Rat} {k : Nat} (h : Sz p k) (g : Sz q k) : Sz (mx p q) k := by unfold Go.Num.mx; split <;> assumption
theorem mn_l (p q : Rat) : mn p q ≤ p := by unfold mn; grind
theorem mn_r (p q : Rat) : mn p q ≤ q := by unfold mn; grind
theorem mx_l (p q : Rat) : p ≤ mx p q := by unfold mx; grind
theorem mx_r (p q : Rat) : q ≤ mx p q := by unfold mx; grind
theorem mn_le {a b x : Rat} (h : a ≤ x ∨ b ≤ x) : mn a b ≤ x := by unfold mn; grind
theorem le_mx {a b x : Rat} (h : x ≤ a ∨ x ≤ b) : x ≤ mx a b := by unfold mx; grind
/-- An interval from p to q, with ends of less than k bits. -/
structure Iv.Az (a : Iv) (p q : Rat) (k : Nat) : Prop where
  at' : a.At p q
  sp : Sz p k
  sq : Sz q k
theorem Make_iv {a b : Rt} {p q : Rat} (ha : a.At p) (hb : b.At q) (h : p ≤ q) : (F_skewbackref05_Make a b).At p q := by
  rw [make_At ha hb h]; exact ⟨ha, hb, h⟩
theorem Of_iv {a : Rt} {p : Rat} (ha : a.At p) : (F_interval_Of a).At p p := by rw [IOf_eq]; exact Make_iv ha ha Rat.le_refl
variable {a b : Iv} {p q r s u v x y : Rat} {j k : Nat}
theorem Add_iv (ha : a.Az p q j) (hb : b.Az r s k) (h : j + k + 1 ≤ 512) : (F_interval_Add a b).At (p + r) (q + s) := by
  rw [IAdd_eq]
  unfold F_skewbackref05_Add
  rw [ha.at'.good, hb.at'.good]
  have h1 := ha.at'.le
  have h2 := hb.at'.le
  exact Make_iv (Add_At ha.at'.lo hb.at'.lo ha.sp hb.sp h) (Add_At ha.at'.hi hb.at'.hi ha.sq hb.sq h) (by grind)
theorem Sub_iv (ha : a.Az p q j) (hb : b.Az r s k) (h : j + k + 1 ≤ 512) : (F_interval_Sub a b).At (p - s) (q - r) := by
  rw [ISub_eq]
  unfold F_skewbackref05_Sub
  rw [ha.at'.good, hb.at'.good]
  have h1 := ha.at'.le
  have h2 := hb.at'.le
  exact Make_iv (Sub_At ha.at'.lo hb.at'.hi ha.sp hb.sq h) (Sub_At ha.at'.hi hb.at'.lo ha.sq hb.sp h) (by grind)
theorem Neg_iv (ha : a.At p q) : (F_interval_Neg a).At (-q) (-p) := by
  rw [INeg_eq]
  unfold F_skewbackref05_Neg
  rw [ha.good]
  have h1 := ha.le
  exact Make_iv (Neg_At ha.hi) (Neg_At ha.lo) (by grind)
def mn4 (a b c d : Rat) : Rat := mn (mn (mn (mn a a) b) c) d
def mx4 (a b c d : Rat) : Rat := mx (mx (mx (mx a a) b) c) d
theorem mn4_le {a b c d x : Rat} (h : a ≤ x ∨ b ≤ x ∨ c ≤ x ∨ d ≤ x) : mn4 a b c d ≤ x := by unfold mn4 mn; grind
theorem le_mx4 {a b c d x : Rat} (h : x ≤ a ∨ x ≤ b ∨ x ≤ c ∨ x ≤ d) : x ≤ mx4 a b c d := by unfold mx4 mx; grind
theorem mn4_one (a b c d : Rat) : mn4 a b c d = a ∨ mn4 a b c d = b ∨ mn4 a b c d = c ∨ mn4 a b c d = d := by unfold mn4 mn; grind
theorem mx4_one (a b c d : Rat) : mx4 a b c d = a ∨ mx4 a b c d = b ∨ mx4 a b c d = c ∨ mx4 a b c d = d := by unfold mx4 mx; grind
theorem around_iv {x1 x2 x3 x4 : Rt} {r1 r2 r3 r4 : Rat} (h1 : x1.At r1) (h2 : x2.At r2) (h3 : x3.At r3) (h4 : x4.At r4) : (F_skewbackref05_around [x1, x2, x3, x4]).At (mn4 r1 r2 r3 r4) (mx4 r1 r2 r3 r4) := by
  rw [← around_eq]
  exact hull_at (hull_at (hull_at (hull_at (Of_iv h1) (Of_iv h1)) (Of_iv h2)) (Of_iv h3)) (Of_iv h4)
theorem Mul_iv (ha : a.Az p q j) (hb : b.Az r s k) (h : j + k ≤ 512) : (F_interval_Mul a b).At (mn4 (p * r) (p * s) (q * r) (q * s)) (mx4 (p * r) (p * s) (q * r) (q * s)) := by
  rw [IMul_eq]
  unfold F_skewbackref05_Mul
  rw [ha.at'.good, hb.at'.good]
  exact around_iv (Mul_sz ha.at'.lo hb.at'.lo ha.sp hb.sp h) (Mul_sz ha.at'.lo hb.at'.hi ha.sp hb.sq h) (Mul_sz ha.at'.hi hb.at'.lo ha.sq hb.sp h) (Mul_sz ha.at'.hi hb.at'.hi ha.sq hb.sq h)
theorem zero_At : (F_ratio_Of (wl 0)).At 0 := by rw [Of_eq]; exact Of_At (wl 0)
theorem has0 (hb : b.At r s) : F_interval_Has b (F_ratio_Of (wl 0)) = decide (r ≤ 0 ∧ 0 ≤ s) := has_At hb zero_At
theorem Div_bad (hb : b.At r s) (h0 : r ≤ 0 ∧ 0 ≤ s) : F_interval_Div a b = F_skewbackref05_Bad := by
  unfold F_interval_Div
  rw [has0 hb, decide_eq_true h0]; rfl
theorem Div_iv (ha : a.Az p q j) (hb : b.Az r s k) (h0 : ¬ (r ≤ 0 ∧ 0 ≤ s)) (h : j + k ≤ 512) : (F_interval_Div a b).At (mn4 (p / r) (p / s) (q / r) (q / s)) (mx4 (p / r) (p / s) (q / r) (q / s)) := by
  rw [IDiv_eq]
  unfold F_skewbackref05_Div
  rw [ha.at'.good, hb.at'.good, ← IHas_eq, ← Of_eq, has0 hb.at', decide_eq_false h0]
  have h1 := hb.at'.le
  have r0 : r ≠ 0 := by grind
  have s0 : s ≠ 0 := by grind
  exact around_iv (Div_At ha.at'.lo hb.at'.lo r0 ha.sp hb.sp h) (Div_At ha.at'.lo hb.at'.hi s0 ha.sp hb.sq h) (Div_At ha.at'.hi hb.at'.lo r0 ha.sq hb.sp h) (Div_At ha.at'.hi hb.at'.hi s0 ha.sq hb.sq h)
/-- absolute values -/
def abl (p q : Rat) : Rat := if 0 ≤ p then p else if q ≤ 0 then -q else 0
def abh (p q : Rat) : Rat := if 0 ≤ p then q else if q ≤ 0 then -p else mx (-p) q
def ab (u : Rat) : Rat := if u < 0 then -u else u
theorem good_right (h : F_skewbackref05_IsBad a = false) : F_skewbackref05_Right a = true := by unfold F_skewbackref05_Right; rw [h]; rfl
theorem sign_ge {a : Rt} (h : a.At p) : decide (0 ≤ (F_skewbackref04_Sign a).1) = decide (0 ≤ p) := by
  rw [Sign_At h]; congr 1; rw [← Rat.num_nonneg]; exact propext Int.sign_nonneg_iff
theorem sign_le {a : Rt} (h : a.At p) : decide ((F_skewbackref04_Sign a).1 ≤ 0) = decide (p ≤ 0) := by
  rw [Sign_At h]; congr 1
  have : p ≤ 0 ↔ p.num ≤ 0 := by
    have := Rat.le_iff p 0
    simpa using this
  rw [this]; exact propext sign_le0
theorem Abs_iv (ha : a.At p q) : (F_interval_Abs a).At (abl p q) (abh p q) := by
  rw [IAbs_eq (good_right ha.good)]
  unfold F_skewbackref05_Abs abl abh
  rw [ha.good, sign_ge ha.lo, sign_le ha.hi]
  have h1 := ha.le
  by_cases h0 : 0 ≤ p
  · rw [decide_eq_true h0, if_pos h0, if_pos h0]; exact ha
  · rw [decide_eq_false h0, if_neg h0, if_neg h0]
    by_cases h2 : q ≤ 0
    · rw [decide_eq_true h2, if_pos h2, if_pos h2]
      have := Neg_iv ha
      rw [INeg_eq] at this; exact this
    · rw [decide_eq_false h2, if_neg h2, if_neg h2]
      exact Make_iv (by rw [← Of_eq]; exact zero_At) (max_At (Neg_At ha.lo) ha.hi) (by unfold mx; grind)
theorem Sz0 (k : Nat) (h : 0 < k) : Sz 0 k := ⟨Nat.pow_pos (by decide), Nat.one_lt_two_pow (by omega)⟩
theorem Abs_Az (ha : a.Az p q k) (hk : 0 < k) : (F_interval_Abs a).Az (abl p q) (abh p q) k := by
  refine ⟨Abs_iv ha.at', ?_, ?_⟩
  · unfold abl
    split
    · exact ha.sp
    · split
      · exact ha.sq.neg
      · exact Sz0 k hk
  · unfold abh
    split
    · exact ha.sq
    · split
      · exact ha.sp.neg
      · exact ha.sp.neg.mx ha.sq
theorem itMul_At {x : Rt} (hx : x.At p) (hp : Sz p k) : ∀ (n : Nat) (m : Rt) (q : Rat) (j : Nat), m.At q → Sz q j → j + n * k ≤ 512 → (itMul x n m).At (q * p ^ n)
  | 0, m, q, j, hm, _, _ => by rw [Rat.pow_zero, Rat.mul_one]; exact hm
  | n + 1, m, q, j, hm, hq, h => by
    rw [Nat.succ_mul] at h
    have h1 := Mul_sz hm hx hq hp (by omega)
    have h2 := itMul_At hx hp n _ _ (j + k) h1 (hq.mul hp) (by omega)
    rw [show q * p ^ (n + 1) = q * p * p ^ n by rw [Rat.pow_succ, Rat.mul_assoc, Rat.mul_comm p]]
    exact h2
theorem power_At {x : Rt} {c : W} {n : Nat} (hc : c.1 = n) (hx : x.At p) (hp : Sz p k) (h : 1 + n * k ≤ 512) : (F_skewbackref05_power x c).At (p ^ n) := by
  rw [rpow, hc, Int.toNat_natCast]
  have := itMul_At hx hp n _ 1 1 (Of_At (wl 1)) ⟨by decide, by decide⟩ h
  rwa [Rat.one_mul] at this
theorem pow_mono {n : Nat} (h0 : 0 ≤ u) (h : u ≤ v) : u ^ n ≤ v ^ n := by
  induction n with
  | zero => rw [Rat.pow_zero, Rat.pow_zero]; exact Rat.le_refl
  | succ n ih =>
    rw [Rat.pow_succ, Rat.pow_succ]
    have h1 : 0 ≤ v := Rat.le_trans h0 h
    exact Rat.le_trans (Rat.mul_le_mul_of_nonneg_left h (Rat.pow_nonneg h0)) (Rat.mul_le_mul_of_nonneg_right ih h1)
theorem neg_pow_odd (u : Rat) : ∀ n : Nat, (-u) ^ (2 * n + 1) = -(u ^ (2 * n + 1)) ∧ (-u) ^ (2 * n) = u ^ (2 * n)
  | 0 => by constructor <;> simp
  | n + 1 => by
    obtain ⟨h1, h2⟩ := neg_pow_odd u n
    have e : (-u) ^ (2 * (n + 1)) = u ^ (2 * (n + 1)) := by
      rw [show 2 * (n + 1) = 2 * n + 1 + 1 by omega, Rat.pow_succ, h1, Rat.pow_succ u (2 * n + 1)]; grind
    refine ⟨?_, e⟩
    rw [Rat.pow_succ, e, Rat.pow_succ u (2 * (n + 1))]; grind
theorem pow_odd {n : Nat} (hn : n % 2 = 1) (h : u ≤ v) : u ^ n ≤ v ^ n := by
  obtain ⟨m, rfl⟩ : ∃ m, n = 2 * m + 1 := ⟨n / 2, by omega⟩
  by_cases h0 : 0 ≤ u
  · exact pow_mono h0 h
  · by_cases h1 : 0 ≤ v
    · have a1 : 0 ≤ v ^ (2 * m + 1) := Rat.pow_nonneg h1
      have a2 : 0 ≤ (-u) ^ (2 * m + 1) := Rat.pow_nonneg (by grind)
      rw [(neg_pow_odd u m).1] at a2; grind
    · have := pow_mono (n := 2 * m + 1) (u := -v) (v := -u) (by grind) (by grind)
      rw [(neg_pow_odd u m).1, (neg_pow_odd v m).1] at this; grind
theorem ab_even {n : Nat} (hn : n % 2 = 0) (u : Rat) : (ab u) ^ n = u ^ n := by
  obtain ⟨m, rfl⟩ : ∃ m, n = 2 * m := ⟨n / 2, by omega⟩
  unfold ab
  split
  · exact (neg_pow_odd u m).2
  · rfl
theorem abl_nn (h : p ≤ q) : 0 ≤ abl p q := by unfold abl; grind
theorem ab_in (h1 : p ≤ u) (h2 : u ≤ q) : abl p q ≤ ab u ∧ ab u ≤ abh p q := by unfold abl abh ab mx; grind
theorem ab_sub (h1 : p ≤ x) (h0 : x ≤ y) (h2 : y ≤ q) : abl p q ≤ abl x y ∧ abh x y ≤ abh p q := by unfold abl abh mx; grind
theorem remW2 {c : W} {n : Nat} (hc : c.1 = n) : ((W.rem c (wl 2)).1 == 0) = decide (n % 2 = 0) := by
  have : (W.rem c (wl 2)).1 = ((n % 2 : Nat) : Int) := by
    show c.1.tmod 2 = _
    rw [hc, Int.tmod_eq_emod_of_nonneg (by omega)]; omega
  rw [this]
  by_cases h : n % 2 = 0
  · rw [h]; rfl
  · rw [decide_eq_false h]; exact beq_eq_false_iff_ne.2 (by omega)
/-- powers -/
def pwl (n : Nat) (p q : Rat) : Rat := if n % 2 = 0 then (abl p q) ^ n else p ^ n
def pwh (n : Nat) (p q : Rat) : Rat := if n % 2 = 0 then (abh p q) ^ n else q ^ n
theorem abl_le (h : p ≤ q) : abl p q ≤ abh p q := by unfold abl abh mx; grind
theorem Power_iv (ha : a.Az p q k) (hk : 0 < k) {c : W} {n : Nat} (hc : c.1 = n) (hn : n ≤ 32) (h : 1 + n * k ≤ 512) : (F_interval_Power a c).At (pwl n p q) (pwh n p q) := by
  rw [IPower_eq (good_right ha.at'.good)]
  unfold F_skewbackref05_Power pwl pwh
  have h1 := ha.at'.le
  rw [ha.at'.good, remW2 hc, decide_eq_false (show ¬ c.1 < 0 by omega), decide_eq_false (show ¬ 32 < c.1 by omega)]
  simp only [Bool.or_false, cond_false]
  by_cases h2 : n % 2 = 0
  · rw [decide_eq_true h2, if_pos h2, if_pos h2, cond_true]
    have A := Abs_Az ha hk
    rw [IAbs_eq (good_right ha.at'.good)] at A
    exact Make_iv (power_At hc A.at'.lo A.sp h) (power_At hc A.at'.hi A.sq h) (pow_mono (abl_nn h1) (abl_le h1))
  · rw [decide_eq_false h2, if_neg h2, if_neg h2, cond_false]
    exact Make_iv (power_At hc ha.at'.lo ha.sp h) (power_At hc ha.at'.hi ha.sq h) (pow_odd (by omega) h1)
theorem pw_in {n : Nat} (h1 : p ≤ u) (h2 : u ≤ q) : pwl n p q ≤ u ^ n ∧ u ^ n ≤ pwh n p q := by
  unfold pwl pwh
  by_cases h : n % 2 = 0
  · rw [if_pos h, if_pos h, ← ab_even h u]
    obtain ⟨k1, k2⟩ := ab_in h1 h2
    have h0 : 0 ≤ ab u := by unfold ab; grind
    exact ⟨pow_mono (abl_nn (Rat.le_trans h1 h2)) k1, pow_mono h0 k2⟩
  · rw [if_neg h, if_neg h]
    exact ⟨pow_odd (by omega) h1, pow_odd (by omega) h2⟩
theorem pw_sub {n : Nat} (h1 : p ≤ x) (h0 : x ≤ y) (h2 : y ≤ q) : pwl n p q ≤ pwl n x y ∧ pwh n x y ≤ pwh n p q := by
  unfold pwl pwh
  by_cases h : n % 2 = 0
  · rw [if_pos h, if_pos h, if_pos h, if_pos h]
    obtain ⟨k1, k2⟩ := ab_sub h1 h0 h2
    exact ⟨pow_mono (abl_nn (by grind)) k1, pow_mono (Rat.le_trans (abl_nn h0) (abl_le h0)) k2⟩
  · rw [if_neg h, if_neg h, if_neg h, if_neg h]
    exact ⟨pow_odd (by omega) h1, pow_odd (by omega) h2⟩
/-! products -/
theorem mul_mono_r (h : u ≤ v) (h0 : 0 ≤ x) : u * x ≤ v * x := Rat.mul_le_mul_of_nonneg_right h h0
theorem mul_anti_r (h : u ≤ v) (h0 : x ≤ 0) : v * x ≤ u * x := by
  have := Rat.mul_le_mul_of_nonneg_right h (show 0 ≤ -x by grind)
  grind
theorem corner_lo (h1 : p ≤ u) (h2 : u ≤ q) (h3 : r ≤ v) (h4 : v ≤ s) : p * r ≤ u * v ∨ p * s ≤ u * v ∨ q * r ≤ u * v ∨ q * s ≤ u * v := by
  have key : ∀ w : Rat, w * r ≤ w * v ∨ w * s ≤ w * v := fun w => by
    by_cases hw : 0 ≤ w
    · exact .inl (Rat.mul_le_mul_of_nonneg_left h3 hw)
    · have := mul_anti_r h4 (show w ≤ 0 by grind)
      rw [Rat.mul_comm s, Rat.mul_comm v] at this; exact .inr this
  by_cases hv : 0 ≤ v
  · have := mul_mono_r h1 hv
    rcases key p with k | k
    · exact .inl (Rat.le_trans k this)
    · exact .inr (.inl (Rat.le_trans k this))
  · have := mul_anti_r h2 (show v ≤ 0 by grind)
    rcases key q with k | k
    · exact .inr (.inr (.inl (Rat.le_trans k this)))
    · exact .inr (.inr (.inr (Rat.le_trans k this)))
theorem corner_hi (h1 : p ≤ u) (h2 : u ≤ q) (h3 : r ≤ v) (h4 : v ≤ s) : u * v ≤ p * r ∨ u * v ≤ p * s ∨ u * v ≤ q * r ∨ u * v ≤ q * s := by
  have := corner_lo (p := -q) (q := -p) (u := -u) (show -q ≤ -u by grind) (show -u ≤ -p by grind) h3 h4
  grind
theorem mul_in (h1 : p ≤ u) (h2 : u ≤ q) (h3 : r ≤ v) (h4 : v ≤ s) : mn4 (p * r) (p * s) (q * r) (q * s) ≤ u * v ∧ u * v ≤ mx4 (p * r) (p * s) (q * r) (q * s) :=
  ⟨mn4_le (corner_lo h1 h2 h3 h4), le_mx4 (corner_hi h1 h2 h3 h4)⟩
theorem inv_anti (h : 0 < x * y) (hxy : x ≤ y) : y⁻¹ ≤ x⁻¹ := by
  have x0 : x ≠ 0 := fun h0 => by rw [h0, Rat.zero_mul] at h; exact absurd h Rat.lt_irrefl
  have y0 : y ≠ 0 := fun h0 => by rw [h0, Rat.mul_zero] at h; exact absurd h Rat.lt_irrefl
  refine Rat.le_of_mul_le_mul_left (c := x * y) ?_ h
  have e1 : x * y * y⁻¹ = x := by rw [Rat.mul_assoc, Rat.mul_inv_cancel y y0, Rat.mul_one]
  have e2 : x * y * x⁻¹ = y := by rw [Rat.mul_comm x y, Rat.mul_assoc, Rat.mul_inv_cancel x x0, Rat.mul_one]
  rw [e1, e2]; exact hxy
theorem mul_pos2 (h : 0 < x ∧ 0 < y ∨ x < 0 ∧ y < 0) : 0 < x * y := by
  rcases h with ⟨h1, h2⟩ | ⟨h1, h2⟩
  · exact Rat.mul_pos h1 h2
  · have := Rat.mul_pos (show 0 < -x by grind) (show 0 < -y by grind)
    grind
theorem div_in (h0 : ¬ (r ≤ 0 ∧ 0 ≤ s)) (h1 : p ≤ u) (h2 : u ≤ q) (h3 : r ≤ v) (h4 : v ≤ s) : mn4 (p / r) (p / s) (q / r) (q / s) ≤ u / v ∧ u / v ≤ mx4 (p / r) (p / s) (q / r) (q / s) := by
  have e1 : v⁻¹ ≤ r⁻¹ := inv_anti (mul_pos2 (by grind)) h3
  have e2 : s⁻¹ ≤ v⁻¹ := inv_anti (mul_pos2 (by grind)) h4
  simp only [Rat.div_def]
  have a1 := corner_lo h1 h2 e2 e1
  have a2 := corner_hi h1 h2 e2 e1
  exact ⟨mn4_le (by grind), le_mx4 (by grind)⟩
end Go.Num

set_option linter.unusedVariables false
set_option linter.unusedSimpArgs false
namespace Go.Num
open Go Go.Kn
theorem num_mul_den (p : Rat) : p * ((p.den : Int) : Rat) = (p.num : Rat) := by
  conv => lhs; rw [← Rat.num_divInt_den p, Rat.divInt_eq_div]
  have h : ((p.den : Int) : Rat) ≠ 0 := by rw [Ne, Rat.intCast_eq_zero_iff]; have := @ne_den p; omega
  have e : (((p.num : Rat) / ((p.den : Int) : Rat)).den : Int) = p.den := by rw [← Rat.divInt_eq_div, Rat.num_divInt_den]
  rw [e]
  exact Rat.div_mul_cancel h
theorem At_ratio {n d : Int} {q : Rat} (hn : B512 n) (hd : B512 d) (hp : 0 < d) (he : q * (d : Rat) = n) : (F_skewbackref04_Make (E (Z.of n)) (E (Z.of d))).At q := by
  refine Make_At hn hd hp (Rat.intCast_inj.1 ?_)
  rw [Rat.intCast_mul, Rat.intCast_mul, ← num_mul_den q, ← he]
  grind
theorem shl_of {v : Int} (h : B512 v) (k : Nat) : Z.shl (Z.of v) (k : Int) = Z.of (v * 2 ^ k) := by
  unfold Z.shl
  rw [lift1_some (Z.of_some h), Int.toNat_natCast]
theorem two_pos (k : Nat) : (0 : Rat) < 2 ^ k := Rat.pow_pos (by decide)
theorem two_cast (k : Nat) : (((2 : Int) ^ k : Int) : Rat) = (2 : Rat) ^ k := Rat.intCast_pow 2 k
theorem pow_abs (k : Nat) : ((2 : Int) ^ k).natAbs = 2 ^ k := by rw [Int.natAbs_pow]; rfl
theorem cast_le {p : Rat} {k : Nat} {x : Int} (h : x * p.den ≤ p.num * 2 ^ k) : (x : Rat) ≤ p * 2 ^ k := by
  have hd : (0 : Rat) < ((p.den : Int) : Rat) := Rat.intCast_pos.2 ne_den
  refine Rat.le_of_mul_le_mul_right ?_ hd
  have h1 := Rat.intCast_le_intCast.2 h
  rw [Rat.intCast_mul, Rat.intCast_mul, two_cast, ← num_mul_den p] at h1
  grind
theorem cast_ge {p : Rat} {k : Nat} {x : Int} (h : p.num * 2 ^ k ≤ x * p.den) : p * 2 ^ k ≤ (x : Rat) := by
  have hd : (0 : Rat) < ((p.den : Int) : Rat) := Rat.intCast_pos.2 ne_den
  refine Rat.le_of_mul_le_mul_right ?_ hd
  have h1 := Rat.intCast_le_intCast.2 h
  rw [Rat.intCast_mul, Rat.intCast_mul, two_cast, ← num_mul_den p] at h1
  grind
theorem cast_lt {p : Rat} {k : Nat} {x : Int} (h : p.num * 2 ^ k < x * p.den) : p * 2 ^ k < (x : Rat) := by
  refine Rat.lt_of_le_of_ne (cast_ge (Int.le_of_lt h)) fun e => ?_
  have h1 : p.num * 2 ^ k = x * p.den := by
    refine Rat.intCast_inj.1 ?_
    rw [Rat.intCast_mul, Rat.intCast_mul, two_cast, ← num_mul_den p, ← e]; grind
  omega
theorem cast_gt {p : Rat} {k : Nat} {x : Int} (h : x * p.den < p.num * 2 ^ k) : (x : Rat) < p * 2 ^ k := by
  refine Rat.lt_of_le_of_ne (cast_le (Int.le_of_lt h)) fun e => ?_
  have h1 : x * p.den = p.num * 2 ^ k := by
    refine Rat.intCast_inj.1 ?_
    rw [Rat.intCast_mul, Rat.intCast_mul, two_cast, ← num_mul_den p, e]; grind
  omega
/-- F is p 2^k, rounded down; C: rounded up. -/
structure Fl (p : Rat) (k : Nat) (F : Int) : Prop where
  le : (F : Rat) ≤ p * 2 ^ k
  lt : p * 2 ^ k < ((F + 1 : Int) : Rat)
structure Cl (p : Rat) (k : Nat) (C : Int) : Prop where
  le : p * 2 ^ k ≤ (C : Rat)
  lt : ((C - 1 : Int) : Rat) < p * 2 ^ k
theorem div_at {n d : Int} (hd : 0 < d) : n / d * d ≤ n ∧ n < (n / d + 1) * d :=
  ⟨Int.ediv_mul_le n (by omega), Int.lt_ediv_add_one_mul_self n hd⟩
theorem Dyadic_At {a : Rt} {p : Rat} {j k : Nat} {c : W} (ha : a.At p) (hp : Sz p j) (hc : c.1 = k) (hk : k ≤ 256) (h : j + k ≤ 512) :
    ∃ F C : Int, Fl p k F ∧ Cl p k C ∧ F.natAbs < 2 ^ (j + k) ∧ C.natAbs < 2 ^ (j + k) ∧ (F_ratio_Dyadic a c).1.At (F / 2 ^ k) ∧ (F_ratio_Dyadic a c).2.At (C / 2 ^ k) := by
  have hd := @ne_den p
  have ia := At.is ha
  have n1 : (p.num * 2 ^ k).natAbs < 2 ^ (j + k) := by
    rw [Int.natAbs_mul, pow_abs, Nat.pow_add]
    exact Nat.mul_lt_mul_of_pos_right hp.n (Nat.pow_pos (by decide))
  have n1' : (-(p.num * 2 ^ k)).natAbs < 2 ^ (j + k) := by rw [Int.natAbs_neg]; exact n1
  have n2 : (p.num * 2 ^ k / (p.den : Int)).natAbs < 2 ^ (j + k) := Nat.lt_of_le_of_lt (Int.natAbs_ediv_le_natAbs _ _) n1
  have n3 : (-(p.num * 2 ^ k) / (p.den : Int)).natAbs < 2 ^ (j + k) := Nat.lt_of_le_of_lt (Int.natAbs_ediv_le_natAbs _ _) n1'
  have n4 : (-(-(p.num * 2 ^ k) / (p.den : Int))).natAbs < 2 ^ (j + k) := by rw [Int.natAbs_neg]; exact n3
  have b1 := B_pow n1 h
  have b2 := B_pow n2 h
  have b3 := B_pow n3 h
  have b4 := B_pow n4 h
  have b1' := B_pow n1' h
  have n5 : ((2 : Int) ^ k).natAbs < 2 ^ (k + 1) := by rw [pow_abs]; exact Nat.pow_lt_pow_right (by decide) (by omega)
  have b5 : B512 ((2 : Int) ^ k) := B_pow n5 (by omega)
  have t0 : (0 : Int) < 2 ^ k := Int.pow_pos (by decide)
  obtain ⟨f1, f2⟩ := div_at (n := p.num * 2 ^ k) hd
  obtain ⟨g1, g2⟩ := div_at (n := -(p.num * 2 ^ k)) hd
  have tn : (2 : Rat) ^ k ≠ 0 := Rat.ne_of_gt (two_pos k)
  have A1 := At_ratio (q := ((p.num * 2 ^ k / (p.den : Int) : Int) : Rat) / 2 ^ k) b2 b5 t0 (by rw [two_cast]; exact Rat.div_mul_cancel tn)
  have A2 := At_ratio (q := ((-(-(p.num * 2 ^ k) / (p.den : Int)) : Int) : Rat) / 2 ^ k) b4 b5 t0 (by rw [two_cast]; exact Rat.div_mul_cancel tn)
  refine ⟨p.num * 2 ^ k / (p.den : Int), -(-(p.num * 2 ^ k) / (p.den : Int)), ⟨cast_le f1, cast_lt f2⟩, ⟨cast_ge ?_, cast_gt ?_⟩, n2, n4, ?_⟩
  · rw [Int.neg_mul]; omega
  · rw [show -(-(p.num * 2 ^ k) / (p.den : Int)) - 1 = -(-(p.num * 2 ^ k) / (p.den : Int) + 1) by omega, Int.neg_mul]; omega
  · unfold F_ratio_Dyadic
    rw [Good_eq, At_good ha, hc, decide_eq_false (show ¬ ((k : Int) < 0) by omega), decide_eq_false (show ¬ (256 < (k : Int)) by omega), ia.en, ia.ed, one_r]
    simp only [E_dec, Bool.not_true, Bool.or_false, cond_false]
    rw [shl_of ia.hn, shl_of B1, Int.one_mul, neg_of b1, quo_of' b1 ia.hd hd, quo_of' b1' ia.hd hd, neg_of b3]
    simp only [Make_eq, Good_eq]
    rw [At_good A1, At_good A2]
    exact ⟨A1, A2⟩
theorem int_of_lt {x y : Int} (h : (x : Rat) < ((y + 1 : Int) : Rat)) : x ≤ y := by have := Rat.intCast_lt_intCast.1 h; omega
theorem Fl.mono {p q : Rat} {k : Nat} {F G : Int} (hF : Fl p k F) (hG : Fl q k G) (h : p ≤ q) : F ≤ G := by
  refine int_of_lt ?_
  have h1 := hF.le
  have h2 := hG.lt
  have h3 := Rat.mul_le_mul_of_nonneg_right h (Rat.le_of_lt (two_pos k))
  grind
theorem Cl.mono {p q : Rat} {k : Nat} {F G : Int} (hF : Cl p k F) (hG : Cl q k G) (h : p ≤ q) : F ≤ G := by
  have h1 := hF.lt
  have h2 := hG.le
  have h3 := Rat.mul_le_mul_of_nonneg_right h (Rat.le_of_lt (two_pos k))
  have : F - 1 < G := Rat.intCast_lt_intCast.1 (by grind)
  omega
theorem div_mono {x y : Int} {k : Nat} (h : x ≤ y) : (x : Rat) / 2 ^ k ≤ (y : Rat) / 2 ^ k := by
  rw [Rat.div_def, Rat.div_def]
  exact Rat.mul_le_mul_of_nonneg_right (Rat.intCast_le_intCast.2 h) (Rat.le_of_lt (Rat.inv_pos.2 (two_pos k)))
theorem Widen_iv {a : Iv} {p q : Rat} {j k : Nat} {c : W} (ha : a.Az p q j) (hc : c.1 = k) (hk : k ≤ 256) (h : j + k ≤ 512) :
    ∃ F C : Int, Fl p k F ∧ Cl q k C ∧ F.natAbs < 2 ^ (j + k) ∧ C.natAbs < 2 ^ (j + k) ∧ (F_interval_Widen a c).At (F / 2 ^ k) (C / 2 ^ k) := by
  obtain ⟨F, _, h1, _, h2, _, h3, _⟩ := Dyadic_At ha.at'.lo ha.sp hc hk h
  obtain ⟨_, C, _, g1, _, g2, _, g3⟩ := Dyadic_At ha.at'.hi ha.sq hc hk h
  refine ⟨F, C, h1, g1, h2, g2, ?_⟩
  unfold F_interval_Widen
  rw [right1, ha.at'.good]
  show (F_interval_Make _ _).At _ _
  rw [IMake_eq]
  refine Make_iv h3 g3 (div_mono (Rat.intCast_le_intCast.1 ?_))
  have a1 := h1.le
  have a2 := g1.le
  have a3 := Rat.mul_le_mul_of_nonneg_right ha.at'.le (Rat.le_of_lt (two_pos k))
  grind
theorem short_At {a : Iv} {k : W} (h : F_skewbacklaw05_short a k = true) : ∃ p q, a.Az p q k.1.toNat := by
  unfold F_skewbacklaw05_short at h
  simp only [Bool.and_eq_true, Bool.not_eq_true'] at h
  obtain ⟨g, h1, h2⟩ := h
  obtain ⟨p, q, ha⟩ := notBad_At g
  obtain ⟨p', hp, sp⟩ := few_At h1
  obtain ⟨q', hq, sq⟩ := few_At h2
  rw [← At_num ha.lo hp] at sp
  rw [← At_num ha.hi hq] at sq
  exact ⟨p, q, ha, sp, sq⟩
theorem in_true {a b : Iv} {p q r s : Rat} (ha : a.At p q) (hb : b.At r s) (h : r ≤ p) (h' : q ≤ s) : F_interval_Inside a b = true := by
  rw [inside_At ha hb]; exact decide_eq_true ⟨h, h'⟩
theorem has_true {a : Iv} {x : Rt} {p q u : Rat} (ha : a.At p q) (hx : x.At u) (h : p ≤ u ∧ u ≤ q) : F_interval_Has a x = true := by
  rw [has_At ha hx]; exact decide_eq_true h
theorem cv5 {e : Int} (h : 0 ≤ e ∧ e ≤ 255) (m : Nat) (hm : 0 < m) : (W.cv (e.tmod m)).1 = ((e.toNat % m : Nat) : Int) := by
  have h1 : e.tmod (m : Int) = ((e.toNat % m : Nat) : Int) := by
    rw [Int.tmod_eq_emod_of_nonneg h.1, Int.natCast_emod, Int.toNat_of_nonneg h.1]
  show IntKind.i64.wrap (e.tmod m) = _
  rw [h1]
  have := Nat.mod_le e.toNat m
  exact wi (by omega)
theorem four_in {p q r s p' q' r' s' : Rat} (hp : p ≤ p') (hx : p' ≤ q') (hq : q' ≤ q) (hr : r ≤ r') (hy : r' ≤ s') (hs : s' ≤ s) :
    mn4 (p * r) (p * s) (q * r) (q * s) ≤ mn4 (p' * r') (p' * s') (q' * r') (q' * s') ∧ mx4 (p' * r') (p' * s') (q' * r') (q' * s') ≤ mx4 (p * r) (p * s) (q * r) (q * s) := by
  have c1 := mul_in hp (Rat.le_trans hx hq) hr (Rat.le_trans hy hs)
  have c2 := mul_in hp (Rat.le_trans hx hq) (Rat.le_trans hr hy) hs
  have c3 := mul_in (Rat.le_trans hp hx) hq hr (Rat.le_trans hy hs)
  have c4 := mul_in (Rat.le_trans hp hx) hq (Rat.le_trans hr hy) hs
  constructor
  · rcases mn4_one (p' * r') (p' * s') (q' * r') (q' * s') with h | h | h | h <;> rw [h]
    · exact c1.1
    · exact c2.1
    · exact c3.1
    · exact c4.1
  · rcases mx4_one (p' * r') (p' * s') (q' * r') (q' * s') with h | h | h | h <;> rw [h]
    · exact c1.2
    · exact c2.2
    · exact c3.2
    · exact c4.2
theorem four_div {p q r s p' q' r' s' : Rat} (h0 : ¬ (r ≤ 0 ∧ 0 ≤ s)) (hp : p ≤ p') (hx : p' ≤ q') (hq : q' ≤ q) (hr : r ≤ r') (hy : r' ≤ s') (hs : s' ≤ s) :
    mn4 (p / r) (p / s) (q / r) (q / s) ≤ mn4 (p' / r') (p' / s') (q' / r') (q' / s') ∧ mx4 (p' / r') (p' / s') (q' / r') (q' / s') ≤ mx4 (p / r) (p / s) (q / r) (q / s) := by
  have c1 := div_in h0 hp (Rat.le_trans hx hq) hr (Rat.le_trans hy hs)
  have c2 := div_in h0 hp (Rat.le_trans hx hq) (Rat.le_trans hr hy) hs
  have c3 := div_in h0 (Rat.le_trans hp hx) hq hr (Rat.le_trans hy hs)
  have c4 := div_in h0 (Rat.le_trans hp hx) hq (Rat.le_trans hr hy) hs
  constructor
  · rcases mn4_one (p' / r') (p' / s') (q' / r') (q' / s') with h | h | h | h <;> rw [h]
    · exact c1.1
    · exact c2.1
    · exact c3.1
    · exact c4.1
  · rcases mx4_one (p' / r') (p' / s') (q' / r') (q' / s') with h | h | h | h <;> rw [h]
    · exact c1.2
    · exact c2.2
    · exact c3.2
    · exact c4.2
theorem IntervalIsMonotone_true (a b c d : Iv) (e : Int) (he : 0 ≤ e ∧ e ≤ 255) : F_skewbacklaw05_IntervalIsMonotone a b c d e = true := by
  unfold F_skewbacklaw05_IntervalIsMonotone
  rw [sanity05]
  cases sa : F_skewbacklaw05_short a (wl 40) with
  | false => rfl
  | true =>
  cases sb : F_skewbacklaw05_short b (wl 40) with
  | false => rfl
  | true =>
  cases sc : F_skewbacklaw05_short c (wl 40) with
  | false => rfl
  | true =>
  cases sd : F_skewbacklaw05_short d (wl 40) with
  | false => rfl
  | true =>
  obtain ⟨p, q, ha⟩ := short_At sa
  obtain ⟨r, s, hb⟩ := short_At sb
  obtain ⟨p1, q1, hc⟩ := short_At sc
  obtain ⟨r1, s1, hd⟩ := short_At sd
  simp only [Bool.not_true, Bool.or_false, cond_false]
  by_cases hm : p1 ≤ q ∧ p ≤ q1
  case neg => rw [meet_not ha.at' hc.at' hm]; rfl
  by_cases hn : r1 ≤ s ∧ r ≤ s1
  case neg => rw [meet_not hb.at' hd.at' hn, Bool.not_false, Bool.or_true]; rfl
  obtain ⟨m1, hx⟩ := meet_At ha.at' hc.at' hm
  obtain ⟨m2, hy⟩ := meet_At hb.at' hd.at' hn
  rw [m1, m2]
  generalize (F_interval_Meet a c).1 = x at *
  generalize (F_interval_Meet b d).1 = y at *
  have X : x.Az (mx p p1) (mn q q1) 40 := ⟨hx, ha.sp.mx hc.sp, ha.sq.mn hc.sq⟩
  have Y : y.Az (mx r r1) (mn s s1) 40 := ⟨hy, hb.sp.mx hd.sp, hb.sq.mn hd.sq⟩
  have l1 := mx_l p p1
  have l2 := mn_l q q1
  have l3 := mx_l r r1
  have l4 := mn_l s s1
  generalize mx p p1 = p' at *
  generalize mn q q1 = q' at *
  generalize mx r r1 = r' at *
  generalize mn s s1 = s' at *
  have lx := hx.le
  have ly := hy.le
  have hk := cv5 he 5 (by decide)
  have kl : e.toNat % 5 ≤ 4 := by omega
  generalize e.toNat % 5 = n at hk kl
  have hk' : (W.cv (e.tmod 5)).1 = (n : Int) := hk
  have k40 : ((wl 40).1.toNat) = 40 := rfl
  rw [k40] at ha hb
  have nk : 1 + n * 40 ≤ 512 := by omega
  have e1 := in_true (Add_iv X Y (by decide)) (Add_iv ha hb (by decide)) (by grind) (by grind)
  have e2 := in_true (Sub_iv X Y (by decide)) (Sub_iv ha hb (by decide)) (by grind) (by grind)
  have f3 := four_in l1 lx l2 l3 ly l4
  have e3 := in_true (Mul_iv X Y (by decide)) (Mul_iv ha hb (by decide)) f3.1 f3.2
  have e4 := in_true (Neg_iv hx) (Neg_iv ha.at') (by grind) (by grind)
  have f5 := ab_sub l1 lx l2
  have e5 := in_true (Abs_iv hx) (Abs_iv ha.at') f5.1 f5.2
  have f6 := pw_sub (n := n) l1 lx l2
  have e6 := in_true (Power_iv X (by decide) hk' (by omega) nk) (Power_iv ha (by decide) hk' (by omega) nk) f6.1 f6.2
  obtain ⟨F, C, w1, w2, _, _, w3⟩ := Widen_iv X hk' (by omega) (by omega)
  obtain ⟨G, D, v1, v2, _, _, v3⟩ := Widen_iv ha hk' (by omega) (by omega)
  have e7 := in_true w3 v3 (div_mono (v1.mono w1 l1)) (div_mono (w2.mono v2 l2))
  have e8 : (F_interval_IsBad (F_interval_Div a b) || F_interval_Inside (F_interval_Div x y) (F_interval_Div a b)) = true := by
    by_cases h0 : r ≤ 0 ∧ 0 ≤ s
    · rw [Div_bad hb.at' h0, IsBad_eq, bad_isBad]; rfl
    · have f8 := four_div h0 l1 lx l2 l3 ly l4
      rw [in_true (Div_iv X Y (by grind) (by decide)) (Div_iv ha hb h0 (by decide)) f8.1 f8.2, Bool.or_true]
  simp only [e1, e2, e3, e4, e5, e6, e7, e8]
  rfl
theorem clamp_At {a : Iv} {x : Rt} {p q u : Rat} {k : Nat} (ha : a.Az p q k) (hx : x.At u) (su : Sz u k) : ∃ v, (F_skewbacklaw05_clamp a x).At v ∧ Sz v k ∧ p ≤ v ∧ v ≤ q := by
  unfold F_skewbacklaw05_clamp
  refine ⟨mx p (mn q u), ?_, ha.sp.mx (ha.sq.mn su), mx_l _ _, ?_⟩
  · rw [Max_eq, Min_eq]
    exact max_At ha.at'.lo (min_At ha.at'.hi hx)
  · have := ha.at'.le
    unfold mx mn; grind
theorem inc_loop (a b : Iv) (c d : Rt) (e : Int) : ∀ (k : Nat) (i : W) (m : Rt), ((W.cv (e.tmod 5)).1 - i.1).toNat < k → (F_skewbacklaw05_IntervalIncludes_loop0 a b c d e k i m).2 = itMul (F_skewbacklaw05_clamp a c) ((W.cv (e.tmod 5)).1 - i.1).toNat m := by
  intro k
  induction k with
  | zero => intro i m h; omega
  | succ k ih =>
    intro i m h
    unfold F_skewbacklaw05_IntervalIncludes_loop0
    by_cases hc : i.1 < (W.cv (e.tmod 5)).1
    · rw [decide_eq_true hc, cond_true]
      dsimp only
      rw [ih _ _ (by rw [inc_1 hc]; omega), inc_1 hc, Mul_eq]
      have : ((W.cv (e.tmod 5)).1 - i.1).toNat = ((W.cv (e.tmod 5)).1 - (i.1 + 1)).toNat + 1 := by omega
      rw [this]; rfl
    · rw [decide_eq_false hc, cond_false]
      have : ((W.cv (e.tmod 5)).1 - i.1).toNat = 0 := by omega
      rw [this]; rfl
theorem RAbs_At {x : Rt} {u : Rat} (hx : x.At u) : (F_ratio_Abs x).At (ab u) := by
  unfold F_ratio_Abs ab
  rw [Sign_eq, Neg_eq, Neg_eq]
  have h : decide ((F_skewbackref04_Sign x).1 < 0) = decide (u < 0) := by
    have h1 := sign_ge hx
    have h2 : (¬ (0 ≤ (F_skewbackref04_Sign x).1)) ↔ ¬ (0 ≤ u) := not_congr (decide_eq_decide.1 h1)
    refine decide_eq_decide.2 ?_
    rw [← Int.not_le, h2, Rat.not_le]
  rw [h]
  by_cases h0 : u < 0
  · rw [decide_eq_true h0, if_pos h0]; exact Neg_At hx
  · rw [decide_eq_false h0, if_neg h0]
    have := Neg_At (Neg_At hx)
    rwa [Rat.neg_neg] at this
theorem IntervalIncludes_true (a b : Iv) (c d : Rt) (e : Int) (he : 0 ≤ e ∧ e ≤ 255) : F_skewbacklaw05_IntervalIncludes a b c d e = true := by
  unfold F_skewbacklaw05_IntervalIncludes
  rw [sanity05]
  cases sa : F_skewbacklaw05_short a (wl 60) with
  | false => rfl
  | true =>
  cases sb : F_skewbacklaw05_short b (wl 60) with
  | false => rfl
  | true =>
  cases sc : F_skewbacklaw05_few c (wl 60) with
  | false => rfl
  | true =>
  cases sd : F_skewbacklaw05_few d (wl 60) with
  | false => rfl
  | true =>
  obtain ⟨p, q, ha⟩ := short_At sa
  obtain ⟨r, s, hb⟩ := short_At sb
  obtain ⟨u0, hc, su0⟩ := few_At sc
  obtain ⟨v0, hd, sv0⟩ := few_At sd
  obtain ⟨u, hu, su, u1, u2⟩ := clamp_At ha hc su0
  obtain ⟨v, hv, sv, v1, v2⟩ := clamp_At hb hd sv0
  have k60 : ((wl 60).1.toNat) = 60 := rfl
  rw [k60] at ha hb su sv
  have hk := cv5 he 5 (by decide)
  have kl : e.toNat % 5 ≤ 4 := by omega
  generalize e.toNat % 5 = n at hk kl
  have hk' : (W.cv (e.tmod 5)).1 = (n : Int) := hk
  have nk : 1 + n * 60 ≤ 512 := by omega
  have hl := inc_loop a b c d e ((W.cv (e.tmod 5)).1.toNat + 1) (wl 0) (F_ratio_Of (wl 1)) (cnt_start _)
  have e0 : ((W.cv (e.tmod 5)).1 - (wl 0).1).toNat = n := by rw [hk']; show ((n : Int) - 0).toNat = n; omega
  rw [e0] at hl
  simp only [Bool.not_true, Bool.or_false, cond_false, ap]
  rw [hl]
  generalize F_skewbacklaw05_clamp a c = x at *
  generalize F_skewbacklaw05_clamp b d = y at *
  have e1 := has_true (Add_iv ha hb (by decide)) (x := F_ratio_Add x y) (by rw [Add_eq]; exact Add_At hu hv su sv (by decide)) (by grind)
  have e2 := has_true (Sub_iv ha hb (by decide)) (x := F_ratio_Sub x y) (by rw [Sub_eq]; exact Sub_At hu hv su sv (by decide)) (by grind)
  have e3 := has_true (Mul_iv ha hb (by decide)) (x := F_ratio_Mul x y) (by rw [Mul_eq]; exact Mul_sz hu hv su sv (by decide)) (mul_in u1 u2 v1 v2)
  have e4 := has_true (Neg_iv ha.at') (x := F_ratio_Neg x) (by rw [Neg_eq]; exact Neg_At hu) (by grind)
  have e5 := has_true (Abs_iv ha.at') (RAbs_At hu) (ab_in u1 u2)
  have pa := itMul_At hu su n _ 1 1 (Of_At (wl 1)) ⟨by decide, by decide⟩ nk
  rw [Rat.one_mul] at pa
  have e6 := has_true (Power_iv ha (by decide) hk' (by omega) nk) (x := itMul x n (F_ratio_Of (wl 1))) (by rw [Of_eq]; exact pa) (pw_in u1 u2)
  have e7 : (!F_interval_Has b (F_ratio_Of (wl 0)) && !F_interval_Has (F_interval_Div a b) (F_ratio_Div x y)) = false := by
    rw [has0 hb.at']
    by_cases h0 : r ≤ 0 ∧ 0 ≤ s
    · rw [decide_eq_true h0]; rfl
    · have v0 : v ≠ 0 := by grind
      rw [has_true (Div_iv ha hb h0 (by decide)) (x := F_ratio_Div x y) (by rw [Div_eq]; exact Div_At hu hv v0 su sv (by decide)) (div_in h0 u1 u2 v1 v2), Bool.not_true, Bool.and_false]
  simp only [e1, e2, e3, e4, e5, e6, e7]
  rfl
end Go.Num

set_option linter.unusedVariables false
set_option linter.unusedSimpArgs false
namespace Go.Num
open Go Go.Kn
def sameR (a b : Rt) : Bool := decide (a.n = b.n) && decide (a.d = b.d)
theorem att_loop (a : Iv) (l0 : List Rt) : ∀ (l : List Rt) (lo hi : Bool), F_skewbacklaw05_attained_loop0 a l0 l lo hi = (lo || l.any (sameR a.lo), hi || l.any (sameR a.hi))
  | [], lo, hi => by simp [F_skewbacklaw05_attained_loop0]
  | x :: l, lo, hi => by
    unfold F_skewbacklaw05_attained_loop0
    rw [att_loop a l0 l]
    simp only [List.any_cons, Bool.or_assoc]; rfl
theorem sameR_self (a : Rt) : sameR a a = true := by simp [sameR]
theorem att_true {a : Iv} {l : List Rt} (h1 : a.lo ∈ l) (h2 : a.hi ∈ l) : F_skewbacklaw05_attained a l = true := by
  unfold F_skewbacklaw05_attained
  rw [att_loop]
  have e1 : l.any (sameR a.lo) = true := List.any_eq_true.2 ⟨_, h1, sameR_self _⟩
  have e2 : l.any (sameR a.hi) = true := List.any_eq_true.2 ⟨_, h2, sameR_self _⟩
  rw [e1, e2]; rfl
theorem at4 {x x1 x2 x3 x4 : Rt} {v r1 r2 r3 r4 : Rat} (hx : x.At v) (h1 : x1.At r1) (h2 : x2.At r2) (h3 : x3.At r3) (h4 : x4.At r4) (h : v = r1 ∨ v = r2 ∨ v = r3 ∨ v = r4) : x ∈ [x1, x2, x3, x4] := by
  rcases h with h | h | h | h <;> subst h
  · rw [At_inj hx h1]; simp
  · rw [At_inj hx h2]; simp
  · rw [At_inj hx h3]; simp
  · rw [At_inj hx h4]; simp
theorem at3 {x x1 x2 x3 : Rt} {v r1 r2 r3 : Rat} (hx : x.At v) (h1 : x1.At r1) (h2 : x2.At r2) (h3 : x3.At r3) (h : v = r1 ∨ v = r2 ∨ v = r3) : x ∈ [x1, x2] ++ [x3] := by
  rcases h with h | h | h <;> subst h
  · rw [At_inj hx h1]; simp
  · rw [At_inj hx h2]; simp
  · rw [At_inj hx h3]; simp
theorem at2 {x x1 x2 : Rt} {v r1 r2 : Rat} (hx : x.At v) (h1 : x1.At r1) (h2 : x2.At r2) (h : v = r1 ∨ v = r2) : x ∈ [x1, x2] := by
  rcases h with h | h <;> subst h
  · rw [At_inj hx h1]; simp
  · rw [At_inj hx h2]; simp
theorem abl_one (p q : Rat) : abl p q = ab p ∨ abl p q = ab q ∨ abl p q = 0 := by unfold abl ab; grind
theorem abl_two {p q : Rat} (h : ¬ (p ≤ 0 ∧ 0 ≤ q)) (hl : p ≤ q) : abl p q = ab p ∨ abl p q = ab q := by unfold abl ab; grind
theorem abh_one {p q : Rat} (hl : p ≤ q) : abh p q = ab p ∨ abh p q = ab q := by unfold abh ab mx; grind
theorem sq_ab (p : Rat) : (ab p) ^ 2 = p * p := by rw [ab_even (by decide), Rat.pow_succ, Rat.pow_one]
theorem IntervalIsLeast_true (a b : Iv) : F_skewbacklaw05_IntervalIsLeast a b = true := by
  unfold F_skewbacklaw05_IntervalIsLeast
  rw [sanity05]
  cases sa : F_skewbacklaw05_short a (wl 60) with
  | false => rfl
  | true =>
  cases sb : F_skewbacklaw05_short b (wl 60) with
  | false => rfl
  | true =>
  obtain ⟨p, q, ha⟩ := short_At sa
  obtain ⟨r, s, hb⟩ := short_At sb
  have k60 : ((wl 60).1.toNat) = 60 := rfl
  rw [k60] at ha hb
  have hle := ha.at'.le
  have hl2 := hb.at'.le
  dsimp only
  simp only [Mul_eq, Div_eq, Bool.not_true, Bool.or_false, cond_false, Bool.true_and]
  have M := Mul_iv ha hb (by decide)
  have m1 := Mul_sz ha.at'.lo hb.at'.lo ha.sp hb.sp (by decide)
  have m2 := Mul_sz ha.at'.lo hb.at'.hi ha.sp hb.sq (by decide)
  have m3 := Mul_sz ha.at'.hi hb.at'.lo ha.sq hb.sp (by decide)
  have m4 := Mul_sz ha.at'.hi hb.at'.hi ha.sq hb.sq (by decide)
  rw [att_true (at4 M.lo m1 m2 m3 m4 (mn4_one _ _ _ _)) (at4 M.hi m1 m2 m3 m4 (mx4_one _ _ _ _)), cond_true]
  have A := Abs_iv ha.at'
  have P := Power_iv ha (by decide) (c := wl 2) (n := 2) rfl (by decide) (by decide)
  have a1 := RAbs_At ha.at'.lo
  have a2 := RAbs_At ha.at'.hi
  have s1 := Mul_sz ha.at'.lo ha.at'.lo ha.sp ha.sp (by decide)
  have s2 := Mul_sz ha.at'.hi ha.at'.hi ha.sq ha.sq (by decide)
  have e1 : pwl 2 p q = (abl p q) ^ 2 := by unfold pwl; rw [if_pos (by decide)]
  have e2 : pwh 2 p q = (abh p q) ^ 2 := by unfold pwh; rw [if_pos (by decide)]
  have z2 : (0 : Rat) ^ 2 = 0 := by decide +kernel
  rw [e1, e2] at P
  have g2 : (abh p q) ^ 2 = p * p ∨ (abh p q) ^ 2 = q * q := by
    rcases abh_one hle with h | h <;> rw [h, sq_ab]
    · exact .inl rfl
    · exact .inr rfl
  have R : (bif F_interval_Has a (F_ratio_Of (wl 0)) then
      (F_skewbacklaw05_attained (F_interval_Abs a) ([F_ratio_Abs a.lo, F_ratio_Abs a.hi] ++ [F_ratio_Of (wl 0)]) && F_skewbacklaw05_attained (F_interval_Power a (wl 2)) ([F_skewbackref04_Mul a.lo a.lo, F_skewbackref04_Mul a.hi a.hi] ++ [F_ratio_Of (wl 0)]))
      else (F_skewbacklaw05_attained (F_interval_Abs a) [F_ratio_Abs a.lo, F_ratio_Abs a.hi] && F_skewbacklaw05_attained (F_interval_Power a (wl 2)) [F_skewbackref04_Mul a.lo a.lo, F_skewbackref04_Mul a.hi a.hi])) = true := by
    rw [has0 ha.at']
    by_cases h0 : p ≤ 0 ∧ 0 ≤ q
    · rw [decide_eq_true h0, cond_true]
      have g1 : (abl p q) ^ 2 = p * p ∨ (abl p q) ^ 2 = q * q ∨ (abl p q) ^ 2 = 0 := by
        rcases abl_one p q with h | h | h <;> rw [h]
        · exact .inl (sq_ab p)
        · exact .inr (.inl (sq_ab q))
        · exact .inr (.inr z2)
      rw [att_true (at3 A.lo a1 a2 zero_At (abl_one p q)) (at3 A.hi a1 a2 zero_At ((abh_one hle).elim .inl (fun h => .inr (.inl h)))),
        att_true (at3 P.lo s1 s2 zero_At g1) (at3 P.hi s1 s2 zero_At (g2.elim .inl (fun h => .inr (.inl h))))]; rfl
    · rw [decide_eq_false h0, cond_false]
      have g1 : (abl p q) ^ 2 = p * p ∨ (abl p q) ^ 2 = q * q := by
        rcases abl_two h0 hle with h | h <;> rw [h, sq_ab]
        · exact .inl rfl
        · exact .inr rfl
      rw [att_true (at2 A.lo a1 a2 (abl_two h0 hle)) (at2 A.hi a1 a2 (abh_one hle)), att_true (at2 P.lo s1 s2 g1) (at2 P.hi s1 s2 g2)]; rfl
  rw [R, has0 hb.at']
  by_cases h0 : r ≤ 0 ∧ 0 ≤ s
  · rw [decide_eq_true h0]; rfl
  · rw [decide_eq_false h0, cond_false]
    have D := Div_iv ha hb h0 (by decide)
    have r0 : r ≠ 0 := by grind
    have s0 : s ≠ 0 := by grind
    have d1 := Div_At ha.at'.lo hb.at'.lo r0 ha.sp hb.sp (by decide)
    have d2 := Div_At ha.at'.lo hb.at'.hi s0 ha.sp hb.sq (by decide)
    have d3 := Div_At ha.at'.hi hb.at'.lo r0 ha.sq hb.sp (by decide)
    have d4 := Div_At ha.at'.hi hb.at'.hi s0 ha.sq hb.sq (by decide)
    rw [att_true (at4 D.lo d1 d2 d3 d4 (mn4_one _ _ _ _)) (at4 D.hi d1 d2 d3 d4 (mx4_one _ _ _ _))]; rfl
end Go.Num
