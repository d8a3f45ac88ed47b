/- What the operations on intervals return, at rational numbers; what they contain. No program stands in it. -/
import Derived.Test.YtnfbkngfdemkpaaGreatDoorPy

import Derived.KernelRfl
set_option linter.unusedVariables false
set_option linter.unusedSimpArgs false
namespace Go.Num
open Go Go.Kn
theorem Sz.mn {p q : Rat} {k : Nat} (h : Sz p k) (g : Sz q k) : Sz (mn p q) k := by unfold Go.Num.mn; split <;> assumption
theorem Sz.mx {p q : Rat} {k : Nat} (h : Sz p k) (g : Sz q k) : Sz (mx p q) k := by unfold Go.Num.mx; split <;> assumption
theorem mn_l (p q : Rat) : mn p q ≤ p := by unfold mn; grind
theorem mn_r (p q : Rat) : mn p q ≤ q := by unfold mn; grind
theorem mx_l (p q : Rat) : p ≤ mx p q := by unfold mx; grind
theorem mx_r (p q : Rat) : q ≤ mx p q := by unfold mx; grind
theorem mn_le {a b x : Rat} (h : a ≤ x ∨ b ≤ x) : mn a b ≤ x := by unfold mn; grind
theorem le_mx {a b x : Rat} (h : x ≤ a ∨ x ≤ b) : x ≤ mx a b := by unfold mx; grind
/-- An interval from p to q, with ends of less than k bits. -/
structure Iv.Az (a : Iv) (p q : Rat) (k : Nat) : Prop where
  at' : a.At p q
  sp : Sz p k
  sq : Sz q k
theorem Make_iv {a b : Rt} {p q : Rat} (ha : a.At p) (hb : b.At q) (h : p ≤ q) : (F_skewbackref05_Make a b).At p q := by
  rw [make_At ha hb h]; exact ⟨ha, hb, h⟩
theorem Of_iv {a : Rt} {p : Rat} (ha : a.At p) : (F_interval_Of a).At p p := by rw [IOf_eq]; exact Make_iv ha ha Rat.le_refl
variable {a b : Iv} {p q r s u v x y : Rat} {j k : Nat}
theorem Add_iv (ha : a.Az p q j) (hb : b.Az r s k) (h : j + k + 1 ≤ 512) : (F_interval_Add a b).At (p + r) (q + s) := by
  rw [IAdd_eq]
  unfold F_skewbackref05_Add
  rw [ha.at'.good, hb.at'.good]
  have h1 := ha.at'.le
  have h2 := hb.at'.le
  exact Make_iv (Add_At ha.at'.lo hb.at'.lo ha.sp hb.sp h) (Add_At ha.at'.hi hb.at'.hi ha.sq hb.sq h) (by grind)
theorem Sub_iv (ha : a.Az p q j) (hb : b.Az r s k) (h : j + k + 1 ≤ 512) : (F_interval_Sub a b).At (p - s) (q - r) := by
  rw [ISub_eq]
  unfold F_skewbackref05_Sub
  rw [ha.at'.good, hb.at'.good]
  have h1 := ha.at'.le
  have h2 := hb.at'.le
  exact Make_iv (Sub_At ha.at'.lo hb.at'.hi ha.sp hb.sq h) (Sub_At ha.at'.hi hb.at'.lo ha.sq hb.sp h) (by grind)
theorem Neg_iv (ha : a.At p q) : (F_interval_Neg a).At (-q) (-p) := by
  rw [INeg_eq]
  unfold F_skewbackref05_Neg
  rw [ha.good]
  have h1 := ha.le
  exact Make_iv (Neg_At ha.hi) (Neg_At ha.lo) (by grind)
def mn4 (a b c d : Rat) : Rat := mn (mn (mn (mn a a) b) c) d
def mx4 (a b c d : Rat) : Rat := mx (mx (mx (mx a a) b) c) d
theorem mn4_le {a b c d x : Rat} (h : a ≤ x ∨ b ≤ x ∨ c ≤ x ∨ d ≤ x) : mn4 a b c d ≤ x := by unfold mn4 mn; grind
theorem le_mx4 {a b c d x : Rat} (h : x ≤ a ∨ x ≤ b ∨ x ≤ c ∨ x ≤ d) : x ≤ mx4 a b c d := by unfold mx4 mx; grind
theorem mn4_one (a b c d : Rat) : mn4 a b c d = a ∨ mn4 a b c d = b ∨ mn4 a b c d = c ∨ mn4 a b c d = d := by unfold mn4 mn; grind
theorem mx4_one (a b c d : Rat) : mx4 a b c d = a ∨ mx4 a b c d = b ∨ mx4 a b c d = c ∨ mx4 a b c d = d := by unfold mx4 mx; grind
theorem around_iv {x1 x2 x3 x4 : Rt} {r1 r2 r3 r4 : Rat} (h1 : x1.At r1) (h2 : x2.At r2) (h3 : x3.At r3) (h4 : x4.At r4) : (F_skewbackref05_around [x1, x2, x3, x4]).At (mn4 r1 r2 r3 r4) (mx4 r1 r2 r3 r4) := by
  rw [← around_eq]
  exact hull_at (hull_at (hull_at (hull_at (Of_iv h1) (Of_iv h1)) (Of_iv h2)) (Of_iv h3)) (Of_iv h4)
theorem Mul_iv (ha : a.Az p q j) (hb : b.Az r s k) (h : j + k ≤ 512) : (F_interval_Mul a b).At (mn4 (p * r) (p * s) (q * r) (q * s)) (mx4 (p * r) (p * s) (q * r) (q * s)) := by
  rw [IMul_eq]
  unfold F_skewbackref05_Mul
  rw [ha.at'.good, hb.at'.good]
  exact around_iv (Mul_sz ha.at'.lo hb.at'.lo ha.sp hb.sp h) (Mul_sz ha.at'.lo hb.at'.hi ha.sp hb.sq h) (Mul_sz ha.at'.hi hb.at'.lo ha.sq hb.sp h) (Mul_sz ha.at'.hi hb.at'.hi ha.sq hb.sq h)
theorem zero_At : (F_ratio_Of (wl 0)).At 0 := by rw [Of_eq]; exact Of_At (wl 0)
theorem has0 (hb : b.At r s) : F_interval_Has b (F_ratio_Of (wl 0)) = decide (r ≤ 0 ∧ 0 ≤ s) := has_At hb zero_At
theorem Div_bad (hb : b.At r s) (h0 : r ≤ 0 ∧ 0 ≤ s) : F_interval_Div a b = F_skewbackref05_Bad := by
  unfold F_interval_Div
  rw [has0 hb, decide_eq_true h0]; rfl
theorem Div_iv (ha : a.Az p q j) (hb : b.Az r s k) (h0 : ¬ (r ≤ 0 ∧ 0 ≤ s)) (h : j + k ≤ 512) : (F_interval_Div a b).At (mn4 (p / r) (p / s) (q / r) (q / s)) (mx4 (p / r) (p / s) (q / r) (q / s)) := by
  rw [IDiv_eq]
  unfold F_skewbackref05_Div
  rw [ha.at'.good, hb.at'.good, ← IHas_eq, ← Of_eq, has0 hb.at', decide_eq_false h0]
  have h1 := hb.at'.le
  have r0 : r ≠ 0 := by grind
  have s0 : s ≠ 0 := by grind
  exact around_iv (Div_At ha.at'.lo hb.at'.lo r0 ha.sp hb.sp h) (Div_At ha.at'.lo hb.at'.hi s0 ha.sp hb.sq h) (Div_At ha.at'.hi hb.at'.lo r0 ha.sq hb.sp h) (Div_At ha.at'.hi hb.at'.hi s0 ha.sq hb.sq h)
/-- absolute values -/
def abl (p q : Rat) : Rat := if 0 ≤ p then p else if q ≤ 0 then -q else 0
def abh (p q : Rat) : Rat := if 0 ≤ p then q else if q ≤ 0 then -p else mx (-p) q
def ab (u : Rat) : Rat := if u < 0 then -u else u
theorem good_right (h : F_skewbackref05_IsBad a = false) : F_skewbackref05_Right a = true := by unfold F_skewbackref05_Right; rw [h]; rfl
theorem sign_ge {a : Rt} (h : a.At p) : decide (0 ≤ (F_skewbackref04_Sign a).1) = decide (0 ≤ p) := by
  rw [Sign_At h]; congr 1; rw [← Rat.num_nonneg]; exact propext Int.sign_nonneg_iff
theorem sign_le {a : Rt} (h : a.At p) : decide ((F_skewbackref04_Sign a).1 ≤ 0) = decide (p ≤ 0) := by
  rw [Sign_At h]; congr 1
  have : p ≤ 0 ↔ p.num ≤ 0 := by
    have := Rat.le_iff p 0
    simpa using this
  rw [this]; exact propext sign_le0
theorem Abs_iv (ha : a.At p q) : (F_interval_Abs a).At (abl p q) (abh p q) := by
  rw [IAbs_eq (good_right ha.good)]
  unfold F_skewbackref05_Abs abl abh
  rw [ha.good, sign_ge ha.lo, sign_le ha.hi]
  have h1 := ha.le
  by_cases h0 : 0 ≤ p
  · rw [decide_eq_true h0, if_pos h0, if_pos h0]; exact ha
  · rw [decide_eq_false h0, if_neg h0, if_neg h0]
    by_cases h2 : q ≤ 0
    · rw [decide_eq_true h2, if_pos h2, if_pos h2]
      have := Neg_iv ha
      rw [INeg_eq] at this; exact this
    · rw [decide_eq_false h2, if_neg h2, if_neg h2]
      exact Make_iv (by rw [← Of_eq]; exact zero_At) (max_At (Neg_At ha.lo) ha.hi) (by unfold mx; grind)
theorem Sz0 (k : Nat) (h : 0 < k) : Sz 0 k := ⟨Nat.pow_pos (by decide), Nat.one_lt_two_pow (by omega)⟩
theorem Abs_Az (ha : a.Az p q k) (hk : 0 < k) : (F_interval_Abs a).Az (abl p q) (abh p q) k := by
  refine ⟨Abs_iv ha.at', ?_, ?_⟩
  · unfold abl
    split
    · exact ha.sp
    · split
      · exact ha.sq.neg
      · exact Sz0 k hk
  · unfold abh
    split
    · exact ha.sq
    · split
      · exact ha.sp.neg
      · exact ha.sp.neg.mx ha.sq
theorem itMul_At {x : Rt} (hx : x.At p) (hp : Sz p k) : ∀ (n : Nat) (m : Rt) (q : Rat) (j : Nat), m.At q → Sz q j → j + n * k ≤ 512 → (itMul x n m).At (q * p ^ n)
  | 0, m, q, j, hm, _, _ => by rw [Rat.pow_zero, Rat.mul_one]; exact hm
  | n + 1, m, q, j, hm, hq, h => by
    rw [Nat.succ_mul] at h
    have h1 := Mul_sz hm hx hq hp (by omega)
    have h2 := itMul_At hx hp n _ _ (j + k) h1 (hq.mul hp) (by omega)
    rw [show q * p ^ (n + 1) = q * p * p ^ n by rw [Rat.pow_succ, Rat.mul_assoc, Rat.mul_comm p]]
    exact h2
theorem power_At {x : Rt} {c : W} {n : Nat} (hc : c.1 = n) (hx : x.At p) (hp : Sz p k) (h : 1 + n * k ≤ 512) : (F_skewbackref05_power x c).At (p ^ n) := by
  rw [rpow, hc, Int.toNat_natCast]
  have := itMul_At hx hp n _ 1 1 (Of_At (wl 1)) ⟨by decide, by decide⟩ h
  rwa [Rat.one_mul] at this
theorem pow_mono {n : Nat} (h0 : 0 ≤ u) (h : u ≤ v) : u ^ n ≤ v ^ n := by
  induction n with
  | zero => rw [Rat.pow_zero, Rat.pow_zero]; exact Rat.le_refl
  | succ n ih =>
    rw [Rat.pow_succ, Rat.pow_succ]
    have h1 : 0 ≤ v := Rat.le_trans h0 h
    exact Rat.le_trans (Rat.mul_le_mul_of_nonneg_left h (Rat.pow_nonneg h0)) (Rat.mul_le_mul_of_nonneg_right ih h1)
theorem neg_pow_odd (u : Rat) : ∀ n : Nat, (-u) ^ (2 * n + 1) = -(u ^ (2 * n + 1)) ∧ (-u) ^ (2 * n) = u ^ (2 * n)
  | 0 => by constructor <;> simp
  | n + 1 => by
    obtain ⟨h1, h2⟩ := neg_pow_odd u n
    have e : (-u) ^ (2 * (n + 1)) = u ^ (2 * (n + 1)) := by
      rw [show 2 * (n + 1) = 2 * n + 1 + 1 by omega, Rat.pow_succ, h1, Rat.pow_succ u (2 * n + 1)]; grind
    refine ⟨?_, e⟩
    rw [Rat.pow_succ, e, Rat.pow_succ u (2 * (n + 1))]; grind
theorem pow_odd {n : Nat} (hn : n % 2 = 1) (h : u ≤ v) : u ^ n ≤ v ^ n := by
  obtain ⟨m, rfl⟩ : ∃ m, n = 2 * m + 1 := ⟨n / 2, by omega⟩
  by_cases h0 : 0 ≤ u
  · exact pow_mono h0 h
  · by_cases h1 : 0 ≤ v
    · have a1 : 0 ≤ v ^ (2 * m + 1) := Rat.pow_nonneg h1
      have a2 : 0 ≤ (-u) ^ (2 * m + 1) := Rat.pow_nonneg (by grind)
      rw [(neg_pow_odd u m).1] at a2; grind
    · have := pow_mono (n := 2 * m + 1) (u := -v) (v := -u) (by grind) (by grind)
      rw [(neg_pow_odd u m).1, (neg_pow_odd v m).1] at this; grind
theorem ab_even {n : Nat} (hn : n % 2 = 0) (u : Rat) : (ab u) ^ n = u ^ n := by
  obtain ⟨m, rfl⟩ : ∃ m, n = 2 * m := ⟨n / 2, by omega⟩
  unfold ab
  split
  · exact (neg_pow_odd u m).2
  · rfl
theorem abl_nn (h : p ≤ q) : 0 ≤ abl p q := by unfold abl; grind
theorem ab_in (h1 : p ≤ u) (h2 : u ≤ q) : abl p q ≤ ab u ∧ ab u ≤ abh p q := by unfold abl abh ab mx; grind
theorem ab_sub (h1 : p ≤ x) (h0 : x ≤ y) (h2 : y ≤ q) : abl p q ≤ abl x y ∧ abh x y ≤ abh p q := by unfold abl abh mx; grind
theorem remW2 {c : W} {n : Nat} (hc : c.1 = n) : ((W.rem c (wl 2)).1 == 0) = decide (n % 2 = 0) := by
  have : (W.rem c (wl 2)).1 = ((n % 2 : Nat) : Int) := by
    show c.1.tmod 2 = _
    rw [hc, Int.tmod_eq_emod_of_nonneg (by omega)]; omega
  rw [this]
  by_cases h : n % 2 = 0
  · rw [h]; rfl
  · rw [decide_eq_false h]; exact beq_eq_false_iff_ne.2 (by omega)
/-- powers -/
def pwl (n : Nat) (p q : Rat) : Rat := if n % 2 = 0 then (abl p q) ^ n else p ^ n
def pwh (n : Nat) (p q : Rat) : Rat := if n % 2 = 0 then (abh p q) ^ n else q ^ n
theorem abl_le (h : p ≤ q) : abl p q ≤ abh p q := by unfold abl abh mx; grind
theorem Power_iv (ha : a.Az p q k) (hk : 0 < k) {c : W} {n : Nat} (hc : c.1 = n) (hn : n ≤ 32) (h : 1 + n * k ≤ 512) : (F_interval_Power a c).At (pwl n p q) (pwh n p q) := by
  rw [IPower_eq (good_right ha.at'.good)]
  unfold F_skewbackref05_Power pwl pwh
  have h1 := ha.at'.le
  rw [ha.at'.good, remW2 hc, decide_eq_false (show ¬ c.1 < 0 by omega), decide_eq_false (show ¬ 32 < c.1 by omega)]
  simp only [Bool.or_false, cond_false]
  by_cases h2 : n % 2 = 0
  · rw [decide_eq_true h2, if_pos h2, if_pos h2, cond_true]
    have A := Abs_Az ha hk
    rw [IAbs_eq (good_right ha.at'.good)] at A
    exact Make_iv (power_At hc A.at'.lo A.sp h) (power_At hc A.at'.hi A.sq h) (pow_mono (abl_nn h1) (abl_le h1))
  · rw [decide_eq_false h2, if_neg h2, if_neg h2, cond_false]
    exact Make_iv (power_At hc ha.at'.lo ha.sp h) (power_At hc ha.at'.hi ha.sq h) (pow_odd (by omega) h1)
theorem pw_in {n : Nat} (h1 : p ≤ u) (h2 : u ≤ q) : pwl n p q ≤ u ^ n ∧ u ^ n ≤ pwh n p q := by
  unfold pwl pwh
  by_cases h : n % 2 = 0
  · rw [if_pos h, if_pos h, ← ab_even h u]
    obtain ⟨k1, k2⟩ := ab_in h1 h2
    have h0 : 0 ≤ ab u := by unfold ab; grind
    exact ⟨pow_mono (abl_nn (Rat.le_trans h1 h2)) k1, pow_mono h0 k2⟩
  · rw [if_neg h, if_neg h]
    exact ⟨pow_odd (by omega) h1, pow_odd (by omega) h2⟩
theorem pw_sub {n : Nat} (h1 : p ≤ x) (h0 : x ≤ y) (h2 : y ≤ q) : pwl n p q ≤ pwl n x y ∧ pwh n x y ≤ pwh n p q := by
  unfold pwl pwh
  by_cases h : n % 2 = 0
  · rw [if_pos h, if_pos h, if_pos h, if_pos h]
    obtain ⟨k1, k2⟩ := ab_sub h1 h0 h2
    exact ⟨pow_mono (abl_nn (by grind)) k1, pow_mono (Rat.le_trans (abl_nn h0) (abl_le h0)) k2⟩
  · rw [if_neg h, if_neg h, if_neg h, if_neg h]
    exact ⟨pow_odd (by omega) h1, pow_odd (by omega) h2⟩
/-! products -/
theorem mul_mono_r (h : u ≤ v) (h0 : 0 ≤ x) : u * x ≤ v * x := Rat.mul_le_mul_of_nonneg_right h h0
theorem mul_anti_r (h : u ≤ v) (h0 : x ≤ 0) : v * x ≤ u * x := by
  have := Rat.mul_le_mul_of_nonneg_right h (show 0 ≤ -x by grind)
  grind
theorem corner_lo (h1 : p ≤ u) (h2 : u ≤ q) (h3 : r ≤ v) (h4 : v ≤ s) : p * r ≤ u * v ∨ p * s ≤ u * v ∨ q * r ≤ u * v ∨ q * s ≤ u * v := by
  have key : ∀ w : Rat, w * r ≤ w * v ∨ w * s ≤ w * v := fun w => by
    by_cases hw : 0 ≤ w
    · exact .inl (Rat.mul_le_mul_of_nonneg_left h3 hw)
    · have := mul_anti_r h4 (show w ≤ 0 by grind)
      rw [Rat.mul_comm s, Rat.mul_comm v] at this; exact .inr this
  by_cases hv : 0 ≤ v
  · have := mul_mono_r h1 hv
    rcases key p with k | k
    · exact .inl (Rat.le_trans k this)
    · exact .inr (.inl (Rat.le_trans k this))
  · have := mul_anti_r h2 (show v ≤ 0 by grind)
    rcases key q with k | k
    · exact .inr (.inr (.inl (Rat.le_trans k this)))
    · exact .inr (.inr (.inr (Rat.le_trans k this)))
theorem corner_hi (h1 : p ≤ u) (h2 : u ≤ q) (h3 : r ≤ v) (h4 : v ≤ s) : u * v ≤ p * r ∨ u * v ≤ p * s ∨ u * v ≤ q * r ∨ u * v ≤ q * s := by
  have := corner_lo (p := -q) (q := -p) (u := -u) (show -q ≤ -u by grind) (show -u ≤ -p by grind) h3 h4
  grind
theorem mul_in (h1 : p ≤ u) (h2 : u ≤ q) (h3 : r ≤ v) (h4 : v ≤ s) : mn4 (p * r) (p * s) (q * r) (q * s) ≤ u * v ∧ u * v ≤ mx4 (p * r) (p * s) (q * r) (q * s) :=
  ⟨mn4_le (corner_lo h1 h2 h3 h4), le_mx4 (corner_hi h1 h2 h3 h4)⟩
theorem inv_anti (h : 0 < x * y) (hxy : x ≤ y) : y⁻¹ ≤ x⁻¹ := by
  have x0 : x ≠ 0 := fun h0 => by rw [h0, Rat.zero_mul] at h; exact absurd h Rat.lt_irrefl
  have y0 : y ≠ 0 := fun h0 => by rw [h0, Rat.mul_zero] at h; exact absurd h Rat.lt_irrefl
  refine Rat.le_of_mul_le_mul_left (c := x * y) ?_ h
  have e1 : x * y * y⁻¹ = x := by rw [Rat.mul_assoc, Rat.mul_inv_cancel y y0, Rat.mul_one]
  have e2 : x * y * x⁻¹ = y := by rw [Rat.mul_comm x y, Rat.mul_assoc, Rat.mul_inv_cancel x x0, Rat.mul_one]
  rw [e1, e2]; exact hxy
theorem mul_pos2 (h : 0 < x ∧ 0 < y ∨ x < 0 ∧ y < 0) : 0 < x * y := by
  rcases h with ⟨h1, h2⟩ | ⟨h1, h2⟩
  · exact Rat.mul_pos h1 h2
  · have := Rat.mul_pos (show 0 < -x by grind) (show 0 < -y by grind)
    grind
theorem div_in (h0 : ¬ (r ≤ 0 ∧ 0 ≤ s)) (h1 : p ≤ u) (h2 : u ≤ q) (h3 : r ≤ v) (h4 : v ≤ s) : mn4 (p / r) (p / s) (q / r) (q / s) ≤ u / v ∧ u / v ≤ mx4 (p / r) (p / s) (q / r) (q / s) := by
  have e1 : v⁻¹ ≤ r⁻¹ := inv_anti (mul_pos2 (by grind)) h3
  have e2 : s⁻¹ ≤ v⁻¹ := inv_anti (mul_pos2 (by grind)) h4
  simp only [Rat.div_def]
  have a1 := corner_lo h1 h2 e2 e1
  have a2 := corner_hi h1 h2 e2 e1
  exact ⟨mn4_le (by grind), le_mx4 (by grind)⟩
end Go.Num
