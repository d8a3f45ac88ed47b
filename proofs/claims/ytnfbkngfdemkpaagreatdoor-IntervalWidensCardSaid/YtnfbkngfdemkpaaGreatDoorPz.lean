/- The statement on widening and on halves. No program stands in it. -/
import Derived.Test.YtnfbkngfdemkpaaGreatDoorPs

import Derived.KernelRfl
set_option linter.unusedVariables false
set_option linter.unusedSimpArgs false
namespace Go.Num
open Go Go.Kn
theorem Sz_ratio {n d : Int} {q : Rat} {j : Nat} (hd : 0 < d) (he : q * (d : Rat) = n) (h1 : n.natAbs < 2 ^ j) (h2 : d.natAbs < 2 ^ j) : Sz q j := by
  have hd' : (d : Rat) ≠ 0 := by rw [Ne, Rat.intCast_eq_zero_iff]; omega
  have e : q = Rat.divInt n d := by rw [Rat.divInt_eq_div, ← he, Rat.mul_div_cancel hd']
  rw [e]
  constructor
  · rw [Rat.num_divInt, Int.sign_eq_one_of_pos hd, Int.one_mul]
    exact Nat.lt_of_le_of_lt (Int.natAbs_ediv_le_natAbs _ _) h1
  · rw [Rat.den_divInt, if_neg (by omega)]
    exact Nat.lt_of_le_of_lt (Nat.div_le_self _ _) h2
theorem half_At : (F_skewbackref04_Frac (wl 1) (wl 2)).At (1 / 2) := by
  unfold F_skewbackref04_Frac
  exact At_ratio (n := 1) (d := 2) B1 (by decide) (by decide) (by decide +kernel)
theorem half_Sz : Sz (1 / 2) 2 := ⟨by decide +kernel, by decide +kernel⟩
theorem half_pow (k : Nat) : Sz ((1 / 2 : Rat) ^ k) (k + 1) ∧ (1 / 2 : Rat) ^ k * 2 ^ k = 1 := by
  have e1 : (1 / 2 : Rat).num = 1 := by decide +kernel
  have e2 : (1 / 2 : Rat).den = 2 := by decide +kernel
  refine ⟨⟨?_, ?_⟩, ?_⟩
  · rw [Rat.num_pow, e1, Int.one_pow]; exact Nat.one_lt_two_pow (by omega)
  · rw [Rat.den_pow, e2]; exact Nat.pow_lt_pow_right (by decide) (by omega)
  · induction k with
    | zero => decide +kernel
    | succ k ih =>
      rw [Rat.pow_succ, Rat.pow_succ]
      have : (1 / 2 : Rat) * 2 = 1 := by decide +kernel
      grind
theorem wid_loop (a r : Iv) (e : Int) : ∀ (k : Nat) (i : W) (m : Rt), ((W.cv (e.tmod 101)).1 - i.1).toNat < k → (F_skewbacklaw05_IntervalWidens_loop0 a e r k i m).2 = itMul (F_skewbackref04_Frac (wl 1) (wl 2)) ((W.cv (e.tmod 101)).1 - i.1).toNat m := by
  intro k
  induction k with
  | zero => intro i m h; omega
  | succ k ih =>
    intro i m h
    unfold F_skewbacklaw05_IntervalWidens_loop0
    by_cases hc : i.1 < (W.cv (e.tmod 101)).1
    · rw [decide_eq_true hc, cond_true]
      dsimp only
      rw [ih _ _ (by rw [inc_1 hc]; omega), inc_1 hc, Mul_eq, Frac_eq]
      have : ((W.cv (e.tmod 101)).1 - i.1).toNat = ((W.cv (e.tmod 101)).1 - (i.1 + 1)).toNat + 1 := by omega
      rw [this]; rfl
    · rw [decide_eq_false hc, cond_false]
      have : ((W.cv (e.tmod 101)).1 - i.1).toNat = 0 := by omega
      rw [this]; rfl
theorem div_two {x : Rat} {k : Nat} : x / 2 ^ k = x * (1 / 2) ^ k := by
  have h := (half_pow k).2
  have h2 : (2 : Rat) ^ k ≠ 0 := Rat.ne_of_gt (two_pos k)
  have e : (1 / 2 : Rat) ^ k = ((2 : Rat) ^ k)⁻¹ := by
    have := Rat.inv_eq_of_mul_eq_one (a := (2 : Rat) ^ k) (b := (1 / 2) ^ k) (by rw [Rat.mul_comm]; exact h)
    exact this.symm
  rw [Rat.div_def, e]
theorem Fl.same {F G : Int} {k : Nat} (h : Fl ((F : Rat) / 2 ^ k) k G) : G = F := by
  have h2 : (2 : Rat) ^ k ≠ 0 := Rat.ne_of_gt (two_pos k)
  have e : (F : Rat) / 2 ^ k * 2 ^ k = F := Rat.div_mul_cancel h2
  have h1 := h.le
  have h3 := h.lt
  rw [e] at h1 h3
  have a1 := Rat.intCast_le_intCast.1 h1
  have a2 := Rat.intCast_lt_intCast.1 h3
  omega
theorem Cl.same {F G : Int} {k : Nat} (h : Cl ((F : Rat) / 2 ^ k) k G) : G = F := by
  have h2 : (2 : Rat) ^ k ≠ 0 := Rat.ne_of_gt (two_pos k)
  have e : (F : Rat) / 2 ^ k * 2 ^ k = F := Rat.div_mul_cancel h2
  have h1 := h.le
  have h3 := h.lt
  rw [e] at h1 h3
  have a1 := Rat.intCast_le_intCast.1 h1
  have a2 := Rat.intCast_lt_intCast.1 h3
  omega
theorem Width_At {a : Iv} {p q : Rat} {j k : Nat} (ha : a.At p q) (hp : Sz p j) (hq : Sz q k) (h : k + j + 1 ≤ 512) : (F_interval_Width a).At (q - p) := by
  rw [IWidth_eq]
  unfold F_skewbackref05_Width
  rw [ha.good]
  exact Sub_At ha.hi ha.lo hq hp h
theorem D_one {a : Rt} {n : Int} (h : a.At (n : Rat)) : decide (a.d = E (Z.of 1)) = true := by
  have := (At.is h).ed
  rw [this]; exact decide_eq_true rfl
theorem mid_in {p q : Rat} (h : p ≤ q) : p ≤ (p + q) * (1 / 2) ∧ (p + q) * (1 / 2) ≤ q ∧ (p + q) * (1 / 2) - p = q - (p + q) * (1 / 2) := by
  have h2 : (1 / 2 : Rat) * 2 = 1 := by decide +kernel
  generalize (1 / 2 : Rat) = t at *
  have e : (p + q) * t * 2 = p + q := by grind
  refine ⟨?_, ?_, ?_⟩ <;> grind
theorem IntervalWidens_true (a : Iv) (b : Int) (hb : 0 ≤ b ∧ b ≤ 255) : F_skewbacklaw05_IntervalWidens a b = true := by
  unfold F_skewbacklaw05_IntervalWidens
  rw [sanity05]
  cases sa : F_skewbacklaw05_short a (wl 100) with
  | false => rfl
  | true =>
  obtain ⟨p, q, ha⟩ := short_At sa
  have k100 : ((wl 100).1.toNat) = 100 := rfl
  rw [k100] at ha
  have hk := cv5 hb 101 (by decide)
  have kl : b.toNat % 101 ≤ 100 := by omega
  generalize b.toNat % 101 = n at hk kl
  have hk' : (W.cv (b.tmod 101)).1 = (n : Int) := hk
  have hl := wid_loop a (F_interval_Widen a (W.cv (b.tmod 101))) b ((W.cv (b.tmod 101)).1.toNat + 1) (wl 0) (F_ratio_Of (wl 1)) (cnt_start _)
  have e0 : ((W.cv (b.tmod 101)).1 - (wl 0).1).toNat = n := by rw [hk']; show ((n : Int) - 0).toNat = n; omega
  rw [e0] at hl
  simp only [cond_true, ap]
  rw [hl]
  obtain ⟨F, C, w1, w2, w4, w5, w3⟩ := Widen_iv ha hk' (by omega) (by omega)
  have hle := ha.at'.le
  have tp := two_pos n
  obtain ⟨hu1, hu2⟩ := half_pow n
  have pa := itMul_At half_At half_Sz n _ 1 1 (Of_At (wl 1)) ⟨by decide, by decide⟩ (by omega)
  rw [Rat.one_mul, ← Of_eq] at pa
  have su : Sz ((1 / 2 : Rat) ^ n) 101 := hu1.mono (by omega)
  generalize itMul (F_skewbackref04_Frac (wl 1) (wl 2)) n (F_ratio_Of (wl 1)) = U at *
  have t0 : (0 : Int) < 2 ^ n := Int.pow_pos (by decide)
  have dn : ((2 : Int) ^ n).natAbs < 2 ^ 200 := by rw [pow_abs]; exact Nat.pow_lt_pow_right (by decide) (by omega)
  have dn' : ((2 : Int) ^ n).natAbs < 2 ^ 201 := Nat.lt_of_lt_of_le dn (pow_le (by decide))
  have f200 : F.natAbs < 2 ^ 200 := Nat.lt_of_lt_of_le w4 (pow_le (by omega))
  have c200 : C.natAbs < 2 ^ 200 := Nat.lt_of_lt_of_le w5 (pow_le (by omega))
  have tn : (2 : Rat) ^ n ≠ 0 := Rat.ne_of_gt tp
  have sF : Sz ((F : Rat) / 2 ^ n) 200 := Sz_ratio t0 (by rw [two_cast]; exact Rat.div_mul_cancel tn) f200 dn
  have sC : Sz ((C : Rat) / 2 ^ n) 200 := Sz_ratio t0 (by rw [two_cast]; exact Rat.div_mul_cancel tn) c200 dn
  have cf : (C - F).natAbs < 2 ^ 201 := by
    have := Int.natAbs_sub_le C F
    rw [Nat.pow_succ]; omega
  have sCF : Sz ((C : Rat) / 2 ^ n - (F : Rat) / 2 ^ n) 201 := Sz_ratio (n := C - F) t0 (by
    rw [two_cast, Rat.intCast_sub]
    have a1 : (C : Rat) / 2 ^ n * 2 ^ n = C := Rat.div_mul_cancel tn
    have a2 : (F : Rat) / 2 ^ n * 2 ^ n = F := Rat.div_mul_cancel tn
    grind) cf dn'
  have W : (F_interval_Widen a (W.cv (b.tmod 101))).Az ((F : Rat) / 2 ^ n) ((C : Rat) / 2 ^ n) 200 := ⟨w3, sF, sC⟩
  obtain ⟨F', C', v1, v2, _, _, v3⟩ := Widen_iv W hk' (by omega) (by omega)
  have eF := Fl.same v1
  have eC := Cl.same v2
  subst eF eC
  have eW := iv_inj v3 w3
  rw [eW]
  generalize F_interval_Widen a (Go.Num.W.cv (b.tmod 101)) = w at *
  have un : (1 / 2 : Rat) ^ n ≠ 0 := fun h => by rw [h, Rat.zero_mul] at hu2; exact absurd hu2 (by decide)
  have up : (0 : Rat) < (1 / 2) ^ n := Rat.pow_pos (by decide +kernel)
  have fu : (F' : Rat) / 2 ^ n ≤ p := by
    rw [div_two]
    have := Rat.mul_le_mul_of_nonneg_right w1.le (Rat.le_of_lt up)
    rwa [Rat.mul_assoc, Rat.mul_comm (2 ^ n), hu2, Rat.mul_one] at this
  have cu : q ≤ (C' : Rat) / 2 ^ n := by
    rw [div_two]
    have := Rat.mul_le_mul_of_nonneg_right w2.le (Rat.le_of_lt up)
    rwa [Rat.mul_assoc, Rat.mul_comm (2 ^ n), hu2, Rat.mul_one] at this
  have i1 := in_true ha.at' w3 fu cu
  have d1 := D_one (n := F') (a := F_ratio_Div w.lo U) (by
    rw [Div_eq]
    have := Div_At w3.lo pa un sF su (by decide)
    rwa [div_two, Rat.mul_div_cancel un] at this)
  have d2 := D_one (n := C') (a := F_ratio_Div w.hi U) (by
    rw [Div_eq]
    have := Div_At w3.hi pa un sC su (by decide)
    rwa [div_two, Rat.mul_div_cancel un] at this)
  have ww := Width_At w3 sF sC (by decide)
  have wa := Width_At ha.at' ha.sp ha.sq (by decide)
  have swa : Sz (q - p) 201 := by rw [Rat.sub_eq_add_neg]; exact ha.sq.add ha.sp.neg
  have more := Sub_At ww wa sCF swa (by decide)
  rw [← Sub_eq] at more
  have uu := Add_At pa pa su su (by decide)
  rw [← Add_eq] at uu
  have cm : decide (0 ≤ (F_ratio_Cmp (F_ratio_Sub (F_interval_Width w) (F_interval_Width a)) (F_ratio_Add U U)).1) = false := by
    refine decide_eq_false ?_
    rw [Int.not_le, Cmp_lt more uu, div_two, div_two]
    have k1 := Rat.mul_lt_mul_of_pos_right w1.lt up
    have k2 := Rat.mul_lt_mul_of_pos_right w2.lt up
    rw [Rat.intCast_add, Rat.mul_assoc, Rat.mul_comm (2 ^ n), hu2, Rat.mul_one] at k1
    rw [Rat.intCast_sub, Rat.mul_assoc, Rat.mul_comm (2 ^ n), hu2, Rat.mul_one] at k2
    have e1 : ((1 : Int) : Rat) = 1 := rfl
    rw [e1] at k1 k2
    grind
  simp only [i1, d1, d2, cm, decide_true, Bool.and_self, Bool.not_true, Bool.or_self, cond_false]
  obtain ⟨m1, m2, m3⟩ := mid_in hle
  have mA : (F_ratio_Mid a.lo a.hi).At ((p + q) * (1 / 2)) := by
    rw [Mid_eq]
    unfold F_skewbackref04_Mid
    exact Mul_sz (Add_At ha.at'.lo ha.at'.hi ha.sp ha.sq (by decide)) half_At (ha.sp.add ha.sq) half_Sz (by decide)
  have sm' : Sz ((p + q) * (1 / 2)) 203 := (ha.sp.add ha.sq).mul half_Sz
  generalize (p + q) * (1 / 2) = m at *
  have es : F_interval_Split a = (F_interval_Make a.lo (F_ratio_Mid a.lo a.hi), F_interval_Make (F_ratio_Mid a.lo a.hi) a.hi) := by
    unfold F_interval_Split
    rw [right1, ha.at'.good]; rfl
  rw [es]
  have X : (F_interval_Make a.lo (F_ratio_Mid a.lo a.hi)).At p m := by rw [IMake_eq]; exact Make_iv ha.at'.lo mA m1
  have Y : (F_interval_Make (F_ratio_Mid a.lo a.hi) a.hi).At m q := by rw [IMake_eq]; exact Make_iv mA ha.at'.hi m2
  dsimp only
  generalize F_interval_Make a.lo (F_ratio_Mid a.lo a.hi) = x at *
  generalize F_interval_Make (F_ratio_Mid a.lo a.hi) a.hi = y at *
  obtain ⟨z1, z2⟩ := meet_At X Y ⟨Rat.le_refl, hle⟩
  have g1 : (F_interval_Meet x y).1 = F_interval_Of x.hi := iv_inj' z2 (Of_iv X.hi) (by unfold mx; grind) (by unfold mn; grind)
  have g2 : F_interval_Hull [x, y] = a := iv_inj' (hull_at X Y) ha.at' (by unfold mn; grind) (by unfold mx; grind)
  have g3 : F_interval_Width x = F_interval_Width y := by
    have h1 := Width_At X ha.sp sm' (by decide)
    have h2 := Width_At Y sm' ha.sq (by decide)
    rw [← m3] at h2
    exact At_inj h1 h2
  rw [g1, g2, g3, z1]
  simp
end Go.Num
