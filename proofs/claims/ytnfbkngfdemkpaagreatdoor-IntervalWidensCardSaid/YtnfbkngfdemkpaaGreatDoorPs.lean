/- Widening at numbers; the statements that the operations are monotone, and that they include. No program stands in it. -/
import Derived.Test.YtnfbkngfdemkpaaGreatDoorPo

import Derived.KernelRfl
set_option linter.unusedVariables false
set_option linter.unusedSimpArgs false
namespace Go.Num
open Go Go.Kn
theorem num_mul_den (p : Rat) : p * ((p.den : Int) : Rat) = (p.num : Rat) := by
  conv => lhs; rw [← Rat.num_divInt_den p, Rat.divInt_eq_div]
  have h : ((p.den : Int) : Rat) ≠ 0 := by rw [Ne, Rat.intCast_eq_zero_iff]; have := @ne_den p; omega
  have e : (((p.num : Rat) / ((p.den : Int) : Rat)).den : Int) = p.den := by rw [← Rat.divInt_eq_div, Rat.num_divInt_den]
  rw [e]
  exact Rat.div_mul_cancel h
theorem At_ratio {n d : Int} {q : Rat} (hn : B512 n) (hd : B512 d) (hp : 0 < d) (he : q * (d : Rat) = n) : (F_skewbackref04_Make (E (Z.of n)) (E (Z.of d))).At q := by
  refine Make_At hn hd hp (Rat.intCast_inj.1 ?_)
  rw [Rat.intCast_mul, Rat.intCast_mul, ← num_mul_den q, ← he]
  grind
theorem shl_of {v : Int} (h : B512 v) (k : Nat) : Z.shl (Z.of v) (k : Int) = Z.of (v * 2 ^ k) := by
  unfold Z.shl
  rw [lift1_some (Z.of_some h), Int.toNat_natCast]
theorem two_pos (k : Nat) : (0 : Rat) < 2 ^ k := Rat.pow_pos (by decide)
theorem two_cast (k : Nat) : (((2 : Int) ^ k : Int) : Rat) = (2 : Rat) ^ k := Rat.intCast_pow 2 k
theorem pow_abs (k : Nat) : ((2 : Int) ^ k).natAbs = 2 ^ k := by rw [Int.natAbs_pow]; rfl
theorem cast_le {p : Rat} {k : Nat} {x : Int} (h : x * p.den ≤ p.num * 2 ^ k) : (x : Rat) ≤ p * 2 ^ k := by
  have hd : (0 : Rat) < ((p.den : Int) : Rat) := Rat.intCast_pos.2 ne_den
  refine Rat.le_of_mul_le_mul_right ?_ hd
  have h1 := Rat.intCast_le_intCast.2 h
  rw [Rat.intCast_mul, Rat.intCast_mul, two_cast, ← num_mul_den p] at h1
  grind
theorem cast_ge {p : Rat} {k : Nat} {x : Int} (h : p.num * 2 ^ k ≤ x * p.den) : p * 2 ^ k ≤ (x : Rat) := by
  have hd : (0 : Rat) < ((p.den : Int) : Rat) := Rat.intCast_pos.2 ne_den
  refine Rat.le_of_mul_le_mul_right ?_ hd
  have h1 := Rat.intCast_le_intCast.2 h
  rw [Rat.intCast_mul, Rat.intCast_mul, two_cast, ← num_mul_den p] at h1
  grind
theorem cast_lt {p : Rat} {k : Nat} {x : Int} (h : p.num * 2 ^ k < x * p.den) : p * 2 ^ k < (x : Rat) := by
  refine Rat.lt_of_le_of_ne (cast_ge (Int.le_of_lt h)) fun e => ?_
  have h1 : p.num * 2 ^ k = x * p.den := by
    refine Rat.intCast_inj.1 ?_
    rw [Rat.intCast_mul, Rat.intCast_mul, two_cast, ← num_mul_den p, ← e]; grind
  omega
theorem cast_gt {p : Rat} {k : Nat} {x : Int} (h : x * p.den < p.num * 2 ^ k) : (x : Rat) < p * 2 ^ k := by
  refine Rat.lt_of_le_of_ne (cast_le (Int.le_of_lt h)) fun e => ?_
  have h1 : x * p.den = p.num * 2 ^ k := by
    refine Rat.intCast_inj.1 ?_
    rw [Rat.intCast_mul, Rat.intCast_mul, two_cast, ← num_mul_den p, e]; grind
  omega
/-- F is p 2^k, rounded down; C: rounded up. -/
structure Fl (p : Rat) (k : Nat) (F : Int) : Prop where
  le : (F : Rat) ≤ p * 2 ^ k
  lt : p * 2 ^ k < ((F + 1 : Int) : Rat)
structure Cl (p : Rat) (k : Nat) (C : Int) : Prop where
  le : p * 2 ^ k ≤ (C : Rat)
  lt : ((C - 1 : Int) : Rat) < p * 2 ^ k
theorem div_at {n d : Int} (hd : 0 < d) : n / d * d ≤ n ∧ n < (n / d + 1) * d :=
  ⟨Int.ediv_mul_le n (by omega), Int.lt_ediv_add_one_mul_self n hd⟩
theorem Dyadic_At {a : Rt} {p : Rat} {j k : Nat} {c : W} (ha : a.At p) (hp : Sz p j) (hc : c.1 = k) (hk : k ≤ 256) (h : j + k ≤ 512) :
    ∃ F C : Int, Fl p k F ∧ Cl p k C ∧ F.natAbs < 2 ^ (j + k) ∧ C.natAbs < 2 ^ (j + k) ∧ (F_ratio_Dyadic a c).1.At (F / 2 ^ k) ∧ (F_ratio_Dyadic a c).2.At (C / 2 ^ k) := by
  have hd := @ne_den p
  have ia := At.is ha
  have n1 : (p.num * 2 ^ k).natAbs < 2 ^ (j + k) := by
    rw [Int.natAbs_mul, pow_abs, Nat.pow_add]
    exact Nat.mul_lt_mul_of_pos_right hp.n (Nat.pow_pos (by decide))
  have n1' : (-(p.num * 2 ^ k)).natAbs < 2 ^ (j + k) := by rw [Int.natAbs_neg]; exact n1
  have n2 : (p.num * 2 ^ k / (p.den : Int)).natAbs < 2 ^ (j + k) := Nat.lt_of_le_of_lt (Int.natAbs_ediv_le_natAbs _ _) n1
  have n3 : (-(p.num * 2 ^ k) / (p.den : Int)).natAbs < 2 ^ (j + k) := Nat.lt_of_le_of_lt (Int.natAbs_ediv_le_natAbs _ _) n1'
  have n4 : (-(-(p.num * 2 ^ k) / (p.den : Int))).natAbs < 2 ^ (j + k) := by rw [Int.natAbs_neg]; exact n3
  have b1 := B_pow n1 h
  have b2 := B_pow n2 h
  have b3 := B_pow n3 h
  have b4 := B_pow n4 h
  have b1' := B_pow n1' h
  have n5 : ((2 : Int) ^ k).natAbs < 2 ^ (k + 1) := by rw [pow_abs]; exact Nat.pow_lt_pow_right (by decide) (by omega)
  have b5 : B512 ((2 : Int) ^ k) := B_pow n5 (by omega)
  have t0 : (0 : Int) < 2 ^ k := Int.pow_pos (by decide)
  obtain ⟨f1, f2⟩ := div_at (n := p.num * 2 ^ k) hd
  obtain ⟨g1, g2⟩ := div_at (n := -(p.num * 2 ^ k)) hd
  have tn : (2 : Rat) ^ k ≠ 0 := Rat.ne_of_gt (two_pos k)
  have A1 := At_ratio (q := ((p.num * 2 ^ k / (p.den : Int) : Int) : Rat) / 2 ^ k) b2 b5 t0 (by rw [two_cast]; exact Rat.div_mul_cancel tn)
  have A2 := At_ratio (q := ((-(-(p.num * 2 ^ k) / (p.den : Int)) : Int) : Rat) / 2 ^ k) b4 b5 t0 (by rw [two_cast]; exact Rat.div_mul_cancel tn)
  refine ⟨p.num * 2 ^ k / (p.den : Int), -(-(p.num * 2 ^ k) / (p.den : Int)), ⟨cast_le f1, cast_lt f2⟩, ⟨cast_ge ?_, cast_gt ?_⟩, n2, n4, ?_⟩
  · rw [Int.neg_mul]; omega
  · rw [show -(-(p.num * 2 ^ k) / (p.den : Int)) - 1 = -(-(p.num * 2 ^ k) / (p.den : Int) + 1) by omega, Int.neg_mul]; omega
  · unfold F_ratio_Dyadic
    rw [Good_eq, At_good ha, hc, decide_eq_false (show ¬ ((k : Int) < 0) by omega), decide_eq_false (show ¬ (256 < (k : Int)) by omega), ia.en, ia.ed, one_r]
    simp only [E_dec, Bool.not_true, Bool.or_false, cond_false]
    rw [shl_of ia.hn, shl_of B1, Int.one_mul, neg_of b1, quo_of' b1 ia.hd hd, quo_of' b1' ia.hd hd, neg_of b3]
    simp only [Make_eq, Good_eq]
    rw [At_good A1, At_good A2]
    exact ⟨A1, A2⟩
theorem int_of_lt {x y : Int} (h : (x : Rat) < ((y + 1 : Int) : Rat)) : x ≤ y := by have := Rat.intCast_lt_intCast.1 h; omega
theorem Fl.mono {p q : Rat} {k : Nat} {F G : Int} (hF : Fl p k F) (hG : Fl q k G) (h : p ≤ q) : F ≤ G := by
  refine int_of_lt ?_
  have h1 := hF.le
  have h2 := hG.lt
  have h3 := Rat.mul_le_mul_of_nonneg_right h (Rat.le_of_lt (two_pos k))
  grind
theorem Cl.mono {p q : Rat} {k : Nat} {F G : Int} (hF : Cl p k F) (hG : Cl q k G) (h : p ≤ q) : F ≤ G := by
  have h1 := hF.lt
  have h2 := hG.le
  have h3 := Rat.mul_le_mul_of_nonneg_right h (Rat.le_of_lt (two_pos k))
  have : F - 1 < G := Rat.intCast_lt_intCast.1 (by grind)
  omega
theorem div_mono {x y : Int} {k : Nat} (h : x ≤ y) : (x : Rat) / 2 ^ k ≤ (y : Rat) / 2 ^ k := by
  rw [Rat.div_def, Rat.div_def]
  exact Rat.mul_le_mul_of_nonneg_right (Rat.intCast_le_intCast.2 h) (Rat.le_of_lt (Rat.inv_pos.2 (two_pos k)))
theorem Widen_iv {a : Iv} {p q : Rat} {j k : Nat} {c : W} (ha : a.Az p q j) (hc : c.1 = k) (hk : k ≤ 256) (h : j + k ≤ 512) :
    ∃ F C : Int, Fl p k F ∧ Cl q k C ∧ F.natAbs < 2 ^ (j + k) ∧ C.natAbs < 2 ^ (j + k) ∧ (F_interval_Widen a c).At (F / 2 ^ k) (C / 2 ^ k) := by
  obtain ⟨F, _, h1, _, h2, _, h3, _⟩ := Dyadic_At ha.at'.lo ha.sp hc hk h
  obtain ⟨_, C, _, g1, _, g2, _, g3⟩ := Dyadic_At ha.at'.hi ha.sq hc hk h
  refine ⟨F, C, h1, g1, h2, g2, ?_⟩
  unfold F_interval_Widen
  rw [right1, ha.at'.good]
  show (F_interval_Make _ _).At _ _
  rw [IMake_eq]
  refine Make_iv h3 g3 (div_mono (Rat.intCast_le_intCast.1 ?_))
  have a1 := h1.le
  have a2 := g1.le
  have a3 := Rat.mul_le_mul_of_nonneg_right ha.at'.le (Rat.le_of_lt (two_pos k))
  grind
theorem short_At {a : Iv} {k : W} (h : F_skewbacklaw05_short a k = true) : ∃ p q, a.Az p q k.1.toNat := by
  unfold F_skewbacklaw05_short at h
  simp only [Bool.and_eq_true, Bool.not_eq_true'] at h
  obtain ⟨g, h1, h2⟩ := h
  obtain ⟨p, q, ha⟩ := notBad_At g
  obtain ⟨p', hp, sp⟩ := few_At h1
  obtain ⟨q', hq, sq⟩ := few_At h2
  rw [← At_num ha.lo hp] at sp
  rw [← At_num ha.hi hq] at sq
  exact ⟨p, q, ha, sp, sq⟩
theorem in_true {a b : Iv} {p q r s : Rat} (ha : a.At p q) (hb : b.At r s) (h : r ≤ p) (h' : q ≤ s) : F_interval_Inside a b = true := by
  rw [inside_At ha hb]; exact decide_eq_true ⟨h, h'⟩
theorem has_true {a : Iv} {x : Rt} {p q u : Rat} (ha : a.At p q) (hx : x.At u) (h : p ≤ u ∧ u ≤ q) : F_interval_Has a x = true := by
  rw [has_At ha hx]; exact decide_eq_true h
theorem cv5 {e : Int} (h : 0 ≤ e ∧ e ≤ 255) (m : Nat) (hm : 0 < m) : (W.cv (e.tmod m)).1 = ((e.toNat % m : Nat) : Int) := by
  have h1 : e.tmod (m : Int) = ((e.toNat % m : Nat) : Int) := by
    rw [Int.tmod_eq_emod_of_nonneg h.1, Int.natCast_emod, Int.toNat_of_nonneg h.1]
  show IntKind.i64.wrap (e.tmod m) = _
  rw [h1]
  have := Nat.mod_le e.toNat m
  exact wi (by omega)
theorem four_in {p q r s p' q' r' s' : Rat} (hp : p ≤ p') (hx : p' ≤ q') (hq : q' ≤ q) (hr : r ≤ r') (hy : r' ≤ s') (hs : s' ≤ s) :
    mn4 (p * r) (p * s) (q * r) (q * s) ≤ mn4 (p' * r') (p' * s') (q' * r') (q' * s') ∧ mx4 (p' * r') (p' * s') (q' * r') (q' * s') ≤ mx4 (p * r) (p * s) (q * r) (q * s) := by
  have c1 := mul_in hp (Rat.le_trans hx hq) hr (Rat.le_trans hy hs)
  have c2 := mul_in hp (Rat.le_trans hx hq) (Rat.le_trans hr hy) hs
  have c3 := mul_in (Rat.le_trans hp hx) hq hr (Rat.le_trans hy hs)
  have c4 := mul_in (Rat.le_trans hp hx) hq (Rat.le_trans hr hy) hs
  constructor
  · rcases mn4_one (p' * r') (p' * s') (q' * r') (q' * s') with h | h | h | h <;> rw [h]
    · exact c1.1
    · exact c2.1
    · exact c3.1
    · exact c4.1
  · rcases mx4_one (p' * r') (p' * s') (q' * r') (q' * s') with h | h | h | h <;> rw [h]
    · exact c1.2
    · exact c2.2
    · exact c3.2
    · exact c4.2
theorem four_div {p q r s p' q' r' s' : Rat} (h0 : ¬ (r ≤ 0 ∧ 0 ≤ s)) (hp : p ≤ p') (hx : p' ≤ q') (hq : q' ≤ q) (hr : r ≤ r') (hy : r' ≤ s') (hs : s' ≤ s) :
    mn4 (p / r) (p / s) (q / r) (q / s) ≤ mn4 (p' / r') (p' / s') (q' / r') (q' / s') ∧ mx4 (p' / r') (p' / s') (q' / r') (q' / s') ≤ mx4 (p / r) (p / s) (q / r) (q / s) := by
  have c1 := div_in h0 hp (Rat.le_trans hx hq) hr (Rat.le_trans hy hs)
  have c2 := div_in h0 hp (Rat.le_trans hx hq) (Rat.le_trans hr hy) hs
  have c3 := div_in h0 (Rat.le_trans hp hx) hq hr (Rat.le_trans hy hs)
  have c4 := div_in h0 (Rat.le_trans hp hx) hq (Rat.le_trans hr hy) hs
  constructor
  · rcases mn4_one (p' / r') (p' / s') (q' / r') (q' / s') with h | h | h | h <;> rw [h]
    · exact c1.1
    · exact c2.1
    · exact c3.1
    · exact c4.1
  · rcases mx4_one (p' / r') (p' / s') (q' / r') (q' / s') with h | h | h | h <;> rw [h]
    · exact c1.2
    · exact c2.2
    · exact c3.2
    · exact c4.2
theorem IntervalIsMonotone_true (a b c d : Iv) (e : Int) (he : 0 ≤ e ∧ e ≤ 255) : F_skewbacklaw05_IntervalIsMonotone a b c d e = true := by
  unfold F_skewbacklaw05_IntervalIsMonotone
  rw [sanity05]
  cases sa : F_skewbacklaw05_short a (wl 40) with
  | false => rfl
  | true =>
  cases sb : F_skewbacklaw05_short b (wl 40) with
  | false => rfl
  | true =>
  cases sc : F_skewbacklaw05_short c (wl 40) with
  | false => rfl
  | true =>
  cases sd : F_skewbacklaw05_short d (wl 40) with
  | false => rfl
  | true =>
  obtain ⟨p, q, ha⟩ := short_At sa
  obtain ⟨r, s, hb⟩ := short_At sb
  obtain ⟨p1, q1, hc⟩ := short_At sc
  obtain ⟨r1, s1, hd⟩ := short_At sd
  simp only [Bool.not_true, Bool.or_false, cond_false]
  by_cases hm : p1 ≤ q ∧ p ≤ q1
  case neg => rw [meet_not ha.at' hc.at' hm]; rfl
  by_cases hn : r1 ≤ s ∧ r ≤ s1
  case neg => rw [meet_not hb.at' hd.at' hn, Bool.not_false, Bool.or_true]; rfl
  obtain ⟨m1, hx⟩ := meet_At ha.at' hc.at' hm
  obtain ⟨m2, hy⟩ := meet_At hb.at' hd.at' hn
  rw [m1, m2]
  generalize (F_interval_Meet a c).1 = x at *
  generalize (F_interval_Meet b d).1 = y at *
  have X : x.Az (mx p p1) (mn q q1) 40 := ⟨hx, ha.sp.mx hc.sp, ha.sq.mn hc.sq⟩
  have Y : y.Az (mx r r1) (mn s s1) 40 := ⟨hy, hb.sp.mx hd.sp, hb.sq.mn hd.sq⟩
  have l1 := mx_l p p1
  have l2 := mn_l q q1
  have l3 := mx_l r r1
  have l4 := mn_l s s1
  generalize mx p p1 = p' at *
  generalize mn q q1 = q' at *
  generalize mx r r1 = r' at *
  generalize mn s s1 = s' at *
  have lx := hx.le
  have ly := hy.le
  have hk := cv5 he 5 (by decide)
  have kl : e.toNat % 5 ≤ 4 := by omega
  generalize e.toNat % 5 = n at hk kl
  have hk' : (W.cv (e.tmod 5)).1 = (n : Int) := hk
  have k40 : ((wl 40).1.toNat) = 40 := rfl
  rw [k40] at ha hb
  have nk : 1 + n * 40 ≤ 512 := by omega
  have e1 := in_true (Add_iv X Y (by decide)) (Add_iv ha hb (by decide)) (by grind) (by grind)
  have e2 := in_true (Sub_iv X Y (by decide)) (Sub_iv ha hb (by decide)) (by grind) (by grind)
  have f3 := four_in l1 lx l2 l3 ly l4
  have e3 := in_true (Mul_iv X Y (by decide)) (Mul_iv ha hb (by decide)) f3.1 f3.2
  have e4 := in_true (Neg_iv hx) (Neg_iv ha.at') (by grind) (by grind)
  have f5 := ab_sub l1 lx l2
  have e5 := in_true (Abs_iv hx) (Abs_iv ha.at') f5.1 f5.2
  have f6 := pw_sub (n := n) l1 lx l2
  have e6 := in_true (Power_iv X (by decide) hk' (by omega) nk) (Power_iv ha (by decide) hk' (by omega) nk) f6.1 f6.2
  obtain ⟨F, C, w1, w2, _, _, w3⟩ := Widen_iv X hk' (by omega) (by omega)
  obtain ⟨G, D, v1, v2, _, _, v3⟩ := Widen_iv ha hk' (by omega) (by omega)
  have e7 := in_true w3 v3 (div_mono (v1.mono w1 l1)) (div_mono (w2.mono v2 l2))
  have e8 : (F_interval_IsBad (F_interval_Div a b) || F_interval_Inside (F_interval_Div x y) (F_interval_Div a b)) = true := by
    by_cases h0 : r ≤ 0 ∧ 0 ≤ s
    · rw [Div_bad hb.at' h0, IsBad_eq, bad_isBad]; rfl
    · have f8 := four_div h0 l1 lx l2 l3 ly l4
      rw [in_true (Div_iv X Y (by grind) (by decide)) (Div_iv ha hb h0 (by decide)) f8.1 f8.2, Bool.or_true]
  simp only [e1, e2, e3, e4, e5, e6, e7, e8]
  rfl
theorem clamp_At {a : Iv} {x : Rt} {p q u : Rat} {k : Nat} (ha : a.Az p q k) (hx : x.At u) (su : Sz u k) : ∃ v, (F_skewbacklaw05_clamp a x).At v ∧ Sz v k ∧ p ≤ v ∧ v ≤ q := by
  unfold F_skewbacklaw05_clamp
  refine ⟨mx p (mn q u), ?_, ha.sp.mx (ha.sq.mn su), mx_l _ _, ?_⟩
  · rw [Max_eq, Min_eq]
    exact max_At ha.at'.lo (min_At ha.at'.hi hx)
  · have := ha.at'.le
    unfold mx mn; grind
theorem inc_loop (a b : Iv) (c d : Rt) (e : Int) : ∀ (k : Nat) (i : W) (m : Rt), ((W.cv (e.tmod 5)).1 - i.1).toNat < k → (F_skewbacklaw05_IntervalIncludes_loop0 a b c d e k i m).2 = itMul (F_skewbacklaw05_clamp a c) ((W.cv (e.tmod 5)).1 - i.1).toNat m := by
  intro k
  induction k with
  | zero => intro i m h; omega
  | succ k ih =>
    intro i m h
    unfold F_skewbacklaw05_IntervalIncludes_loop0
    by_cases hc : i.1 < (W.cv (e.tmod 5)).1
    · rw [decide_eq_true hc, cond_true]
      dsimp only
      rw [ih _ _ (by rw [inc_1 hc]; omega), inc_1 hc, Mul_eq]
      have : ((W.cv (e.tmod 5)).1 - i.1).toNat = ((W.cv (e.tmod 5)).1 - (i.1 + 1)).toNat + 1 := by omega
      rw [this]; rfl
    · rw [decide_eq_false hc, cond_false]
      have : ((W.cv (e.tmod 5)).1 - i.1).toNat = 0 := by omega
      rw [this]; rfl
theorem RAbs_At {x : Rt} {u : Rat} (hx : x.At u) : (F_ratio_Abs x).At (ab u) := by
  unfold F_ratio_Abs ab
  rw [Sign_eq, Neg_eq, Neg_eq]
  have h : decide ((F_skewbackref04_Sign x).1 < 0) = decide (u < 0) := by
    have h1 := sign_ge hx
    have h2 : (¬ (0 ≤ (F_skewbackref04_Sign x).1)) ↔ ¬ (0 ≤ u) := not_congr (decide_eq_decide.1 h1)
    refine decide_eq_decide.2 ?_
    rw [← Int.not_le, h2, Rat.not_le]
  rw [h]
  by_cases h0 : u < 0
  · rw [decide_eq_true h0, if_pos h0]; exact Neg_At hx
  · rw [decide_eq_false h0, if_neg h0]
    have := Neg_At (Neg_At hx)
    rwa [Rat.neg_neg] at this
theorem IntervalIncludes_true (a b : Iv) (c d : Rt) (e : Int) (he : 0 ≤ e ∧ e ≤ 255) : F_skewbacklaw05_IntervalIncludes a b c d e = true := by
  unfold F_skewbacklaw05_IntervalIncludes
  rw [sanity05]
  cases sa : F_skewbacklaw05_short a (wl 60) with
  | false => rfl
  | true =>
  cases sb : F_skewbacklaw05_short b (wl 60) with
  | false => rfl
  | true =>
  cases sc : F_skewbacklaw05_few c (wl 60) with
  | false => rfl
  | true =>
  cases sd : F_skewbacklaw05_few d (wl 60) with
  | false => rfl
  | true =>
  obtain ⟨p, q, ha⟩ := short_At sa
  obtain ⟨r, s, hb⟩ := short_At sb
  obtain ⟨u0, hc, su0⟩ := few_At sc
  obtain ⟨v0, hd, sv0⟩ := few_At sd
  obtain ⟨u, hu, su, u1, u2⟩ := clamp_At ha hc su0
  obtain ⟨v, hv, sv, v1, v2⟩ := clamp_At hb hd sv0
  have k60 : ((wl 60).1.toNat) = 60 := rfl
  rw [k60] at ha hb su sv
  have hk := cv5 he 5 (by decide)
  have kl : e.toNat % 5 ≤ 4 := by omega
  generalize e.toNat % 5 = n at hk kl
  have hk' : (W.cv (e.tmod 5)).1 = (n : Int) := hk
  have nk : 1 + n * 60 ≤ 512 := by omega
  have hl := inc_loop a b c d e ((W.cv (e.tmod 5)).1.toNat + 1) (wl 0) (F_ratio_Of (wl 1)) (cnt_start _)
  have e0 : ((W.cv (e.tmod 5)).1 - (wl 0).1).toNat = n := by rw [hk']; show ((n : Int) - 0).toNat = n; omega
  rw [e0] at hl
  simp only [Bool.not_true, Bool.or_false, cond_false, ap]
  rw [hl]
  generalize F_skewbacklaw05_clamp a c = x at *
  generalize F_skewbacklaw05_clamp b d = y at *
  have e1 := has_true (Add_iv ha hb (by decide)) (x := F_ratio_Add x y) (by rw [Add_eq]; exact Add_At hu hv su sv (by decide)) (by grind)
  have e2 := has_true (Sub_iv ha hb (by decide)) (x := F_ratio_Sub x y) (by rw [Sub_eq]; exact Sub_At hu hv su sv (by decide)) (by grind)
  have e3 := has_true (Mul_iv ha hb (by decide)) (x := F_ratio_Mul x y) (by rw [Mul_eq]; exact Mul_sz hu hv su sv (by decide)) (mul_in u1 u2 v1 v2)
  have e4 := has_true (Neg_iv ha.at') (x := F_ratio_Neg x) (by rw [Neg_eq]; exact Neg_At hu) (by grind)
  have e5 := has_true (Abs_iv ha.at') (RAbs_At hu) (ab_in u1 u2)
  have pa := itMul_At hu su n _ 1 1 (Of_At (wl 1)) ⟨by decide, by decide⟩ nk
  rw [Rat.one_mul] at pa
  have e6 := has_true (Power_iv ha (by decide) hk' (by omega) nk) (x := itMul x n (F_ratio_Of (wl 1))) (by rw [Of_eq]; exact pa) (pw_in u1 u2)
  have e7 : (!F_interval_Has b (F_ratio_Of (wl 0)) && !F_interval_Has (F_interval_Div a b) (F_ratio_Div x y)) = false := by
    rw [has0 hb.at']
    by_cases h0 : r ≤ 0 ∧ 0 ≤ s
    · rw [decide_eq_true h0]; rfl
    · have v0 : v ≠ 0 := by grind
      rw [has_true (Div_iv ha hb h0 (by decide)) (x := F_ratio_Div x y) (by rw [Div_eq]; exact Div_At hu hv v0 su sv (by decide)) (div_in h0 u1 u2 v1 v2), Bool.not_true, Bool.and_false]
  simp only [e1, e2, e3, e4, e5, e6, e7]
  rfl
end Go.Num
