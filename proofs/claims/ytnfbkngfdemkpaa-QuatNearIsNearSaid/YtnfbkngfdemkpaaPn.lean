/- The statement about rounded rotations, of the plain functions that the program and the reference compute. No program stands in it. -/
import Derived.Test.YtnfbkngfdemkpaaPm

import Derived.KernelRfl
set_option linter.unusedVariables false
set_option linter.unusedSimpArgs false
namespace Go.Num
open Go Go.Kn
theorem sanity10 : F_skewbacklaw10_sanity = true := by kernel_rfl
theorem bound_of {a : A4 W} (h : F_skewbacklaw10_bound a = true) : a.x.1.natAbs ≤ 1099511627776 ∧ a.y.1.natAbs ≤ 1099511627776 ∧ a.z.1.natAbs ≤ 1099511627776 ∧ a.t.1.natAbs ≤ 1099511627776 := by
  have k : ∀ {x : Int} {b : Bool}, (bif (decide (1099511627776 < x) || decide (x < (-1099511627776))) then false else b) = true → x.natAbs ≤ 1099511627776 ∧ b = true := by
    intro x b h
    cases hc : (decide (1099511627776 < x) || decide (x < (-1099511627776)))
    · rw [hc, cond_false] at h
      simp only [Bool.or_eq_false_iff, decide_eq_false_iff_not] at hc
      exact ⟨by omega, h⟩
    · rw [hc, cond_true] at h; cases h
  unfold F_skewbacklaw10_bound F_skewbackref10_Bound at h
  rw [Bool.and_eq_true] at h
  obtain ⟨h1, h2⟩ := h
  have x := k h1
  have y := k x.2
  have z := k y.2
  have t := k h2
  exact ⟨x.1, y.1, z.1, t.1⟩
theorem mul_1 {a n : W} (ha : a.1.natAbs ≤ 1099511627776) (hn : n.1.natAbs ≤ 128) : (W.mul a n).1 = n.1 * a.1 := by
  show IntKind.i64.wrap (a.1 * n.1) = _
  have : (a.1 * n.1).natAbs ≤ 1099511627776 * 128 := by rw [Int.natAbs_mul]; exact Nat.mul_le_mul ha hn
  rw [wi (by omega), Int.mul_comm]
theorem fine_low {a : A4 W} {n : Nat} (h : a.i.Low n) (hn : n ≤ 9223372036854775808) : a.Fine := by
  obtain ⟨h1, h2, h3, h4⟩ := h
  have e1 : a.x.1.natAbs < n := h1
  have e2 : a.y.1.natAbs < n := h2
  have e3 : a.z.1.natAbs < n := h3
  have e4 : a.t.1.natAbs < n := h4
  exact ⟨by omega, by omega, by omega, by omega⟩
theorem smul_low {v : Z4} {c : Int} (h : v.x.natAbs ≤ 1099511627776 ∧ v.y.natAbs ≤ 1099511627776 ∧ v.z.natAbs ≤ 1099511627776 ∧ v.t.natAbs ≤ 1099511627776) (hc : c.natAbs ≤ 128) : (v.smul c).Low (2 ^ 52) := by
  have k : ∀ x : Int, x.natAbs ≤ 1099511627776 → (c * x).natAbs < 2 ^ 52 := fun x hx => by
    rw [Int.natAbs_mul]
    exact Nat.lt_of_le_of_lt (Nat.mul_le_mul hc hx) (by decide)
  exact ⟨k _ h.1, k _ h.2.1, k _ h.2.2.1, k _ h.2.2.2⟩
theorem great_near {a : A4 W} {n : W} (h : a.x.1.natAbs ≤ 1099511627776 ∧ a.y.1.natAbs ≤ 1099511627776 ∧ a.z.1.natAbs ≤ 1099511627776 ∧ a.t.1.natAbs ≤ 1099511627776) (hz : ¬ a.i.zero) (hn : n.1.natAbs ≤ 128) (h0 : n.1 ≠ 0) :
    (F_quat_Near (F_skewbacklaw10_great a n)).1.i = a.i.near.dir ∧ (F_quat_Near (F_skewbacklaw10_great a n)).2.1 = 0 := by
  have hz' : ¬ (a.i.smul n.1).zero := fun e => hz ((Z4.zero_smul h0).1 e)
  obtain ⟨r, hr, he⟩ := near_eq (smul_low (v := a.i) h hn) hz'
  have hg : F_skewbacklaw10_great a n = ⟨E (Z.of (a.i.smul n.1).x), E (Z.of (a.i.smul n.1).y), E (Z.of (a.i.smul n.1).z), E (Z.of (a.i.smul n.1).t)⟩ := by
    unfold F_skewbacklaw10_great
    rw [mul_1 h.1 hn, mul_1 h.2.1 hn, mul_1 h.2.2.1 hn, mul_1 h.2.2.2 hn]; rfl
  rw [hg, he]
  have hl := near_le hz'
  have hnz := near_zero hz'
  rw [← hr] at hl hnz
  have hd := qdir (fine_low hl (by decide)) hnz
  refine ⟨?_, rfl⟩
  show (F_quat_direction r).1.i = _
  have hs : n.1.sign ≠ 0 := fun e => h0 (Int.sign_eq_zero_iff_zero.1 e)
  rw [hd.1, hr, near_smul h0 hz, Z4.dir_smul hs (near_zero hz)]
theorem low_of {q : A4 W} (h : q.i.Low 65) : F_skewbackref10_low q = true := by
  have k : ∀ {x : Int} {b : Bool}, x.natAbs < 65 → (bif (decide (64 < x) || decide (x < (-64))) then false else b) = b := by
    intro x b hx
    rw [decide_eq_false (by omega), decide_eq_false (by omega)]; rfl
  unfold F_skewbackref10_low
  obtain ⟨h1, h2, h3, h4⟩ := h
  rw [k (show q.x.1.natAbs < 65 from h1), k (show q.y.1.natAbs < 65 from h2), k (show q.z.1.natAbs < 65 from h3), k (show q.t.1.natAbs < 65 from h4)]
theorem qlow_of {q : A4 W} (h : q.i.Low 65) : F_quat_low q = true := by
  have k : ∀ {x : W} {b : Bool}, x.1.natAbs < 65 → (bif (decide (64 < (W.max x (W.neg x)).1) || ((x.1 == (W.neg x).1) && (x.1 != 0))) then false else b) = b := by
    intro x b hx
    rw [W.abs_1 (by omega), neg_1 (by omega), decide_eq_false (by omega)]
    by_cases h0 : x.1 = 0
    · rw [h0]; rfl
    · rw [show (x.1 == -x.1) = false by simp; omega]; rfl
  unfold F_quat_low
  obtain ⟨h1, h2, h3, h4⟩ := h
  rw [k h1, k h2, k h3, k h4]
theorem valid_of {q : A4 W} (hz : ¬ q.i.zero) (h : q.i.dir = q.i) (hl : q.i.Low 65) : F_skewbackref10_Valid q = true := by
  have hd := rdir (fine_low hl (by decide)) hz
  rw [h] at hd
  have e := A4.i_inj hd.1
  unfold F_skewbackref10_Valid
  rw [low_of hl, cond_true, e, hd.2]; simp
theorem loop_true {a : A4 W} {b : Int} {r8 : A4 I} {q : A4 W} {r11 : A4 I} {r12 : A4 W} {r22 : A4 I} {r23 : A4 W} {s : W} (hs : s.1 ≤ 64) (h0 : s.1 ≠ 0)
    (hw : F_skewbacklaw10_within a q (W.max (W.max (W.max (W.max (W.max (W.max (W.max (W.max (wl 0) a.x) (W.neg a.x)) a.y) (W.neg a.y)) a.z) (W.neg a.z)) a.t) (W.neg a.t)) s = true) :
    ∀ (k : Nat) (u : W), u.1 ≤ s.1 → (s.1 - u.1).toNat < k → F_skewbacklaw10_QuatNearIsNear_loop0 a b r8 q r11 r12 r22 r23 k u = .inr true
  | 0, u, _, h => absurd h (Nat.not_lt_zero _)
  | k + 1, u, hu, h => by
    rw [F_skewbacklaw10_QuatNearIsNear_loop0, decide_eq_true (show u.1 ≤ 64 by omega), cond_true]
    by_cases e : u.1 = s.1
    · have e' : u = s := Subtype.ext e
      subst e'
      rw [hw, show (u.1 != 0) = true by simp [h0], sanity10]; rfl
    · cases hc : ((u.1 != 0) && (F_skewbacklaw10_within a q (W.max (W.max (W.max (W.max (W.max (W.max (W.max (W.max (wl 0) a.x) (W.neg a.x)) a.y) (W.neg a.y)) a.z) (W.neg a.z)) a.t) (W.neg a.t)) u))
      · rw [cond_false]
        have h2 := u.2
        unfold I64 at h2
        have e1 : (W.add u (wl 1)).1 = u.1 + 1 := wi (by show -9223372036854775808 ≤ u.1 + 1 ∧ u.1 + 1 ≤ _; omega)
        exact loop_true hs h0 hw k (W.add u (wl 1)) (by omega) (by omega)
      · rw [cond_true, sanity10]
end Go.Num
namespace Go.Num
open Go Go.Kn
theorem chain_mx {a : A4 W} (h : a.x.1.natAbs ≤ 1099511627776 ∧ a.y.1.natAbs ≤ 1099511627776 ∧ a.z.1.natAbs ≤ 1099511627776 ∧ a.t.1.natAbs ≤ 1099511627776) :
    (W.max (W.max (W.max (W.max (W.max (W.max (W.max (W.max (wl 0) a.x) (W.neg a.x)) a.y) (W.neg a.y)) a.z) (W.neg a.z)) a.t) (W.neg a.t)).1 = (a.i.mx : Nat) := by
  have m : ∀ u v : W, (W.max u v).1 = max u.1 v.1 := fun u v => by
    unfold W.max
    by_cases h : u.1 < v.1
    · rw [decide_eq_true h, cond_true]; omega
    · rw [decide_eq_false h, cond_false]; omega
  simp only [m, neg_1 (show a.x.1 ≠ -9223372036854775808 by omega), neg_1 (show a.y.1 ≠ -9223372036854775808 by omega), neg_1 (show a.z.1 ≠ -9223372036854775808 by omega), neg_1 (show a.t.1 ≠ -9223372036854775808 by omega)]
  show _ = ((max (max (max (max 0 a.x.1.natAbs) a.y.1.natAbs) a.z.1.natAbs) a.t.1.natAbs : Nat) : Int)
  show max (max (max (max (max (max (max (max (((0 : Nat)) : Int) a.x.1) (-a.x.1)) a.y.1) (-a.y.1)) a.z.1) (-a.z.1)) a.t.1) (-a.t.1) = _
  have k : ∀ (A : Nat) (x : Int), max (max (A : Int) x) (-x) = ((max A x.natAbs : Nat) : Int) := fun A x => by omega
  rw [k, k, k, k]
/-- One component of 'within'. -/
theorem within1 {x q d m : W} {M : Nat} (hx : x.1.natAbs ≤ 1099511627776) (hq : q.1.natAbs ≤ 64) (hd : d.1.natAbs ≤ 64) (hm : m.1 = (M : Nat)) (hM : M ≤ 1099511627776) (h1 : 2 * (x.1 * 64 - q.1 * d.1 * M) ≤ M) (h2 : -(M : Int) ≤ 2 * (x.1 * 64 - q.1 * d.1 * M)) :
    decide (m.1 < (W.mul (wl 2) (W.max (W.sub (W.mul x (wl 64)) (W.mul (W.mul q d) m)) (W.neg (W.sub (W.mul x (wl 64)) (W.mul (W.mul q d) m))))).1) = false := by
  have e1 : (W.mul x (wl 64)).1 = x.1 * 64 := wi (by show -9223372036854775808 ≤ x.1 * 64 ∧ x.1 * 64 ≤ _; omega)
  have b2 : (q.1 * d.1).natAbs ≤ 4096 := by rw [Int.natAbs_mul]; exact Nat.mul_le_mul hq hd
  have e2 : (W.mul q d).1 = q.1 * d.1 := wi (by omega)
  have b3 : (q.1 * d.1 * (M : Int)).natAbs ≤ 4096 * 1099511627776 := by rw [Int.natAbs_mul, Int.natAbs_natCast]; exact Nat.mul_le_mul b2 hM
  have e3 : (W.mul (W.mul q d) m).1 = q.1 * d.1 * (M : Int) := by
    show IntKind.i64.wrap ((W.mul q d).1 * m.1) = _
    rw [e2, hm]; exact wi (by omega)
  have e4 : (W.sub (W.mul x (wl 64)) (W.mul (W.mul q d) m)).1 = x.1 * 64 - q.1 * d.1 * (M : Int) := by
    show IntKind.i64.wrap ((W.mul x (wl 64)).1 - (W.mul (W.mul q d) m).1) = _
    rw [e1, e3]; exact wi (by omega)
  have e5 : (W.max (W.sub (W.mul x (wl 64)) (W.mul (W.mul q d) m)) (W.neg (W.sub (W.mul x (wl 64)) (W.mul (W.mul q d) m)))).1 = ((x.1 * 64 - q.1 * d.1 * (M : Int)).natAbs : Nat) := by
    rw [W.abs_1 (by rw [e4]; omega), e4]
  refine decide_eq_false ?_
  show ¬ m.1 < IntKind.i64.wrap (2 * _)
  rw [e5, hm, wi (by omega)]; omega
theorem loop_or {a : A4 W} {b : Int} {r8 : A4 I} {q : A4 W} {r11 : A4 I} {r12 : A4 W} {r22 : A4 I} {r23 : A4 W} : ∀ (k : Nat) (u : W), (∃ u', F_skewbacklaw10_QuatNearIsNear_loop0 a b r8 q r11 r12 r22 r23 k u = .inl u') ∨ F_skewbacklaw10_QuatNearIsNear_loop0 a b r8 q r11 r12 r22 r23 k u = .inr true
  | 0, u => .inl ⟨u, by rw [F_skewbacklaw10_QuatNearIsNear_loop0]⟩
  | k + 1, u => by
    rw [F_skewbacklaw10_QuatNearIsNear_loop0]
    cases decide (u.1 ≤ 64)
    · exact .inl ⟨u, rfl⟩
    · rw [cond_true]
      cases ((u.1 != 0) && (F_skewbacklaw10_within a q (W.max (W.max (W.max (W.max (W.max (W.max (W.max (W.max (wl 0) a.x) (W.neg a.x)) a.y) (W.neg a.y)) a.z) (W.neg a.z)) a.t) (W.neg a.t)) u))
      · rw [cond_false]; exact loop_or k _
      · rw [cond_true, sanity10]; exact .inr rfl
theorem m_low {v : Z4} (hz : ¬ v.zero) (h : v.Low 65) : v.m.natAbs ≤ 64 := by
  rw [Z4.m_abs hz]
  obtain ⟨h1, h2, h3, h4⟩ := h
  obtain ⟨d1, d2, d3, d4⟩ := v.g_dvd
  have k : ∀ x : Int, ((v.g : Nat) : Int) ∣ x → x ≠ 0 → x.natAbs < 65 → v.g ≤ 64 := fun x hd hx hl => by
    have := Nat.le_of_dvd (by omega) (Int.ofNat_dvd_left.1 hd); omega
  by_cases x0 : v.x = 0
  · by_cases y0 : v.y = 0
    · by_cases z0 : v.z = 0
      · by_cases t0 : v.t = 0
        · exact absurd ⟨x0, y0, z0, t0⟩ hz
        · exact k _ d4 t0 h4
      · exact k _ d3 z0 h3
    · exact k _ d2 y0 h2
  · exact k _ d1 x0 h1
theorem QuatNear_true (a : A4 W) (b : Int) (hb : -128 ≤ b ∧ b ≤ 127) : F_skewbacklaw10_QuatNearIsNear a b = true := by
  unfold F_skewbacklaw10_QuatNearIsNear
  cases hc : (!(F_skewbacklaw10_bound a) || ((decide (a.x.1 = 0) && (decide (a.y.1 = 0) && (decide (a.z.1 = 0) && decide (a.t.1 = 0)))) || (b == 0)))
  · rw [cond_false]
    simp only [Bool.or_eq_false_iff, Bool.not_eq_false', beq_eq_false_iff_ne] at hc
    obtain ⟨h1, h2, h3⟩ := hc
    have hB := bound_of h1
    have hz : ¬ a.i.zero := by
      rintro ⟨x0, y0, z0, t0⟩
      have x0 : a.x.1 = 0 := x0
      have y0 : a.y.1 = 0 := y0
      have z0 : a.z.1 = 0 := z0
      have t0 : a.t.1 = 0 := t0
      simp [x0, y0, z0, t0] at h2
    have hcv : (W.cv b).1 = b := wi (by omega)
    have g1 := great_near (n := wl 1) hB hz (by decide) (by decide)
    have g2 := great_near (n := W.cv b) hB hz (by rw [hcv]; omega) (by rw [hcv]; exact h3)
    have hnz := near_zero hz
    have hnl := near_le hz
    have hdz := Z4.dir_zero hnz
    have hdl := dir_le hnz hnl
    have hdd := Z4.dir_dir hnz
    have er : (F_quat_Near (F_skewbacklaw10_great a (W.cv b))).1 = (F_quat_Near (F_skewbacklaw10_great a (wl 1))).1 := A4.i_inj (g2.1.trans g1.1.symm)
    dsimp only
    rw [er, g1.2, g2.2]
    generalize hq : (F_quat_Near (F_skewbacklaw10_great a (wl 1))).1 = q at *
    have qi : q.i = a.i.near.dir := g1.1
    rw [← qi] at hdz hdl hdd
    have hv := valid_of hdz hdd hdl
    rw [hv]
    have hqb : q.x.1.natAbs ≤ 1099511627776 ∧ q.y.1.natAbs ≤ 1099511627776 ∧ q.z.1.natAbs ≤ 1099511627776 ∧ q.t.1.natAbs ≤ 1099511627776 := by
      obtain ⟨k1, k2, k3, k4⟩ := hdl
      have k1 : q.x.1.natAbs < 65 := k1
      have k2 : q.y.1.natAbs < 65 := k2
      have k3 : q.z.1.natAbs < 65 := k3
      have k4 : q.t.1.natAbs < 65 := k4
      omega
    have g3 := great_near (n := wl 1) hqb hdz (by decide) (by decide)
    rw [near_self hdz hdd hdl, hdd] at g3
    have e3 : (F_quat_Near (F_skewbacklaw10_great q (wl 1))).1 = q := A4.i_inj g3.1
    rw [e3, g3.2]
    simp only [decide_true, Bool.and_self, Bool.not_true, Bool.or_self, bne_self_eq_false, cond_false]
    by_cases hc : 64 < ((a.i.mx : Nat) : Int) / (a.i.g : Nat)
    · have hm := m_low hnz hnl
      have hm0 := Z4.m_ne hnz
      obtain ⟨s, hs⟩ : ∃ s : W, s.1 = a.i.near.m := ⟨⟨a.i.near.m, by unfold I64; omega⟩, rfl⟩
      have hsd := Z4.smul_dir hnz
      rw [← qi] at hsd
      obtain ⟨d1, d2, d3, d4⟩ := a.i.g_dvd
      obtain ⟨k1, k2, k3, k4⟩ := hdl
      have k1 : q.x.1.natAbs < 65 := k1
      have k2 : q.y.1.natAbs < 65 := k2
      have k3 : q.z.1.natAbs < 65 := k3
      have k4 : q.t.1.natAbs < 65 := k4
      have hM : a.i.mx ≤ 1099511627776 := by
        show max (max (max (max 0 a.x.1.natAbs) a.y.1.natAbs) a.z.1.natAbs) a.t.1.natAbs ≤ _; omega
      have cm := chain_mx hB
      have w1 : q.x.1 * s.1 = near1 a.i a.x.1 := by rw [hs, Int.mul_comm]; exact congrArg Z4.x hsd
      have w2 : q.y.1 * s.1 = near1 a.i a.y.1 := by rw [hs, Int.mul_comm]; exact congrArg Z4.y hsd
      have w3 : q.z.1 * s.1 = near1 a.i a.z.1 := by rw [hs, Int.mul_comm]; exact congrArg Z4.z hsd
      have w4 : q.t.1 * s.1 = near1 a.i a.t.1 := by rw [hs, Int.mul_comm]; exact congrArg Z4.t hsd
      have e1 := near1_err hz d1 hc
      have e2 := near1_err hz d2 hc
      have e3' := near1_err hz d3 hc
      have e4 := near1_err hz d4 hc
      have hw : F_skewbacklaw10_within a q (W.max (W.max (W.max (W.max (W.max (W.max (W.max (W.max (wl 0) a.x) (W.neg a.x)) a.y) (W.neg a.y)) a.z) (W.neg a.z)) a.t) (W.neg a.t)) s = true := by
        unfold F_skewbacklaw10_within
        rw [within1 hB.1 (by omega) (by omega) cm hM (by rw [w1]; exact e1.1) (by rw [w1]; exact e1.2), cond_false,
          within1 hB.2.1 (by omega) (by omega) cm hM (by rw [w2]; exact e2.1) (by rw [w2]; exact e2.2), cond_false,
          within1 hB.2.2.1 (by omega) (by omega) cm hM (by rw [w3]; exact e3'.1) (by rw [w3]; exact e3'.2), cond_false,
          within1 hB.2.2.2 (by omega) (by omega) cm hM (by rw [w4]; exact e4.1) (by rw [w4]; exact e4.2), cond_false]
      rw [loop_true (by omega) (by omega) hw 130 (wl (-64)) (by show (-64 : Int) ≤ _; omega) (by show (s.1 - (-64)).toNat < 130; omega)]
      rfl
    · have hg : 0 < a.i.g := Nat.pos_of_ne_zero fun e => hz (Z4.g_zero.1 e)
      have hsm : a.i.near.smul (a.i.g : Nat) = a.i := by
        obtain ⟨d1, d2, d3, d4⟩ := a.i.g_dvd
        have k : ∀ x : Int, ((a.i.g : Nat) : Int) ∣ x → (a.i.g : Nat) * near1 a.i x = x := fun x hd => by
          unfold near1; rw [if_neg hc]; exact Int.mul_ediv_cancel' hd
        exact Z4.ext (k _ d1) (k _ d2) (k _ d3) (k _ d4)
      have hda : a.i.dir = q.i := by
        have := Z4.dir_smul (c := (a.i.g : Nat)) (by omega) hnz
        rw [hsm] at this; rw [this, qi]
      have hfa : a.Fine := ⟨by omega, by omega, by omega, by omega⟩
      have hd := qdir hfa hz
      rw [hda] at hd
      have ed := A4.i_inj hd.1
      have hp : F_quat_Primitive a = (q, wl 0) := by
        unfold F_quat_Primitive
        rw [hd.2, ed]
        show (bif true then (bif F_quat_low q then (q, wl 0) else _) else _) = _
        rw [cond_true, qlow_of hdl]; rfl
      rcases loop_or (a := a) (b := b) (r8 := F_skewbacklaw10_great a (wl 1)) (q := q) (r11 := F_skewbacklaw10_great a (W.cv b)) (r12 := q) (r22 := F_skewbacklaw10_great q (wl 1)) (r23 := q) 130 (wl (-64)) with ⟨u, e⟩ | e
      · rw [e, hp, sanity10]
        simp [sm]
      · rw [e]; rfl
  · rw [cond_true]; exact sanity10
end Go.Num
