/- Intervals: products, quotients, powers, hulls, what is in two of them. No program stands in it. -/
import Derived.Test.YtnfbkngfdemkpaaGreatDoorPu

import Derived.KernelRfl
set_option linter.unusedVariables false
set_option linter.unusedSimpArgs false
namespace Go.Num
open Go Go.Kn
/-- The number that a fraction is. -/
def Rt.At (a : Rt) (q : Rat) : Prop := a.Is q.num (q.den : Int)
theorem Is_At {a : Rt} {n d : Int} (h : a.Is n d) : ∃ q : Rat, a.At q ∧ q.num = n ∧ (q.den : Int) = d := by
  have hd : (d.toNat : Int) = d := Int.toNat_of_nonneg (Int.le_of_lt h.pos)
  have hc : n.natAbs.Coprime d.toNat := by
    have := h.cop
    unfold Int.gcd at this
    rw [show d.natAbs = d.toNat by omega] at this
    exact this
  refine ⟨⟨n, d.toNat, by have := h.pos; omega, hc⟩, ?_, rfl, hd⟩
  show a.Is n (d.toNat : Int)
  rw [hd]; exact h
theorem good_At {a : Rt} (h : F_skewbackref04_Good a = true) : ∃ q, a.At q := by
  obtain ⟨n, d, h1⟩ := Is_of h
  obtain ⟨q, h2, _⟩ := Is_At h1
  exact ⟨q, h2⟩
theorem At_good {a : Rt} {q : Rat} (h : a.At q) : F_skewbackref04_Good a = true := Good_is h
theorem At_inj {a b : Rt} {q : Rat} (ha : a.At q) (hb : b.At q) : a = b := Rt.ext (ha.en.trans hb.en.symm) (ha.ed.trans hb.ed.symm)
theorem At_num {a : Rt} {p q : Rat} (ha : a.At p) (hb : a.At q) : p = q := by
  have h1 := of_inj ha.hn hb.hn (E_inj (ha.en.symm.trans hb.en))
  have h2 := of_inj ha.hd hb.hd (E_inj (ha.ed.symm.trans hb.ed))
  exact Rat.ext h1 (by omega)
theorem Cmp_At {a b : Rt} {p q : Rat} (ha : a.At p) (hb : b.At q) : (F_ratio_Cmp a b).1 = (p.num * q.den - q.num * p.den).sign := Cmp_is ha hb
theorem Cmp_lt {a b : Rt} {p q : Rat} (ha : a.At p) (hb : b.At q) : (F_ratio_Cmp a b).1 < 0 ↔ p < q := by
  rw [Cmp_At ha hb, sign_lt0, Rat.lt_iff]; omega
theorem Cmp_gt {a b : Rt} {p q : Rat} (ha : a.At p) (hb : b.At q) : 0 < (F_ratio_Cmp a b).1 ↔ q < p := by
  rw [Cmp_At ha hb, sign_gt0, Rat.lt_iff]; omega
theorem Cmp_le {a b : Rt} {p q : Rat} (ha : a.At p) (hb : b.At q) : (F_ratio_Cmp a b).1 ≤ 0 ↔ p ≤ q := by
  rw [Cmp_At ha hb, sign_le0, Rat.le_iff]; omega
theorem Min_a {a b : Rt} {p q : Rat} (ha : a.At p) (hb : b.At q) (h : p ≤ q) : F_skewbackref04_Min a b = a := by
  unfold F_skewbackref04_Min
  rw [At_good ha, At_good hb, ← Cmp_eq5, decide_eq_true ((Cmp_le ha hb).2 h)]; rfl
theorem Min_b {a b : Rt} {p q : Rat} (ha : a.At p) (hb : b.At q) (h : q ≤ p) : F_skewbackref04_Min a b = b := by
  by_cases h1 : p ≤ q
  · have : p = q := Rat.le_antisymm h1 h
    subst this
    rw [Min_a ha hb h1]; exact At_inj ha hb
  · unfold F_skewbackref04_Min
    rw [At_good ha, At_good hb, ← Cmp_eq5, decide_eq_false (fun h2 => h1 ((Cmp_le ha hb).1 h2))]; rfl
theorem Max_b {a b : Rt} {p q : Rat} (ha : a.At p) (hb : b.At q) (h : p ≤ q) : F_skewbackref04_Max a b = b := by
  rw [← Max_eq]
  unfold F_ratio_Max
  rw [Good_eq, Good_eq, At_good ha, At_good hb]
  by_cases h1 : p < q
  · rw [decide_eq_true ((Cmp_lt ha hb).2 h1)]; rfl
  · have : p = q := Rat.le_antisymm h (Rat.not_lt.1 h1)
    subst this
    rw [decide_eq_false (fun h2 => h1 ((Cmp_lt ha hb).1 h2))]; exact At_inj ha hb
theorem Max_a {a b : Rt} {p q : Rat} (ha : a.At p) (hb : b.At q) (h : q ≤ p) : F_skewbackref04_Max a b = a := by
  rw [← Max_eq]
  unfold F_ratio_Max
  rw [Good_eq, Good_eq, At_good ha, At_good hb, decide_eq_false (fun h2 => Rat.not_lt.2 h ((Cmp_lt ha hb).1 h2))]; rfl
/-- An interval from p to q. -/
structure Iv.At (a : Iv) (p q : Rat) : Prop where
  lo : a.lo.At p
  hi : a.hi.At q
  le : p ≤ q
theorem isBad_At {a : Iv} {p q : Rat} (h1 : a.lo.At p) (h2 : a.hi.At q) : F_skewbackref05_IsBad a = decide (q < p) := by
  unfold F_skewbackref05_IsBad
  rw [At_good h1, At_good h2, ← Cmp_eq5]
  simp only [Bool.not_true, Bool.or_false, cond_false]
  congr 1
  exact propext (Cmp_gt h1 h2)
theorem Iv.At.good {a : Iv} {p q : Rat} (h : a.At p q) : F_skewbackref05_IsBad a = false := by
  rw [isBad_At h.lo h.hi]; exact decide_eq_false (Rat.not_lt.2 h.le)
theorem notBad_At {a : Iv} (h : F_skewbackref05_IsBad a = false) : ∃ p q, a.At p q := by
  have h0 := h
  unfold F_skewbackref05_IsBad at h
  cases g1 : F_skewbackref04_Good a.lo with
  | false => rw [g1] at h; cases h
  | true =>
    cases g2 : F_skewbackref04_Good a.hi with
    | false => rw [g1, g2] at h; cases h
    | true =>
      obtain ⟨p, h1⟩ := good_At g1
      obtain ⟨q, h2⟩ := good_At g2
      rw [isBad_At h1 h2] at h0
      exact ⟨p, q, h1, h2, Rat.not_lt.1 (of_decide_eq_false h0)⟩
theorem make_At {a b : Rt} {p q : Rat} (ha : a.At p) (hb : b.At q) (h : p ≤ q) : F_skewbackref05_Make a b = ⟨a, b⟩ := by
  have h1 : Iv.At ⟨a, b⟩ p q := ⟨ha, hb, h⟩
  exact make_self (a := ⟨a, b⟩) h1.good
theorem make_not {a b : Rt} {p q : Rat} (ha : a.At p) (hb : b.At q) (h : q < p) : F_skewbackref05_Make a b = F_skewbackref05_Bad := by
  unfold F_skewbackref05_Make
  rw [isBad_At (a := ⟨a, b⟩) ha hb, decide_eq_true h]; rfl
theorem make_bad {a b : Rt} (h : F_skewbackref04_Good a = false ∨ F_skewbackref04_Good b = false) : F_skewbackref05_Make a b = F_skewbackref05_Bad := by
  have : F_skewbackref05_IsBad ⟨a, b⟩ = true := by
    unfold F_skewbackref05_IsBad
    rcases h with h | h <;> rw [h] <;> cases F_skewbackref04_Good a <;> rfl
  unfold F_skewbackref05_Make
  rw [this]; rfl
/-! two intervals' hull -/
theorem hull2 (a b : Iv) : F_interval_Hull [a, b] = bif (F_skewbackref05_IsBad a || F_skewbackref05_IsBad b) then F_skewbackref05_Bad else ⟨F_skewbackref04_Min a.lo b.lo, F_skewbackref04_Max a.hi b.hi⟩ := by
  unfold F_interval_Hull
  rw [right2]
  have h : ((([a, b].length : Nat) : Int) == 0) = false := rfl
  rw [h]
  cases F_skewbackref05_IsBad a <;> cases F_skewbackref05_IsBad b <;> first | rfl | skip
  show (⟨F_ratio_Min a.lo b.lo, F_ratio_Max a.hi b.hi⟩ : Iv) = _
  rw [Min_eq, Max_eq]; rfl
theorem hull_At {a b : Iv} {p q r s : Rat} (ha : a.At p q) (hb : b.At r s) : ∃ u v, Iv.At ⟨F_skewbackref04_Min a.lo b.lo, F_skewbackref04_Max a.hi b.hi⟩ u v ∧ u ≤ p ∧ u ≤ r ∧ q ≤ v ∧ s ≤ v ∧ (u = p ∨ u = r) ∧ (v = q ∨ v = s) := by
  have h1 := ha.le
  have h2 := hb.le
  rcases Rat.le_total (a := p) (b := r) with h | h <;> rcases Rat.le_total (a := q) (b := s) with k | k
  · exact ⟨p, s, ⟨by rw [Min_a ha.lo hb.lo h]; exact ha.lo, by rw [Max_b ha.hi hb.hi k]; exact hb.hi, by grind⟩, by grind, h, k, by grind, .inl rfl, .inr rfl⟩
  · exact ⟨p, q, ⟨by rw [Min_a ha.lo hb.lo h]; exact ha.lo, by rw [Max_a ha.hi hb.hi k]; exact ha.hi, h1⟩, by grind, h, by grind, k, .inl rfl, .inl rfl⟩
  · exact ⟨r, s, ⟨by rw [Min_b ha.lo hb.lo h]; exact hb.lo, by rw [Max_b ha.hi hb.hi k]; exact hb.hi, h2⟩, h, by grind, k, by grind, .inr rfl, .inr rfl⟩
  · exact ⟨r, q, ⟨by rw [Min_b ha.lo hb.lo h]; exact hb.lo, by rw [Max_a ha.hi hb.hi k]; exact ha.hi, by grind⟩, h, by grind, by grind, k, .inr rfl, .inl rfl⟩
theorem of_At {x : Rt} {p : Rat} (h : x.At p) : F_skewbackref05_Make x x = ⟨x, x⟩ := make_At h h (Rat.le_refl)
theorem hull_bad1 (x : Iv) : F_interval_Hull [F_skewbackref05_Bad, x] = F_skewbackref05_Bad := by rw [hull2, bad_isBad]; rfl
theorem hull_bad2 (x : Iv) : F_interval_Hull [x, F_skewbackref05_Bad] = F_skewbackref05_Bad := by rw [hull2, bad_isBad, Bool.or_true]; rfl
theorem hull_of {a : Iv} {p q r : Rat} {x : Rt} (ha : a.At p q) (hx : x.At r) : F_interval_Hull [a, F_interval_Of x] = ⟨F_skewbackref04_Min a.lo x, F_skewbackref04_Max a.hi x⟩ := by
  rw [IOf_eq, of_At hx, hull2, ha.good]
  have : F_skewbackref05_IsBad ⟨x, x⟩ = false := Iv.At.good (p := r) (q := r) ⟨hx, hx, Rat.le_refl⟩
  rw [this]; rfl
theorem hull_next {a : Iv} {p q r : Rat} {x : Rt} (ha : a.At p q) (hx : x.At r) : ∃ u v, Iv.At ⟨F_skewbackref04_Min a.lo x, F_skewbackref04_Max a.hi x⟩ u v := by
  obtain ⟨u, v, h, _⟩ := hull_At ha (b := ⟨x, x⟩) (r := r) (s := r) ⟨hx, hx, Rat.le_refl⟩
  exact ⟨u, v, h⟩
theorem around_eq (x1 x2 x3 x4 : Rt) : F_interval_Hull [F_interval_Hull [F_interval_Hull [F_interval_Hull [F_interval_Of x1, F_interval_Of x1], F_interval_Of x2], F_interval_Of x3], F_interval_Of x4] = F_skewbackref05_around [x1, x2, x3, x4] := by
  have bad : ∀ {x : Rt}, F_skewbackref04_Good x = false → F_interval_Of x = F_skewbackref05_Bad := fun h => by rw [IOf_eq, make_bad (.inl h)]
  unfold F_skewbackref05_around
  rw [show ([x1, x2, x3, x4].getD 0 Rt0) = x1 from rfl]
  unfold F_skewbackref05_around_loop0
  cases g1 : F_skewbackref04_Good x1 with
  | false => rw [bad g1, hull_bad1, hull_bad1, hull_bad1, hull_bad1]; rfl
  | true =>
  obtain ⟨r1, h1⟩ := good_At g1
  have a1 : Iv.At (F_interval_Of x1) r1 r1 := by rw [IOf_eq, of_At h1]; exact ⟨h1, h1, Rat.le_refl⟩
  have e1 : F_interval_Of x1 = ⟨x1, x1⟩ := by rw [IOf_eq, of_At h1]
  have o1 := hull_of a1 h1
  obtain ⟨u1, v1, A1⟩ := hull_next a1 h1
  rw [o1]
  rw [e1] at A1 ⊢
  simp only [cond_true]
  unfold F_skewbackref05_around_loop0
  cases g2 : F_skewbackref04_Good x2 with
  | false => rw [bad g2, hull_bad2, hull_bad1, hull_bad1]; rfl
  | true =>
  obtain ⟨r2, h2⟩ := good_At g2
  rw [hull_of A1 h2]
  obtain ⟨u2, v2, A2⟩ := hull_next A1 h2
  simp only [cond_true]
  unfold F_skewbackref05_around_loop0
  cases g3 : F_skewbackref04_Good x3 with
  | false => rw [bad g3, hull_bad2, hull_bad1]; rfl
  | true =>
  obtain ⟨r3, h3⟩ := good_At g3
  rw [hull_of A2 h3]
  obtain ⟨u3, v3, A3⟩ := hull_next A2 h3
  simp only [cond_true]
  unfold F_skewbackref05_around_loop0
  cases g4 : F_skewbackref04_Good x4 with
  | false => rw [bad g4, hull_bad2]; rfl
  | true =>
  obtain ⟨r4, h4⟩ := good_At g4
  rw [hull_of A3 h4]
  obtain ⟨u4, v4, A4⟩ := hull_next A3 h4
  simp only [cond_true]
  unfold F_skewbackref05_around_loop0
  exact (make_At A4.lo A4.hi A4.le).symm
theorem IMul_eq (a b : Iv) : F_interval_Mul a b = F_skewbackref05_Mul a b := by
  unfold F_interval_Mul F_skewbackref05_Mul
  dsimp only
  rw [right2, IBad_eq, around_eq]
  simp only [Mul_eq]
  cases F_skewbackref05_IsBad a <;> cases F_skewbackref05_IsBad b <;> rfl
theorem has_bad {a : Iv} (h : F_skewbackref05_IsBad a = true) (x : Rt) : F_skewbackref05_Has a x = false := by unfold F_skewbackref05_Has; rw [h]; rfl
theorem IDiv_eq (a b : Iv) : F_interval_Div a b = F_skewbackref05_Div a b := by
  unfold F_interval_Div F_skewbackref05_Div
  dsimp only
  rw [right2, IBad_eq, IHas_eq, around_eq]
  simp only [Div_eq, Of_eq]
  cases hb : F_skewbackref05_IsBad b with
  | true => rw [has_bad hb]; cases F_skewbackref05_IsBad a <;> rfl
  | false => cases F_skewbackref05_IsBad a <;> cases F_skewbackref05_Has b (F_skewbackref04_Of (wl 0)) <;> rfl
theorem ISplit_eq (a : Iv) : F_interval_Split a = ((F_skewbackref05_Split a).x, (F_skewbackref05_Split a).y) := by
  unfold F_interval_Split F_skewbackref05_Split
  rw [right1]
  simp only [IMake_eq, Mid_eq, IBad_eq]
  cases F_skewbackref05_IsBad a <;> rfl
theorem IInside_eq (a b : Iv) : F_interval_Inside a b = F_skewbackref05_Inside a b := by
  unfold F_interval_Inside F_skewbackref05_Inside
  rw [right1, IHas_eq, IHas_eq]
  cases hb : F_skewbackref05_IsBad b with
  | true => rw [has_bad hb, has_bad hb]; cases F_skewbackref05_IsBad a <;> rfl
  | false => cases F_skewbackref05_IsBad a <;> rfl
theorem IMeet_eq (a b : Iv) : F_interval_Meet a b = ((F_skewbackref05_Meet a b).a, (F_skewbackref05_Meet a b).is) := by
  unfold F_interval_Meet F_skewbackref05_Meet
  dsimp only
  rw [right2, ICmp_eq, IMake_eq, IBad_eq, Max_eq, Min_eq]
  unfold F_skewbackref05_Cmp
  cases ga : F_skewbackref05_IsBad a with
  | true => rfl
  | false =>
    cases gb : F_skewbackref05_IsBad b with
    | true => rfl
    | false =>
      obtain ⟨p, q, ha⟩ := notBad_At ga
      obtain ⟨r, s, hb⟩ := notBad_At gb
      simp only [Bool.not_false, Bool.and_true, Bool.not_true, Bool.false_or, Bool.or_false, cond_false]
      rw [← Cmp_eq5, ← Cmp_eq5]
      have hp := ha.le
      have hr := hb.le
      obtain ⟨m, hm, hm1⟩ : ∃ m, (F_skewbackref04_Max a.lo b.lo).At m ∧ (m = p ∧ r ≤ p ∨ m = r ∧ p ≤ r) := by
        rcases Rat.le_total (a := p) (b := r) with h | h
        · exact ⟨r, by rw [Max_b ha.lo hb.lo h]; exact hb.lo, .inr ⟨rfl, h⟩⟩
        · exact ⟨p, by rw [Max_a ha.lo hb.lo h]; exact ha.lo, .inl ⟨rfl, h⟩⟩
      obtain ⟨n, hn, hn1⟩ : ∃ n, (F_skewbackref04_Min a.hi b.hi).At n ∧ (n = q ∧ q ≤ s ∨ n = s ∧ s ≤ q) := by
        rcases Rat.le_total (a := q) (b := s) with h | h
        · exact ⟨q, by rw [Min_a ha.hi hb.hi h]; exact ha.hi, .inl ⟨rfl, h⟩⟩
        · exact ⟨s, by rw [Min_b ha.hi hb.hi h]; exact hb.hi, .inr ⟨rfl, h⟩⟩
      by_cases h1 : q < r
      · rw [decide_eq_true ((Cmp_lt ha.hi hb.lo).2 h1), make_not hm hn (by grind), bad_isBad]; rfl
      · rw [decide_eq_false (fun h => h1 ((Cmp_lt ha.hi hb.lo).1 h))]
        by_cases h2 : s < p
        · rw [decide_eq_true ((Cmp_gt ha.lo hb.hi).2 h2), make_not hm hn (by grind), bad_isBad]; rfl
        · rw [decide_eq_false (fun h => h2 ((Cmp_gt ha.lo hb.hi).1 h))]
          have hle : m ≤ n := by grind
          have e := make_At hm hn hle
          have hg : F_skewbackref05_IsBad (F_skewbackref05_Make (F_skewbackref04_Max a.lo b.lo) (F_skewbackref04_Min a.hi b.hi)) = false := by
            rw [e]; exact Iv.At.good (p := m) (q := n) ⟨hm, hn, hle⟩
          rw [hg]; rfl
end Go.Num
