/- Intervals as intervals of rational numbers: what they share, hulls, order; the statement on sets. No program stands in it. -/
import Derived.Test.YtnfbkngfdemkpaaGreatDoorPw

import Derived.KernelRfl
set_option linter.unusedVariables false
set_option linter.unusedSimpArgs false
namespace Go.Num
open Go Go.Kn
def mn (p q : Rat) : Rat := if p ≤ q then p else q
def mx (p q : Rat) : Rat := if p ≤ q then q else p
theorem min_At {a b : Rt} {p q : Rat} (ha : a.At p) (hb : b.At q) : (F_skewbackref04_Min a b).At (mn p q) := by
  unfold mn
  split
  · rename_i h; rw [Min_a ha hb h]; exact ha
  · rename_i h; rw [Min_b ha hb (by grind)]; exact hb
theorem max_At {a b : Rt} {p q : Rat} (ha : a.At p) (hb : b.At q) : (F_skewbackref04_Max a b).At (mx p q) := by
  unfold mx
  split
  · rename_i h; rw [Max_b ha hb h]; exact hb
  · rename_i h; rw [Max_a ha hb (by grind)]; exact ha
theorem hull_at {a b : Iv} {p q r s : Rat} (ha : a.At p q) (hb : b.At r s) : (F_interval_Hull [a, b]).At (mn p r) (mx q s) := by
  rw [hull2, ha.good, hb.good]
  refine ⟨min_At ha.lo hb.lo, max_At ha.hi hb.hi, ?_⟩
  have h1 := ha.le
  have h2 := hb.le
  unfold mn mx; grind
theorem hull3 {a b c : Iv} {p q r s t u : Rat} (ha : a.At p q) (hb : b.At r s) (hc : c.At t u) : F_interval_Hull [a, b, c] = F_interval_Hull [F_interval_Hull [a, b], c] := by
  rw [hull2 _ c, (hull_at ha hb).good, hc.good]
  rw [hull2, ha.good, hb.good]
  unfold F_interval_Hull
  rw [right_l]
  have h : ((([a, b, c].length : Nat) : Int) == 0) = false := rfl
  rw [h]
  simp only [List.all_cons, List.all_nil, ha.good, hb.good, hc.good]
  show (⟨F_ratio_Min (F_ratio_Min a.lo b.lo) c.lo, F_ratio_Max (F_ratio_Max a.hi b.hi) c.hi⟩ : Iv) = _
  simp only [Min_eq, Max_eq]; rfl
theorem iv_inj {a b : Iv} {p q : Rat} (ha : a.At p q) (hb : b.At p q) : a = b := by
  cases a; cases b
  have h1 := At_inj ha.lo hb.lo
  have h2 := At_inj ha.hi hb.hi
  simp only at h1 h2
  rw [h1, h2]
theorem iv_inj' {a b : Iv} {p q r s : Rat} (ha : a.At p q) (hb : b.At r s) (h1 : p = r) (h2 : q = s) : a = b := by subst h1 h2; exact iv_inj ha hb
theorem has_At {a : Iv} {x : Rt} {p q r : Rat} (ha : a.At p q) (hx : x.At r) : F_interval_Has a x = decide (p ≤ r ∧ r ≤ q) := by
  rw [IHas_eq]
  unfold F_skewbackref05_Has
  rw [ha.good, At_good hx, ← Cmp_eq5, ← Cmp_eq5]
  simp only [Bool.not_true, Bool.or_false, cond_false, Cmp_le ha.lo hx, Cmp_le hx ha.hi, Bool.decide_and]
theorem inside_At {a b : Iv} {p q r s : Rat} (ha : a.At p q) (hb : b.At r s) : F_interval_Inside a b = decide (r ≤ p ∧ q ≤ s) := by
  unfold F_interval_Inside
  rw [right1, ha.good, has_At hb ha.lo, has_At hb ha.hi, Bool.not_false, Bool.true_and, ← Bool.decide_and]
  have := ha.le
  congr 1
  apply propext
  constructor <;> grind
theorem cmp_At {a b : Iv} {p q r s : Rat} (ha : a.At p q) (hb : b.At r s) : (F_interval_Cmp a b).1 = if q < r then -1 else if s < p then 1 else 0 := by
  rw [ICmp_eq]
  unfold F_skewbackref05_Cmp
  rw [ha.good, hb.good, ← Cmp_eq5, ← Cmp_eq5]
  simp only [Bool.or_false, cond_false, Cmp_lt ha.hi hb.lo, Cmp_gt ha.lo hb.hi]
  by_cases h1 : q < r
  · rw [decide_eq_true h1, if_pos h1]; rfl
  · rw [decide_eq_false h1, if_neg h1]
    by_cases h2 : s < p
    · rw [decide_eq_true h2, if_pos h2]; rfl
    · rw [decide_eq_false h2, if_neg h2]; rfl
theorem meet_At {a b : Iv} {p q r s : Rat} (ha : a.At p q) (hb : b.At r s) (h : r ≤ q ∧ p ≤ s) : (F_interval_Meet a b).2 = true ∧ (F_interval_Meet a b).1.At (mx p r) (mn q s) := by
  have h1 := ha.le
  have h2 := hb.le
  have hle : mx p r ≤ mn q s := by unfold mx mn; grind
  rw [IMeet_eq]
  unfold F_skewbackref05_Meet
  rw [ha.good, hb.good, make_At (max_At ha.lo hb.lo) (min_At ha.hi hb.hi) hle]
  have A : Iv.At ⟨F_skewbackref04_Max a.lo b.lo, F_skewbackref04_Min a.hi b.hi⟩ (mx p r) (mn q s) := ⟨max_At ha.lo hb.lo, min_At ha.hi hb.hi, hle⟩
  simp only [Bool.or_false, cond_false, A.good]
  exact ⟨rfl, A⟩
theorem meet_not {a b : Iv} {p q r s : Rat} (ha : a.At p q) (hb : b.At r s) (h : ¬ (r ≤ q ∧ p ≤ s)) : (F_interval_Meet a b).2 = false := by
  have h1 := ha.le
  have h2 := hb.le
  have hle : mn q s < mx p r := by unfold mx mn; grind
  rw [IMeet_eq]
  unfold F_skewbackref05_Meet
  rw [ha.good, hb.good, make_not (max_At ha.lo hb.lo) (min_At ha.hi hb.hi) hle]
  simp only [Bool.or_false, cond_false, bad_isBad]; rfl
theorem cmp_neg {a b : Iv} {p q r s : Rat} (ha : a.At p q) (hb : b.At r s) : (F_interval_Cmp a b).1 = (W.neg (F_interval_Cmp b a)).1 := by
  have h1 := ha.le
  have h2 := hb.le
  have h : (W.neg (F_interval_Cmp b a)).1 = - (F_interval_Cmp b a).1 := by
    have := cmp_At hb ha
    show IntKind.i64.wrap (0 - _) = _
    rw [this]
    split
    · rfl
    · split <;> rfl
  rw [h, cmp_At ha hb, cmp_At hb ha]
  by_cases k1 : q < r
  · rw [if_pos k1, if_neg (by grind), if_pos k1]
  · rw [if_neg k1]
    by_cases k2 : s < p
    · rw [if_pos k2, if_pos k2]; rfl
    · rw [if_neg k2, if_neg k2, if_neg k1]; rfl
theorem IntervalSetsAgree_true (a b c : Iv) : F_skewbacklaw05_IntervalSetsAgree a b c = true := by
  unfold F_skewbacklaw05_IntervalSetsAgree
  rw [sanity05]
  cases ga : F_skewbackref05_IsBad a with
  | true => rfl
  | false =>
  cases gb : F_skewbackref05_IsBad b with
  | true => rfl
  | false =>
  cases gc : F_skewbackref05_IsBad c with
  | true => rfl
  | false =>
  obtain ⟨p, q, ha⟩ := notBad_At ga
  obtain ⟨r, s, hb⟩ := notBad_At gb
  obtain ⟨t, u, hc⟩ := notBad_At gc
  have h1 := ha.le
  have h2 := hb.le
  have h3 := hc.le
  have hab := hull_at ha hb
  have hba := hull_at hb ha
  have e1 : F_interval_Hull [b, a] = F_interval_Hull [a, b] := iv_inj' hba hab (by unfold mn; grind) (by unfold mx; grind)
  have e2 : F_interval_Hull [a, F_interval_Hull [b, c]] = F_interval_Hull [F_interval_Hull [a, b], c] := iv_inj' (hull_at ha (hull_at hb hc)) (hull_at hab hc) (by unfold mn; grind) (by unfold mx; grind)
  have e3 := hull3 ha hb hc
  have i1 := inside_At ha hab
  rw [decide_eq_true (show mn p r ≤ p ∧ q ≤ mx q s by unfold mn mx; grind)] at i1
  have i2 := inside_At hb hab
  rw [decide_eq_true (show mn p r ≤ r ∧ s ≤ mx q s by unfold mn mx; grind)] at i2
  have n1 := cmp_neg hb hc
  dsimp only
  rw [e1, e2, e3, i1, i2, ← n1]
  simp only [Bool.or_false, cond_false, bne_self_eq_false, decide_true, Bool.and_self, Bool.not_true, cond_true, Bool.true_and]
  have i3 := inside_At hab hc
  have hc0 : ((F_interval_Cmp b c).1 == 0) = (F_interval_Meet b c).2 := by
    rw [cmp_At hb hc]
    by_cases hm : t ≤ s ∧ r ≤ u
    · rw [(meet_At hb hc hm).1, if_neg (by grind), if_neg (by grind)]; rfl
    · rw [meet_not hb hc hm]
      by_cases k : s < t
      · rw [if_pos k]; rfl
      · rw [if_neg k, if_pos (by grind)]; rfl
  rw [hc0]
  simp only [bne_self_eq_false, Bool.or_false]
  have hand : (bif F_interval_Inside a c then bif F_interval_Inside b c then F_interval_Inside (F_interval_Hull [a, b]) c else true else true) = true := by
    rw [inside_At ha hc, inside_At hb hc, i3]
    by_cases k1 : t ≤ p ∧ q ≤ u
    · by_cases k2 : t ≤ r ∧ s ≤ u
      · rw [decide_eq_true k1, decide_eq_true k2, decide_eq_true (show t ≤ mn p r ∧ mx q s ≤ u by unfold mn mx; grind)]; rfl
      · rw [decide_eq_true k1, decide_eq_false k2]; rfl
    · rw [decide_eq_false k1]; rfl
  have hall : (F_interval_Inside a b && F_interval_Inside a c) = ((F_interval_Meet b c).2 && F_interval_Inside a (F_interval_Meet b c).1) := by
    rw [inside_At ha hb, inside_At ha hc]
    by_cases hm : t ≤ s ∧ r ≤ u
    · rw [(meet_At hb hc hm).1, inside_At ha (meet_At hb hc hm).2, Bool.true_and, ← Bool.decide_and]
      congr 1
      apply propext
      unfold mx mn
      constructor <;> grind
    · rw [meet_not hb hc hm, Bool.false_and, ← Bool.decide_and]
      exact decide_eq_false (by grind)
  revert hand hall
  cases F_interval_Inside a b <;> cases F_interval_Inside a c <;> cases F_interval_Inside b c <;> cases (F_interval_Meet b c).2 <;> cases F_interval_Inside a (F_interval_Meet b c).1 <;> cases F_interval_Inside (F_interval_Hull [a, b]) c <;> simp
end Go.Num
