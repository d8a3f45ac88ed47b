/- Intervals: powers, hulls of lists; the two statements on what the specification returns. No program stands in it. -/
import Derived.Test.YtnfbkngfdemkpaaGreatDoorPv
import Derived.Test.YtnfbkngfdemkpaaGreatDoorFl

import Derived.KernelRfl
set_option linter.unusedVariables false
set_option linter.unusedSimpArgs false
namespace Go.Num
open Go Go.Kn
/-- a, times x, n times -/
def itMul (x : Rt) : Nat → Rt → Rt
  | 0, a => a
  | n + 1, a => itMul x n (F_skewbackref04_Mul a x)
theorem inc_1 {i n : W} (h : i.1 < n.1) : (W.add i (wl 1)).1 = i.1 + 1 := by
  have h2 := i.2
  have h3 := n.2
  unfold I64 at h2 h3
  exact wi (by show -9223372036854775808 ≤ i.1 + 1 ∧ i.1 + 1 ≤ _; omega)
theorem rpow_loop (a : Rt) (b : W) : ∀ (k : Nat) (i : W) (m : Rt), (b.1 - i.1).toNat < k → (F_skewbackref05_power_loop0 a b k i m).2 = itMul a (b.1 - i.1).toNat m := by
  intro k
  induction k with
  | zero => intro i m h; omega
  | succ k ih =>
    intro i m h
    unfold F_skewbackref05_power_loop0
    by_cases hc : i.1 < b.1
    · rw [decide_eq_true hc, cond_true, ih _ _ (by rw [inc_1 hc]; omega), inc_1 hc]
      have : (b.1 - i.1).toNat = (b.1 - (i.1 + 1)).toNat + 1 := by omega
      rw [this]; rfl
    · rw [decide_eq_false hc, cond_false]
      have : (b.1 - i.1).toNat = 0 := by omega
      rw [this]; rfl
theorem rpow (a : Rt) (b : W) : F_skewbackref05_power a b = itMul a b.1.toNat (F_skewbackref04_Of (wl 1)) := by
  have := rpow_loop a b (b.1.toNat + 1) (wl 0) (F_skewbackref04_Of (wl 1)) (by show (b.1 - 0).toNat < _; omega)
  have e : (b.1 - (wl 0).1).toNat = b.1.toNat := by show (b.1 - 0).toNat = _; rw [Int.sub_zero]
  rw [e] at this
  exact this
theorem ipow_loop (a : Iv) (b : W) (r s : Iv) : ∀ (k : Nat) (i : W) (m : Iv), (b.1 - i.1).toNat < k → (F_interval_Power_loop0 a b r s k i m).2 = ⟨itMul r.lo (b.1 - i.1).toNat m.lo, itMul r.hi (b.1 - i.1).toNat m.hi⟩ := by
  intro k
  induction k with
  | zero => intro i m h; omega
  | succ k ih =>
    intro i m h
    unfold F_interval_Power_loop0
    by_cases hc : i.1 < b.1
    · rw [decide_eq_true hc, cond_true, ih _ _ (by rw [inc_1 hc]; omega), inc_1 hc, Mul_eq, Mul_eq]
      have : (b.1 - i.1).toNat = (b.1 - (i.1 + 1)).toNat + 1 := by omega
      rw [this]; rfl
    · rw [decide_eq_false hc, cond_false]
      have : (b.1 - i.1).toNat = 0 := by omega
      rw [this]; rfl
theorem merge_iv (c : Bool) (x y : Iv) : (⟨⟨bif c then x.lo.n else y.lo.n, bif c then x.lo.d else y.lo.d⟩, ⟨bif c then x.hi.n else y.hi.n, bif c then x.hi.d else y.hi.d⟩⟩ : Iv) = bif c then x else y := by cases c <;> rfl
theorem IPower_eq {a : Iv} (hr : F_skewbackref05_Right a = true) (b : W) : F_interval_Power a b = F_skewbackref05_Power a b := by
  unfold F_interval_Power F_skewbackref05_Power
  dsimp only
  rw [right1, IBad_eq, Bool.not_not, merge_iv, IAbs_eq hr, IOf_eq, Of_eq]
  cases hc : (F_skewbackref05_IsBad a || (decide (b.1 < 0) || decide (32 < b.1))) with
  | true => rfl
  | false =>
    have h1 : F_skewbackref05_Make (F_skewbackref04_Of (wl 1)) (F_skewbackref04_Of (wl 1)) = ⟨F_skewbackref04_Of (wl 1), F_skewbackref04_Of (wl 1)⟩ := by decide +kernel
    have h2 := fun r : Iv => ipow_loop a b r ⟨F_skewbackref04_Of (wl 1), F_skewbackref04_Of (wl 1)⟩ (b.1.toNat + 1) (wl 0) ⟨F_skewbackref04_Of (wl 1), F_skewbackref04_Of (wl 1)⟩ (by show (b.1 - 0).toNat < _; omega)
    have e : (b.1 - (wl 0).1).toNat = b.1.toNat := by show (b.1 - 0).toNat = _; rw [Int.sub_zero]
    rw [e] at h2
    simp only [cond_false, ap, h1]
    rw [h2, IMake_eq]
    simp only [rpow]
    cases ((W.rem b (wl 2)).1 == 0) <;> rfl
/-! hulls of lists -/
theorem right_all : ∀ (l0 l : List Iv), F_interval_right_loop0 l0 l = bif l.all (fun a => !F_skewbackref05_IsBad a) then .inl () else .inr false
  | _, [] => rfl
  | l0, x :: l => by
    unfold F_interval_right_loop0
    rw [IsBad_eq, right_all l0 l, List.all_cons]
    cases F_skewbackref05_IsBad x <;> rfl
theorem right_l (l : List Iv) : F_interval_right l = l.all (fun a => !F_skewbackref05_IsBad a) := by
  unfold F_interval_right
  rw [right_all]
  cases l.all (fun a => !F_skewbackref05_IsBad a) <;> rfl
theorem rhull_bad : ∀ (l0 l : List Iv) (m : Iv), l.all (fun a => !F_skewbackref05_IsBad a) = false → F_skewbackref05_Hull_loop0 l0 l m = .inr F_skewbackref05_Bad
  | _, [], _, h => by cases h
  | l0, x :: l, m, h => by
    unfold F_skewbackref05_Hull_loop0
    rw [List.all_cons] at h
    cases hx : F_skewbackref05_IsBad x with
    | true => rfl
    | false => rw [hx] at h; exact rhull_bad l0 l _ h
theorem hull_loops : ∀ (l0 l1 l : List Iv) (m : Iv), l.all (fun a => !F_skewbackref05_IsBad a) = true → F_skewbackref05_IsBad m = false → F_skewbackref05_Hull_loop0 l0 l m = .inl (F_interval_Hull_loop0 l1 l m)
  | _, _, [], _, _, _ => rfl
  | l0, l1, x :: l, m, h, hm => by
    unfold F_skewbackref05_Hull_loop0 F_interval_Hull_loop0
    rw [List.all_cons, Bool.and_eq_true, Bool.not_eq_true'] at h
    rw [h.1, cond_false, Min_eq, Max_eq]
    obtain ⟨p, q, a⟩ := notBad_At hm
    obtain ⟨r, s, b⟩ := notBad_At h.1
    obtain ⟨u, v, c, _⟩ := hull_At a b
    have e := make_At c.lo c.hi c.le
    simp only at e
    rw [e]
    exact hull_loops l0 l1 l _ h.2 c.good
theorem IHull_eq (l : List Iv) : F_interval_Hull l = F_skewbackref05_Hull l := by
  unfold F_interval_Hull F_skewbackref05_Hull
  rw [right_l, IBad_eq]
  cases l with
  | nil => rfl
  | cons x l =>
    have h0 : ((((x :: l).length : Nat) : Int) == 0) = false := by rw [beq_eq_false_iff_ne, List.length_cons]; omega
    rw [h0]
    have e1 : (x :: l).getD 0 Iv0 = x := rfl
    have e2 : (x :: l).drop 1 = l := rfl
    rw [e1, e2]
    cases hb : (x :: l).all (fun a => !F_skewbackref05_IsBad a) with
    | false => rw [rhull_bad _ _ _ hb]; rfl
    | true =>
      rw [List.all_cons, Bool.and_eq_true, Bool.not_eq_true'] at hb
      obtain ⟨p, q, a⟩ := notBad_At hb.1
      unfold F_skewbackref05_Hull_loop0
      rw [hb.1, cond_false]
      have e3 : F_skewbackref05_Make (F_skewbackref04_Min x.lo x.lo) (F_skewbackref04_Max x.hi x.hi) = x := by
        rw [Min_a a.lo a.lo Rat.le_refl, Max_a a.hi a.hi Rat.le_refl]; exact make_self hb.1
      dsimp only
      rw [e3, hull_loops _ (x :: l) _ _ hb.2 hb.1]
      rfl
theorem sanity05 : F_skewbacklaw05_sanity = true := by kernel_rfl
theorem IntervalComputes_true (a b : Iv) (c : W) : F_skewbacklaw05_IntervalComputesAsSpecified a b c = true := by
  unfold F_skewbacklaw05_IntervalComputesAsSpecified
  rw [sanity05]
  cases ha : F_skewbackref05_Right a with
  | false => rfl
  | true =>
    cases hb : F_skewbackref05_Right b with
    | false => rfl
    | true =>
      simp only [IAdd_eq, ISub_eq, IMul_eq, IDiv_eq, INeg_eq, IAbs_eq ha, IPower_eq ha, IWidth_eq, IWiden_eq, ISplit_eq]
      simp
theorem sets_loop1 (l : List Iv) (x y : Rt) (x0 : Iv) (l0 : List Iv) (r' : Iv) : ∀ (l1 : List Iv) (r : Iv), F_skewbacklaw05_IntervalSetsAsSpecified_loop1 l x y r x0 l0 r' l1 = .inl ()
  | [], _ => rfl
  | x1 :: l1, r => by
    unfold F_skewbacklaw05_IntervalSetsAsSpecified_loop1
    dsimp only
    rw [sets_loop1 l x y x0 l0 r' l1]
    simp [IMeet_eq, IInside_eq, ICmp_eq]
theorem sets_loop0 (l : List Iv) (x y : Rt) (r : Iv) : ∀ l0 : List Iv, F_skewbacklaw05_IntervalSetsAsSpecified_loop0 l x y r l0 = .inl () ∨ F_skewbacklaw05_IntervalSetsAsSpecified_loop0 l x y r l0 = .inr true
  | [] => .inl rfl
  | x0 :: l0 => by
    unfold F_skewbacklaw05_IntervalSetsAsSpecified_loop0
    rw [sets_loop1, IsBad_eq, IHas_eq, sanity05]
    cases F_skewbackref05_Right x0 with
    | false => exact .inr rfl
    | true =>
      simp only [cond_true, bne_self_eq_false, Bool.or_self, cond_false, sm]
      exact sets_loop0 l x y r l0
theorem IntervalSets_true (l : List Iv) (x y : Rt) : F_skewbacklaw05_IntervalSetsAsSpecified l x y = true := by
  unfold F_skewbacklaw05_IntervalSetsAsSpecified
  rw [sanity05, IMake_eq, IOf_eq, IHull_eq]
  cases decide (12 < ((l.length : Nat) : Int)) with
  | true => rfl
  | false =>
    simp only [cond_false, decide_true, Bool.and_self, Bool.not_true, Bool.or_self]
    rcases sets_loop0 l x y (F_skewbackref05_Make x y) l with h | h
    · rw [h]; simp [sm]
    · rw [h]; rfl
end Go.Num
