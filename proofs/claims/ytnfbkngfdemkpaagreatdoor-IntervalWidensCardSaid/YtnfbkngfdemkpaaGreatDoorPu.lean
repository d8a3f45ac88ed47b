/- Intervals: what the program computes is what the reference defines. No program stands in it. -/
import Derived.Test.YtnfbkngfdemkpaaGreatDoorPt
import Derived.Test.YtnfbkngfdemkpaaGreatDoorFSl
import Derived.Test.YtnfbkngfdemkpaaGreatDoorFi

import Derived.KernelRfl
set_option linter.unusedVariables false
set_option linter.unusedSimpArgs false
namespace Go.Num
open Go Go.Kn
theorem Cmp_eq5 (a b : Rt) : F_ratio_Cmp a b = F_skewbackref04_Cmp a b := by
  unfold F_ratio_Cmp F_skewbackref04_Cmp F_skewbackref04_kept
  rw [Good_eq, Good_eq]
  cases F_skewbackref04_Good a <;> cases F_skewbackref04_Good b <;> simp only [Bool.not_true, Bool.not_false, Bool.or_true, Bool.true_or, Bool.or_false, Bool.and_true, Bool.and_false, Bool.false_and, Bool.true_and, cond_true, cond_false, E_dec] <;> rfl
theorem Frac_eq (a b : W) : F_ratio_Frac a b = F_skewbackref04_Frac a b := rfl
theorem Sign_eq (a : Rt) : F_ratio_Sign a = F_skewbackref04_Sign a := by unfold F_ratio_Sign F_skewbackref04_Sign; rw [Good_eq]
theorem Div_eq (a b : Rt) : F_ratio_Div a b = F_skewbackref04_Div a b := by unfold F_ratio_Div F_skewbackref04_Div; rw [Good_eq, Make_eq, Mul_eq, Bad_eq]
theorem Mid_eq (a b : Rt) : F_ratio_Mid a b = F_skewbackref04_Mid a b := by unfold F_ratio_Mid F_skewbackref04_Mid; rw [Add_eq, Mul_eq, Frac_eq]
theorem good_not {a : Rt} (h : F_skewbackref04_Good a = false) : F_skewbackref04_Neg a = F_skewbackref04_Bad := by unfold F_skewbackref04_Neg; rw [h]; rfl
theorem bad_not : F_skewbackref04_Good F_skewbackref04_Bad = false := by decide +kernel
theorem Neg_is {a : Rt} {n d : Int} (h : a.Is n d) : Rt.Is (F_skewbackref04_Neg a) (-n) d := by
  have e : F_skewbackref04_Neg a = ⟨E (Z.of (-n)), E (Z.of d)⟩ := by
    unfold F_skewbackref04_Neg
    rw [Good_is h, h.en, h.ed, E_dec, neg_of h.hn]; rfl
  rw [e]
  refine ⟨rfl, rfl, ?_, h.hd, h.pos, by rw [Int.neg_gcd]; exact h.cop⟩
  have := h.hn
  unfold B512 at *
  rw [Int.natAbs_neg]; exact this
theorem Neg_Neg {a : Rt} {n d : Int} (h : a.Is n d) : F_skewbackref04_Neg (F_skewbackref04_Neg a) = a := by
  have h1 := Neg_is (Neg_is h)
  rw [Int.neg_neg] at h1
  exact Rt.ext (h1.en.trans h.en.symm) (h1.ed.trans h.ed.symm)
theorem Is_of {a : Rt} (h : F_skewbackref04_Good a = true) : ∃ n d, Rt.Is a n d := Good_iff.1 h
theorem sign_le0 {x : Int} : x.sign ≤ 0 ↔ x ≤ 0 := Int.sign_nonpos_iff
theorem sign_lt0 {x : Int} : x.sign < 0 ↔ x < 0 := Int.sign_neg_iff
theorem sign_gt0 {x : Int} : 0 < x.sign ↔ 0 < x := Int.sign_pos_iff
theorem Min_eq (a b : Rt) : F_ratio_Min a b = F_skewbackref04_Min a b := by
  unfold F_ratio_Min F_skewbackref04_Min
  rw [Good_eq, Good_eq, Bad_eq, ← Cmp_eq5]
  by_cases h : 0 < (F_ratio_Cmp a b).1
  · rw [decide_eq_true h, decide_eq_false (by omega)]
    cases F_skewbackref04_Good a <;> cases F_skewbackref04_Good b <;> rfl
  · rw [decide_eq_false h, decide_eq_true (by omega)]
    cases F_skewbackref04_Good a <;> cases F_skewbackref04_Good b <;> rfl
theorem Max_eq (a b : Rt) : F_ratio_Max a b = F_skewbackref04_Max a b := by
  unfold F_ratio_Max F_skewbackref04_Max
  rw [Good_eq, Good_eq, Bad_eq]
  cases ga : F_skewbackref04_Good a with
  | false =>
    rw [good_not ga]
    unfold F_skewbackref04_Min
    rw [bad_not]
    exact (good_not bad_not).symm
  | true =>
    cases gb : F_skewbackref04_Good b with
    | false =>
      rw [good_not gb]
      unfold F_skewbackref04_Min
      rw [bad_not]
      simp only [Bool.not_true, Bool.not_false, Bool.or_true, cond_true]
      exact (good_not bad_not).symm
    | true =>
      obtain ⟨n, d, ha⟩ := Is_of ga
      obtain ⟨m, e, hb⟩ := Is_of gb
      have h1 := Neg_is ha
      have h2 := Neg_is hb
      unfold F_skewbackref04_Min
      rw [Good_is h1, Good_is h2, ← Cmp_eq5, Cmp_is ha hb, Cmp_is h1 h2]
      simp only [Bool.not_true, Bool.or_false, cond_false, sign_lt0, sign_le0]
      have key : -n * e - -m * d = -(n * e - m * d) := by grind
      rw [key]
      by_cases h : n * e - m * d < 0
      · rw [decide_eq_true h, decide_eq_false (by omega)]
        simp only [cond_true, cond_false]
        exact (Neg_Neg hb).symm
      · rw [decide_eq_false h, decide_eq_true (by omega)]
        simp only [cond_true, cond_false]
        exact (Neg_Neg ha).symm
/-! shifts -/
theorem dec_sign0 {a : R} (ha : a.Ok) (ga : a.good = true) (h0 : val a.w = 0) : a.dec.sign = 0 := by
  unfold Z.sign
  rw [dec_good ha ga, h0]
  cases a.neg <;> simp [sgn]
theorem dec_sign1 {a : R} (ha : a.Ok) (ga : a.good = true) (h0 : val a.w ≠ 0) : a.dec.sign ≠ 0 := by
  rw [sign_dl ha ga h0]
  split <;> decide
theorem sh_zero' {a : R} (ha : a.Ok) (ga : a.good = true) (h0 : val a.w = 0) (m : Nat) : a = (Z.shl a.dec (m : Int)).enc := sh_zero ha ga (dec_sign0 ha ga h0) m
theorem rsh_big' {a : R} (ha : a.Ok) (ga : a.good = true) (h0 : val a.w ≠ 0) {m : Nat} (h : 512 < m) : Z.bad.enc = (Z.shl a.dec (m : Int)).enc := sh_big ha ga (dec_sign1 ha ga h0) (.inr (by omega))
theorem Shift_eq (a : I) (b : W) (h0 : 0 ≤ b.1) : F_skewbackref03_Shift a b = E (Z.shl a.dec b.1) := by
  obtain ⟨m, hm⟩ : ∃ m : Nat, b.1 = (m : Int) := ⟨b.1.toNat, by omega⟩
  unfold F_skewbackref03_Shift
  rw [hm]
  cases hg : a.1.good with
  | false =>
    simp only [cond_false]
    have : a.dec.o = none := by show a.1.dec.o = none; unfold R.dec; rw [if_neg (by simp [hg])]; rfl
    unfold Z.shl
    rw [lift1_bad this]
  | true =>
    simp only [cond_true]
    by_cases hz : val a.1.w = 0
    · rw [hz, dl_zero]
      have h1 := sh_zero' a.2 hg hz m
      exact Subtype.ext h1
    · have h2 : ((((dl (val a.1.w)).length : Nat) : Int) == 0) = false := by
        rw [beq_eq_false_iff_ne]
        intro h
        exact hz (dl_nil.1 (by omega))
      rw [h2]
      simp only [cond_false]
      by_cases hb : 512 < (m : Int)
      · rw [decide_eq_true hb]
        simp only [cond_true]
        exact Subtype.ext (rsh_big' a.2 hg hz (by omega))
      · rw [decide_eq_false hb]
        simp only [cond_false]
        show E _ = E (Z.shl a.1.dec (m : Int))
        rw [shl_dec a.2 hg, Int.toNat_natCast]
theorem Dyadic_eq (a : Rt) (b : W) : F_ratio_Dyadic a b = ((F_skewbackref04_Dyadic a b).lo, (F_skewbackref04_Dyadic a b).hi) := by
  unfold F_ratio_Dyadic F_skewbackref04_Dyadic
  rw [Good_eq, Bad_eq]
  cases hc : (!F_skewbackref04_Good a || (decide (b.1 < 0) || decide (256 < b.1))) with
  | true => rfl
  | false =>
    have h0 : 0 ≤ b.1 := Int.not_lt.1 (of_decide_eq_false (or3_b hc))
    simp only [cond_false, Shift_eq _ _ h0, E_dec, Make_eq, Good_eq, one_r, one4]
    generalize (!F_skewbackref04_Good _ || !F_skewbackref04_Good _) = c
    cases c <;> rfl
/-! intervals -/
theorem IBad_eq : F_interval_Bad = F_skewbackref05_Bad := rfl
theorem IsBad_eq (a : Iv) : F_interval_IsBad a = F_skewbackref05_IsBad a := by
  unfold F_interval_IsBad F_skewbackref05_IsBad
  rw [Good_eq, Good_eq, Cmp_eq5]
  cases g1 : F_skewbackref04_Good a.lo with
  | false => simp
  | true =>
    cases g2 : F_skewbackref04_Good a.hi with
    | false => simp
    | true =>
      have h : ¬ (a.lo.n = F_interval_Bad.lo.n ∧ a.lo.d = F_interval_Bad.lo.d) := fun h => by
        have : a.lo = F_skewbackref04_Bad := Rt.ext h.1 h.2
        rw [this, bad_not] at g1; cases g1
      have h2 : (decide (a.lo.n = F_interval_Bad.lo.n) && (decide (a.lo.d = F_interval_Bad.lo.d) && (decide (a.hi.n = F_interval_Bad.hi.n) && decide (a.hi.d = F_interval_Bad.hi.d)))) = false := by
        rw [Bool.eq_false_iff]
        intro h3
        simp only [Bool.and_eq_true, decide_eq_true_eq] at h3
        exact h ⟨h3.1, h3.2.1⟩
      rw [h2]; rfl
theorem IMake_eq (a b : Rt) : F_interval_Make a b = F_skewbackref05_Make a b := by
  unfold F_interval_Make F_skewbackref05_Make
  rw [IsBad_eq]; rfl
theorem IOf_eq (a : Rt) : F_interval_Of a = F_skewbackref05_Make a a := IMake_eq a a
theorem right1 (a : Iv) : F_interval_right [a] = !F_skewbackref05_IsBad a := by
  unfold F_interval_right F_interval_right_loop0 F_interval_right_loop0
  rw [IsBad_eq]
  cases F_skewbackref05_IsBad a <;> rfl
theorem right2 (a b : Iv) : F_interval_right [a, b] = (!F_skewbackref05_IsBad a && !F_skewbackref05_IsBad b) := by
  unfold F_interval_right F_interval_right_loop0 F_interval_right_loop0 F_interval_right_loop0
  rw [IsBad_eq, IsBad_eq]
  cases F_skewbackref05_IsBad a <;> cases F_skewbackref05_IsBad b <;> rfl
theorem IAdd_eq (a b : Iv) : F_interval_Add a b = F_skewbackref05_Add a b := by
  unfold F_interval_Add F_skewbackref05_Add
  rw [right2, IMake_eq, Add_eq, Add_eq, IBad_eq]
  cases F_skewbackref05_IsBad a <;> cases F_skewbackref05_IsBad b <;> rfl
theorem INeg_eq (a : Iv) : F_interval_Neg a = F_skewbackref05_Neg a := by
  unfold F_interval_Neg F_skewbackref05_Neg
  rw [right1, IMake_eq, Neg_eq, Neg_eq, IBad_eq]
  cases F_skewbackref05_IsBad a <;> rfl
theorem IHas_eq (a : Iv) (x : Rt) : F_interval_Has a x = F_skewbackref05_Has a x := by
  unfold F_interval_Has F_skewbackref05_Has
  rw [right1, Good_eq, Cmp_eq5, Cmp_eq5]
  cases F_skewbackref05_IsBad a <;> cases F_skewbackref04_Good x <;> rfl
theorem ICmp_eq (a b : Iv) : F_interval_Cmp a b = F_skewbackref05_Cmp a b := by
  unfold F_interval_Cmp F_skewbackref05_Cmp
  rw [right2, Cmp_eq5, Cmp_eq5]
  cases F_skewbackref05_IsBad a <;> cases F_skewbackref05_IsBad b <;> rfl
theorem IWidth_eq (a : Iv) : F_interval_Width a = F_skewbackref05_Width a := by
  unfold F_interval_Width F_skewbackref05_Width
  rw [right1, Sub_eq, Bad_eq]
  cases F_skewbackref05_IsBad a <;> rfl
theorem IWiden_eq (a : Iv) (k : W) : F_interval_Widen a k = F_skewbackref05_Widen a k := by
  unfold F_interval_Widen F_skewbackref05_Widen
  rw [right1, IMake_eq, Dyadic_eq, Dyadic_eq, IBad_eq]
  cases F_skewbackref05_IsBad a <;> rfl
/-- An interval that is not bad: its ends, in order. -/
structure Iv.Is (a : Iv) (n d m e : Int) : Prop where
  lo : a.lo.Is n d
  hi : a.hi.Is m e
  le : n * e ≤ m * d
theorem notBad {a : Iv} (h : F_skewbackref05_IsBad a = false) : ∃ n d m e, Iv.Is a n d m e := by
  unfold F_skewbackref05_IsBad at h
  cases g1 : F_skewbackref04_Good a.lo with
  | false => rw [g1] at h; cases h
  | true =>
    cases g2 : F_skewbackref04_Good a.hi with
    | false => rw [g1, g2] at h; cases h
    | true =>
      rw [g1, g2] at h
      obtain ⟨n, d, h1⟩ := Is_of g1
      obtain ⟨m, e, h2⟩ := Is_of g2
      refine ⟨n, d, m, e, h1, h2, ?_⟩
      rw [← Cmp_eq5, Cmp_is h1 h2] at h
      have := of_decide_eq_false h
      rw [sign_gt0] at this
      omega
theorem isBad_of {a : Iv} {n d m e : Int} (h1 : a.lo.Is n d) (h2 : a.hi.Is m e) : F_skewbackref05_IsBad a = decide (m * d < n * e) := by
  unfold F_skewbackref05_IsBad
  rw [Good_is h1, Good_is h2, ← Cmp_eq5, Cmp_is h1 h2]
  simp only [Bool.not_true, Bool.or_false, cond_false, sign_gt0]
  congr 1
  exact propext ⟨fun h => by omega, fun h => by omega⟩
theorem Iv.Is.good {a : Iv} {n d m e : Int} (h : Iv.Is a n d m e) : F_skewbackref05_IsBad a = false := by
  rw [isBad_of h.lo h.hi]
  exact decide_eq_false (by have := h.le; omega)
theorem make_self {a : Iv} (h : F_skewbackref05_IsBad a = false) : F_skewbackref05_Make a.lo a.hi = a := by
  unfold F_skewbackref05_Make
  have : (⟨a.lo, a.hi⟩ : Iv) = a := rfl
  rw [this, h]; rfl
theorem INeg_is {a : Iv} {n d m e : Int} (h : Iv.Is a n d m e) : F_skewbackref05_Neg a = ⟨F_skewbackref04_Neg a.hi, F_skewbackref04_Neg a.lo⟩ ∧ Iv.Is (F_skewbackref05_Neg a) (-m) e (-n) d := by
  have hI : Iv.Is ⟨F_skewbackref04_Neg a.hi, F_skewbackref04_Neg a.lo⟩ (-m) e (-n) d := ⟨Neg_is h.hi, Neg_is h.lo, by have := h.le; grind⟩
  have e1 : F_skewbackref05_Neg a = ⟨F_skewbackref04_Neg a.hi, F_skewbackref04_Neg a.lo⟩ := by
    unfold F_skewbackref05_Neg
    rw [h.good]
    show F_skewbackref05_Make (F_skewbackref04_Neg a.hi) (F_skewbackref04_Neg a.lo) = _
    exact make_self (a := ⟨F_skewbackref04_Neg a.hi, F_skewbackref04_Neg a.lo⟩) hI.good
  exact ⟨e1, by rw [e1]; exact hI⟩
theorem bad_isBad : F_skewbackref05_IsBad F_skewbackref05_Bad = true := by
  unfold F_skewbackref05_IsBad
  have : F_skewbackref04_Good (F_skewbackref05_Bad).lo = false := bad_not
  rw [this]; rfl
theorem ISub_eq (a b : Iv) : F_interval_Sub a b = F_skewbackref05_Sub a b := by
  unfold F_interval_Sub
  show F_interval_Add a (F_interval_Neg b) = _
  rw [INeg_eq, IAdd_eq]
  unfold F_skewbackref05_Add F_skewbackref05_Sub
  cases hb : F_skewbackref05_IsBad b with
  | true =>
    have : F_skewbackref05_Neg b = F_skewbackref05_Bad := by unfold F_skewbackref05_Neg; rw [hb]; rfl
    rw [this, bad_isBad]
    cases F_skewbackref05_IsBad a <;> rfl
  | false =>
    obtain ⟨n, d, m, e, h⟩ := notBad hb
    obtain ⟨h1, h2⟩ := INeg_is h
    rw [h2.good, h1]
    cases F_skewbackref05_IsBad a <;> rfl
theorem IAbs_eq {a : Iv} (hr : F_skewbackref05_Right a = true) : F_interval_Abs a = F_skewbackref05_Abs a := by
  unfold F_interval_Abs F_skewbackref05_Abs
  dsimp only
  rw [right1, Sign_eq, Sign_eq, INeg_eq, IMake_eq, Max_eq, Neg_eq, Of_eq]
  cases h : F_skewbackref05_IsBad a with
  | false => rfl
  | true =>
    unfold F_skewbackref05_Right at hr
    rw [h] at hr
    simp only [Bool.not_true, Bool.false_or] at hr ⊢
    simp only [cond_false, cond_true]
    simp only [Bool.and_eq_true, decide_eq_true_eq] at hr
    obtain ⟨h1, h2, h3, h4⟩ := hr
    cases a with
    | mk lo hi =>
      have e1 : lo = F_skewbackref05_Bad.lo := Rt.ext h1 h2
      have e2 : hi = F_skewbackref05_Bad.hi := Rt.ext h3 h4
      rw [e1, e2]
end Go.Num
