/- What the reference's operations on whole numbers compute is what they should. No program stands in it. -/
import Derived.Test.YtnfbkngfdemkpaaGreatDoorFSg

set_option linter.unusedVariables false
set_option linter.unusedSimpArgs false
namespace Go.Num
open Go Go.Kn
theorem bad2 {a b : I} (h : (!a.1.good || (!b.1.good)) = true) : a.1.dec.o = none ∨ b.1.dec.o = none := by
  cases ha : a.1.good
  · exact .inl (bad1 ha)
  · cases hb : b.1.good
    · exact .inr (bad1 hb)
    · rw [ha, hb] at h; cases h
theorem good2' {a b : I} (h : (!a.1.good || (!b.1.good)) = false) : a.1.good = true ∧ b.1.good = true := by
  cases ha : a.1.good <;> cases hb : b.1.good <;> rw [ha, hb] at h <;> first | exact ⟨rfl, rfl⟩ | cases h
theorem F_skewbackref03_Neg_eq (a : I) : F_skewbackref03_Neg a = E (Z.neg a.dec) := by
  unfold F_skewbackref03_Neg
  show _ = E (Z.neg a.1.dec)
  cases h : a.1.good
  · rw [cond_false, Z.neg, lift1_bad (bad1 h)]
  · rw [cond_true, neg_dl a.2 h]
theorem F_skewbackref03_Abs_eq (a : I) : F_skewbackref03_Abs a = E (Z.abs a.dec) := by
  unfold F_skewbackref03_Abs
  show _ = E (Z.abs a.1.dec)
  cases h : a.1.good
  · rw [cond_false, Z.abs, lift1_bad (bad1 h)]
  · rw [cond_true, abs_dl a.2 h]
theorem F_skewbackref03_Add_eq (a b : I) : F_skewbackref03_Add a b = E (Z.add a.dec b.dec) := by
  unfold F_skewbackref03_Add
  show _ = E (Z.add a.1.dec b.1.dec)
  cases hw : (wordB a.1 && wordB b.1)
  · rw [cond_false]
    cases hg : (!a.1.good || (!b.1.good))
    · obtain ⟨ga, gb⟩ := good2' hg
      rw [cond_false]
      cases hn : (a.1.neg == b.1.neg)
      · rw [cond_false]
        have hn' : a.1.neg ≠ b.1.neg := by simpa using hn
        cases hl : decide (val a.1.w < val b.1.w)
        · rw [cond_false, add_hi a.2 b.2 ga gb hn' (of_decide_eq_false hl)]
        · rw [cond_true, add_lo a.2 b.2 ga gb hn' (of_decide_eq_true hl)]
      · rw [cond_true, add_eq2 a.2 b.2 ga gb (by simpa using hn)]
    · rw [cond_true, Z.add, lift2_bad (bad2 hg)]
  · rw [cond_true]
    rw [Bool.and_eq_true] at hw
    show E (Z.of (IntKind.i64.wrap (wordI a.1 + wordI b.1))) = _
    rw [(wadd (word_dec a.2 hw.1).2.2.2 (word_dec b.2 hw.2).2.2.2).1, add_words a.2 b.2 hw.1 hw.2]
theorem F_skewbackref03_Mul_eq (a b : I) : F_skewbackref03_Mul a b = E (Z.mul a.dec b.dec) := by
  unfold F_skewbackref03_Mul
  show _ = E (Z.mul a.1.dec b.1.dec)
  cases hw : (wordB a.1 && (wordB b.1 && ((decide ((wordW a).1 < 2147483648) && decide (-2147483648 < (wordW a).1)) && (decide ((wordW b).1 < 2147483648) && decide (-2147483648 < (wordW b).1)))))
  · rw [cond_false]
    cases hg : (!a.1.good || (!b.1.good))
    · obtain ⟨ga, gb⟩ := good2' hg
      rw [cond_false, mul_dl a.2 b.2 ga gb]
    · rw [cond_true, Z.mul, lift2_bad (bad2 hg)]
  · rw [cond_true]
    rw [Bool.and_eq_true, Bool.and_eq_true, Bool.and_eq_true] at hw
    obtain ⟨h1, h2, h3, h4⟩ := hw
    show E (Z.of (IntKind.i64.wrap (wordI a.1 * wordI b.1))) = _
    rw [(wmul (x := wordI a.1) (y := wordI b.1) (half_lt h3) (half_lt h4)).1, mul_words a.2 b.2 h1 h2]
theorem len0 (n : Nat) : ((((dl n).length : Nat) : Int) == 0) = (n == 0) := by
  rw [Bool.eq_iff_iff, beq_iff_eq, beq_iff_eq]
  constructor
  · intro h; exact dl_nil.1 (by omega)
  · intro h; rw [dl_nil.2 h]; rfl
theorem F_skewbackref03_Sign_eq (a : I) : F_skewbackref03_Sign a = Z.signW a.dec := by
  unfold F_skewbackref03_Sign
  rw [len0]
  apply Subtype.ext
  show _ = a.1.dec.sign
  cases hg : a.1.good
  · simp only [Bool.not_false, Bool.true_or, cond_true]; exact sign_zero a.2 (.inl hg)
  · cases hz : (val a.1.w == 0)
    · simp only [Bool.not_true, Bool.false_or, cond_false]
      rw [sign_dl a.2 hg (by simpa using hz)]
      cases a.1.neg <;> rfl
    · simp only [Bool.or_true, cond_true]; exact sign_zero a.2 (.inr hz)
theorem F_skewbackref03_Cmp_eq (a b : I) : F_skewbackref03_Cmp a b = Z.cmpW a.dec b.dec := by
  unfold F_skewbackref03_Cmp
  apply Subtype.ext
  show _ = Z.cmp a.1.dec b.1.dec
  cases ga : a.1.good
  · cases gb : b.1.good
    · simp only [Bool.not_false, Bool.and_self, cond_true]; exact cmp_b1 ga gb
    · simp only [Bool.not_true, Bool.and_false, cond_false]; exact cmp_b2 ga b.2 gb
  · cases gb : b.1.good
    · simp only [Bool.not_true, Bool.not_false, Bool.false_and, cond_false, cond_true]; exact cmp_b3 a.2 ga gb
    · simp only [Bool.not_true, Bool.false_and, cond_false, cond_true]
      cases hn : (a.1.neg != b.1.neg)
      · have hn' : a.1.neg = b.1.neg := by simpa using hn
        rw [cond_false]
        cases h1 : a.1.neg
        · rw [cond_false, ← cmp_eqn a.2 b.2 ga gb hn' (val a.1.w) (val b.1.w) (by rw [h1]; exact ⟨rfl, rfl⟩)]
          by_cases h2 : val a.1.w < val b.1.w
          · simp [h2]
          · by_cases h3 : val b.1.w < val a.1.w <;> simp [h2, h3]
        · rw [cond_true, ← cmp_eqn a.2 b.2 ga gb hn' (val b.1.w) (val a.1.w) (by rw [h1]; exact ⟨rfl, rfl⟩)]
          by_cases h2 : val b.1.w < val a.1.w
          · simp [h2]
          · by_cases h3 : val a.1.w < val b.1.w <;> simp [h2, h3]
      · rw [cond_true, ← cmp_ne a.2 b.2 ga gb (by simpa using hn)]
        cases a.1.neg <;> rfl
theorem F_skewbackref03_Quo_eq (a b : I) : F_skewbackref03_Quo a b = E (Z.quo a.dec b.dec) := by
  unfold F_skewbackref03_Quo
  rw [len0]
  show _ = E (Z.quo a.1.dec b.1.dec)
  cases hw : (wordB a.1 && (wordB b.1 && ((wordW b).1 != 0)))
  · rw [cond_false]
    cases hg : (!a.1.good || (!b.1.good || (val b.1.w == 0)))
    · rw [cond_false]
      simp only [Bool.or_eq_false_iff, Bool.not_eq_false', beq_eq_false_iff_ne] at hg
      obtain ⟨ga, gb, h0⟩ := hg
      cases hc : ((a.1.neg != b.1.neg) && decide ((0 : Int) < (((dl (val a.1.w % val b.1.w)).length : Nat) : Int)))
      · rw [cond_false, quo_dl a.2 b.2 ga gb h0]
        rw [Bool.and_eq_false_iff] at hc
        rcases hc with hc | hc
        · exact .inl (by simpa using hc)
        · right
          have := of_decide_eq_false hc
          exact dl_nil.1 (by omega)
      · rw [cond_true, quo_dl1 a.2 b.2 ga gb h0]
        · rw [Bool.and_eq_true] at hc; simpa using hc.1
        · rw [Bool.and_eq_true] at hc
          have := of_decide_eq_true hc.2
          intro h; rw [h, dl_zero] at this; exact absurd this (by decide)
    · rw [cond_true]
      cases ga : a.1.good
      · rw [quo_b (.inl ga)]
      · cases gb : b.1.good
        · rw [quo_b (.inr gb)]
        · rw [ga, gb] at hg
          rw [quo_0 a.2 b.2 ga gb (by simpa using hg)]
  · rw [cond_true]
    have hf := hfl_of hw
    rw [Bool.and_eq_true, Bool.and_eq_true] at hw
    rw [← hf.2.2]
    exact congrArg E (quo_words a.2 b.2 hw.1 hw.2.1 hf.2.1)
end Go.Num
