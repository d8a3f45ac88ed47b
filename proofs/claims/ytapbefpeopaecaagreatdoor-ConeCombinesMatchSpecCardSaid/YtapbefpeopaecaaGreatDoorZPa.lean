/- What the reference's operations on whole numbers compute is what they should. No program stands in it. -/
import Derived.Test.YtapbefpeopaecaaGreatDoorZFSg

set_option linter.unusedVariables false
set_option linter.unusedSimpArgs false
namespace Go.Num
open Go Go.Kn
theorem bad2 {a b : I} (h : (!a.1.good || (!b.1.good)) = true) : a.1.dec.o = none ∨ b.1.dec.o = none := by
  cases ha : a.1.good
  · exact .inl (bad1 ha)
  · cases hb : b.1.good
    · exact .inr (bad1 hb)
    · rw [ha, hb] at h; cases h
theorem pw_ {a b : I} (h : (!a.1.good || (!b.1.good)) = false) : a.1.good = true ∧ b.1.good = true := by
  cases ha : a.1.good <;> cases hb : b.1.good <;> rw [ha, hb] at h <;> first | exact ⟨rfl, rfl⟩ | cases h
theorem gt_ (a : I) : dt_ a = E (Z.neg a.dec) := by
  unfold dt_
  show _ = E (Z.neg a.1.dec)
  cases h : a.1.good
  · rw [cond_false, Z.neg, gL_ (bad1 h)]
  · rw [cond_true, rB_ a.2 h]
theorem gl_ (a : I) : dw_ a = E (Z.abs a.dec) := by
  unfold dw_
  show _ = E (Z.abs a.1.dec)
  cases h : a.1.good
  · rw [cond_false, Z.abs, gL_ (bad1 h)]
  · rw [cond_true, rP_ a.2 h]
theorem gq_ (a b : I) : cJ_ a b = E (Z.add a.dec b.dec) := by
  unfold cJ_
  show _ = E (Z.add a.1.dec b.1.dec)
  cases hw : (wordB a.1 && wordB b.1)
  · rw [cond_false]
    cases hg : (!a.1.good || (!b.1.good))
    · obtain ⟨ga, gb⟩ := pw_ hg
      rw [cond_false]
      cases hn : (a.1.neg == b.1.neg)
      · rw [cond_false]
        have hn' : a.1.neg ≠ b.1.neg := by simpa using hn
        cases hl : decide (val a.1.w < val b.1.w)
        · rw [cond_false, rU_ a.2 b.2 ga gb hn' (of_decide_eq_false hl)]
        · rw [cond_true, rX_ a.2 b.2 ga gb hn' (of_decide_eq_true hl)]
      · rw [cond_true, qX_ a.2 b.2 ga gb (by simpa using hn)]
    · rw [cond_true, Z.add, dJ_ (bad2 hg)]
  · rw [cond_true]
    rw [Bool.and_eq_true] at hw
    show E (Z.of (IntKind.i64.wrap (wordI a.1 + wordI b.1))) = _
    rw [(wadd (dp_ a.2 hw.1).2.2.2 (dp_ b.2 hw.2).2.2.2).1, m2_ a.2 b.2 hw.1 hw.2]
theorem go_ (a b : I) : fA_ a b = E (Z.sub a.dec b.dec) := rfl
theorem gp_ (a b : I) : de_ a b = E (Z.mul a.dec b.dec) := by
  unfold de_
  show _ = E (Z.mul a.1.dec b.1.dec)
  cases hw : (wordB a.1 && (wordB b.1 && ((decide ((wordW a).1 < 2147483648) && decide (-2147483648 < (wordW a).1)) && (decide ((wordW b).1 < 2147483648) && decide (-2147483648 < (wordW b).1)))))
  · rw [cond_false]
    cases hg : (!a.1.good || (!b.1.good))
    · obtain ⟨ga, gb⟩ := pw_ hg
      rw [cond_false, rv_ a.2 b.2 ga gb]
    · rw [cond_true, Z.mul, dJ_ (bad2 hg)]
  · rw [cond_true]
    rw [Bool.and_eq_true, Bool.and_eq_true, Bool.and_eq_true] at hw
    obtain ⟨h1, h2, h3, h4⟩ := hw
    show E (Z.of (IntKind.i64.wrap (wordI a.1 * wordI b.1))) = _
    rw [(wmul (x := wordI a.1) (y := wordI b.1) (nj_ h3) (nj_ h4)).1, n5_ a.2 b.2 h1 h2]
theorem len0 (n : Nat) : ((((dl n).length : Nat) : Int) == 0) = (n == 0) := by
  rw [Bool.eq_iff_iff, beq_iff_eq, beq_iff_eq]
  constructor
  · intro h; exact lu_.1 (by omega)
  · intro h; rw [lu_.2 h]; rfl
theorem f2_ (a : I) : da_ a = Z.signW a.dec := by
  unfold da_
  rw [len0]
  apply Subtype.ext
  show _ = a.1.dec.sign
  cases hg : a.1.good
  · simp only [Bool.not_false, Bool.true_or, cond_true]; exact hs_ a.2 (.inl hg)
  · cases hz : (val a.1.w == 0)
    · simp only [Bool.not_true, Bool.false_or, cond_false]
      rw [qg_ a.2 hg (by simpa using hz)]
      cases a.1.neg <;> rfl
    · simp only [Bool.or_true, cond_true]; exact hs_ a.2 (.inr hz)
theorem gn_ (a b : I) : bA_ a b = Z.cmpW a.dec b.dec := by
  unfold bA_
  apply Subtype.ext
  show _ = Z.cmp a.1.dec b.1.dec
  cases ga : a.1.good
  · cases gb : b.1.good
    · simp only [Bool.not_false, Bool.and_self, cond_true]; exact nC_ ga gb
    · simp only [Bool.not_true, Bool.and_false, cond_false]; exact od_ ga b.2 gb
  · cases gb : b.1.good
    · simp only [Bool.not_true, Bool.not_false, Bool.false_and, cond_false, cond_true]; exact m8_ a.2 ga gb
    · simp only [Bool.not_true, Bool.false_and, cond_false, cond_true]
      cases hn : (a.1.neg != b.1.neg)
      · have hn' : a.1.neg = b.1.neg := by simpa using hn
        rw [cond_false]
        cases h1 : a.1.neg
        · rw [cond_false, ← oh_ a.2 b.2 ga gb hn' (val a.1.w) (val b.1.w) (by rw [h1]; exact ⟨rfl, rfl⟩)]
          by_cases h2 : val a.1.w < val b.1.w
          · simp [h2]
          · by_cases h3 : val b.1.w < val a.1.w <;> simp [h2, h3]
        · rw [cond_true, ← oh_ a.2 b.2 ga gb hn' (val b.1.w) (val a.1.w) (by rw [h1]; exact ⟨rfl, rfl⟩)]
          by_cases h2 : val b.1.w < val a.1.w
          · simp [h2]
          · by_cases h3 : val a.1.w < val b.1.w <;> simp [h2, h3]
      · rw [cond_true, ← rx_ a.2 b.2 ga gb (by simpa using hn)]
        cases a.1.neg <;> rfl
theorem gu_ (a b : I) : cX_ a b = E (Z.quo a.dec b.dec) := by
  unfold cX_
  rw [len0]
  show _ = E (Z.quo a.1.dec b.1.dec)
  cases hw : (wordB a.1 && (wordB b.1 && ((wordW b).1 != 0)))
  · rw [cond_false]
    cases hg : (!a.1.good || (!b.1.good || (val b.1.w == 0)))
    · rw [cond_false]
      simp only [Bool.or_eq_false_iff, Bool.not_eq_false', beq_eq_false_iff_ne] at hg
      obtain ⟨ga, gb, h0⟩ := hg
      cases hc : ((a.1.neg != b.1.neg) && decide ((0 : Int) < (((dl (val a.1.w % val b.1.w)).length : Nat) : Int)))
      · rw [cond_false, ry_ a.2 b.2 ga gb h0]
        rw [Bool.and_eq_false_iff] at hc
        rcases hc with hc | hc
        · exact .inl (by simpa using hc)
        · right
          have := of_decide_eq_false hc
          exact lu_.1 (by omega)
      · rw [cond_true, ra_ a.2 b.2 ga gb h0]
        · rw [Bool.and_eq_true] at hc; simpa using hc.1
        · rw [Bool.and_eq_true] at hc
          have := of_decide_eq_true hc.2
          intro h; rw [h, es_] at this; exact absurd this (by decide)
    · rw [cond_true]
      cases ga : a.1.good
      · rw [quo_b (.inl ga)]
      · cases gb : b.1.good
        · rw [quo_b (.inr gb)]
        · rw [ga, gb] at hg
          rw [quo_0 a.2 b.2 ga gb (by simpa using hg)]
  · rw [cond_true]
    have hf := lW_ hw
    rw [Bool.and_eq_true, Bool.and_eq_true] at hw
    rw [← hf.2.2]
    exact congrArg E (nZ_ a.2 b.2 hw.1 hw.2.1 hf.2.1)
end Go.Num

