/- What the remainder of the reference computes. No program stands in it. -/
import Derived.Test.YtapbefpeopaecaaGreatDoorZFSr
import Derived.Test.YtapbefpeopaecaaGreatDoorZPa

set_option linter.unusedVariables false
set_option linter.unusedSimpArgs false
namespace Go.Num
open Go Go.Kn
theorem lr_ (n m : Bool) {x y : Nat} (hy : 0 < y) : (sgn n x).fmod (sgn m y) = if n ≠ m ∧ x % y ≠ 0 then sgn m (y - x % y) else sgn m (x % y) := by
  rw [Int.fmod_def, jz_ n m hy]
  have h1 := Nat.div_add_mod x y
  have h2 := Nat.mod_lt x hy
  have e : ((x : Nat) : Int) = (y : Int) * ((x / y : Nat) : Int) + ((x % y : Nat) : Int) := by exact_mod_cast h1.symm
  have e2 : (y : Int) * (-((x / y : Nat) : Int) - 1) = -((y : Int) * ((x / y : Nat) : Int)) - y := by grind
  have e3 : (y : Int) * (-((x / y : Nat) : Int)) = -((y : Int) * ((x / y : Nat) : Int)) := by grind
  have e4 : (-(y : Int)) * (-((x / y : Nat) : Int) - 1) = ((y : Int) * ((x / y : Nat) : Int)) + y := by grind
  have e5 : (-(y : Int)) * (-((x / y : Nat) : Int)) = ((y : Int) * ((x / y : Nat) : Int)) := by grind
  have e6 : (-(y : Int)) * ((x / y : Nat) : Int) = -((y : Int) * ((x / y : Nat) : Int)) := by grind
  cases n <;> cases m <;> by_cases h0 : x % y = 0 <;> simp only [sgn_t, sgn_f, reduceIte, Bool.false_eq_true, Bool.true_eq_false, reduceCtorEq, ne_eq, not_true_eq_false, not_false_eq_true, false_and, true_and, and_self, h0] <;> omega
theorem rI_ {x y : W} (hx : -4611686018427387904 < x.1 ∧ x.1 < 4611686018427387904) (hy : -4611686018427387904 < y.1 ∧ y.1 < 4611686018427387904) (h0 : y.1 ≠ 0) (hf : x.1.fdiv y.1 = (W.fdiv x y).1) :
    (W.sub x (W.mul y (W.fdiv x y))).1 = x.1.fmod y.1 := by
  have e : x.1.fmod y.1 = x.1 - y.1 * x.1.fdiv y.1 := Int.fmod_def ..
  have hb : (x.1.fmod y.1).natAbs < y.1.natAbs := by
    rcases Int.lt_or_gt_of_ne h0 with h | h
    · have h1 := Int.fmod_nonneg_of_pos (-x.1) (show 0 < -y.1 by omega)
      have h2 := Int.fmod_lt_of_pos (-x.1) (show 0 < -y.1 by omega)
      rw [Int.neg_fmod_neg] at h1 h2
      omega
    · have h1 := Int.fmod_nonneg_of_pos x.1 h
      have h2 := Int.fmod_lt_of_pos x.1 h
      omega
  show IntKind.i64.wrap (x.1 - IntKind.i64.wrap (y.1 * (W.fdiv x y).1)) = _
  rw [← hf, aK_ (n := y.1 * x.1.fdiv y.1) (by unfold I64; omega), ← e, aK_ (by unfold I64; omega)]
theorem m0_ {a b : R} (ha : a.Ok) (hb : b.Ok) (h : wordB a = true) (k : wordB b = true) (h0 : wordI b ≠ 0) : Z.of ((wordI a).fmod (wordI b)) = Z.rem a.dec b.dec := by
  rw [Z.rem, bb_ (dp_ ha h).1 (dp_ hb k).1, if_neg h0]
theorem rem_b {a b : R} (h : a.good = false ∨ b.good = false) : Z.bad = Z.rem a.dec b.dec := by
  rw [Z.rem, dJ_ (h.imp bad1 bad1)]
theorem rem_0 {a b : R} (ha : a.Ok) (hb : b.Ok) (ga : a.good = true) (gb : b.good = true) (h : val b.w = 0) : Z.bad = Z.rem a.dec b.dec := by
  rw [Z.rem, bb_ (aU_ ha ga) (aU_ hb gb), if_pos (by rw [h]; cases b.neg <;> rfl)]
theorem r8_ {a b : R} (ha : a.Ok) (hb : b.Ok) (ga : a.good = true) (gb : b.good = true) (h0 : val b.w ≠ 0) (h : a.neg = b.neg ∨ val a.w % val b.w = 0) : Z.of (sgn b.neg (val a.w % val b.w)) = Z.rem a.dec b.dec := by
  have hp : 0 < val b.w := Nat.pos_of_ne_zero h0
  rw [Z.rem, bb_ (aU_ ha ga) (aU_ hb gb), if_neg (i9_ hp), lr_ _ _ hp, if_neg]
  rintro ⟨h1, h2⟩
  exact h.elim h1 h2
theorem qn_ {a b : R} (ha : a.Ok) (hb : b.Ok) (ga : a.good = true) (gb : b.good = true) (h0 : val b.w ≠ 0) (hn : a.neg ≠ b.neg) (h : val a.w % val b.w ≠ 0) : Z.of (sgn b.neg (val b.w - val a.w % val b.w)) = Z.rem a.dec b.dec := by
  have hp : 0 < val b.w := Nat.pos_of_ne_zero h0
  rw [Z.rem, bb_ (aU_ ha ga) (aU_ hb gb), if_neg (i9_ hp), lr_ _ _ hp, if_pos ⟨hn, h⟩]
theorem gs_ (a b : I) : cY_ a b = E (Z.rem a.dec b.dec) := by
  unfold cY_
  rw [len0]
  show _ = E (Z.rem a.1.dec b.1.dec)
  cases hw : (wordB a.1 && (wordB b.1 && ((wordW b).1 != 0)))
  · rw [cond_false]
    cases hg : (!a.1.good || (!b.1.good || (val b.1.w == 0)))
    · rw [cond_false]
      simp only [Bool.or_eq_false_iff, Bool.not_eq_false', beq_eq_false_iff_ne] at hg
      obtain ⟨ga, gb, h0⟩ := hg
      cases hc : ((a.1.neg != b.1.neg) && decide ((0 : Int) < (((dl (val a.1.w % val b.1.w)).length : Nat) : Int)))
      · rw [cond_false, r8_ a.2 b.2 ga gb h0]
        rw [Bool.and_eq_false_iff] at hc
        rcases hc with hc | hc
        · exact .inl (by simpa using hc)
        · right
          have := of_decide_eq_false hc
          exact lu_.1 (by omega)
      · rw [cond_true, qn_ a.2 b.2 ga gb h0]
        · rw [Bool.and_eq_true] at hc; simpa using hc.1
        · rw [Bool.and_eq_true] at hc
          have := of_decide_eq_true hc.2
          intro h; rw [h, es_] at this; exact absurd this (by decide)
    · rw [cond_true]
      cases ga : a.1.good
      · rw [rem_b (.inl ga)]
      · cases gb : b.1.good
        · rw [rem_b (.inr gb)]
        · rw [ga, gb] at hg
          rw [rem_0 a.2 b.2 ga gb (by simpa using hg)]
  · rw [cond_true]
    have hf := lW_ hw
    rw [Bool.and_eq_true, Bool.and_eq_true] at hw
    show E (Z.of (W.sub (wordW a) (W.mul (wordW b) (W.fdiv (wordW a) (wordW b)))).1) = _
    rw [rI_ (dp_ a.2 hw.1).2.2.2 (dp_ b.2 hw.2.1).2.2.2 hf.2.1 hf.2.2]
    exact congrArg E (m0_ a.2 b.2 hw.1 hw.2.1 hf.2.1)
end Go.Num

