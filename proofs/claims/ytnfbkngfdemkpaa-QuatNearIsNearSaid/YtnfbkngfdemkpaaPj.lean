/- Rounding of four great integers. No program stands in it. -/
import Derived.Test.YtnfbkngfdemkpaaPi
import Derived.Test.YtnfbkngfdemkpaaPe

set_option linter.unusedVariables false
set_option linter.unusedSimpArgs false
namespace Go.Num
open Go Go.Kn
theorem small_B {v : Int} (h : v.natAbs < 2 ^ 64) : B512 v := Nat.lt_of_lt_of_le h (by decide)
theorem cmpZ_of {u v : Int} (hu : B512 u) (hv : B512 v) : (Z.cmpW (Z.of u) (Z.of v)).1 = cmpI u v := by
  show Z.cmp (Z.of u) (Z.of v) = _
  unfold Z.cmp
  rw [Z.of_some hu, Z.of_some hv]
theorem cmp_pos (u v : Int) : decide (0 < cmpI u v) = decide (v < u) := by
  unfold cmpI
  by_cases h1 : u < v
  · rw [if_pos h1, decide_eq_false (by decide), decide_eq_false (by omega)]
  · rw [if_neg h1]
    by_cases h2 : u = v
    · rw [if_pos h2, decide_eq_false (by decide), decide_eq_false (by omega)]
    · rw [if_neg h2, decide_eq_true (by decide), decide_eq_true (by omega)]
theorem abs_of {u : Int} (hu : B512 u) : Z.abs (Z.of u) = Z.of (u.natAbs : Nat) := by rw [Z.abs, lift1_some (Z.of_some hu)]
theorem rem_of {u v : Int} (hu : B512 u) (hv : B512 v) (h : v ≠ 0) : Z.rem (Z.of u) (Z.of v) = Z.of (u.fmod v) := by rw [Z.rem, lift2_some (Z.of_some hu) (Z.of_some hv), if_neg h]
theorem smallW_of {v : Int} (h1 : -9223372036854775808 ≤ v) (h2 : v ≤ 9223372036854775807) : (Z.smallW (Z.of v)).1 = v := by
  show (Z.of v).small.1 = v
  unfold Z.small
  rw [Z.of_some (small_B (by omega))]
  simp only
  rw [if_pos (by omega)]
theorem max_of {n m : Nat} (hn : n < 2 ^ 64) (hm : m < 2 ^ 64) : (bif decide (0 < (Z.cmpW (Z.of (n : Int)) (E (Z.of (m : Int))).dec).1) then E (Z.of (n : Int)) else E (Z.of (m : Int))) = E (Z.of ((max m n : Nat) : Int)) := by
  rw [E_dec, cmpZ_of (small_B (by omega)) (small_B (by omega)), cmp_pos]
  by_cases h : (m : Int) < (n : Int)
  · rw [decide_eq_true h, cond_true, show max m n = n from Nat.max_eq_right (by omega)]
  · rw [decide_eq_false h, cond_false, show max m n = m from Nat.max_eq_left (by omega)]
/-- The nearest integer to n / d; of two, the one nearer to 0. -/
def nr0 (n d : Int) : Int := n / d + if d < 2 * (n % d) then 1 else 0
def nr (n d : Int) : Int := if n < 0 then -(nr0 (-n) d) else nr0 n d
theorem nr0_le {n d : Int} (hn : 0 ≤ n) (hd : 0 < d) : 0 ≤ nr0 n d ∧ nr0 n d ≤ n + 1 := by
  unfold nr0
  have h1 := Int.ediv_nonneg hn (Int.le_of_lt hd)
  have h2 := Int.ediv_le_self d hn
  split <;> omega
theorem nr0_err {n d : Int} (hd : 0 < d) : 2 * (n - nr0 n d * d) ≤ d ∧ -d ≤ 2 * (n - nr0 n d * d) := by
  unfold nr0
  have h1 := Int.emod_add_mul_ediv n d
  have h2 := Int.emod_nonneg n (show d ≠ 0 by omega)
  have h3 := Int.emod_lt_of_pos n hd
  split
  · rename_i h
    have e : (n / d + 1) * d = d * (n / d) + d := by grind
    rw [e]; omega
  · rename_i h
    have e : (n / d + 0) * d = d * (n / d) := by grind
    rw [e]; omega
theorem nr_err {n d : Int} (hd : 0 < d) : 2 * (n - nr n d * d) ≤ d ∧ -d ≤ 2 * (n - nr n d * d) := by
  unfold nr
  split
  · have h := nr0_err (n := -n) hd
    have e : -(nr0 (-n) d) * d = -(nr0 (-n) d * d) := by grind
    rw [e]; omega
  · exact nr0_err hd
theorem nr_neg (n : Int) {d : Int} (hd : 0 < d) : nr (-n) d = -(nr n d) := by
  unfold nr
  by_cases h : n < 0
  · rw [if_pos h, if_neg (by omega)]; omega
  · rw [if_neg h]
    by_cases h0 : n = 0
    · subst h0
      have e : nr0 0 d = 0 := by unfold nr0; rw [Int.zero_ediv, Int.zero_emod, if_neg (by omega)]; rfl
      rw [Int.neg_zero, if_neg (by decide), e]; rfl
    · rw [if_pos (by omega), Int.neg_neg]
theorem fmod_pos {u g : Int} (hg : 0 < g) : u.fmod g = u % g := Int.fmod_eq_emod_of_nonneg _ (Int.le_of_lt hg)
theorem nearest0 {n d : Int} (k : Nat) (hn : 0 ≤ n) (hn2 : n < 2 ^ 60) (hd : 0 < d) (hd2 : d < 2 ^ 60) : F_quat_nearest_f (k + 1) (E (Z.of n)) (E (Z.of d)) = E (Z.of (nr0 n d)) := by
  have bn : B512 n := small_B (by omega)
  have bd : B512 d := small_B (by omega)
  have q1 := Int.ediv_nonneg hn (Int.le_of_lt hd)
  have q2 := Int.ediv_le_self d hn
  have r1 := Int.emod_nonneg n (show d ≠ 0 by omega)
  have r2 := Int.emod_lt_of_pos n hd
  rw [F_quat_nearest_f]
  simp only [E_dec]
  rw [signW_of bn, decide_eq_false (by rw [Int.sign_neg_iff]; omega), cond_false, rem_of bn bd (by omega), quo_of bn bd (by omega), fmod_pos hd, fdiv_pos hd,
    add_of (small_B (by omega)) (small_B (by omega)), cmpZ_of (small_B (by omega)) bd, cmp_pos, add_of (small_B (by omega)) B1]
  unfold nr0
  by_cases h : d < n % d + n % d
  · rw [decide_eq_true h, cond_true, if_pos (by omega)]
  · rw [decide_eq_false h, cond_false, if_neg (by omega), Int.add_zero]
theorem nearest_of {n d : Int} (hn : -2 ^ 60 < n) (hn2 : n < 2 ^ 60) (hd : 0 < d) (hd2 : d < 2 ^ 60) : F_quat_nearest (E (Z.of n)) (E (Z.of d)) = E (Z.of (nr n d)) := by
  have bn : B512 n := small_B (by omega)
  unfold F_quat_nearest nr
  rw [E_dec, signW_of bn]
  by_cases h : n < 0
  · rw [if_pos h, decide_eq_true (Int.sign_neg_iff.2 h), cond_true, F_quat_nearest_f]
    have e := nr0_le (n := -n) (d := d) (by omega) hd
    rw [E_dec, signW_of bn, decide_eq_true (Int.sign_neg_iff.2 h), cond_true, neg_of bn, nearest0 0 (by omega) (by omega) hd hd2, E_dec, neg_of (small_B (by omega))]
  · rw [if_neg h, decide_eq_false (by rw [Int.sign_neg_iff]; exact h), cond_false]
    exact nearest0 0 (by omega) hn2 hd hd2
end Go.Num
