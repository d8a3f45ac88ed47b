/- What the rounding of four great integers computes. No program stands in it. -/
import Derived.Test.YtnfbkngfdemkpaaPj

set_option linter.unusedVariables false
set_option linter.unusedSimpArgs false
namespace Go.Num
open Go Go.Kn
theorem max_of' {n m : Nat} (hn : n < 2 ^ 64) (hm : m < 2 ^ 64) : (bif decide (0 < (Z.cmpW (Z.of (n : Int)) (Z.of (m : Int))).1) then E (Z.of (n : Int)) else E (Z.of (m : Int))) = E (Z.of ((max m n : Nat) : Int)) := by
  have := max_of hn hm
  rwa [E_dec] at this
def Z4.mx (v : Z4) : Nat := max (max (max (max 0 v.x.natAbs) v.y.natAbs) v.z.natAbs) v.t.natAbs
def near1 (v : Z4) (x : Int) : Int := if 64 < (v.mx : Int) / (v.g : Nat) then nr (x / (v.g : Nat) * 64) ((v.mx : Int) / (v.g : Nat)) else x / (v.g : Nat)
def Z4.near (v : Z4) : Z4 := ⟨near1 v v.x, near1 v v.y, near1 v v.z, near1 v v.t⟩
def Z4.Low (v : Z4) (n : Nat) : Prop := v.x.natAbs < n ∧ v.y.natAbs < n ∧ v.z.natAbs < n ∧ v.t.natAbs < n
theorem okN {v : Int} (h : v.natAbs < 2 ^ 52) : ((E (Z.of v)).1.bad || (!(E (Z.of v)).1.valid || decide (400 < (Z.bitsW (Z.of v)).1))) = false := by
  have hb : B512 v := small_B (by omega)
  have hg := good_E hb
  unfold R.good at hg
  simp only [Bool.and_eq_true, Bool.not_eq_true'] at hg
  rw [hg.1, hg.2, decide_eq_false]; rfl
  show ¬ (400 : Int) < ((Z.of v).bits : Nat)
  unfold Z.bits
  rw [Z.of_some hb]
  have := bl_small (n := v.natAbs) (k := 52) h
  simp only
  omega
theorem I0_E : I0 = E (Z.of 0) := rfl
theorem gcd52 {u v : Int} (hu : u.natAbs < 2 ^ 52) (hv : v.natAbs < 2 ^ 52) : ((Int.gcd u v : Nat) : Int).natAbs < 2 ^ 52 := by
  rw [Int.natAbs_natCast]
  by_cases h : v = 0
  · subst h; rw [Int.gcd_zero_right]; exact hu
  · exact Nat.lt_of_le_of_lt (Nat.le_of_dvd (by omega) (Int.gcd_dvd_natAbs_right u v)) hv
end Go.Num
namespace Go.Num
open Go Go.Kn
theorem one_eq {v : Z4} (h : v.Low (2 ^ 52)) (hz : ¬ v.zero) {x : Int} (hx : x.natAbs < 2 ^ 52) (hm : x.natAbs ≤ v.mx) :
    (Z.smallW (bif decide (0 < (Z.cmpW (Z.quo (Z.of ((v.mx : Nat) : Int)) (Z.of ((v.g : Nat) : Int))) (Z.of 64)).1) then (F_quat_nearest (E (Z.mul (Z.quo (Z.of x) (Z.of ((v.g : Nat) : Int))) (Z.of 64))) (E (Z.quo (Z.of ((v.mx : Nat) : Int)) (Z.of ((v.g : Nat) : Int))))) else (E (Z.quo (Z.of x) (Z.of ((v.g : Nat) : Int))))).dec).1 = near1 v x := by
  obtain ⟨h1, h2, h3, h4⟩ := h
  have hg : 0 < v.g := Nat.pos_of_ne_zero fun e => hz (Z4.g_zero.1 e)
  have hmx : v.mx < 2 ^ 52 := by unfold Z4.mx; omega
  have hgl : v.g < 2 ^ 52 := by
    have := gcd52 (u := (Int.gcd (Int.gcd (Int.gcd (0 : Nat) v.x : Nat) v.y : Nat) v.z : Nat)) (v := v.t) (gcd52 (gcd52 (gcd52 (by decide) h1) h2) h3) h4
    rw [Int.natAbs_natCast] at this; exact this
  have bg : B512 ((v.g : Nat) : Int) := small_B (by omega)
  have bx : B512 x := small_B (by omega)
  have bm : B512 ((v.mx : Nat) : Int) := small_B (by omega)
  have q1 : 0 ≤ ((v.mx : Nat) : Int) / (v.g : Nat) := Int.ediv_nonneg (by omega) (by omega)
  have q2 : ((v.mx : Nat) : Int) / (v.g : Nat) ≤ (v.mx : Nat) := Int.ediv_le_self _ (by omega)
  have q3 : (x / (v.g : Nat)).natAbs ≤ x.natAbs := Int.natAbs_ediv_le_natAbs _ _
  have b1 : B512 (((v.mx : Nat) : Int) / (v.g : Nat)) := small_B (by omega)
  have b2 : B512 (x / (v.g : Nat)) := small_B (by omega)
  have b64 : B512 64 := by decide
  rw [quo_of bm bg (by omega), quo_of bx bg (by omega), fdiv_pos (by omega), fdiv_pos (by omega), cmpZ_of b1 b64, cmp_pos]
  unfold near1
  by_cases hc : 64 < ((v.mx : Nat) : Int) / (v.g : Nat)
  · rw [decide_eq_true hc, cond_true, if_pos hc, mul_of b2 b64, nearest_of (by omega) (by omega) (by omega) (by omega), E_dec]
    have e : (nr (x / (v.g : Nat) * 64) (((v.mx : Nat) : Int) / (v.g : Nat))).natAbs ≤ (x / (v.g : Nat) * 64).natAbs + 1 := by
      unfold nr
      split
      · have := nr0_le (n := -(x / (v.g : Nat) * 64)) (d := ((v.mx : Nat) : Int) / (v.g : Nat)) (by omega) (by omega); omega
      · have := nr0_le (n := x / (v.g : Nat) * 64) (d := ((v.mx : Nat) : Int) / (v.g : Nat)) (by omega) (by omega); omega
    exact smallW_of (by omega) (by omega)
  · rw [decide_eq_false hc, cond_false, if_neg hc, E_dec]
    exact smallW_of (by omega) (by omega)
theorem near_eq {v : Z4} (h : v.Low (2 ^ 52)) (hz : ¬ v.zero) : ∃ r : A4 W, r.i = v.near ∧ F_quat_Near (⟨E (Z.of v.x), E (Z.of v.y), E (Z.of v.z), E (Z.of v.t)⟩ : A4 I) = ((F_quat_direction r).1, wl 0) := by
  have h' := h
  obtain ⟨h1, h2, h3, h4⟩ := h
  have hg : 0 < v.g := Nat.pos_of_ne_zero fun e => hz (Z4.g_zero.1 e)
  have B : ∀ {u : Int}, u.natAbs < 2 ^ 52 → B512 u := fun hu => small_B (by omega)
  have c1 := gcd52 (u := ((0 : Nat) : Int)) (v := v.x) (by decide) h1
  have c2 := gcd52 c1 h2
  have c3 := gcd52 c2 h3
  have hgl : ((v.g : Nat) : Int).natAbs < 2 ^ 52 := gcd52 c3 h4
  unfold F_quat_Near
  simp only [E_dec]
  rw [okN h1, okN h2, okN h3, okN h4]
  simp only [cond_false]
  have eI : I0.dec = Z.of ((0 : Nat) : Int) := rfl
  have e0 : I0 = E (Z.of ((0 : Nat) : Int)) := rfl
  have eg : Z.gcd (Z.gcd (Z.gcd (Z.gcd I0.dec (Z.of v.x)) (Z.of v.y)) (Z.of v.z)) (Z.of v.t) = Z.of ((v.g : Nat) : Int) := by
    rw [eI, gcd_of (B (by decide)) (B h1), gcd_of (B c1) (B h2), gcd_of (B c2) (B h3), gcd_of (B c3) (B h4)]; rfl
  rw [eg, abs_of (B h1), abs_of (B h2), abs_of (B h3), abs_of (B h4), eI, e0, max_of' (by omega) (by decide)]
  simp only [E_dec]
  have m1 : max 0 v.x.natAbs < 2 ^ 52 := by omega
  have m2 : max (max 0 v.x.natAbs) v.y.natAbs < 2 ^ 52 := by omega
  have m3 : max (max (max 0 v.x.natAbs) v.y.natAbs) v.z.natAbs < 2 ^ 52 := by omega
  rw [max_of' (by omega) (by omega)]
  simp only [E_dec]
  rw [max_of' (by omega) (by omega)]
  simp only [E_dec]
  rw [max_of' (by omega) (by omega)]
  simp only [E_dec]
  rw [show ((Z.signW (Z.of ((v.g : Nat) : Int))).1 == 0) = false by rw [signW_of (B hgl), Int.sign_eq_one_of_pos (by omega)]; rfl, cond_false]
  refine ⟨_, ?_, rfl⟩
  have hmx : max (max (max (max 0 v.x.natAbs) v.y.natAbs) v.z.natAbs) v.t.natAbs = v.mx := rfl
  simp only [hmx]
  refine Z4.ext (one_eq h' hz h1 ?_) (one_eq h' hz h2 ?_) (one_eq h' hz h3 ?_) (one_eq h' hz h4 ?_) <;> (unfold Z4.mx; omega)
end Go.Num
