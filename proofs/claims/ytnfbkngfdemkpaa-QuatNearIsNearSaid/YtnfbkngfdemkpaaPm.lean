/- The rounding of four integers: how near it is. No program stands in it. -/
import Derived.Test.YtnfbkngfdemkpaaPl

set_option linter.unusedVariables false
set_option linter.unusedSimpArgs false
namespace Go.Num
open Go Go.Kn
theorem near1_err {v : Z4} (hz : ¬ v.zero) {x : Int} (hd : ((v.g : Nat) : Int) ∣ x) (hc : 64 < ((v.mx : Nat) : Int) / (v.g : Nat)) : 2 * (x * 64 - near1 v x * (v.mx : Nat)) ≤ (v.mx : Nat) ∧ -((v.mx : Nat) : Int) ≤ 2 * (x * 64 - near1 v x * (v.mx : Nat)) := by
  have hg : 0 < v.g := Nat.pos_of_ne_zero fun e => hz (Z4.g_zero.1 e)
  obtain ⟨w, rfl⟩ := hd
  obtain ⟨m, hm⟩ := v.g_mx
  have e1 : ((v.mx : Nat) : Int) / (v.g : Nat) = m := by rw [hm, Int.natCast_mul, Int.mul_ediv_cancel_left _ (by omega)]
  unfold near1
  rw [if_pos hc, e1, Int.mul_ediv_cancel_left _ (by omega)]
  rw [e1] at hc
  have h := nr_err (n := w * 64) (d := (m : Int)) (by omega)
  rw [hm, Int.natCast_mul]
  have e : 2 * ((v.g : Int) * w * 64 - nr (w * 64) m * ((v.g : Int) * m)) = (v.g : Int) * (2 * (w * 64 - nr (w * 64) m * m)) := by grind
  rw [e]
  constructor
  · exact Int.mul_le_mul_of_nonneg_left h.1 (by omega)
  · rw [← Int.mul_neg]; exact Int.mul_le_mul_of_nonneg_left h.2 (by omega)
theorem near1_le {v : Z4} (hz : ¬ v.zero) {x : Int} (hd : ((v.g : Nat) : Int) ∣ x) (hx : x.natAbs ≤ v.mx) : (near1 v x).natAbs ≤ 64 := by
  have hg : 0 < v.g := Nat.pos_of_ne_zero fun e => hz (Z4.g_zero.1 e)
  by_cases hc : 64 < ((v.mx : Nat) : Int) / (v.g : Nat)
  · obtain ⟨h1, h2⟩ := near1_err hz hd hc
    have hm : 0 < ((v.mx : Nat) : Int) := by
      rcases Nat.eq_zero_or_pos v.mx with e | e
      · rw [e] at hc; simp at hc
      · omega
    generalize near1 v x = r at *
    have a1 : ¬ 65 ≤ r := fun h => by
      have := Int.mul_le_mul_of_nonneg_right h (Int.le_of_lt hm); omega
    have a2 : ¬ r ≤ -65 := fun h => by
      have := Int.mul_le_mul_of_nonneg_right h (Int.le_of_lt hm); omega
    omega
  · unfold near1
    rw [if_neg hc]
    obtain ⟨w, rfl⟩ := hd
    obtain ⟨m, hm⟩ := v.g_mx
    have e1 : ((v.mx : Nat) : Int) / (v.g : Nat) = m := by rw [hm, Int.natCast_mul, Int.mul_ediv_cancel_left _ (by omega)]
    rw [Int.mul_ediv_cancel_left _ (by omega)]
    rw [e1] at hc
    rw [hm, Int.natAbs_mul, Int.natAbs_natCast] at hx
    have := Nat.le_of_mul_le_mul_left hx hg
    omega
theorem near1_top {v : Z4} (hz : ¬ v.zero) {x : Int} (hd : ((v.g : Nat) : Int) ∣ x) (hx : x ≠ 0) (hm : v.mx = x.natAbs) : near1 v x ≠ 0 := by
  have hg : 0 < v.g := Nat.pos_of_ne_zero fun e => hz (Z4.g_zero.1 e)
  by_cases hc : 64 < ((v.mx : Nat) : Int) / (v.g : Nat)
  · obtain ⟨h1, h2⟩ := near1_err hz hd hc
    intro e
    rw [e, Int.zero_mul] at h1 h2
    omega
  · unfold near1
    rw [if_neg hc]
    obtain ⟨w, rfl⟩ := hd
    rw [Int.mul_ediv_cancel_left _ (by omega)]
    rintro rfl; simp at hx
theorem near_zero {v : Z4} (hz : ¬ v.zero) : ¬ v.near.zero := by
  obtain ⟨d1, d2, d3, d4⟩ := v.g_dvd
  obtain ⟨l1, l2, l3, l4⟩ := v.le_mx
  have hp : v.mx ≠ 0 := fun e => hz ⟨by omega, by omega, by omega, by omega⟩
  rintro ⟨z1, z2, z3, z4⟩
  rcases v.mx_at with e | e | e | e
  · exact near1_top hz d1 (by omega) e z1
  · exact near1_top hz d2 (by omega) e z2
  · exact near1_top hz d3 (by omega) e z3
  · exact near1_top hz d4 (by omega) e z4
theorem near_le {v : Z4} (hz : ¬ v.zero) : v.near.Low 65 := by
  obtain ⟨d1, d2, d3, d4⟩ := v.g_dvd
  obtain ⟨l1, l2, l3, l4⟩ := v.le_mx
  exact ⟨Nat.lt_succ_of_le (near1_le hz d1 l1), Nat.lt_succ_of_le (near1_le hz d2 l2), Nat.lt_succ_of_le (near1_le hz d3 l3), Nat.lt_succ_of_le (near1_le hz d4 l4)⟩
theorem dir_le {v : Z4} {n : Nat} (hz : ¬ v.zero) (h : v.Low n) : v.dir.Low n := by
  have e := Z4.smul_dir hz
  have hm := Z4.m_ne hz
  have k : ∀ d x : Int, v.m * d = x → d.natAbs ≤ x.natAbs := fun d x h => by rw [← h, Int.natAbs_mul]; exact Nat.le_mul_of_pos_left _ (by omega)
  obtain ⟨h1, h2, h3, h4⟩ := h
  have e1 := congrArg Z4.x e
  have e2 := congrArg Z4.y e
  have e3 := congrArg Z4.z e
  have e4 := congrArg Z4.t e
  exact ⟨Nat.lt_of_le_of_lt (k _ _ e1) h1, Nat.lt_of_le_of_lt (k _ _ e2) h2, Nat.lt_of_le_of_lt (k _ _ e3) h3, Nat.lt_of_le_of_lt (k _ _ e4) h4⟩
/-- A direction is its own rounding. -/
theorem near_self {q : Z4} (hz : ¬ q.zero) (h : q.dir = q) (hl : q.Low 65) : q.near = q := by
  have hm : q.m = 1 := by
    have e := Z4.smul_dir hz
    rw [h] at e
    have h1 := Z4.m_smul (Z4.m_ne hz) q
    rw [e] at h1
    have h0 := Z4.m_ne hz
    have : q.m * (q.m - 1) = 0 := by grind
    rcases Int.mul_eq_zero.1 this with e | e
    · exact absurd e h0
    · omega
  have hg : q.g = 1 := by have := Z4.m_abs hz; rw [hm] at this; exact this.symm
  have hx : q.mx ≤ 64 := by obtain ⟨h1, h2, h3, h4⟩ := hl; unfold Z4.mx; omega
  have e : ∀ x : Int, near1 q x = x := fun x => by
    unfold near1
    rw [hg, show (((1 : Nat)) : Int) = 1 from rfl, Int.ediv_one, Int.ediv_one, if_neg (by omega)]
  exact Z4.ext (e _) (e _) (e _) (e _)
end Go.Num
