/- The rounding of four integers: multiples, bounds. No program stands in it. -/
import Derived.Test.YtnfbkngfdemkpaaPk

set_option linter.unusedVariables false
set_option linter.unusedSimpArgs false
namespace Go.Num
open Go Go.Kn
theorem Z4.mx_smul (c : Int) (v : Z4) : (v.smul c).mx = c.natAbs * v.mx := by
  unfold Z4.mx Z4.smul
  simp only [Int.natAbs_mul, Nat.zero_max]
  rw [← Nat.mul_max_mul_left, ← Nat.mul_max_mul_left, ← Nat.mul_max_mul_left]
theorem Z4.le_mx (v : Z4) : v.x.natAbs ≤ v.mx ∧ v.y.natAbs ≤ v.mx ∧ v.z.natAbs ≤ v.mx ∧ v.t.natAbs ≤ v.mx := by unfold Z4.mx; omega
theorem Z4.mx_at (v : Z4) : v.mx = v.x.natAbs ∨ v.mx = v.y.natAbs ∨ v.mx = v.z.natAbs ∨ v.mx = v.t.natAbs := by unfold Z4.mx; omega
theorem Z4.g_mx (v : Z4) : v.g ∣ v.mx := by
  obtain ⟨h1, h2, h3, h4⟩ := v.g_dvd
  rcases v.mx_at with e | e | e | e <;> rw [e] <;> exact Int.ofNat_dvd_left.1 (by assumption)
theorem ediv_smul {c x : Int} {g : Nat} (hc : c ≠ 0) (hg : 0 < g) (hd : (g : Int) ∣ x) : c * x / ((c.natAbs * g : Nat) : Int) = c.sign * (x / (g : Nat)) := by
  obtain ⟨k, rfl⟩ := hd
  rw [Int.mul_ediv_cancel_left _ (by omega)]
  have e : c * ((g : Int) * k) = ((c.natAbs * g : Nat) : Int) * (c.sign * k) := by
    have := Int.sign_mul_natAbs c
    rw [Int.natCast_mul]
    calc c * ((g : Int) * k) = (c.sign * (c.natAbs : Int)) * ((g : Int) * k) := by rw [this]
      _ = _ := by grind
  rw [e, Int.mul_ediv_cancel_left]
  have : 0 < c.natAbs * g := Nat.mul_pos (by omega) hg
  omega
theorem nr_sign {c : Int} (hc : c ≠ 0) (n : Int) {d : Int} (hd : 0 < d) : nr (c.sign * n) d = c.sign * nr n d := by
  have hs := Int.natAbs_sign_of_ne_zero hc
  rcases (show c.sign = 1 ∨ c.sign = -1 by omega) with e | e <;> rw [e]
  · rw [Int.one_mul, Int.one_mul]
  · rw [Int.neg_one_mul, Int.neg_one_mul, nr_neg n hd]
theorem near1_smul {c : Int} (hc : c ≠ 0) {v : Z4} (hz : ¬ v.zero) {x : Int} (hd : ((v.g : Nat) : Int) ∣ x) : near1 (v.smul c) (c * x) = c.sign * near1 v x := by
  have hg : 0 < v.g := Nat.pos_of_ne_zero fun e => hz (Z4.g_zero.1 e)
  have hca : 0 < c.natAbs := by omega
  unfold near1
  rw [Z4.mx_smul, Z4.g_smul, ediv_smul hc hg hd]
  have em : ((c.natAbs * v.mx : Nat) : Int) / ((c.natAbs * v.g : Nat) : Int) = ((v.mx : Nat) : Int) / (v.g : Nat) := by
    rw [← Int.natCast_ediv, ← Int.natCast_ediv, Nat.mul_div_mul_left _ _ hca]
  rw [em]
  split
  · rename_i h
    rw [← nr_sign hc _ (by omega), Int.mul_assoc]
  · rfl
theorem near_smul {c : Int} (hc : c ≠ 0) {v : Z4} (hz : ¬ v.zero) : (v.smul c).near = v.near.smul c.sign := by
  obtain ⟨h1, h2, h3, h4⟩ := v.g_dvd
  exact Z4.ext (near1_smul hc hz h1) (near1_smul hc hz h2) (near1_smul hc hz h3) (near1_smul hc hz h4)
end Go.Num
