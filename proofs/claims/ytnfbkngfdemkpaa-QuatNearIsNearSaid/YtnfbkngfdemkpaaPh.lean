/- Directions of four integers. No program stands in it. -/
import Derived.Test.YtnfbkngfdemkpaaFq

set_option linter.unusedVariables false
set_option linter.unusedSimpArgs false
namespace Go.Num
open Go Go.Kn
/-- Four integers. -/
structure Z4 where
  x : Int
  y : Int
  z : Int
  t : Int
deriving DecidableEq
def Z4.g (a : Z4) : Nat := Int.gcd (Int.gcd (Int.gcd (Int.gcd (0 : Nat) a.x : Nat) a.y : Nat) a.z : Nat) a.t
def Z4.lead (a : Z4) : Int := if a.x ≠ 0 then a.x else if a.y ≠ 0 then a.y else if a.z ≠ 0 then a.z else a.t
def Z4.m (a : Z4) : Int := a.lead.sign * a.g
def Z4.smul (c : Int) (a : Z4) : Z4 := ⟨c * a.x, c * a.y, c * a.z, c * a.t⟩
def Z4.dir (a : Z4) : Z4 := ⟨a.x / a.m, a.y / a.m, a.z / a.m, a.t / a.m⟩
def Z4.zero (a : Z4) : Prop := a.x = 0 ∧ a.y = 0 ∧ a.z = 0 ∧ a.t = 0
theorem Z4.ext {a b : Z4} (h1 : a.x = b.x) (h2 : a.y = b.y) (h3 : a.z = b.z) (h4 : a.t = b.t) : a = b := by cases a; cases b; simp_all
theorem gcd_smul (c : Int) (n : Nat) (x : Int) : Int.gcd ((c.natAbs * n : Nat) : Int) (c * x) = c.natAbs * Int.gcd n x := by
  rw [Int.gcd, Int.gcd, Int.natAbs_natCast, Int.natAbs_natCast, Int.natAbs_mul, Nat.gcd_mul_left]
theorem Z4.g_smul (c : Int) (a : Z4) : (a.smul c).g = c.natAbs * a.g := by
  unfold Z4.g Z4.smul
  rw [show (((0 : Nat)) : Int) = ((c.natAbs * 0 : Nat) : Int) by simp, gcd_smul, gcd_smul, gcd_smul, gcd_smul, Nat.mul_zero]
theorem Z4.lead_smul {c : Int} (hc : c ≠ 0) (a : Z4) : (a.smul c).lead = c * a.lead := by
  unfold Z4.lead Z4.smul
  by_cases h1 : a.x = 0 <;> by_cases h2 : a.y = 0 <;> by_cases h3 : a.z = 0 <;> simp [h1, h2, h3, hc]
theorem Z4.m_smul {c : Int} (hc : c ≠ 0) (a : Z4) : (a.smul c).m = c * a.m := by
  unfold Z4.m
  rw [Z4.lead_smul hc, Z4.g_smul, Int.sign_mul]
  have : c.sign * (c.natAbs : Int) = c := Int.sign_mul_natAbs c
  rw [Int.natCast_mul]
  calc c.sign * a.lead.sign * ((c.natAbs : Int) * (a.g : Int)) = (c.sign * (c.natAbs : Int)) * (a.lead.sign * (a.g : Int)) := by grind
    _ = _ := by rw [this]
theorem Z4.g_zero {a : Z4} : a.g = 0 ↔ a.zero := by
  unfold Z4.g Z4.zero
  simp only [Int.gcd_eq_zero_iff, Int.natCast_eq_zero]
  constructor
  · rintro ⟨⟨⟨⟨_, h1⟩, h2⟩, h3⟩, h4⟩; exact ⟨h1, h2, h3, h4⟩
  · rintro ⟨h1, h2, h3, h4⟩; exact ⟨⟨⟨⟨trivial, h1⟩, h2⟩, h3⟩, h4⟩
theorem Z4.lead_zero {a : Z4} (h : ¬ a.zero) : a.lead ≠ 0 := by
  unfold Z4.zero at h
  unfold Z4.lead
  by_cases h1 : a.x = 0 <;> by_cases h2 : a.y = 0 <;> by_cases h3 : a.z = 0 <;> simp_all
theorem Z4.m_ne {a : Z4} (h : ¬ a.zero) : a.m ≠ 0 := by
  unfold Z4.m
  have h1 := Z4.lead_zero h
  have h2 : a.g ≠ 0 := fun e => h (Z4.g_zero.1 e)
  intro e
  rcases Int.mul_eq_zero.1 e with e | e
  · exact h1 (Int.sign_eq_zero_iff_zero.1 e)
  · exact h2 (by exact_mod_cast e)
theorem Z4.m_abs {a : Z4} (h : ¬ a.zero) : a.m.natAbs = a.g := by
  unfold Z4.m
  rw [Int.natAbs_mul, Int.natAbs_natCast, Int.natAbs_sign_of_ne_zero (Z4.lead_zero h), Nat.one_mul]
theorem Z4.g_dvd (a : Z4) : ((a.g : Nat) : Int) ∣ a.x ∧ ((a.g : Nat) : Int) ∣ a.y ∧ ((a.g : Nat) : Int) ∣ a.z ∧ ((a.g : Nat) : Int) ∣ a.t := by
  unfold Z4.g
  have l : ∀ (u v : Int), ((Int.gcd u v : Nat) : Int) ∣ u := fun u v => Int.gcd_dvd_left ..
  have r : ∀ (u v : Int), ((Int.gcd u v : Nat) : Int) ∣ v := fun u v => Int.gcd_dvd_right ..
  refine ⟨?_, ?_, ?_, r _ _⟩
  · exact Int.dvd_trans (Int.dvd_trans (Int.dvd_trans (l _ _) (l _ _)) (l _ _)) (r _ _)
  · exact Int.dvd_trans (Int.dvd_trans (l _ _) (l _ _)) (r _ _)
  · exact Int.dvd_trans (l _ _) (r _ _)
theorem Z4.m_dvd {a : Z4} (h : ¬ a.zero) : a.m ∣ a.x ∧ a.m ∣ a.y ∧ a.m ∣ a.z ∧ a.m ∣ a.t := by
  have e : ∀ v : Int, ((a.g : Nat) : Int) ∣ v → a.m ∣ v := fun v hv => by
    rw [← Z4.m_abs h] at hv; exact Int.natAbs_dvd.1 hv
  obtain ⟨h1, h2, h3, h4⟩ := Z4.g_dvd a
  exact ⟨e _ h1, e _ h2, e _ h3, e _ h4⟩
theorem Z4.smul_dir {a : Z4} (h : ¬ a.zero) : a.dir.smul a.m = a := by
  obtain ⟨h1, h2, h3, h4⟩ := Z4.m_dvd h
  exact Z4.ext (Int.mul_ediv_cancel' h1) (Int.mul_ediv_cancel' h2) (Int.mul_ediv_cancel' h3) (Int.mul_ediv_cancel' h4)
theorem Z4.zero_smul {c : Int} (hc : c ≠ 0) {a : Z4} : (a.smul c).zero ↔ a.zero := by
  unfold Z4.zero Z4.smul; simp only [Int.mul_eq_zero, hc, false_or]
theorem Z4.dir_smul {c : Int} (hc : c ≠ 0) {a : Z4} (h : ¬ a.zero) : (a.smul c).dir = a.dir := by
  have hm := Z4.m_ne h
  obtain ⟨h1, h2, h3, h4⟩ := Z4.m_dvd h
  have e : ∀ v : Int, a.m ∣ v → c * v / (c * a.m) = v / a.m := fun v ⟨k, hk⟩ => by
    rw [hk, show c * (a.m * k) = c * a.m * k by grind, Int.mul_ediv_cancel_left _ (by intro e; rcases Int.mul_eq_zero.1 e with e | e <;> contradiction), Int.mul_ediv_cancel_left _ hm]
  unfold Z4.dir
  rw [Z4.m_smul hc]
  exact Z4.ext (e _ h1) (e _ h2) (e _ h3) (e _ h4)
theorem Z4.dir_zero {a : Z4} (h : ¬ a.zero) : ¬ a.dir.zero := fun e => h (by
  have := Z4.smul_dir h
  rw [← this]; exact (Z4.zero_smul (Z4.m_ne h)).2 e)
theorem Z4.dir_dir {a : Z4} (h : ¬ a.zero) : a.dir.dir = a.dir := by
  have e := Z4.dir_smul (Z4.m_ne h) (Z4.dir_zero h)
  rw [Z4.smul_dir h] at e; exact e.symm
end Go.Num
