/- The directions that the program and the reference compute. No program stands in it. -/
import Derived.Test.YtnfbkngfdemkpaaPg
import Derived.Test.YtnfbkngfdemkpaaPh

set_option linter.unusedVariables false
set_option linter.unusedSimpArgs false
namespace Go.Num
open Go Go.Kn
def A4.i (a : A4 W) : Z4 := ⟨a.x.1, a.y.1, a.z.1, a.t.1⟩
theorem A4.i_inj {a b : A4 W} (h : a.i = b.i) : a = b := by
  cases a; cases b
  simp only [A4.i, Z4.mk.injEq] at h
  obtain ⟨h1, h2, h3, h4⟩ := h
  simp only [A4.mk.injEq]
  exact ⟨Subtype.ext h1, Subtype.ext h2, Subtype.ext h3, Subtype.ext h4⟩
/-- No component is the least int. -/
def A4.Fine (a : A4 W) : Prop := a.x.1 ≠ -9223372036854775808 ∧ a.y.1 ≠ -9223372036854775808 ∧ a.z.1 ≠ -9223372036854775808 ∧ a.t.1 ≠ -9223372036854775808
theorem gcd4_eq {a : A4 W} (h : a.Fine) : (F_quat_gcd [a.x, a.y, a.z, a.t]).1 = (a.i.g : Nat) := by
  obtain ⟨h1, h2, h3, h4⟩ := h
  rw [gcd_eq (by simp only [List.mem_cons, List.not_mem_nil, or_false]; rintro x (rfl | rfl | rfl | rfl) <;> assumption)]
  rfl
theorem quo_1 {a r : W} (h : a.1 ≠ -9223372036854775808) (hd : r.1 ∣ a.1) (h0 : r.1 ≠ 0) : (W.quo a r).1 = a.1 / r.1 := by
  have h2 := a.2
  unfold I64 at h2
  show IntKind.i64.wrap (a.1.tdiv r.1) = _
  rw [Int.tdiv_eq_ediv_of_dvd hd]
  obtain ⟨k, hk⟩ := hd
  rw [hk, Int.mul_ediv_cancel_left _ h0]
  have : k.natAbs ≤ a.1.natAbs := by rw [hk, Int.natAbs_mul]; exact Nat.le_mul_of_pos_left _ (by omega)
  exact wi (by omega)
theorem neg_1 {a : W} (h : a.1 ≠ -9223372036854775808) : (W.neg a).1 = -a.1 := by
  have h2 := a.2
  unfold I64 at h2
  show IntKind.i64.wrap (0 - a.1) = _
  rw [wi (by omega)]; omega
theorem sgn_1 {g v : W} (hg : 0 ≤ g.1) (hv : v.1 ≠ 0) : (bif decide (v.1 < 0) then W.neg g else g).1 = v.1.sign * g.1 := by
  by_cases h : v.1 < 0
  · rw [decide_eq_true h, cond_true, neg_1 (by omega), Int.sign_eq_neg_one_of_neg h]; omega
  · rw [decide_eq_false h, cond_false, Int.sign_eq_one_of_pos (by omega)]; omega
theorem dir_of {a : A4 W} {r : W} (h : a.Fine) (hz : ¬ a.i.zero) (hr : r.1 = a.i.m) : (⟨W.quo a.x r, W.quo a.y r, W.quo a.z r, W.quo a.t r⟩ : A4 W).i = a.i.dir := by
  obtain ⟨d1, d2, d3, d4⟩ := Z4.m_dvd hz
  have hm := Z4.m_ne hz
  rw [← hr] at d1 d2 d3 d4 hm
  obtain ⟨h1, h2, h3, h4⟩ := h
  refine Z4.ext ?_ ?_ ?_ ?_
  · exact (quo_1 h1 d1 hm).trans (by rw [hr]; rfl)
  · exact (quo_1 h2 d2 hm).trans (by rw [hr]; rfl)
  · exact (quo_1 h3 d3 hm).trans (by rw [hr]; rfl)
  · exact (quo_1 h4 d4 hm).trans (by rw [hr]; rfl)
theorem qdir {a : A4 W} (h : a.Fine) (hz : ¬ a.i.zero) : (F_quat_direction a).1.i = a.i.dir ∧ (F_quat_direction a).2 = true := by
  have hg := gcd4_eq h
  have hg0 : a.i.g ≠ 0 := fun e => hz (Z4.g_zero.1 e)
  have hgp : 0 ≤ (F_quat_gcd [a.x, a.y, a.z, a.t]).1 := by rw [hg]; omega
  unfold F_quat_direction
  rw [show ((F_quat_gcd [a.x, a.y, a.z, a.t]).1 == 0) = false by rw [hg]; simp; exact hg0, cond_false]
  have hm : a.i.m = a.i.lead.sign * (F_quat_gcd [a.x, a.y, a.z, a.t]).1 := by rw [hg]; rfl
  by_cases x0 : a.x.1 = 0
  · rw [show (a.x.1 != 0) = false by simp [x0], cond_false]
    by_cases y0 : a.y.1 = 0
    · rw [show (a.y.1 != 0) = false by simp [y0], cond_false]
      by_cases z0 : a.z.1 = 0
      · rw [show (a.z.1 != 0) = false by simp [z0], cond_false]
        by_cases t0 : a.t.1 = 0
        · exact absurd ⟨x0, y0, z0, t0⟩ hz
        · rw [show (a.t.1 != 0) = true by simp [t0], cond_true]
          refine ⟨dir_of h hz ?_, rfl⟩
          rw [sgn_1 hgp t0, hm, show a.i.lead = a.t.1 by simp [Z4.lead, A4.i, x0, y0, z0]]
      · rw [show (a.z.1 != 0) = true by simp [z0], cond_true]
        refine ⟨dir_of h hz ?_, rfl⟩
        rw [sgn_1 hgp z0, hm, show a.i.lead = a.z.1 by simp [Z4.lead, A4.i, x0, y0, z0]]
    · rw [show (a.y.1 != 0) = true by simp [y0], cond_true]
      refine ⟨dir_of h hz ?_, rfl⟩
      rw [sgn_1 hgp y0, hm, show a.i.lead = a.y.1 by simp [Z4.lead, A4.i, x0, y0]]
  · rw [show (a.x.1 != 0) = true by simp [x0], cond_true]
    refine ⟨dir_of h hz ?_, rfl⟩
    rw [sgn_1 hgp x0, hm, show a.i.lead = a.x.1 by simp [Z4.lead, A4.i, x0]]
end Go.Num
namespace Go.Num
open Go Go.Kn
theorem rsign (v : W) : (F_skewbackref10_sign v).1 = v.1.sign := by
  unfold F_skewbackref10_sign
  by_cases h : v.1 < 0
  · rw [decide_eq_true h, cond_true, Int.sign_eq_neg_one_of_neg h]
  · rw [decide_eq_false h, cond_false]
    unfold W.min
    by_cases h1 : (1 : Int) < v.1
    · rw [show decide ((wl 1).1 < v.1) = true from decide_eq_true h1, cond_true, Int.sign_eq_one_of_pos (by omega)]
    · rw [show decide ((wl 1).1 < v.1) = false from decide_eq_false h1, cond_false]
      rcases (show v.1 = 0 ∨ v.1 = 1 by omega) with e | e <;> rw [e] <;> rfl
theorem rgcd {a b : W} (ha : a.1 ≠ -9223372036854775808) (hb : b.1 ≠ -9223372036854775808) : (F_skewbackref10_gcd a b).1 = (Int.gcd a.1 b.1 : Nat) ∧ (F_skewbackref10_gcd a b).1 ≠ -9223372036854775808 := by
  have he := euclid_ref (a := a) (b := b) (b.1.natAbs + 1) a b (Nat.lt_succ_self _)
  have h1 := a.2
  have h2 := b.2
  unfold I64 at h1 h2
  have hle : Int.gcd a.1 b.1 < 9223372036854775808 := by
    by_cases h0 : b.1 = 0
    · rw [h0, Int.gcd_zero_right]; omega
    · exact Nat.lt_of_le_of_lt (Nat.le_of_dvd (by omega) (Int.gcd_dvd_natAbs_right a.1 b.1)) (by omega)
  have : (F_skewbackref10_gcd a b).1 = (Int.gcd a.1 b.1 : Nat) := by
    show (W.max (F_skewbackref10_gcd_loop0 a b (b.1.natAbs + 1) a b).1 (W.neg (F_skewbackref10_gcd_loop0 a b (b.1.natAbs + 1) a b).1)).1 = _
    rw [W.abs_1 (by intro e; rw [e] at he; omega), he]
  exact ⟨this, by rw [this]; omega⟩
theorem g_rev (a : Z4) : Int.gcd (Int.gcd (Int.gcd (Int.gcd (0 : Int) a.t : Nat) a.z : Nat) a.y : Nat) a.x = a.g := by
  unfold Z4.g
  simp only [Int.gcd, Int.natAbs_natCast, Int.natAbs_zero, Nat.gcd_zero_left]
  have e : ∀ x y z t : Nat, Nat.gcd (Nat.gcd (Nat.gcd t z) y) x = Nat.gcd (Nat.gcd (Nat.gcd x y) z) t := fun x y z t => by
    rw [Nat.gcd_comm, Nat.gcd_comm (Nat.gcd t z) y, ← Nat.gcd_assoc, Nat.gcd_comm t z, ← Nat.gcd_assoc]
  exact e _ _ _ _
theorem rlead (a : A4 W) : (bif (a.x.1 != 0) then (F_skewbackref10_sign a.x) else (bif (a.y.1 != 0) then (F_skewbackref10_sign a.y) else (bif (a.z.1 != 0) then (F_skewbackref10_sign a.z) else (bif (a.t.1 != 0) then (F_skewbackref10_sign a.t) else (wl 0))))).1 = a.i.lead.sign := by
  have n0 : ∀ v : W, v.1 = 0 → (v.1 != 0) = false := fun v h => by simp [h]
  have n1 : ∀ v : W, ¬ v.1 = 0 → (v.1 != 0) = true := fun v h => by simp [h]
  show _ = (if a.x.1 ≠ 0 then a.x.1 else if a.y.1 ≠ 0 then a.y.1 else if a.z.1 ≠ 0 then a.z.1 else a.t.1).sign
  by_cases x0 : a.x.1 = 0
  · rw [n0 _ x0, cond_false, if_neg (by simp [x0])]
    by_cases y0 : a.y.1 = 0
    · rw [n0 _ y0, cond_false, if_neg (by simp [y0])]
      by_cases z0 : a.z.1 = 0
      · rw [n0 _ z0, cond_false, if_neg (by simp [z0])]
        by_cases t0 : a.t.1 = 0
        · rw [n0 _ t0, cond_false, t0]; rfl
        · rw [n1 _ t0, cond_true, rsign]
      · rw [n1 _ z0, cond_true, rsign, if_pos z0]
    · rw [n1 _ y0, cond_true, rsign, if_pos y0]
  · rw [n1 _ x0, cond_true, rsign, if_pos x0]
end Go.Num
namespace Go.Num
open Go Go.Kn
theorem rdir {a : A4 W} (h : a.Fine) (hz : ¬ a.i.zero) : (F_skewbackref10_direction a).1.i = a.i.dir ∧ (F_skewbackref10_direction a).2 = true := by
  obtain ⟨h1, h2, h3, h4⟩ := h
  have g1 := rgcd (a := wl 0) (b := a.t) (by decide) h4
  have g2 := rgcd g1.2 h3
  have g3 := rgcd g2.2 h2
  have g4 := rgcd g3.2 h1
  rw [g3.1, g2.1, g1.1, show (wl 0).1 = 0 from rfl] at g4
  have hg : (F_skewbackref10_gcd (F_skewbackref10_gcd (F_skewbackref10_gcd (F_skewbackref10_gcd (wl 0) a.t) a.z) a.y) a.x).1 = (a.i.g : Nat) := by
    rw [g4.1]; exact congrArg _ (g_rev a.i)
  have hm : (W.mul (bif (a.x.1 != 0) then (F_skewbackref10_sign a.x) else (bif (a.y.1 != 0) then (F_skewbackref10_sign a.y) else (bif (a.z.1 != 0) then (F_skewbackref10_sign a.z) else (bif (a.t.1 != 0) then (F_skewbackref10_sign a.t) else (wl 0)))))
      (W.max (F_skewbackref10_gcd (F_skewbackref10_gcd (F_skewbackref10_gcd (F_skewbackref10_gcd (wl 0) a.t) a.z) a.y) a.x) (W.neg (F_skewbackref10_gcd (F_skewbackref10_gcd (F_skewbackref10_gcd (F_skewbackref10_gcd (wl 0) a.t) a.z) a.y) a.x)))).1 = a.i.m := by
    show IntKind.i64.wrap (_ * _) = _
    have hb := (F_skewbackref10_gcd (F_skewbackref10_gcd (F_skewbackref10_gcd (F_skewbackref10_gcd (wl 0) a.t) a.z) a.y) a.x).2
    unfold I64 at hb
    rw [rlead, W.abs_1 g4.2, hg, Int.natAbs_natCast]
    rw [hg] at hb
    have hs := Int.natAbs_sign_of_ne_zero (Z4.lead_zero hz)
    refine wi ?_
    rcases (show a.i.lead.sign = 1 ∨ a.i.lead.sign = -1 by omega) with e | e <;> rw [e] <;> omega
  unfold F_skewbackref10_direction
  have hm0 := Z4.m_ne hz
  dsimp only
  rw [show ((W.mul (bif (a.x.1 != 0) then (F_skewbackref10_sign a.x) else (bif (a.y.1 != 0) then (F_skewbackref10_sign a.y) else (bif (a.z.1 != 0) then (F_skewbackref10_sign a.z) else (bif (a.t.1 != 0) then (F_skewbackref10_sign a.t) else (wl 0)))))
      (W.max (F_skewbackref10_gcd (F_skewbackref10_gcd (F_skewbackref10_gcd (F_skewbackref10_gcd (wl 0) a.t) a.z) a.y) a.x) (W.neg (F_skewbackref10_gcd (F_skewbackref10_gcd (F_skewbackref10_gcd (F_skewbackref10_gcd (wl 0) a.t) a.z) a.y) a.x)))).1 == 0) = false by rw [hm]; simp; exact hm0, cond_false]
  exact ⟨dir_of ⟨h1, h2, h3, h4⟩ hz hm, rfl⟩
end Go.Num
