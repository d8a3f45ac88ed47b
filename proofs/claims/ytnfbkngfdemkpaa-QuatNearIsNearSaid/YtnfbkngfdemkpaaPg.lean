/- Greatest common divisors of words, and directions. No program stands in it. -/
import Derived.Test.YtnfbkngfdemkpaaFq

set_option linter.unusedVariables false
set_option linter.unusedSimpArgs false
namespace Go.Num
open Go Go.Kn
theorem W.abs_1 {x : W} (h : x.1 ≠ -9223372036854775808) : (W.max x (W.neg x)).1 = (x.1.natAbs : Nat) := by
  have h2 := x.2
  unfold I64 at h2
  have hn : (W.neg x).1 = -x.1 := by
    show IntKind.i64.wrap (0 - x.1) = _
    rw [wi (by omega)]; omega
  unfold W.max
  rw [hn]
  by_cases h3 : x.1 < -x.1
  · rw [decide_eq_true h3, cond_true, hn]; omega
  · rw [decide_eq_false h3, cond_false]; omega
theorem gcd_tmod {p q : Int} (hp : 0 ≤ p) (hq : 0 ≤ q) : Int.gcd q (p.tmod q) = Int.gcd p q := by
  rw [Int.tmod_eq_emod_of_nonneg hp, Int.gcd_comm p q]
  conv => rhs; rw [← Int.emod_add_mul_ediv p q]
  rw [Int.gcd_add_mul_left_right]
theorem euclid_loop {l : List W} {x0 : W} {l0 : List W} {o : W} : ∀ (k : Nat) (p q : W), 0 ≤ p.1 → 0 ≤ q.1 → q.1.natAbs < k → (F_quat_gcd_loop1 l x0 l0 o k p q).1.1 = (Int.gcd p.1 q.1 : Nat)
  | 0, p, q, _, _, h => absurd h (Nat.not_lt_zero _)
  | k + 1, p, q, hp, hq, h => by
    rw [F_quat_gcd_loop1]
    by_cases h0 : q.1 = 0
    · rw [show (q.1 != 0) = false by simp [h0], cond_false, h0, Int.gcd_zero_right]; show p.1 = (p.1.natAbs : Nat); omega
    · rw [show (q.1 != 0) = true by simp [h0], cond_true]
      have h1 : (W.rem p q).1 = p.1.tmod q.1 := rfl
      have h2 := W.rem_lt p (q := q) (by simp [h0])
      rw [euclid_loop k q (W.rem p q) hq (by rw [h1]; exact Int.tmod_nonneg _ hp) (by omega), h1, gcd_tmod hp hq]
theorem gcd_loop {l : List W} : ∀ (r : List W) (o : W), 0 ≤ o.1 → (∀ x ∈ r, x.1 ≠ -9223372036854775808) → (F_quat_gcd_loop0 l r o).1 = (r.foldl (fun (g : Nat) (x : W) => Int.gcd g x.1) o.1.natAbs : Nat)
  | [], o, ho, _ => by rw [F_quat_gcd_loop0]; show o.1 = (o.1.natAbs : Nat); omega
  | x :: r, o, ho, h => by
    rw [F_quat_gcd_loop0]
    have ha := W.abs_1 (h x List.mem_cons_self)
    have he := euclid_loop (l := l) (x0 := x) (l0 := r) (o := o) ((W.max x (W.neg x)).1.natAbs + 1) o (W.max x (W.neg x)) ho (by rw [ha]; omega) (Nat.lt_succ_self _)
    show (F_quat_gcd_loop0 l r (F_quat_gcd_loop1 l x r o ((W.max x (W.neg x)).1.natAbs + 1) o (W.max x (W.neg x))).1).1 = _
    rw [gcd_loop r _ (by rw [he]; omega) (fun y hy => h y (List.mem_cons_of_mem _ hy)), he, ha, List.foldl_cons]
    congr 2
theorem gcd_eq {l : List W} (h : ∀ x ∈ l, x.1 ≠ -9223372036854775808) : (F_quat_gcd l).1 = (l.foldl (fun (g : Nat) (x : W) => Int.gcd g x.1) 0 : Nat) := gcd_loop l (wl 0) (Int.le_refl _) h
theorem euclid_ref {a b : W} : ∀ (k : Nat) (p q : W), q.1.natAbs < k → (F_skewbackref10_gcd_loop0 a b k p q).1.1.natAbs = Int.gcd p.1 q.1
  | 0, p, q, h => absurd h (Nat.not_lt_zero _)
  | k + 1, p, q, h => by
    rw [F_skewbackref10_gcd_loop0]
    by_cases h0 : q.1 = 0
    · rw [show (q.1 != 0) = false by simp [h0], cond_false, h0, Int.gcd_zero_right]
    · rw [show (q.1 != 0) = true by simp [h0], cond_true]
      have h1 : (W.rem p q).1 = p.1.tmod q.1 := rfl
      have h2 := W.rem_lt p (q := q) (by simp [h0])
      rw [euclid_ref k q (W.rem p q) (by omega), h1, Int.gcd, Int.natAbs_tmod, Int.gcd, Nat.gcd_comm p.1.natAbs, Nat.gcd_rec q.1.natAbs p.1.natAbs, Nat.gcd_comm]
end Go.Num
