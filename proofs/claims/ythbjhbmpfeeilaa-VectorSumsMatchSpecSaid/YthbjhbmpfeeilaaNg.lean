/- Numbers: long division of lists of digits, as on paper. No program stands in it. -/
import Derived.Test.YthbjhbmpfeeilaaNf
set_option linter.unusedVariables false
set_option linter.unusedSimpArgs false
namespace Go.Num
open Go Go.Kn
theorem p16 (k : Nat) : 0 < 65536 ^ k := Nat.pow_pos (by decide)
theorem dl_top {n : Nat} (h : 0 < n) : 65536 ^ ((dl n).length - 1) ≤ n := by
  rcases Nat.lt_or_ge n (65536 ^ ((dl n).length - 1)) with h1 | h1
  · have h2 := dl_len h1
    have h3 : (dl n).length ≠ 0 := fun hc => by rw [dl_nil] at hc; omega
    omega
  · exact h1
theorem dl_lt (n : Nat) : n < 65536 ^ (dl n).length := by have := dv_lt _ (dl_DL n); rwa [dv_dl] at this
/-- The quotient's digit is not greater than the guess. -/
theorem guess16 {R B : Nat} (hB : 0 < B) (hR : R < 65536 * B) {top num : Nat} {n : Nat} (hn : n = (dl B).length)
    (ht : top = dg B (n - 1) * 65536 + (if n = 1 then 0 else dg B (n - 2))) (hu : num = dg R n * 4294967296 + dg R (n - 1) * 65536 + (if n = 1 then 0 else dg R (n - 2))) :
    0 < top ∧ R / B ≤ min 65535 (num / top) := by
  have h1 := dl_lt B
  have h2 := dl_top hB
  have h3 : n ≠ 0 := fun hc => by rw [hn, dl_nil] at hc; omega
  rw [← hn] at h1 h2
  have hq : R / B ≤ 65535 := by
    have : R / B < 65536 := by rw [Nat.div_lt_iff_lt_mul hB]; exact hR
    omega
  by_cases h4 : n = 1
  · subst h4
    simp only [if_pos, Nat.sub_self, Nat.pow_zero, Nat.pow_one] at *
    have e1 : dg B 0 = B := by unfold dg; rw [Nat.pow_zero, Nat.div_one, Nat.mod_eq_of_lt h1]
    have e2 : dg R 1 * 4294967296 + dg R 0 * 65536 = R * 65536 := by unfold dg; rw [Nat.pow_one, Nat.pow_zero, Nat.div_one]; omega
    rw [e1] at ht
    rw [e2] at hu
    refine ⟨by omega, ?_⟩
    rw [ht, hu, Nat.add_zero, Nat.add_zero, Nat.mul_div_mul_right _ _ (by decide)]
    omega
  · rw [if_neg h4] at ht hu
    have e1 : B / 65536 ^ (n - 2) = top := by
      have a1 := dg_split B (n - 2)
      have a2 := dg_split B (n - 1)
      rw [show n - 2 + 1 = n - 1 by omega] at a1
      rw [show n - 1 + 1 = n by omega, Nat.div_eq_of_lt h1] at a2
      omega
    have hR2 : R < 65536 ^ (n + 1) := by rw [Nat.pow_succ]; omega
    have e2 : R / 65536 ^ (n - 2) = num := by
      have a1 := dg_split R (n - 2)
      have a2 := dg_split R (n - 1)
      have a3 := dg_split R n
      rw [show n - 2 + 1 = n - 1 by omega] at a1
      rw [show n - 1 + 1 = n by omega] at a2
      rw [Nat.div_eq_of_lt hR2] at a3
      omega
    have ht0 : 0 < top := by
      rw [← e1]
      refine Nat.div_pos (Nat.le_trans (Nat.pow_le_pow_right (by decide) (by omega)) h2) (p16 _)
    refine ⟨ht0, ?_⟩
    have h5 : R / B ≤ num / top := by
      rw [Nat.le_div_iff_mul_le ht0, ← e1, ← e2, Nat.le_div_iff_mul_le (p16 _), Nat.mul_assoc]
      exact Nat.le_trans (Nat.mul_le_mul_left _ (Nat.div_mul_le_self _ _)) (Nat.div_mul_le_self _ _)
    omega
/-- The outer loop, k digits still to come. -/
structure DivIn (A B n k R : Nat) (qs : List Nat) : Prop where
  len : qs.length = n
  ok : DL qs
  rest : R = A / 65536 ^ k % B
  eq : dv qs = 65536 ^ k * (A / 65536 ^ k / B)
  low : ∀ t, t < k → qs.getD t 0 = 0
theorem DivIn.start {A B n : Nat} (h : A < 65536 ^ n) : DivIn A B n n 0 (List.replicate n 0) :=
  ⟨by simp, fun d hd => by rw [List.eq_of_mem_replicate hd]; decide, by rw [Nat.div_eq_of_lt h, Nat.zero_mod], by rw [dv_zeros, Nat.div_eq_of_lt h, Nat.zero_div, Nat.mul_zero], fun t _ => getD_zeros n t⟩
theorem div_step {X B a : Nat} (hB : 0 < B) : (65536 * X + a) / B = 65536 * (X / B) + (X % B * 65536 + a) / B ∧ (65536 * X + a) % B = (X % B * 65536 + a) % B := by
  have e : 65536 * X + a = B * (65536 * (X / B)) + (X % B * 65536 + a) := by
    have h1 := Nat.div_add_mod X B
    have h2 : B * (65536 * (X / B)) = 65536 * (B * (X / B)) := by ac_rfl
    rw [h2]; omega
  constructor
  · rw [e, Nat.mul_add_div hB]
  · rw [e, Nat.mul_add_mod]
theorem DivIn.step {A B n m R : Nat} {qs : List Nat} (h : DivIn A B n (m + 1) R qs) (hB : 0 < B) (hm : m < n) : DivIn A B n m ((R * 65536 + dg A m) % B) (qs.set m ((R * 65536 + dg A m) / B)) := by
  have hs := dg_split A m
  obtain ⟨e1, e2⟩ := div_step (X := A / 65536 ^ (m + 1)) (a := dg A m) hB
  have hr := h.rest
  have hRB : R < B := by rw [hr]; exact Nat.mod_lt _ hB
  have hd := dg_lt A m
  have hdl : (R * 65536 + dg A m) / B < 65536 := by rw [Nat.div_lt_iff_lt_mul hB]; omega
  rw [← hr] at e1 e2
  have hA : A / 65536 ^ m = 65536 * (A / 65536 ^ (m + 1)) + dg A m := by omega
  have hv := dv_set qs m ((R * 65536 + dg A m) / B) (by rw [h.len]; exact hm)
  refine ⟨by simp [h.len], DL_of fun t _ => ?_, by rw [hA, e2], ?_, fun t ht => ?_⟩
  · rw [getD_set']; split
    · exact hdl
    · exact getD_ltD h.ok t
  · rw [h.low m (by omega), Nat.mul_zero, Nat.add_zero, h.eq, show 65536 ^ (m + 1) = 65536 ^ m * 65536 from Nat.pow_succ ..] at hv
    rw [hv, hA, e1, Nat.mul_add, Nat.mul_assoc, show 65536 ^ m * 65536 = 65536 ^ (m + 1) from (Nat.pow_succ ..).symm]
  · rw [getD_set', if_neg (by omega)]; exact h.low t (by omega)
theorem DivIn.fin {A B n R : Nat} {qs : List Nat} (h : DivIn A B n 0 R qs) : dv qs = A / B ∧ R = A % B := by
  have h1 := h.eq; have h2 := h.rest
  rw [Nat.pow_zero, Nat.div_one, Nat.one_mul] at h1
  rw [Nat.pow_zero, Nat.div_one] at h2
  exact ⟨h1, h2⟩
/-! the machine's words -/
theorem sub_I {a : Nat} {c : Int} (h : a ≤ 1000000) (hc : 0 ≤ c) (hc2 : c ≤ 1000) : IntKind.i64.wrap ((a : Int) - c) = (a : Int) - c := wrap_i64_id (by unfold I64; omega)
theorem top_i64 {x y : Nat} (hx : x < 65536) (hy : y < 65536) : IntKind.i64.wrap (IntKind.i64.wrap ((x : Int) * 65536) + (y : Int)) = ((x * 65536 + y : Nat) : Int) := by
  rw [wrap_i64_id (n := (x : Int) * 65536) (by unfold I64; omega), wrap_i64_id (by unfold I64; omega)]; omega
theorem num_i64 {x y z : Nat} (hx : x < 65536) (hy : y < 65536) (hz : z < 65536) : IntKind.i64.wrap (IntKind.i64.wrap (IntKind.i64.wrap ((x : Int) * 4294967296) + IntKind.i64.wrap ((y : Int) * 65536)) + (z : Int)) = ((x * 4294967296 + y * 65536 + z : Nat) : Int) := by
  rw [wrap_i64_id (n := (x : Int) * 4294967296) (by unfold I64; omega), wrap_i64_id (n := (y : Int) * 65536) (by unfold I64; omega), wrap_i64_id (n := (x : Int) * 4294967296 + (y : Int) * 65536) (by unfold I64; omega), wrap_i64_id (by unfold I64; omega)]; omega
theorem quo_i64n {a b : Nat} (h : a < 9223372036854775808) : IntKind.i64.wrap ((a : Int).tdiv (b : Int)) = ((a / b : Nat) : Int) := by
  have h1 : ∀ c : Nat, c ≤ a → I64 (c : Int) := fun c hc => by unfold I64; omega
  rw [Int.tdiv_eq_ediv_of_nonneg (by omega), ← Int.natCast_ediv, wrap_i64_id (h1 _ (Nat.div_le_self a b))]
theorem atD_dl (n : Nat) (k : Int) : atD (dl n) k = if k < 0 then 0 else dg n k.toNat := by unfold atD; split <;> simp only [dl_getD]
theorem atD_lt (n : Nat) (k : Int) : atD (dl n) k < 65536 := by rw [atD_dl]; split; decide; exact dg_lt _ _
theorem cons_dl {a R : Nat} (ha : a < 65536) : DL ([a] ++ dl R) ∧ dv ([a] ++ dl R) = R * 65536 + a := by
  refine ⟨DL.append (DL.one ha) (dl_DL R), ?_⟩
  rw [dv_append, dv_dl]; simp [dv]; omega
theorem tmod_sign {x y : Int} (h : x.tmod y ≠ 0) : decide (x.tmod y < 0) = decide (x < 0) := by
  rcases Int.lt_or_le x 0 with h1 | h1
  · have h2 : 0 ≤ (-x).tmod y := Int.tmod_nonneg y (by omega)
    rw [Int.neg_tmod] at h2
    rw [decide_eq_true (by omega), decide_eq_true h1]
  · have h2 : 0 ≤ x.tmod y := Int.tmod_nonneg y h1
    rw [decide_eq_false (by omega), decide_eq_false (by omega)]
theorem atD_m2 (x n : Nat) (h : 1 ≤ n) : atD (dl x) ((n : Int) - 2) = if n = 1 then 0 else dg x (n - 2) := by
  rw [atD_dl]
  by_cases h1 : n = 1
  · rw [if_pos h1, if_pos (by omega)]
  · rw [if_neg h1, if_neg (by omega)]; congr 1; omega
theorem atD_m1 (x n : Nat) (h : 1 ≤ n) : atD (dl x) ((n : Int) - 1) = dg x (n - 1) := by
  rw [atD_dl, if_neg (by omega)]; congr 1; omega
theorem guess_at {R B n : Nat} (hB : 0 < B) (hR : R < 65536 * B) (hn : n = (dl B).length) (h1 : 1 ≤ n) :
    0 < dg B (n - 1) * 65536 + atD (dl B) ((n : Int) - 2) ∧ R / B ≤ min 65535 ((atD (dl R) (n : Int) * 4294967296 + atD (dl R) ((n : Int) - 1) * 65536 + atD (dl R) ((n : Int) - 2)) / (dg B (n - 1) * 65536 + atD (dl B) ((n : Int) - 2))) := by
  refine guess16 hB hR hn (by rw [atD_m2 _ _ h1]) ?_
  rw [atD_m2 _ _ h1, atD_m1 _ _ h1, atD_dl, if_neg (by omega)]; rfl
theorem num_lt (R : Nat) (a b c : Int) : atD (dl R) a * 4294967296 + atD (dl R) b * 65536 + atD (dl R) c < 9223372036854775808 := by
  have h1 := atD_lt R a; have h2 := atD_lt R b; have h3 := atD_lt R c; omega
theorem div_less {R B d : Nat} (hB : 0 < B) (h : R / B ≤ d) (hl : R < B * d) : 1 ≤ d ∧ R / B ≤ d - 1 ∧ B ≤ B * d ∧ B * d - B = B * (d - 1) := by
  have h1 : R / B < d := by rw [Nat.div_lt_iff_lt_mul hB, Nat.mul_comm d B]; exact hl
  have h0 : 0 < d := Nat.lt_of_le_of_lt (Nat.zero_le _) h1
  obtain ⟨e, rfl⟩ : ∃ e, d = e + 1 := ⟨d - 1, by omega⟩
  refine ⟨h0, Nat.le_of_lt_succ h1, ?_, ?_⟩
  · rw [Nat.mul_succ]; omega
  · rw [Nat.mul_succ, Nat.add_sub_cancel, Nat.add_sub_cancel]
theorem div_done {R B d : Nat} (hB : 0 < B) (h : R / B ≤ d) (hl : ¬ R < B * d) : d = R / B ∧ R - B * d = R % B ∧ B * d ≤ R := by
  have h1 : d ≤ R / B := by rw [Nat.le_div_iff_mul_le hB, Nat.mul_comm d B]; exact Nat.le_of_not_lt hl
  have h2 : d = R / B := by omega
  have h3 := Nat.div_add_mod R B
  have h4 := Nat.le_of_not_lt hl
  refine ⟨h2, ?_, h4⟩
  rw [← h2] at h3; omega
theorem dl_le {A B : Nat} (h : A ≤ B) : (dl A).length ≤ (dl B).length := dl_len (Nat.lt_of_le_of_lt h (dl_lt B))
end Go.Num
