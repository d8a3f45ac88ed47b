/- Numbers: sums, differences and the order of lists of digits. No program stands in it. -/
import Derived.Test.YthbjhbmpfeeilaaNd
set_option linter.unusedVariables false
set_option linter.unusedSimpArgs false
namespace Go.Num
open Go Go.Kn
def cD (a b k : Nat) : Nat := (a % 65536 ^ k + b % 65536 ^ k) / 65536 ^ k
theorem cD_le (a b k : Nat) : cD a b k ≤ 1 := by
  unfold cD
  have h1 := Nat.mod_lt a (show 0 < 65536 ^ k from Nat.pow_pos (by decide))
  have h2 := Nat.mod_lt b (show 0 < 65536 ^ k from Nat.pow_pos (by decide))
  have : (a % 65536 ^ k + b % 65536 ^ k) / 65536 ^ k < 2 := by
    rw [Nat.div_lt_iff_lt_mul (Nat.pow_pos (by decide))]; omega
  omega
theorem cD_zero (a b : Nat) : cD a b 0 = 0 := by simp [cD, Nat.mod_one]
theorem plusD_digit (a b k : Nat) : (cD a b k + dg a k + dg b k) % 65536 = dg (a + b) k := by
  unfold cD dg
  generalize hp : 65536 ^ k = p
  have hp0 : 0 < p := by rw [← hp]; exact Nat.pow_pos (by decide)
  have h : (a + b) / p = a / p + b / p + (a % p + b % p) / p := by
    have e1 := Nat.div_add_mod a p
    have e2 := Nat.div_add_mod b p
    have : a + b = p * (a / p + b / p) + (a % p + b % p) := by rw [Nat.mul_add]; omega
    rw [this, Nat.mul_add_div hp0]
  rw [h]; omega
theorem plusD_carry (a b k : Nat) : (cD a b k + dg a k + dg b k) / 65536 = cD a b (k + 1) := by
  unfold cD
  rw [dmod_succ a k, dmod_succ b k, Nat.pow_succ]
  generalize hp : 65536 ^ k = p
  have hp0 : 0 < p := by rw [← hp]; exact Nat.pow_pos (by decide)
  rw [← Nat.div_div_eq_div_mul]
  congr 1
  rw [show a % p + p * dg a k + (b % p + p * dg b k) = p * (dg a k + dg b k) + (a % p + b % p) by rw [Nat.mul_add]; omega, Nat.mul_add_div hp0]
  omega
theorem add3 {x y c : Nat} (hx : x < 65536) (hy : y < 65536) (hc : c ≤ 1) : IntKind.i64.wrap (IntKind.i64.wrap ((x : Int) + (y : Int)) + (c : Int)) = ((c + x + y : Nat) : Int) := by
  rw [wrap_i64_id (n := (x : Int) + y) (by unfold I64; omega), wrap_i64_id (by unfold I64; omega)]; omega
theorem remI (n : Nat) : Value.int .i64 ((n : Int).tmod 65536) = IV (n % 65536) := congrArg (Value.int .i64) (rem_nat n 65536)
theorem quoI {n : Nat} (h : n < 4611686018427387904) : IntKind.i64.wrap ((n : Int).tdiv 65536) = ((n / 65536 : Nat) : Int) := by
  rw [Int.tdiv_eq_ediv_of_nonneg (by omega), wrap_i64_id (by unfold I64; omega)]; omega
theorem dv_snoc (l : List Nat) (d : Nat) : dv (l ++ [d]) = dv l + 65536 ^ l.length * d := by rw [dv_append]; simp [dv]
theorem plusD_step {A B k : Nat} {l : List Nat} (hl : l.length = k) (h : dv l = (A + B) % 65536 ^ k) : dv (l ++ [(cD A B k + dg A k + dg B k) % 65536]) = (A + B) % 65536 ^ (k + 1) := by
  rw [dv_snoc, hl, h, plusD_digit, dmod_succ]
theorem plusD_all {la lb : List Nat} (ha : DL la) (hb : DL lb) : (dv la + dv lb) % 65536 ^ (max la.length lb.length + 1) = dv la + dv lb := by
  refine Nat.mod_eq_of_lt ?_
  have h1 := dv_lt la ha
  have h2 := dv_lt lb hb
  have h3 : 65536 ^ la.length ≤ 65536 ^ max la.length lb.length := Nat.pow_le_pow_right (by decide) (by omega)
  have h4 : 65536 ^ lb.length ≤ 65536 ^ max la.length lb.length := Nat.pow_le_pow_right (by decide) (by omega)
  rw [Nat.pow_succ]; omega
theorem sub3 {x y c : Nat} (hx : x < 65536) (hy : y < 65536) (hc : c ≤ 1) : IntKind.i64.wrap (IntKind.i64.wrap ((x : Int) - (y : Int)) - (c : Int)) = (x : Int) - y - c := by
  rw [wrap_i64_id (n := (x : Int) - y) (by unfold I64; omega), wrap_i64_id (by unfold I64; omega)]
/-- The digit that a difference leaves, and what it borrows. -/
def md (x y c : Nat) : Nat := if x < y + c then x + 65536 - y - c else x - y - c
def mb (x y c : Nat) : Nat := if x < y + c then 1 else 0
theorem md_neg {x y c : Nat} (hx : x < 65536) (hy : y < 65536) (hc : c ≤ 1) (h : (x : Int) - y - c < 0) : Value.int .i64 (IntKind.i64.wrap ((x : Int) - y - c + 65536)) = IV (md x y c) := by
  rw [wrap_i64_id (by unfold I64; omega), IV, md, if_pos (by omega)]; congr 1; omega
theorem md_pos {x y c : Nat} (h : ¬ (x : Int) - y - c < 0) : Value.int .i64 ((x : Int) - y - c) = IV (md x y c) := by
  rw [IV, md, if_neg (by omega)]; congr 1; omega
theorem mb_neg {x y c : Nat} (h : (x : Int) - y - c < 0) : Value.int .i64 1 = .int .i64 ((mb x y c : Nat) : Int) := by rw [mb, if_pos (by omega)]; rfl
theorem mb_pos {x y c : Nat} (h : ¬ (x : Int) - y - c < 0) : Value.int .i64 0 = .int .i64 ((mb x y c : Nat) : Int) := by rw [mb, if_neg (by omega)]; rfl
theorem mb_le (x y c : Nat) : mb x y c ≤ 1 := by unfold mb; split <;> omega
theorem md_lt {x y c : Nat} (hx : x < 65536) (hy : y < 65536) (hc : c ≤ 1) : md x y c < 65536 := by unfold md; split <;> omega
theorem md_eq {x y c : Nat} (hy : y < 65536) (hc : c ≤ 1) : x + 65536 * mb x y c = md x y c + y + c := by unfold md mb; split <;> omega
theorem minusD_step {A B k c : Nat} {l : List Nat} (hl : l.length = k) (hc : c ≤ 1) (h : dv l + B % 65536 ^ k = A % 65536 ^ k + c * 65536 ^ k) :
    dv (l ++ [md (dg A k) (dg B k) c]) + B % 65536 ^ (k + 1) = A % 65536 ^ (k + 1) + mb (dg A k) (dg B k) c * 65536 ^ (k + 1) := by
  have e := md_eq (x := dg A k) (dg_lt B k) hc
  rw [dv_snoc, hl, dmod_succ, dmod_succ, Nat.pow_succ]
  generalize 65536 ^ k = p at *
  have e2 : p * dg A k + p * (65536 * mb (dg A k) (dg B k) c) = p * md (dg A k) (dg B k) c + p * dg B k + p * c := by rw [← Nat.mul_add, e, Nat.mul_add, Nat.mul_add]
  have e3 : mb (dg A k) (dg B k) c * (p * 65536) = p * (65536 * mb (dg A k) (dg B k) c) := by ac_rfl
  rw [e3]; rw [Nat.mul_comm c p] at h; omega
theorem minusD_all {la l : List Nat} {B c : Nat} (ha : DL la) (hD : DL l) (hl : l.length = la.length) (hle : B ≤ dv la) (h : dv l + B % 65536 ^ la.length = dv la % 65536 ^ la.length + c * 65536 ^ la.length) (hc : c ≤ 1) : dv l = dv la - B := by
  have h1 := dv_lt la ha
  have h2 := dv_lt l hD
  rw [hl] at h2
  rw [Nat.mod_eq_of_lt h1, Nat.mod_eq_of_lt (Nat.lt_of_le_of_lt hle h1)] at h
  have hc' : c = 0 ∨ c = 1 := by omega
  rcases hc' with rfl | rfl <;> omega
theorem dg_split (x k : Nat) : x / 65536 ^ k = dg x k + 65536 * (x / 65536 ^ (k + 1)) := by
  unfold dg
  rw [Nat.pow_succ, ← Nat.div_div_eq_div_mul]
  omega
theorem less_same {A B m : Nat} (h : A / 65536 ^ (m + 1) = B / 65536 ^ (m + 1)) (he : dg A m = dg B m) : A / 65536 ^ m = B / 65536 ^ m := by rw [dg_split A m, dg_split B m, h, he]
theorem less_step {A B m : Nat} (h : A / 65536 ^ (m + 1) = B / 65536 ^ (m + 1)) (hne : dg A m ≠ dg B m) : decide (((dg A m : Nat) : Int) < ((dg B m : Nat) : Int)) = decide (A < B) := by
  have ea := dg_split A m
  have eb := dg_split B m
  have hp : 0 < 65536 ^ m := Nat.pow_pos (by decide)
  have key : ∀ x y : Nat, x / 65536 ^ m < y / 65536 ^ m → x < y := fun x y hxy => by
    rcases Nat.lt_or_ge x y with h1 | h1
    · exact h1
    · have := Nat.div_le_div_right (c := 65536 ^ m) h1; omega
  rcases Nat.lt_or_ge (dg A m) (dg B m) with h1 | h1
  · rw [decide_eq_true (by omega), decide_eq_true (key A B (by omega))]
  · have := key B A (by omega)
    rw [decide_eq_false (by omega), decide_eq_false (by omega)]
theorem less_start {la lb : List Nat} (ha : DL la) (hb : DL lb) : dv la / 65536 ^ max la.length lb.length = dv lb / 65536 ^ max la.length lb.length := by
  have h3 : 65536 ^ la.length ≤ 65536 ^ max la.length lb.length := Nat.pow_le_pow_right (by decide) (by omega)
  have h4 : 65536 ^ lb.length ≤ 65536 ^ max la.length lb.length := Nat.pow_le_pow_right (by decide) (by omega)
  rw [Nat.div_eq_of_lt (Nat.lt_of_lt_of_le (dv_lt la ha) h3), Nat.div_eq_of_lt (Nat.lt_of_lt_of_le (dv_lt lb hb) h4)]
end Go.Num
