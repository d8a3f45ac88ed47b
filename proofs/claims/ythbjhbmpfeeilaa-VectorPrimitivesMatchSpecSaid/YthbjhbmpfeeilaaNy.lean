/- Numbers: products, shifts, short divisions, and the number of bits. No program stands in it. -/
import Derived.Test.YthbjhbmpfeeilaaNx
import Derived.Test.YthbjhbmpfeeilaaKs
set_option linter.unusedVariables false
set_option linter.unusedSimpArgs false
namespace Go.Num
open Go Go.Kn
theorem pow_pos' (k : Nat) : 0 < 4294967296 ^ k := Nat.pow_pos (by decide)
/-! multiplied by one digit or less -/
def mc (a m k : Nat) : Nat := a % 4294967296 ^ k * m / 4294967296 ^ k
theorem mc_zero (a m : Nat) : mc a m 0 = 0 := by simp [mc, Nat.mod_one]
theorem mc_lt {m : Nat} (a k : Nat) (hm : 0 < m) : mc a m k < m := by
  unfold mc
  rw [Nat.div_lt_iff_lt_mul (pow_pos' k), Nat.mul_comm m]
  exact Nat.mul_lt_mul_of_pos_right (Nat.mod_lt _ (pow_pos' k)) hm
theorem mc_carry (a m k : Nat) : (mc a m k + dig a k * m) / 4294967296 = mc a m (k + 1) := by
  unfold mc
  rw [mod_succ a k, Nat.pow_succ]
  generalize hp : 4294967296 ^ k = p
  have hp0 : 0 < p := by rw [← hp]; exact pow_pos' k
  rw [← Nat.div_div_eq_div_mul]
  congr 1
  rw [Nat.add_mul, Nat.mul_assoc, Nat.add_comm (a % p * m), Nat.mul_add_div hp0]
  omega
theorem mc_digit (a m k : Nat) : (mc a m k + dig a k * m) % 4294967296 = dig (a * m) k := by
  unfold mc dig
  generalize hp : 4294967296 ^ k = p
  have hp0 : 0 < p := by rw [← hp]; exact pow_pos' k
  have h : a * m / p = a / p * m + a % p * m / p := by
    have e1 := Nat.div_add_mod a p
    have : a * m = p * (a / p * m) + a % p * m := by
      rw [← Nat.mul_assoc, ← Nat.add_mul, e1]
    rw [this, Nat.mul_add_div hp0]
  rw [h]
  have e2 := Nat.div_add_mod (a / p) 4294967296
  have : a / p * m = 4294967296 * (a / p / 4294967296 * m) + a / p % 4294967296 * m := by
    rw [← Nat.mul_assoc, ← Nat.add_mul, e2]
  omega
theorem or_nat {a b : Nat} (h : a + b < 18446744073709551616) (hd : (a ||| b) = a + b) : IntKind.u64.wrap ((BitVec.ofInt IntKind.u64.bits (a : Int) ||| BitVec.ofInt IntKind.u64.bits (b : Int)).toNat : Int) = ((a + b : Nat) : Int) := by
  rw [wrap_u64]
  change ((BitVec.ofInt 64 (a : Int) ||| BitVec.ofInt 64 (b : Int)).toNat : Int) % 18446744073709551616 = _
  rw [BitVec.toNat_or, BitVec.toNat_ofInt, BitVec.toNat_ofInt]
  have e1 : ((a : Int) % ((2 ^ 64 : Nat) : Int)).toNat = a := by omega
  have e2 : ((b : Int) % ((2 ^ 64 : Nat) : Int)).toNat = b := by omega
  rw [e1, e2, hd]
  omega
theorem or_add_low {a x n : Nat} (h : a < 2 ^ n) : (a ||| x * 2 ^ n) = a + x * 2 ^ n := by
  rw [Nat.or_comm, ← Nat.shiftLeft_eq, ← Nat.shiftLeft_add_eq_or_of_lt h]; omega
theorem or_add_high {a x n : Nat} (h : a < 2 ^ n) : (x * 2 ^ n ||| a) = x * 2 ^ n + a := by
  rw [← Nat.shiftLeft_eq, ← Nat.shiftLeft_add_eq_or_of_lt h]
theorem shl_u32 {x n : Nat} (hx : x < 4294967296) (hn : n < 33) : IntKind.u64.wrap (IntKind.u64.wrap (x : Int) * 2 ^ (min ((n : Int)).toNat IntKind.u64.bits)) = ((x * 2 ^ n : Nat) : Int) := by
  have h1 : min ((n : Int)).toNat IntKind.u64.bits = n := by simp [IntKind.bits]; omega
  have h2 : x * 2 ^ n < 18446744073709551616 := by
    have : 2 ^ n ≤ 2 ^ 32 := Nat.pow_le_pow_right (by decide) (by omega)
    calc x * 2 ^ n ≤ x * 2 ^ 32 := Nat.mul_le_mul_left _ this
      _ < 18446744073709551616 := by omega
  have h3 : IntKind.u64.wrap (x : Int) = (x : Int) := by rw [wrap_u64]; omega
  rw [h1, h3, wrap_u64]
  have h4 : ((x : Int) * 2 ^ n) = ((x * 2 ^ n : Nat) : Int) := by simp
  rw [h4]; omega
theorem conv_u32_u64 {x : Nat} (hx : x < 4294967296) : IntKind.u64.wrap (x : Int) = (x : Int) := by rw [wrap_u64]; omega
theorem shl_r32 {r : Nat} (hr : r < 4294967296) : IntKind.u64.wrap ((r : Int) * 2 ^ (min (32 : Int).toNat IntKind.u64.bits)) = ((r * 2 ^ 32 : Nat) : Int) := by
  rw [wrap_u64]
  have : min (32 : Int).toNat IntKind.u64.bits = 32 := rfl
  rw [this]; omega
/-! shifted down -/
theorem down_digit {a n : Nat} (k : Nat) (hn : n < 33) : (dig a (k + 1) * 2 ^ 32 + dig a k) / 2 ^ n % 4294967296 = dig (a / 2 ^ n) k := by
  unfold dig
  rw [Nat.div_div_eq_div_mul a (2 ^ n), Nat.mul_comm (2 ^ n), ← Nat.div_div_eq_div_mul a, Nat.pow_succ, ← Nat.div_div_eq_div_mul a]
  generalize a / 4294967296 ^ k = x
  obtain ⟨m, hm⟩ : ∃ m, n + m = 32 := ⟨32 - n, by omega⟩
  have hpq : 2 ^ n * 2 ^ m = 4294967296 := by rw [← Nat.pow_add, hm]
  generalize 2 ^ n = p at *
  generalize 2 ^ m = q at *
  have hp0 : 0 < p := Nat.pos_of_ne_zero (fun h => by subst h; omega)
  have e1 := Nat.div_add_mod x 4294967296
  have e2 := Nat.div_add_mod (x / 4294967296) 4294967296
  have hx : x = p * (q * (4294967296 * (x / 4294967296 / 4294967296))) + (x / 4294967296 % 4294967296 * 2 ^ 32 + x % 4294967296) := by
    rw [← Nat.mul_assoc, hpq]; omega
  have h2 : x / p = q * (4294967296 * (x / 4294967296 / 4294967296)) + (x / 4294967296 % 4294967296 * 2 ^ 32 + x % 4294967296) / p := by
    conv => lhs; rw [hx]
    rw [Nat.mul_add_div hp0]
  rw [h2, ← Nat.mul_assoc, Nat.mul_comm q, Nat.mul_assoc, Nat.mul_add_mod]
/-! divided by one digit -/
theorem short_digit {a b : Nat} (k : Nat) (hb : 0 < b) : (a / 4294967296 ^ (k + 1) % b * 2 ^ 32 + dig a k) / b = dig (a / b) k ∧ (a / 4294967296 ^ (k + 1) % b * 2 ^ 32 + dig a k) % b = a / 4294967296 ^ k % b := by
  unfold dig
  rw [Nat.div_div_eq_div_mul a b, Nat.mul_comm b, ← Nat.div_div_eq_div_mul a, Nat.pow_succ, ← Nat.div_div_eq_div_mul a]
  generalize a / 4294967296 ^ k = x
  have e1 := Nat.div_add_mod x 4294967296
  have e2 := Nat.div_add_mod (x / 4294967296) b
  have hr := Nat.mod_lt (x / 4294967296) hb
  have hx : x = b * (x / 4294967296 / b * 4294967296) + (x / 4294967296 % b * 2 ^ 32 + x % 4294967296) := by
    rw [← Nat.mul_assoc]; omega
  have hlt : (x / 4294967296 % b * 2 ^ 32 + x % 4294967296) / b < 4294967296 := by
    rw [Nat.div_lt_iff_lt_mul hb]
    have h1 : x % 4294967296 < 4294967296 := Nat.mod_lt _ (by decide)
    have : x / 4294967296 % b * 2 ^ 32 + 2 ^ 32 ≤ b * 2 ^ 32 := by rw [← Nat.succ_mul]; exact Nat.mul_le_mul_right _ hr
    omega
  constructor
  · conv => rhs; rw [hx]
    rw [Nat.mul_add_div hb, Nat.mul_comm (x / 4294967296 / b), Nat.mul_add_mod, Nat.mod_eq_of_lt hlt]
  · conv => rhs; rw [hx]
    rw [Nat.mul_add_mod]
/-- The digits from k on, zeros before them. -/
def hpart (k n : Nat) : List Nat := List.replicate k 0 ++ (toL 16 n).drop k
theorem hpart_len {k : Nat} (n : Nat) (h : k ≤ 16) : (hpart k n).length = 16 := by simp [hpart, toL_len]; omega
theorem hpart_top (n : Nat) : hpart 16 n = List.replicate 16 0 := by
  unfold hpart; rw [List.drop_eq_nil_of_le (by rw [toL_len]; exact Nat.le_refl _), List.append_nil]
theorem hpart_all (n : Nat) : hpart 0 n = toL 16 n := by simp [hpart]
theorem toL_get {k n j : Nat} (h : j < k) : (toL k n)[j]? = some (dig n j) := by
  have := getD_val (toL k n) j (toL_lim _ _)
  rw [val_toL] at this
  have hl : j < (toL k n).length := by rw [toL_len]; exact h
  rw [List.getElem?_eq_getElem hl]
  simp only [List.getD, List.getElem?_eq_getElem hl, Option.getD_some] at this
  rw [this]
  congr 1
  unfold dig
  obtain ⟨m, rfl⟩ : ∃ m, k = j + 1 + m := ⟨k - (j + 1), by omega⟩
  rw [Nat.pow_add, Nat.mod_mul, Nat.pow_succ]
  generalize 4294967296 ^ j = p
  rw [Nat.mul_assoc, Nat.mod_mul]
  rcases Nat.eq_zero_or_pos p with h0 | h0
  · subst h0; simp
  · rw [Nat.add_assoc, ← Nat.mul_add, Nat.add_comm, Nat.mul_add_div h0, Nat.div_eq_of_lt (Nat.mod_lt _ h0), Nat.add_zero, Nat.add_mul_mod_self_left, Nat.mod_mod]
theorem hpart_set {k n : Nat} (h : k < 16) : (hpart (k + 1) n).set k (dig n k) = hpart k n := by
  unfold hpart
  have hk : k < (toL 16 n).length := by rw [toL_len]; exact h
  have hg : (toL 16 n)[k] = dig n k := by
    have := toL_get (n := n) h
    rw [List.getElem?_eq_getElem hk] at this; exact Option.some.inj this
  rw [List.drop_eq_getElem_cons hk, hg, List.replicate_succ', List.append_assoc, List.set_append_right _ _ (by simp)]
  simp
/-! the number of bits -/
def bl (n : Nat) : Nat := if n = 0 then 0 else n.log2 + 1
theorem bl_lt (n : Nat) : n < 2 ^ bl n := by
  unfold bl; split
  · rename_i h; subst h; decide
  · exact Nat.lt_log2_self
theorem bl_le {n : Nat} (h : n ≠ 0) : 2 ^ (bl n - 1) ≤ n := by
  unfold bl; rw [if_neg h, Nat.add_sub_cancel]; exact Nat.log2_self_le h
theorem bl_eq {n k : Nat} (h1 : n < 2 ^ k) (h2 : k = 0 ∨ 2 ^ (k - 1) ≤ n) : bl n = k := by
  by_cases h0 : n = 0
  · subst h0
    rcases h2 with rfl | h2
    · rfl
    · have := Nat.pow_pos (n := k - 1) (show 0 < 2 by decide); omega
  · have a1 := bl_lt n
    have a2 := bl_le h0
    have hb : bl n ≠ 0 := by unfold bl; rw [if_neg h0]; omega
    rcases Nat.lt_trichotomy (bl n) k with h | h | h
    · rcases h2 with rfl | h2
      · omega
      · have : 2 ^ bl n ≤ 2 ^ (k - 1) := Nat.pow_le_pow_right (by decide) (by omega)
        omega
    · exact h
    · have : 2 ^ k ≤ 2 ^ (bl n - 1) := Nat.pow_le_pow_right (by decide) (by omega)
      omega
theorem bl_shift {n k : Nat} (h : 2 ^ k ≤ n) : bl n = k + bl (n / 2 ^ k) := by
  have hp : 0 < 2 ^ k := Nat.pow_pos (by decide)
  have hq : n / 2 ^ k ≠ 0 := by
    intro h0
    rw [Nat.div_eq_zero_iff] at h0
    omega
  have a1 := bl_lt (n / 2 ^ k)
  have a2 := bl_le hq
  have hb : bl (n / 2 ^ k) ≠ 0 := by unfold bl; rw [if_neg hq]; omega
  refine bl_eq ?_ (.inr ?_)
  · rw [Nat.pow_add, Nat.mul_comm, ← Nat.div_lt_iff_lt_mul hp]; exact a1
  · rw [show k + bl (n / 2 ^ k) - 1 = k + (bl (n / 2 ^ k) - 1) by omega, Nat.pow_add]
    calc 2 ^ k * 2 ^ (bl (n / 2 ^ k) - 1) ≤ 2 ^ k * (n / 2 ^ k) := Nat.mul_le_mul_left _ a2
      _ ≤ n := Nat.mul_div_le _ _
theorem bl_small {n k : Nat} (h : n < 2 ^ k) : bl n ≤ k := by
  by_cases h0 : n = 0
  · subst h0; exact Nat.zero_le _
  · rcases Nat.lt_or_ge k (bl n) with h1 | h1
    · have a2 := bl_le h0
      have : 2 ^ k ≤ 2 ^ (bl n - 1) := Nat.pow_le_pow_right (by decide) (by omega)
      omega
    · exact h1
theorem shr_u32 (n k : Nat) : Value.int .u32 (((n : Int)).fdiv (2 ^ k)) = U32 (n / 2 ^ k) := by rw [shr_nat]; rfl
theorem u8_id {y : Nat} (h : y < 256) : Value.int .u8 (IntKind.u8.wrap (y : Int)) = .int .u8 (y : Int) := by
  congr 1; simp [IntKind.wrap, IntKind.bits, IntKind.signed]; omega
theorem conv_bl {y : Nat} (h : y < 256) : Value.int .i64 (IntKind.i64.wrap ((bl y : Nat) : Int)) = .int .i64 ((bl y : Nat) : Int) := by
  have := bl_small (k := 8) h
  congr 1; exact wrap_i64_id (by unfold I64; omega)
theorem len_fin {x y c : Nat} {n0 : Int} (e : n0 = c) (hc : c ≤ 24) (hy : y < 256) (hx : bl x = c + bl y) : Value.int .i64 (IntKind.i64.wrap (n0 + ((bl y : Nat) : Int))) = .int .i64 ((bl x : Nat) : Int) := by
  have := bl_small (k := 8) hy
  rw [e, wrap_i64_id (by unfold I64; omega), hx]; congr 1
theorem lz_fin {x : Nat} (h : x < 4294967296) : IntKind.i64.wrap (32 - ((bl x : Nat) : Int)) = ((32 - bl x : Nat) : Int) := by
  have := bl_small (k := 32) h
  rw [wrap_i64_id (by unfold I64; omega)]; omega
theorem up_or {c x n : Nat} (hc : c < 2 ^ n) (hx : x < 4294967296) (hn : n < 32) : IntKind.u64.wrap ((BitVec.ofInt IntKind.u64.bits (c : Int) ||| BitVec.ofInt IntKind.u64.bits ((x * 2 ^ n : Nat) : Int)).toNat : Int) = ((c + x * 2 ^ n : Nat) : Int) := by
  refine or_nat ?_ (or_add_low hc)
  have h1 : 2 ^ n ≤ 2 ^ 31 := Nat.pow_le_pow_right (by decide) (by omega)
  have h2 : x * 2 ^ n ≤ x * 2 ^ 31 := Nat.mul_le_mul_left _ h1
  omega
theorem down_or {r x : Nat} (hr : r < 4294967296) (hx : x < 4294967296) : IntKind.u64.wrap ((BitVec.ofInt IntKind.u64.bits ((r * 2 ^ 32 : Nat) : Int) ||| BitVec.ofInt IntKind.u64.bits (x : Int)).toNat : Int) = ((r * 2 ^ 32 + x : Nat) : Int) :=
  or_nat (by omega) (or_add_high hx)
theorem shr_n {x n : Nat} (hn : n < 32) : ((x : Int)).fdiv (2 ^ (min ((n : Int)).toNat IntKind.u64.bits)) = ((x / 2 ^ n : Nat) : Int) := by
  have h1 : min ((n : Int)).toNat IntKind.u64.bits = n := by simp [IntKind.bits]; omega
  rw [h1, shr_nat]
theorem quo_nat (a b : Nat) : IntKind.u64.wrap ((a : Int).tdiv (b : Int)) = ((a / b % 18446744073709551616 : Nat) : Int) := by
  rw [wrap_u64, Int.tdiv_eq_ediv_of_nonneg (by omega)]; rw [← Int.natCast_ediv]; omega
theorem rem_nat (a b : Nat) : (a : Int).tmod (b : Int) = ((a % b : Nat) : Int) := by
  rw [Int.tmod_eq_emod_of_nonneg (by omega)]; omega
theorem mc16 {xs : List Nat} (hx : xs.length = 16) (lx : Lim xs) {m : Nat} : mc (val xs) m 16 = val xs * m / 4294967296 ^ 16 := by
  have h := val_lt xs lx
  rw [hx] at h
  unfold mc; rw [Nat.mod_eq_of_lt h]
theorem up_over {xs : List Nat} (hx : xs.length = 16) (lx : Lim xs) {n : Nat} (hn : n < 32) : val xs * 2 ^ n / 4294967296 ^ 16 < 4294967296 := by
  rw [← mc16 hx lx]
  have h1 : 2 ^ n ≤ 2 ^ 31 := Nat.pow_le_pow_right (by decide) (by omega)
  have := mc_lt (m := 2 ^ n) (val xs) 16 (Nat.pow_pos (by decide))
  omega
theorem dig_high {xs : List Nat} (hx : xs.length = 16) (lx : Lim xs) {k : Nat} (h : 16 ≤ k) : dig (val xs) k = 0 := by
  rw [← getD_val xs k lx]; simp [List.getD, List.getElem?_eq_none (show xs.length ≤ k by omega)]
theorem div16 {xs : List Nat} (hx : xs.length = 16) (lx : Lim xs) {d : Nat} : val xs / 4294967296 ^ 16 % d = 0 := by
  have h := val_lt xs lx
  rw [hx] at h
  rw [Nat.div_eq_of_lt h, Nat.zero_mod]
theorem short_dig0 {a d : Nat} (m : Nat) (h0 : 0 < d) : (a / 4294967296 ^ (m + 1) % d * 2 ^ 32 + dig a m) / d % 18446744073709551616 % 4294967296 = dig (a / d) m := by
  rw [(short_digit m h0).1]
  have := dig_lt (a / d) m
  omega
end Go.Num
