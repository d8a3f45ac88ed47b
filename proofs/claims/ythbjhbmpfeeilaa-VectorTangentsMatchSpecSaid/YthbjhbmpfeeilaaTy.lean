/- Types of the program's values: integers of 64 bits, api.Int, rows and structs of them. No program stands in it. -/
import Derived.Test.YthbjhbmpfeeilaaKv
import Derived.Test.YthbjhbmpfeeilaaNs
import Derived.Test.YthbjhbmpfeeilaaNh
set_option linter.unusedVariables false
set_option linter.unusedSimpArgs false
namespace Go.Num
open Go Go.Kn
instance (n : Int) : Decidable (I64 n) := by unfold I64; infer_instance
/-- A Go int. -/
abbrev W := {n : Int // I64 n}
theorem wrap_I64 (n : Int) : I64 (IntKind.i64.wrap n) := by rw [wrap_i64]; unfold I64; split <;> omega
abbrev wl (n : Int) (h : I64 n := by decide) : W := ⟨n, h⟩
def W.add (a b : W) : W := ⟨IntKind.i64.wrap (a.1 + b.1), wrap_I64 _⟩
def W.sub (a b : W) : W := ⟨IntKind.i64.wrap (a.1 - b.1), wrap_I64 _⟩
def W.mul (a b : W) : W := ⟨IntKind.i64.wrap (a.1 * b.1), wrap_I64 _⟩
def W.neg (a : W) : W := ⟨IntKind.i64.wrap (0 - a.1), wrap_I64 _⟩
def W.quo (a b : W) : W := ⟨IntKind.i64.wrap (a.1.tdiv b.1), wrap_I64 _⟩
theorem tmod_I64 {a b : Int} (ha : I64 a) : I64 (a.tmod b) := by
  have h : (a.tmod b).natAbs ≤ a.natAbs := by rw [Int.natAbs_tmod]; exact Nat.mod_le _ _
  by_cases h0 : a = -9223372036854775808
  · subst h0
    have h1 : Int.tmod (-9223372036854775808) b ≤ 0 := by rw [Int.neg_tmod]; have := Int.tmod_nonneg b (show (0 : Int) ≤ 9223372036854775808 by decide); omega
    unfold I64; omega
  · unfold I64 at *; omega
def W.rem (a b : W) : W := ⟨a.1.tmod b.1, tmod_I64 a.2⟩
deriving instance DecidableEq for R
/-- An api.Int. -/
abbrev I := {r : R // r.Ok}
def I.dec (x : I) : Z := x.1.dec
def E (z : Z) : I := ⟨z.enc, Z.enc_ok z⟩
def I0 : I := ⟨⟨false, false, List.replicate 16 0⟩, ⟨by simp, lim_zeros 16⟩⟩
theorem E_dec (z : Z) : (E z).dec = z := dec_enc z
theorem E_inj {a b : Z} (h : E a = E b) : a = b := by rw [← E_dec a, ← E_dec b, h]
theorem E_eq (a b : Z) : (E a = E b) ↔ a = b := ⟨E_inj, fun h => by rw [h]⟩
theorem cg1 {α : Type} (g : Z → α) {x : I} {a : Z} (h : x.dec = a) : g x.1.dec = g a := by subst h; rfl
theorem cg2 {α : Type} (g : Z → Z → α) {x y : I} {a b : Z} (h : x.dec = a) (k : y.dec = b) : g x.1.dec y.1.dec = g a b := by subst h k; rfl
instance : DecidableEq Z := fun a b => decidable_of_iff (a.o = b.o) ⟨fun h => Z.ext h, fun h => by rw [h]⟩
def pI (x : I) : Part := ⟨18, x.1.cells, cells_len x.2, cells_plain _⟩
theorem cells_inj {a b : R} (h : a.cells = b.cells) : a = b := by
  cases a; cases b
  simp only [R.cells, List.cons.injEq, Value.bool.injEq] at h
  obtain ⟨h1, h2, h3⟩ := h
  rw [h1, h2, uw_inj h3]
theorem eq_pI {a b : I} : decide (a = b) = true ↔ (pI a).l = (pI b).l := by
  rw [decide_eq_true_iff]
  exact ⟨fun h => by rw [h], fun h => Subtype.ext (cells_inj h)⟩
def LI : List Leaf := none :: none :: List.replicate 16 (some .u32)
theorem lv_pI {a : I} : leavesOk (pI a).l LI = true := by
  show (leafOk _ none && (leafOk _ none && leavesOk (uw a.1.w) (List.replicate 16 (some .u32)))) = true
  rw [uwLeaves a.2.len]; rfl
/-! what the functions of the layer of whole numbers return, as words -/
theorem sign_I64 (z : Z) : I64 z.sign := by
  unfold Z.sign; split
  · rename_i x _
    have h : x.sign = -1 ∨ x.sign = 0 ∨ x.sign = 1 := by
      rcases Int.lt_trichotomy x 0 with h | h | h
      · exact .inl (Int.sign_eq_neg_one_of_neg h)
      · subst h; exact .inr (.inl rfl)
      · exact .inr (.inr (Int.sign_eq_one_of_pos h))
    unfold I64; omega
  · decide
def Z.signW (z : Z) : W := ⟨z.sign, sign_I64 z⟩
theorem cmp_I64 (a b : Z) : I64 (Z.cmp a b) := by
  unfold Z.cmp; split <;> try decide
  unfold cmpI; split
  · decide
  · split <;> decide
def Z.cmpW (a b : Z) : W := ⟨Z.cmp a b, cmp_I64 a b⟩
theorem small_I64 (z : Z) : I64 z.small.1 := by
  unfold Z.small; split
  · split
    · rename_i h; unfold I64; exact h
    · decide
  · decide
def Z.smallW (z : Z) : W := ⟨z.small.1, small_I64 z⟩
/-! digits -/
theorem dv_one : dv [1] = 1 := rfl
theorem lt32 {a : R} (ha : a.Ok) : val a.w < 65536 ^ 32 := by rw [pow512]; exact ha.vlt
theorem dadd {n m k : Nat} (hn : n < 65536 ^ k) (hm : m < 65536 ^ k) : n + m < 65536 ^ (k + 1) := by rw [Nat.pow_succ]; omega
theorem dsub {n m k : Nat} (hn : n < 65536 ^ k) : n - m < 65536 ^ k := Nat.lt_of_le_of_lt (Nat.sub_le _ _) hn
theorem dmul {n m i k : Nat} (hn : n < 65536 ^ i) (hm : m < 65536 ^ k) : n * m < 65536 ^ (i + k) := by rw [Nat.pow_add]; exact Nat.mul_lt_mul_of_lt_of_lt hn hm
theorem ddiv {n m k : Nat} (hn : n < 65536 ^ k) : n / m < 65536 ^ k := Nat.lt_of_le_of_lt (Nat.div_le_self _ _) hn
theorem drem {n m k : Nat} (hn : n < 65536 ^ k) : n % m < 65536 ^ k := Nat.lt_of_le_of_lt (Nat.mod_le _ _) hn
theorem wordI_I64 (a : R) : I64 (wordI a) := by
  by_cases h : wordB a = true
  · have h1 : wordI a = sgn a.neg (val a.w) := by unfold wordI; rw [if_pos h]
    unfold wordB at h
    rw [Bool.and_eq_true, decide_eq_true_iff] at h
    rw [h1]; unfold I64; cases a.neg <;> simp only [sgn_t, sgn_f] <;> omega
  · unfold wordI; rw [if_neg h]; decide
def wordW (a : I) : W := ⟨wordI a.1, wordI_I64 a.1⟩
def W.fdiv (a b : W) : W := ⟨IntKind.i64.wrap (a.1.fdiv b.1), wrap_I64 _⟩
theorem hfl_of {a b : I} (h : (wordB a.1 && (wordB b.1 && ((wordW b).1 != 0))) = true) : (wordW a).1 ≠ -9223372036854775808 ∧ (wordW b).1 ≠ 0 ∧ (wordW a).1.fdiv (wordW b).1 = (W.fdiv (wordW a) (wordW b)).1 := by
  simp only [Bool.and_eq_true, bne_iff_ne] at h
  obtain ⟨h1, h2, h0⟩ := h
  have h3 := (word_dec a.2 h1).2.2.2
  refine ⟨fun hc => ?_, h0, (wrap_i64_id (fdiv_I64 h3 h0)).symm⟩
  have : wordI a.1 = -9223372036854775808 := hc
  omega
theorem hB_of {x y : Bool} {n : Nat} (h : (x || (y || ((((dl n).length : Nat) : Int) == 0))) = false) : 0 < n := by
  simp only [Bool.or_eq_false_iff, beq_eq_false_iff_ne] at h
  obtain ⟨_, _, h⟩ := h
  rcases Nat.eq_zero_or_pos n with rfl | hn
  · exact absurd (by rw [dl_zero]; rfl) h
  · exact hn
/-- Rows of three, of four; structs. -/
structure A3 (α : Type) where
  x : α
  y : α
  z : α
deriving DecidableEq
structure A4 (α : Type) where
  x : α
  y : α
  z : α
  t : α
deriving DecidableEq
structure Rt where
  n : I
  d : I
deriving DecidableEq
/-- skewbackref06.Direction -/
structure Dir where
  v : A3 W
  e : W
deriving DecidableEq
end Go.Num
