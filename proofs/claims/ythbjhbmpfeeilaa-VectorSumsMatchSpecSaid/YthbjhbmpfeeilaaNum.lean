/- Plain numbers: digits to the base 2^32, the integers of at most 512 bits with their 'Bad', and how they are laid out. No program stands in it. -/
import GoSem.Core.Value
set_option linter.unusedVariables false
set_option linter.unusedSimpArgs false
namespace Go.Num
open Go

/-- The value of digits, the least one first. -/
def val : List Nat → Nat
  | [] => 0
  | d :: l => d + 4294967296 * val l
def Lim (l : List Nat) : Prop := ∀ d ∈ l, d < 4294967296
def toL : Nat → Nat → List Nat
  | 0, _ => []
  | k + 1, n => n % 4294967296 :: toL k (n / 4294967296)
abbrev BB : Nat := 4294967296
theorem toL_len : ∀ k n, (toL k n).length = k
  | 0, _ => rfl
  | k + 1, n => by simp [toL, toL_len k]
theorem toL_lim : ∀ k n, Lim (toL k n)
  | 0, _ => by intro d h; cases h
  | k + 1, n => by
    intro d h
    simp only [toL, List.mem_cons] at h
    rcases h with rfl | h
    · omega
    · exact toL_lim k _ d h
theorem val_toL : ∀ k n, val (toL k n) = n % 4294967296 ^ k
  | 0, n => by simp [toL, val, Nat.mod_one]
  | k + 1, n => by
    simp only [toL, val, val_toL k]
    rw [Nat.pow_succ, Nat.mul_comm (4294967296 ^ k), Nat.mod_mul]
theorem Lim.tail {d : Nat} {l : List Nat} (h : Lim (d :: l)) : Lim l := fun x hx => h x (List.mem_cons_of_mem _ hx)
theorem Lim.head {d : Nat} {l : List Nat} (h : Lim (d :: l)) : d < 4294967296 := h d List.mem_cons_self
theorem toL_val : ∀ l, Lim l → toL l.length (val l) = l
  | [], _ => rfl
  | d :: l, h => by
    have h0 := h.head
    simp only [List.length_cons, toL, val]
    rw [show (d + 4294967296 * val l) % 4294967296 = d by omega, show (d + 4294967296 * val l) / 4294967296 = val l by omega, toL_val l h.tail]
theorem val_lt : ∀ l, Lim l → val l < 4294967296 ^ l.length
  | [], _ => by simp [val]
  | d :: l, h => by
    have h0 := h.head
    have h1 := val_lt l h.tail
    simp only [val, List.length_cons, Nat.pow_succ]
    have : 4294967296 * val l + 4294967296 ≤ 4294967296 * 4294967296 ^ l.length := by
      rw [← Nat.mul_succ]; exact Nat.mul_le_mul_left _ h1
    omega
theorem val_append : ∀ a b, val (a ++ b) = val a + 4294967296 ^ a.length * val b
  | [], b => by simp [val]
  | d :: a, b => by
    simp only [List.cons_append, val, val_append a b, List.length_cons, Nat.pow_succ]
    rw [Nat.mul_add, ← Nat.mul_assoc, Nat.mul_comm 4294967296 (4294967296 ^ a.length)]; omega
theorem val_inj {a b : List Nat} (ha : Lim a) (hb : Lim b) (hl : a.length = b.length) (h : val a = val b) : a = b := by
  rw [← toL_val a ha, ← toL_val b hb, hl, h]
theorem val_zeros : ∀ n, val (List.replicate n 0) = 0
  | 0 => rfl
  | n + 1 => by simp [List.replicate_succ, val, val_zeros n]
theorem lim_zeros (n : Nat) : Lim (List.replicate n 0) := fun d h => by rw [List.eq_of_mem_replicate h]; decide
theorem toL_zero (k : Nat) : toL k 0 = List.replicate k 0 := by
  refine val_inj (toL_lim _ _) (lim_zeros _) (by simp [toL_len]) (by rw [val_toL, val_zeros]; simp)
theorem val_eq_zero {l : List Nat} (h : Lim l) : val l = 0 ↔ l = List.replicate l.length 0 := by
  constructor
  · intro e; exact val_inj h (lim_zeros _) (by simp) (by rw [e, val_zeros])
  · intro e; rw [e, val_zeros]
/-- The digit k of a number. -/
def dig (n k : Nat) : Nat := n / 4294967296 ^ k % 4294967296
theorem dig_lt (n k : Nat) : dig n k < 4294967296 := Nat.mod_lt _ (by decide)
theorem toL_snoc : ∀ k n, toL (k + 1) n = toL k n ++ [dig n k]
  | 0, n => by simp [toL, dig]
  | k + 1, n => by
    rw [toL, toL_snoc k (n / 4294967296)]
    simp only [toL, List.cons_append]
    congr 3
    simp only [dig, Nat.div_div_eq_div_mul, Nat.pow_succ, Nat.mul_comm]
theorem getD_val : ∀ (l : List Nat) (k : Nat), Lim l → l.getD k 0 = dig (val l) k
  | [], k, _ => by simp [val, dig]
  | d :: l, 0, h => by
    have := h.head
    simp only [val, dig, List.getD_cons_zero, Nat.pow_zero, Nat.div_one]; omega
  | d :: l, k + 1, h => by
    have h0 := h.head
    simp only [val, List.getD_cons_succ]
    rw [getD_val l k h.tail]
    simp only [dig]
    congr 1
    rw [Nat.pow_succ, Nat.mul_comm (4294967296 ^ k), ← Nat.div_div_eq_div_mul]
    congr 1
    omega
theorem mod_succ (n k : Nat) : n % 4294967296 ^ (k + 1) = n % 4294967296 ^ k + 4294967296 ^ k * dig n k := by
  rw [Nat.pow_succ, Nat.mod_mul]; rfl
theorem toL_mod (k n m : Nat) (h : n % 4294967296 ^ k = m % 4294967296 ^ k) : toL k n = toL k m :=
  val_inj (toL_lim _ _) (toL_lim _ _) (by simp [toL_len]) (by rw [val_toL, val_toL, h])
/-- The first k digits of n, zeros behind them, r in all. -/
def dpart (k n r : Nat) : List Nat := toL k n ++ List.replicate (r - k) 0
theorem dpart_len {k r : Nat} (n : Nat) (h : k ≤ r) : (dpart k n r).length = r := by simp [dpart, toL_len]; omega
theorem dpart_zero (n r : Nat) : dpart 0 n r = List.replicate r 0 := by simp [dpart, toL]
theorem dpart_all (n r : Nat) : dpart r n r = toL r n := by simp [dpart]
theorem dpart_set {k r : Nat} (n : Nat) (h : k < r) : (dpart k n r).set k (dig n k) = dpart (k + 1) n r := by
  unfold dpart
  rw [List.set_append_right _ _ (by simp [toL_len]), toL_len, Nat.sub_self, toL_snoc]
  obtain ⟨m, hm⟩ : ∃ m, r - k = m + 1 := ⟨r - k - 1, by omega⟩
  rw [hm, show r - (k + 1) = m by omega, List.replicate_succ, List.set_cons_zero]
  simp

/-! ### Integers of at most 512 bits -/
@[ext] structure Z where
  o : Option Int
  h : ∀ v, o = some v → v.natAbs < 4294967296 ^ 16
def Z.bad : Z := ⟨none, fun _ h => by cases h⟩
def Z.of (v : Int) : Z := if h : v.natAbs < 4294967296 ^ 16 then ⟨some v, fun u hu => by cases hu; exact h⟩ else Z.bad
theorem Z.of_o (v : Int) : (Z.of v).o = if v.natAbs < 4294967296 ^ 16 then some v else none := by
  unfold Z.of; split <;> rfl
theorem Z.of_some {v : Int} (h : v.natAbs < 4294967296 ^ 16) : (Z.of v).o = some v := by rw [Z.of_o, if_pos h]
theorem Z.eq_of {z : Z} {v : Int} (h : z.o = some v) : z = Z.of v := by
  ext1; rw [h, Z.of_some (z.h v h)]
theorem Z.eq_bad {z : Z} (h : z.o = none) : z = Z.bad := by ext1; rw [h]; rfl
/-- An api.Int, whatever lies in it. -/
structure R where
  bad : Bool
  neg : Bool
  w : List Nat
structure R.Ok (r : R) : Prop where
  len : r.w.length = 16
  lim : Lim r.w
def R.zero (r : R) : Bool := val r.w == 0
def R.valid (r : R) : Bool := if r.bad then r.zero && !r.neg else !r.zero || !r.neg
def R.good (r : R) : Bool := !r.bad && r.valid
def sgn (neg : Bool) (n : Nat) : Int := if neg then -(n : Int) else n
theorem sgn_abs (neg : Bool) (n : Nat) : (sgn neg n).natAbs = n := by cases neg <;> simp [sgn]
def R.dec (r : R) : Z := if r.good then Z.of (sgn r.neg (val r.w)) else Z.bad
def Z.enc (z : Z) : R := match z.o with
  | none => ⟨true, false, List.replicate 16 0⟩
  | some v => ⟨false, decide (v < 0), toL 16 v.natAbs⟩
theorem Z.enc_ok (z : Z) : z.enc.Ok := by
  unfold Z.enc
  cases z.o with
  | none => exact ⟨by simp, lim_zeros _⟩
  | some v => exact ⟨toL_len _ _, toL_lim _ _⟩
theorem Z.enc_good (z : Z) : z.enc.good = z.o.isSome := by
  unfold Z.enc
  cases hz : z.o with
  | none => rfl
  | some v =>
    have hv := z.h v hz
    simp only [R.good, R.valid, R.zero, val_toL, Nat.mod_eq_of_lt hv, Bool.not_false, Bool.true_and, Bool.false_eq_true, if_false, Option.isSome_some]
    by_cases h : v < 0
    · have : (v.natAbs == 0) = false := by simp; omega
      simp [this]
    · simp [h]
theorem dec_enc (z : Z) : z.enc.dec = z := by
  unfold R.dec
  rw [Z.enc_good]
  cases hz : z.o with
  | none => simp only [Option.isSome_none, Bool.false_eq_true, if_false]; exact (Z.eq_bad hz).symm
  | some v =>
    have hv := z.h v hz
    simp only [Option.isSome_some, if_true]
    rw [Z.eq_of hz]
    congr 1
    have : (Z.of v).enc = ⟨false, decide (v < 0), toL 16 v.natAbs⟩ := by unfold Z.enc; rw [Z.of_some hv]
    rw [this]
    simp only [val_toL, Nat.mod_eq_of_lt hv, sgn]
    by_cases h : v < 0
    · simp [h]; omega
    · simp [h]; omega
theorem enc_dec {r : R} (h : r.Ok) (hv : r.good = true) : r.dec.enc = r := by
  obtain ⟨bad, neg, w⟩ := r
  have hl := val_lt w h.lim
  have hlen : w.length = 16 := h.len
  rw [hlen] at hl
  unfold R.dec
  rw [if_pos hv]
  have ho : (Z.of (sgn neg (val w))).o = some (sgn neg (val w)) := Z.of_some (by rw [sgn_abs]; exact hl)
  unfold Z.enc
  rw [ho]
  simp only [sgn_abs]
  have hw : toL 16 (val w) = w := by rw [← hlen]; exact toL_val w h.lim
  rw [hw]
  simp only [R.good, R.valid, R.zero, Bool.and_eq_true, Bool.not_eq_true'] at hv
  obtain ⟨hb, hv⟩ := hv
  subst hb
  simp only [Bool.false_eq_true, if_false, Bool.or_eq_true, Bool.not_eq_true', beq_eq_false_iff_ne] at hv
  congr 1
  cases neg
  · simp [sgn]
  · have h0 : val w ≠ 0 := by rcases hv with hv | hv; exact hv; cases hv
    have h1 : (0 : Int) < (val w : Int) := by omega
    simp only [sgn, if_true]
    exact decide_eq_true (by omega)
theorem dec_bad {r : R} (h : r.good = false) : r.dec = Z.bad := by unfold R.dec; rw [h]; rfl
theorem dec_good {r : R} (h : r.Ok) (hg : r.good = true) : r.dec.o = some (sgn r.neg (val r.w)) := by
  unfold R.dec; rw [if_pos hg]
  have hl := val_lt r.w h.lim
  rw [h.len] at hl
  exact Z.of_some (by rw [sgn_abs]; exact hl)
/-- The number with these digits and this sign. -/
theorem enc_of_digits (neg : Bool) {w : List Nat} (hl : w.length = 16) (hw : Lim w) : (Z.of (sgn neg (val w))).enc = ⟨false, neg && !(val w == 0), w⟩ := by
  have h1 := val_lt w hw
  rw [hl] at h1
  have ho : (Z.of (sgn neg (val w))).o = some (sgn neg (val w)) := Z.of_some (by rw [sgn_abs]; exact h1)
  unfold Z.enc
  rw [ho]
  simp only [sgn_abs]
  rw [show toL 16 (val w) = w by rw [← hl]; exact toL_val w hw]
  congr 1
  cases neg
  · simp [sgn]
  · by_cases h0 : val w = 0
    · simp [sgn, h0]
    · have h2 : (val w == 0) = false := by simpa using h0
      have h3 : (0 : Int) < (val w : Int) := by omega
      simp only [sgn, if_true, h2, Bool.not_false, Bool.and_true]
      exact decide_eq_true (by omega)
def lift2 (f : Int → Int → Z) (a b : Z) : Z := match a.o, b.o with
  | some x, some y => f x y
  | _, _ => Z.bad
def lift1 (f : Int → Z) (a : Z) : Z := match a.o with
  | some x => f x
  | none => Z.bad
def Z.add : Z → Z → Z := lift2 fun x y => Z.of (x + y)
def Z.neg : Z → Z := lift1 fun x => Z.of (-x)
def Z.abs : Z → Z := lift1 fun x => Z.of x.natAbs
def Z.sub (a b : Z) : Z := a.add b.neg
def Z.mul : Z → Z → Z := lift2 fun x y => Z.of (x * y)
def Z.quo : Z → Z → Z := lift2 fun x y => if y = 0 then Z.bad else Z.of (x.fdiv y)
def Z.rem : Z → Z → Z := lift2 fun x y => if y = 0 then Z.bad else Z.of (x.fmod y)
def Z.gcd : Z → Z → Z := lift2 fun x y => Z.of (Int.gcd x y)
def Z.sign (a : Z) : Int := match a.o with | some x => x.sign | none => 0
def cmpI (x y : Int) : Int := if x < y then -1 else if x = y then 0 else 1
def Z.cmp (a b : Z) : Int := match a.o, b.o with
  | none, none => 0
  | none, some _ => -1
  | some _, none => 1
  | some x, some y => cmpI x y
def Z.small (a : Z) : Int × Bool := match a.o with
  | some x => if -9223372036854775808 ≤ x ∧ x ≤ 9223372036854775807 then (x, true) else (0, false)
  | none => (0, false)

/-! ### As values -/
def U32 (n : Nat) : Value := .int .u32 n
def uw (l : List Nat) : List Value := l.map U32
def R.cells (r : R) : List Value := .bool r.bad :: .bool r.neg :: uw r.w
def UV (l : List Nat) : Value := .agg (uw l).toArray
def RV (r : R) : Value := .agg r.cells.toArray
theorem uw_len (l : List Nat) : (uw l).length = l.length := by simp [uw]
theorem cells_len {r : R} (h : r.Ok) : r.cells.length = 18 := by simp [R.cells, uw, h.len]
theorem uw_get {l : List Nat} {k : Nat} (h : k < l.length) : (uw l)[k]? = some (U32 (l.getD k 0)) := by simp [uw, h]
theorem uw_set (l : List Nat) (k n : Nat) : (uw l).set k (U32 n) = uw (l.set k n) := by simp [uw, List.map_set]
theorem U32_inj {a b : Nat} (h : U32 a = U32 b) : a = b := by simp only [U32, Value.int.injEq, true_and] at h; omega
theorem uw_inj : ∀ {a b : List Nat}, uw a = uw b → a = b
  | [], [], _ => rfl
  | x :: a, y :: b, h => by
    simp only [uw, List.map_cons, List.cons.injEq] at h
    rw [U32_inj h.1, uw_inj (a := a) (b := b) h.2]
  | [], _ :: _, h => by cases h
  | _ :: _, [], h => by cases h
end Go.Num
