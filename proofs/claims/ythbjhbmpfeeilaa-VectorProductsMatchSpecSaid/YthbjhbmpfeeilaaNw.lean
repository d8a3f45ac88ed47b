/- Numbers as values: what the walks of the packages of numbers lean on. No program stands in it. -/
import Derived.Test.YthbjhbmpfeeilaaKb
import Derived.Test.YthbjhbmpfeeilaaNum
set_option linter.unusedVariables false
set_option linter.unusedSimpArgs false
namespace Go.Num
open Go Go.Kn
theorem cellsW {r : R} (h : r.w.length = 16) : (r.cells.drop (0 + 2)).take 16 = uw r.w := by
  simp only [R.cells, Nat.zero_add, List.drop_succ_cons, List.drop_zero]
  exact List.take_of_length_le (by simp [uw, h])
theorem uwLeaves {l : List Nat} {n : Nat} (h : l.length = n) : leavesOk (uw l) (List.replicate n (some IntKind.u32)) = true := by
  subst h
  induction l with
  | nil => rfl
  | cons d l ih => simp only [uw, List.map_cons, List.length_cons, List.replicate_succ, leavesOk, Bool.and_eq_true]; exact ⟨rfl, ih⟩
theorem R.Ok.zero_iff {r : R} (h : r.Ok) : r.zero = true ↔ uw r.w = uw (List.replicate 16 0) := by
  unfold R.zero
  rw [beq_iff_eq, val_eq_zero h.lim, h.len]
  exact ⟨fun e => by rw [e], fun e => uw_inj e⟩
def zR : List Value := .bool false :: .bool false :: uw (List.replicate 16 0)
theorem uw_plain (l : List Nat) : ∀ v ∈ uw l, plain v = true := fun v h => by
  obtain ⟨n, _, rfl⟩ := List.mem_map.1 h; rfl
theorem cells_plain (r : R) : ∀ v ∈ r.cells, plain v = true := fun v h => by
  simp only [R.cells, List.mem_cons] at h
  rcases h with rfl | rfl | h
  · rfl
  · rfl
  · exact uw_plain _ v h
theorem fillNW {x : Bool} {w : List Nat} (hw : w.length = 16) : FillR (fun i => ([(0, 1), (1, 1), (2, 16)] : List (Nat × Nat))[i]?) zR [(1, .bool x), (2, .agg (uw w).toArray)] (R.cells ⟨false, x, w⟩) :=
  .cons rfl (vs := [.bool x]) rfl rfl (by simp [zR]) rfl (.cons rfl (vs := uw w) rfl (by simp [uw, hw]) (by simp [zR, uw]) (by simp [zR, uw, R.cells]) (.nil _))
theorem fill2 {a b : Int} {m n : Nat} (ha : a = m) (hb : b = n) : FillR (fun i => some (i * 1, 1)) (uw (List.replicate 16 0)) [(0, .int .u32 a), (1, .int .u32 b)] (uw (m :: n :: List.replicate 14 0)) := by
  subst ha; subst hb
  exact .cons rfl (vs := [U32 m]) rfl rfl (by simp [uw]) rfl (.cons rfl (vs := [U32 n]) rfl rfl (by simp [uw]) rfl (.nil _))
theorem wrap_u32 (n : Int) : IntKind.u32.wrap n = n % 4294967296 := by simp [IntKind.wrap, IntKind.bits, IntKind.signed]
theorem wrap_u64 (n : Int) : IntKind.u64.wrap n = n % 18446744073709551616 := by simp [IntKind.wrap, IntKind.bits, IntKind.signed]
theorem wrap_i64 (n : Int) : IntKind.i64.wrap n = if n % 18446744073709551616 ≥ 9223372036854775808 then n % 18446744073709551616 - 18446744073709551616 else n % 18446744073709551616 := by simp [IntKind.wrap, IntKind.bits, IntKind.signed]
def I64 (n : Int) : Prop := -9223372036854775808 ≤ n ∧ n ≤ 9223372036854775807
theorem wrap_i64_id {n : Int} (h : I64 n) : IntKind.i64.wrap n = n := by unfold I64 at h; rw [wrap_i64]; split <;> omega
theorem val2 (a b : Nat) (n : Nat) : val (a :: b :: List.replicate n 0) = a + 4294967296 * b := by simp [val, val_zeros]
theorem lim2 {a b : Nat} (ha : a < 4294967296) (hb : b < 4294967296) (n : Nat) : Lim (a :: b :: List.replicate n 0) := fun d h => by
  simp only [List.mem_cons] at h
  rcases h with rfl | rfl | h
  · exact ha
  · exact hb
  · exact lim_zeros _ _ h
/-- What 'Of' makes of a number of 64 bits. -/
theorem of_enc {n : Int} {a b : Nat} (h : I64 n) (ha : a = n.natAbs % 4294967296) (hb : b = n.natAbs / 4294967296) : R.mk false (decide (n < 0) && !(val (a :: b :: List.replicate 14 0) == 0)) (a :: b :: List.replicate 14 0) = (Z.of n).enc := by
  unfold I64 at h
  have hn : n.natAbs ≤ 9223372036854775808 := by omega
  have hv : val (a :: b :: List.replicate 14 0) = n.natAbs := by rw [val2]; omega
  have hs : sgn (decide (n < 0)) n.natAbs = n := by by_cases h0 : n < 0 <;> simp [sgn, h0] <;> omega
  have := enc_of_digits (decide (n < 0)) (w := a :: b :: List.replicate 14 0) (by simp) (lim2 (by omega) (by omega) 14)
  rw [← this, hv, hs]
end Go.Num
namespace Go.Num
open Go Go.Kn
theorem zero_iff' {w : List Nat} (hw : w.length = 16) (hl : Lim w) : (val w == 0) = true ↔ uw w = uw (List.replicate 16 0) := by
  rw [beq_iff_eq, val_eq_zero hl, hw]
  exact ⟨fun e => by rw [e], fun e => uw_inj e⟩
theorem take_all_succ {rs : List R} {k : Nat} {r : R} (_ : k < rs.length) (hr : rs[k]? = some r) : rs.take (k + 1) = rs.take k ++ [r] := by
  rw [List.take_add_one, hr]; rfl
theorem all_false_of {rs : List R} {k : Nat} {r : R} (hr : rs[k]? = some r) (hg : r.good = false) : false = rs.all R.good := by
  symm; rw [List.all_eq_false]; exact ⟨r, List.mem_of_getElem? hr, by simp [hg]⟩
end Go.Num
namespace Go.Num
open Go Go.Kn
theorem idx1 (k : Nat) : 0 + ((k : Int)).toNat * 1 = k := by omega
theorem uwAt {l : List Nat} {k : Nat} (h : k < l.length) : (uw l)[0 + ((k : Int)).toNat * 1]? = some (U32 (l.getD k 0)) := by rw [idx1]; exact uw_get h
theorem uwAt0 {l : List Nat} {k : Nat} (h : k < l.length) : (uw l)[0 + k]? = some (U32 (l.getD k 0)) := by rw [Nat.zero_add]; exact uw_get h
theorem u32_nat (n : Nat) : Value.int .u32 (IntKind.u32.wrap (n : Int)) = U32 (n % 4294967296) := by
  rw [wrap_u32, U32]; congr 1
theorem u64_nat (n : Nat) (h : n < 18446744073709551616) : Value.int .u64 (IntKind.u64.wrap (n : Int)) = .int .u64 (n : Int) := by
  rw [wrap_u64]; congr 1; omega
section
variable {P : Program} {w0 : World} {X : List Nat} {N : Nat} {S : Fr} {M : List Blk} {d : Option Tmp} {ty : TypeId} {ps : String} {af : Array Edge} {gd : Option (Nat × Bool)}
theorem r_storeu {T U : TypeId} {x y : Operand} {b k e : Nat} {l : List Nat} {M' : List Blk} {K : Value → List Blk → Prop} (hT : tyOf P T = some (false, 1)) (hx : evO N S x = some (.pointer (some ⟨b, 0 + ((k : Int)).toNat * 1, none⟩)))
    (hy : evO N S y = some (U32 e)) (hu : Upd b U (uw l) (uw (l.set k e)) M M') (ho : k < l.length) (hb : w0.heap.size ≤ b ∨ b ∈ X) (kk : K undef M') :
    OpR P w0 X N ⟨d, .store T x y, ty, ps, af, gd⟩ S M K := by
  have hu' : Upd b U (uw l) ((uw l).set (0 + ((k : Int)).toNat * 1) (U32 e)) M M' := by rw [idx1, uw_set]; exact hu
  exact r_store1 hT hx hy rfl hu' (by rw [idx1, uw_len]; exact ho) hb kk
end
/-! the digits of sums and differences -/
theorem plus_s {c x y : Nat} (hc : c ≤ 1) (hx : x < 4294967296) (hy : y < 4294967296) : IntKind.u64.wrap ((c : Int) + IntKind.u64.wrap (IntKind.u64.wrap (x : Int) + IntKind.u64.wrap (y : Int))) = ((c + x + y : Nat) : Int) := by
  simp only [wrap_u64]; omega
def cy (a b k : Nat) : Nat := (a % 4294967296 ^ k + b % 4294967296 ^ k) / 4294967296 ^ k
theorem cy_le (a b k : Nat) : cy a b k ≤ 1 := by
  unfold cy
  have h1 := Nat.mod_lt a (show 0 < 4294967296 ^ k from Nat.pow_pos (by decide))
  have h2 := Nat.mod_lt b (show 0 < 4294967296 ^ k from Nat.pow_pos (by decide))
  have : (a % 4294967296 ^ k + b % 4294967296 ^ k) / 4294967296 ^ k < 2 := by
    rw [Nat.div_lt_iff_lt_mul (Nat.pow_pos (by decide))]; omega
  omega
theorem cy_zero (a b : Nat) : cy a b 0 = 0 := by simp [cy, Nat.mod_one]
theorem plus_digit (a b k : Nat) : (cy a b k + dig a k + dig b k) % 4294967296 = dig (a + b) k := by
  unfold cy dig
  generalize hp : 4294967296 ^ k = p
  have hp0 : 0 < p := by rw [← hp]; exact Nat.pow_pos (by decide)
  have h : (a + b) / p = a / p + b / p + (a % p + b % p) / p := by
    have e1 := Nat.div_add_mod a p
    have e2 := Nat.div_add_mod b p
    have : a + b = p * (a / p + b / p) + (a % p + b % p) := by rw [Nat.mul_add]; omega
    rw [this, Nat.mul_add_div hp0]
  rw [h]; omega
theorem plus_carry (a b k : Nat) : (cy a b k + dig a k + dig b k) / 4294967296 = cy a b (k + 1) := by
  unfold cy
  rw [mod_succ a k, mod_succ b k, Nat.pow_succ]
  generalize hp : 4294967296 ^ k = p
  have hp0 : 0 < p := by rw [← hp]; exact Nat.pow_pos (by decide)
  rw [← Nat.div_div_eq_div_mul]
  congr 1
  rw [show a % p + p * dig a k + (b % p + p * dig b k) = p * (dig a k + dig b k) + (a % p + b % p) by rw [Nat.mul_add]; omega, Nat.mul_add_div hp0]
  omega
theorem shr_nat (n k : Nat) : ((n : Int)).fdiv (2 ^ k) = ((n / 2 ^ k : Nat) : Int) := by
  rw [Int.fdiv_eq_ediv_of_nonneg _ (Int.pow_nonneg (by decide))]; simp
/-- What is borrowed. -/
def bw (a b k : Nat) : Nat := if a % 4294967296 ^ k < b % 4294967296 ^ k then 1 else 0
theorem minus_s {c x y : Nat} (hc : c ≤ 1) (hx : x < 4294967296) (hy : y < 4294967296) : IntKind.u64.wrap (IntKind.u64.wrap (IntKind.u64.wrap (x : Int) - IntKind.u64.wrap (y : Int)) - (c : Int)) = (((x + 18446744073709551616 - y - c) % 18446744073709551616 : Nat) : Int) := by
  simp only [wrap_u64]; omega
theorem bw_zero (a b : Nat) : bw a b 0 = 0 := by simp [bw, Nat.mod_one]
theorem getD_lt {l : List Nat} (h : Lim l) (k : Nat) : l.getD k 0 < 4294967296 := by rw [getD_val l k h]; exact dig_lt _ _
theorem bw_le (a b k : Nat) : bw a b k ≤ 1 := by unfold bw; split <;> omega
theorem minus_digit {a b : Nat} (k : Nat) (h : b ≤ a) : (dig a k + 18446744073709551616 - dig b k - bw a b k) % 18446744073709551616 % 4294967296 = dig (a - b) k := by
  have hx := dig_lt a k
  have hy := dig_lt b k
  unfold bw dig at *
  generalize hp : 4294967296 ^ k = p at *
  have hp0 : 0 < p := by rw [← hp]; exact Nat.pow_pos (by decide)
  have e1 := Nat.div_add_mod a p
  have e2 := Nat.div_add_mod b p
  have m1 := Nat.mod_lt a hp0
  have m2 := Nat.mod_lt b hp0
  have hdiv : b / p ≤ a / p := Nat.div_le_div_right h
  split
  · rename_i hlt
    have hlt2 : b / p < a / p := by
      rcases Nat.lt_or_ge (b / p) (a / p) with h' | h'
      · exact h'
      · have : a / p = b / p := Nat.le_antisymm h' hdiv
        rw [this] at e1; omega
    have : (a - b) / p = a / p - b / p - 1 := by
      have : a - b = p * (a / p - b / p - 1) + (p + a % p - b % p) := by
        have h1 : p * (a / p) = p * (a / p - b / p - 1) + p * (b / p) + p := by
          rw [← Nat.mul_add, ← Nat.mul_succ]; congr 1; omega
        omega
      have hz : (p + a % p - b % p) / p = 0 := Nat.div_eq_of_lt (by omega)
      rw [this, Nat.mul_add_div hp0, hz, Nat.add_zero]
    rw [this]; omega
  · rename_i hge
    have : (a - b) / p = a / p - b / p := by
      have : a - b = p * (a / p - b / p) + (a % p - b % p) := by
        have h1 : p * (a / p) = p * (a / p - b / p) + p * (b / p) := by rw [← Nat.mul_add]; congr 1; omega
        omega
      have hz : (a % p - b % p) / p = 0 := Nat.div_eq_of_lt (by omega)
      rw [this, Nat.mul_add_div hp0, hz, Nat.add_zero]
    rw [this]; omega
theorem minus_borrow (a b k : Nat) : (dig a k + 18446744073709551616 - dig b k - bw a b k) % 18446744073709551616 / 2 ^ 63 = bw a b (k + 1) := by
  have hx := dig_lt a k
  have hy := dig_lt b k
  unfold bw
  rw [mod_succ a k, mod_succ b k]
  generalize hp : 4294967296 ^ k = p at *
  have hp0 : 0 < p := by rw [← hp]; exact Nat.pow_pos (by decide)
  have m1 := Nat.mod_lt a hp0
  have m2 := Nat.mod_lt b hp0
  generalize dig a k = x at *
  generalize dig b k = y at *
  have key : (a % p + p * x < b % p + p * y) ↔ (x < y ∨ (x = y ∧ a % p < b % p)) := by
    constructor
    · intro h
      rcases Nat.lt_trichotomy x y with h' | h' | h'
      · exact .inl h'
      · subst h'; exact .inr ⟨rfl, by omega⟩
      · exfalso
        have : p * y + p ≤ p * x := by rw [← Nat.mul_succ]; exact Nat.mul_le_mul_left _ h'
        omega
    · rintro (h' | ⟨rfl, h'⟩)
      · have : p * x + p ≤ p * y := by rw [← Nat.mul_succ]; exact Nat.mul_le_mul_left _ h'
        omega
      · omega
  simp only [key]
  split <;> split <;> omega
end Go.Num
