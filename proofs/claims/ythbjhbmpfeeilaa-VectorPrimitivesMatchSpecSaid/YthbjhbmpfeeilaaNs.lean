/- Numbers: 64-bit values in and out, floored division, greatest common divisors. No program stands in it. -/
import Derived.Test.YthbjhbmpfeeilaaNr
set_option linter.unusedVariables false
set_option linter.unusedSimpArgs false
namespace Go.Num
open Go Go.Kn
def Z.bits (a : Z) : Nat := match a.o with | some x => bl x.natAbs | none => 0
theorem bits_bad {a : R} (h : a.good = false) : (0 : Nat) = a.dec.bits := by rw [dec_bad h]; rfl
theorem bits_eq {a : R} (ha : a.Ok) (hg : a.good = true) : a.dec.bits = bl (val a.w) := by
  unfold Z.bits; rw [dec_good ha hg]; simp only [sgn_abs]
theorem bits_zero {a : R} (ha : a.Ok) (hg : a.good = true) (h : szL a.w = 0) : (0 : Nat) = a.dec.bits := by
  rw [bits_eq ha hg, sz_zero h]; rfl
theorem bits_pos {a : R} (ha : a.Ok) (hg : a.good = true) (h : 1 ≤ szL a.w) : 32 * (szL a.w - 1) + bl (a.w.getD (szL a.w - 1) 0) = a.dec.bits := by
  rw [bits_eq ha hg, bits_top ha.lim (n := szL a.w - 1) (by omega)]
theorem mul32 {n : Nat} {c : Int} (hc : c = 32) (h : n ≤ 1000) : IntKind.i64.wrap (c * (n : Int)) = ((32 * n : Nat) : Int) := by
  subst hc
  rw [wrap_i64_id (by unfold I64; omega)]; omega
theorem two_digits {a : R} (ha : a.Ok) (h : val a.w < 18446744073709551616) : a.w.getD 1 0 * 4294967296 + a.w.getD 0 0 = val a.w := by
  rw [getD_val _ _ ha.lim, getD_val _ _ ha.lim, dig, dig, Nat.pow_one, Nat.pow_zero]; omega
theorem bits64 {a : R} (ha : a.Ok) (hg : a.good = true) (h : ¬ 64 < (a.dec.bits : Int)) : val a.w < 18446744073709551616 := by
  rw [bits_eq ha hg] at h
  have := bl_lt (val a.w)
  have h2 : 2 ^ bl (val a.w) ≤ 2 ^ 64 := Nat.pow_le_pow_right (by decide) (by omega)
  omega
theorem small_bad {a : R} (h : a.good = false) : Value.tuple #[.int .i64 0, .bool false] = .tuple #[.int .i64 a.dec.small.1, .bool a.dec.small.2] := by rw [dec_bad h]; rfl
theorem small_out {a : R} (ha : a.Ok) (hg : a.good = true) (h : ¬ (-9223372036854775808 ≤ sgn a.neg (val a.w) ∧ sgn a.neg (val a.w) ≤ 9223372036854775807)) : Value.tuple #[.int .i64 0, .bool false] = .tuple #[.int .i64 a.dec.small.1, .bool a.dec.small.2] := by
  unfold Z.small; rw [dec_good ha hg]; simp only; rw [if_neg h]
theorem small_in {a : R} (ha : a.Ok) (hg : a.good = true) {v : Int} (e : v = sgn a.neg (val a.w)) (h : -9223372036854775808 ≤ sgn a.neg (val a.w) ∧ sgn a.neg (val a.w) ≤ 9223372036854775807) : Value.tuple #[.int .i64 v, .bool true] = .tuple #[.int .i64 a.dec.small.1, .bool a.dec.small.2] := by
  unfold Z.small; rw [dec_good ha hg]; simp only; rw [if_pos h, e]
theorem small_huge {a : R} (ha : a.Ok) (hg : a.good = true) (h : 64 < (a.dec.bits : Int)) : Value.tuple #[.int .i64 0, .bool false] = .tuple #[.int .i64 a.dec.small.1, .bool a.dec.small.2] := by
  refine small_out ha hg fun hr => ?_
  rw [bits_eq ha hg] at h
  have h1 : val a.w ≤ 9223372036854775808 := by cases hn : a.neg <;> simp only [hn, sgn, if_true, if_false, Bool.false_eq_true] at hr <;> omega
  have := bl_small (n := val a.w) (k := 64) (by omega)
  omega
theorem small_neg {v : Nat} (h : v ≤ 9223372036854775808) : IntKind.i64.wrap (IntKind.u64.wrap (0 - (v : Int))) = -(v : Int) := by
  rw [wrap_u64, wrap_i64]; split <;> omega
theorem small_pos {v : Nat} (h : v < 9223372036854775808) : IntKind.i64.wrap (v : Int) = (v : Int) := wrap_i64_id (by unfold I64; omega)
theorem sgn_t (n : Nat) : sgn true n = -(n : Int) := rfl
theorem sgn_f (n : Nat) : sgn false n = (n : Int) := rfl
/-! floored division -/
theorem fdiv_of {x y q r : Int} (h : r + y * q = x) (hr : (0 ≤ r ∧ r < y) ∨ (y < r ∧ r ≤ 0)) : x.fdiv y = q ∧ x.fmod y = r := by
  rcases hr with hr | hr
  · exact (Int.fdiv_fmod_unique (by omega)).2 ⟨h, hr.1, hr.2⟩
  · exact (Int.fdiv_fmod_unique' (by omega)).2 ⟨h, hr.1, hr.2⟩
theorem small_true {z : Z} (h : z.small.2 = true) : z.o = some z.small.1 ∧ I64 z.small.1 := by
  unfold Z.small at *
  cases hz : z.o with
  | none => simp [hz] at h
  | some x =>
    simp only [hz] at h ⊢
    split at h
    · rename_i hr; rw [if_pos hr]; exact ⟨rfl, hr⟩
    · cases h
theorem tdiv_facts {x y : Int} (hy : y ≠ 0) : (x.tmod y).natAbs < y.natAbs ∧ x.tmod y + y * x.tdiv y = x := by
  refine ⟨?_, Int.tmod_add_mul_tdiv x y⟩
  rw [Int.natAbs_tmod]; exact Nat.mod_lt _ (by omega)
theorem quo64 {x y : Int} (hx : I64 x) (hm : x ≠ -9223372036854775808) : (x.tdiv y).natAbs ≤ 9223372036854775807 := by
  have := Int.natAbs_tdiv_le_natAbs x y
  unfold I64 at hx; omega
theorem quo64a {x y : Int} (hx : I64 x) (hm : x ≠ -9223372036854775808) : I64 (x.tdiv y) := by have := quo64 (y := y) hx hm; unfold I64; omega
theorem quo64b {x y : Int} (hx : I64 x) (hm : x ≠ -9223372036854775808) : I64 (x.tdiv y - 1) := by have := quo64 (y := y) hx hm; unfold I64; omega
theorem rem64a {x y : Int} (hy : y ≠ 0) (hy2 : I64 y) : I64 (x.tmod y) := by have := (tdiv_facts (x := x) hy).1; unfold I64 at *; omega
theorem rem64b {x y : Int} (hy : y ≠ 0) (hy2 : I64 y) (h : (decide (x.tmod y < 0) != decide (y < 0)) = true) : I64 (x.tmod y + y) := by
  have := (tdiv_facts (x := x) hy).1
  have h' : ¬ (x.tmod y < 0 ↔ y < 0) := by simpa using h
  unfold I64 at *; omega
theorem fl_adj {x y : Int} (hy : y ≠ 0) (h0 : x.tmod y ≠ 0) (h : (decide (x.tmod y < 0) != decide (y < 0)) = true) : x.fdiv y = x.tdiv y - 1 ∧ x.fmod y = x.tmod y + y := by
  obtain ⟨h1, h2⟩ := tdiv_facts (x := x) hy
  have h' : ¬ (x.tmod y < 0 ↔ y < 0) := by simpa using h
  refine fdiv_of ?_ (by omega)
  rw [Int.mul_sub, Int.mul_one]; omega
theorem fl_same {x y : Int} (hy : y ≠ 0) (h : x.tmod y = 0 ∨ (decide (x.tmod y < 0) != decide (y < 0)) = false) : x.fdiv y = x.tdiv y ∧ x.fmod y = x.tmod y := by
  obtain ⟨h1, h2⟩ := tdiv_facts (x := x) hy
  refine fdiv_of h2 ?_
  rcases h with h | h
  · omega
  · have h' : x.tmod y < 0 ↔ y < 0 := by simpa using h
    omega
theorem sign_ne {z : Z} {y : Int} (h : z.o = some y) (hs : z.sign ≠ 0) : y ≠ 0 := by
  unfold Z.sign at hs; rw [h] at hs; simp only at hs
  rintro rfl; exact hs rfl
theorem small_fin {a b : Z} {x y q r : Int} (ha : a.o = some x) (hb : b.o = some y) (hs : b.sign ≠ 0) (h : x.fdiv y = q ∧ x.fmod y = r) : Value.tuple #[RV (Z.of q).enc, RV (Z.of r).enc] = .tuple #[RV (Z.quo a b).enc, RV (Z.rem a b).enc] := by
  have hy := sign_ne hb hs
  rw [Z.quo, Z.rem, lift2_some ha hb, lift2_some ha hb, if_neg hy, if_neg hy, h.1, h.2]
theorem quo_bad {a b : Z} (h : a.o = none ∨ b.o = none) : Value.tuple #[RV Z.bad.enc, RV Z.bad.enc] = .tuple #[RV (Z.quo a b).enc, RV (Z.rem a b).enc] := by
  rw [Z.quo, Z.rem, lift2_bad h, lift2_bad h]
theorem quo_zero {a b : R} (ha : a.Ok) (hb : b.Ok) (ga : a.good = true) (gb : b.good = true) (h : b.dec.sign = 0) : Value.tuple #[RV Z.bad.enc, RV Z.bad.enc] = .tuple #[RV (Z.quo a.dec b.dec).enc, RV (Z.rem a.dec b.dec).enc] := by
  rw [Z.quo, Z.rem, lift2_some (dec_good ha ga) (dec_good hb gb), lift2_some (dec_good ha ga) (dec_good hb gb)]
  unfold Z.sign at h
  rw [dec_good hb gb] at h
  have : sgn b.neg (val b.w) = 0 := Int.sign_eq_zero_iff_zero.1 h
  rw [if_pos this, if_pos this]
theorem sgn_ne {n : Bool} {a : Nat} (h : 0 < a) : sgn n a ≠ 0 := by cases n <;> simp only [sgn_t, sgn_f] <;> omega
theorem val_pos_of_sign {b : R} (hb : b.Ok) (gb : b.good = true) (h : b.dec.sign ≠ 0) : 0 < val b.w := by
  rcases Nat.eq_zero_or_pos (val b.w) with h0 | h0
  · exfalso; have := sign_ne (dec_good hb gb) h
    rw [h0] at this; cases hn : b.neg <;> simp [hn, sgn] at this
  · exact h0
theorem quo_lt {a b : R} (ha : a.Ok) : val a.w / val b.w < 4294967296 ^ 16 := Nat.lt_of_le_of_lt (Nat.div_le_self _ _) ha.vlt
theorem mod_lt16 {a b : R} (ha : a.Ok) : val a.w % val b.w < 4294967296 ^ 16 := Nat.lt_of_le_of_lt (Nat.mod_le _ _) ha.vlt
theorem dm_nat (a b : Nat) : ((a % b : Nat) : Int) + (b : Int) * ((a / b : Nat) : Int) = (a : Int) := by
  rw [← Int.natCast_mul, ← Int.natCast_add, Nat.mod_add_div]
theorem div_same {a b : R} (ha : a.Ok) (hb : b.Ok) (ga : a.good = true) (gb : b.good = true) (hp : 0 < val b.w) (h : val a.w % val b.w = 0 ∨ a.neg = b.neg) :
    (toL 16 (val a.w % val b.w)).length = 16 ∧ Lim (toL 16 (val a.w % val b.w)) ∧ Z.of (sgn (a.neg != b.neg) (val a.w / val b.w)) = Z.quo a.dec b.dec ∧ R.mk false (b.neg && !(val (toL 16 (val a.w % val b.w)) == 0)) (toL 16 (val a.w % val b.w)) = (Z.rem a.dec b.dec).enc := by
  have hb0 := sgn_ne (n := b.neg) hp
  have hm := Nat.mod_lt (val a.w) hp
  have hd := dm_nat (val a.w) (val b.w)
  obtain ⟨e1, e2⟩ : (sgn a.neg (val a.w)).fdiv (sgn b.neg (val b.w)) = sgn (a.neg != b.neg) (val a.w / val b.w) ∧ (sgn a.neg (val a.w)).fmod (sgn b.neg (val b.w)) = sgn b.neg (val a.w % val b.w) := by
    refine fdiv_of ?_ ?_
    · cases h1 : a.neg <;> cases h2 : b.neg <;> simp only [h1, h2, sgn_t, sgn_f, Bool.bne_false, Bool.bne_true, Bool.not_true, Bool.not_false, Bool.false_eq_true, Bool.true_eq_false, or_false, reduceCtorEq, Int.neg_mul, Int.mul_neg, bne_self_eq_false, Bool.false_bne, Bool.true_bne] at h ⊢ <;> omega
    · cases h2 : b.neg <;> simp only [sgn_t, sgn_f] <;> omega
  refine ⟨toL_len _ _, toL_lim _ _, ?_, ?_⟩
  · rw [Z.quo, lift2_some (dec_good ha ga) (dec_good hb gb), if_neg hb0, e1]
  · rw [enc_signed b.neg (mod_lt16 ha), Z.rem, lift2_some (dec_good ha ga) (dec_good hb gb), if_neg hb0, e2]
theorem div_adj {a b : R} (ha : a.Ok) (hb : b.Ok) (ga : a.good = true) (gb : b.good = true) (hp : 0 < val b.w) (h0 : ¬ val a.w % val b.w = 0) (h : a.neg ≠ b.neg) :
    (toL 16 (val b.w - val (toL 16 (val a.w % val b.w)))).length = 16 ∧ Lim (toL 16 (val b.w - val (toL 16 (val a.w % val b.w)))) ∧ Z.sub (Z.of (sgn (a.neg != b.neg) (val a.w / val b.w))).enc.dec (Z.of 1).enc.dec = Z.quo a.dec b.dec ∧
    R.mk false (b.neg && !(val (toL 16 (val b.w - val (toL 16 (val a.w % val b.w)))) == 0)) (toL 16 (val b.w - val (toL 16 (val a.w % val b.w)))) = (Z.rem a.dec b.dec).enc := by
  have hb0 := sgn_ne (n := b.neg) hp
  have hm := Nat.mod_lt (val a.w) hp
  have hd := dm_nat (val a.w) (val b.w)
  have hv : val (toL 16 (val a.w % val b.w)) = val a.w % val b.w := by rw [val_toL, Nat.mod_eq_of_lt (mod_lt16 ha)]
  have hx : (a.neg != b.neg) = true := by simpa using h
  obtain ⟨e1, e2⟩ : (sgn a.neg (val a.w)).fdiv (sgn b.neg (val b.w)) = -((val a.w / val b.w : Nat) : Int) + -1 ∧ (sgn a.neg (val a.w)).fmod (sgn b.neg (val b.w)) = sgn b.neg (val b.w - val a.w % val b.w) := by
    refine fdiv_of ?_ ?_
    · cases h1 : a.neg <;> cases h2 : b.neg <;> simp only [h1, h2, sgn_t, sgn_f, ne_eq, not_true, reduceCtorEq, not_false_eq_true, Int.neg_mul, Int.mul_neg, Int.mul_add, Int.mul_one] at h ⊢ <;> omega
    · cases h2 : b.neg <;> simp only [sgn_t, sgn_f] <;> omega
  have hq := quo_lt (b := b) ha
  refine ⟨toL_len _ _, toL_lim _ _, ?_, ?_⟩
  · rw [Z.quo, lift2_some (dec_good ha ga) (dec_good hb gb), if_neg hb0, e1, dec_enc, dec_enc, Z.sub, Z.add, Z.neg, lift1_some (Z.of_some (v := 1) (by decide)), hx, sgn_t, lift2_some (Z.of_some (by rw [Int.natAbs_neg, Int.natAbs_natCast]; exact hq)) (Z.of_some (by decide))]
  · rw [hv, enc_signed b.neg (Nat.lt_of_le_of_lt (Nat.sub_le _ _) hb.vlt), Z.rem, lift2_some (dec_good ha ga) (dec_good hb gb), if_neg hb0, e2]
theorem rem_zero {a b : R} (ha : a.Ok) : (val a.w % val b.w == 0) = true ↔ uw (toL 16 (val a.w % val b.w)) = uw (List.replicate 16 0) := by
  rw [← zero_iff' (toL_len _ _) (toL_lim _ _), val_toL, Nat.mod_eq_of_lt (mod_lt16 ha)]
theorem rem_le {a b : R} (ha : a.Ok) (hp : 0 < val b.w) : val (toL 16 (val a.w % val b.w)) ≤ val b.w := by
  rw [val_toL, Nat.mod_eq_of_lt (mod_lt16 ha)]; exact Nat.le_of_lt (Nat.mod_lt _ hp)
/-! greatest common divisors -/
theorem gcd_bad {a b : R} (h : [a, b].all R.good = false) : Z.bad.enc = (Z.gcd a.dec b.dec).enc := by rw [Z.gcd, lift2_bad (not_all2 h)]
theorem gcd_nat {a b : R} (ha : a.Ok) (hb : b.Ok) (ga : a.good = true) (gb : b.good = true) : Z.gcd a.dec b.dec = Z.of ((Nat.gcd (val a.w) (val b.w) : Nat) : Int) := by
  rw [Z.gcd, lift2_some (dec_good ha ga) (dec_good hb gb), Int.gcd, sgn_abs, sgn_abs]
theorem gcd_lt {a b : R} (hb : b.Ok) (hp : 0 < val b.w) : Nat.gcd (val a.w) (val b.w) < 4294967296 ^ 16 := Nat.lt_of_le_of_lt (Nat.gcd_le_right _ hp) hb.vlt
theorem sz2 {a : R} (ha : a.Ok) (h : szL a.w ≤ 2) : val a.w < 18446744073709551616 := by
  have := val_lt_sz ha.lim
  have h2 : 4294967296 ^ szL a.w ≤ 4294967296 ^ 2 := Nat.pow_le_pow_right (by decide) h
  omega
theorem gcd_u64 {x y a b : Nat} (hx : x < 18446744073709551616) (e : Nat.gcd x y = Nat.gcd a b) (h0 : y = 0) : x = Nat.gcd a b := by rw [← e, h0, Nat.gcd_zero_right]
theorem gcd_fin {a b : R} (ha : a.Ok) (hb : b.Ok) (ga : a.good = true) (gb : b.good = true) {x : Nat} (hx : x < 18446744073709551616) (e : x = Nat.gcd (val a.w) (val b.w)) :
    RV ⟨false, false && !(val (x % 4294967296 :: x / 4294967296 :: List.replicate 14 0) == 0), x % 4294967296 :: x / 4294967296 :: List.replicate 14 0⟩ = RV (Z.gcd a.dec b.dec).enc := by
  have hv : val (x % 4294967296 :: x / 4294967296 :: List.replicate 14 0) = x := by rw [val2]; omega
  have hl : Lim (x % 4294967296 :: x / 4294967296 :: List.replicate 14 0) := lim2 (Nat.mod_lt _ (by decide)) (by omega) 14
  rw [gcd_nat ha hb ga gb, ← e]
  have h := enc_of_digits false (w := x % 4294967296 :: x / 4294967296 :: List.replicate 14 0) (by simp) hl
  rw [hv, sgn_f] at h
  rw [h, hv]
theorem gcd_step {a b : R} (ha : a.Ok) (hb : b.Ok) (ga : a.good = true) (gb : b.good = true) :
    RV (Z.gcd (Z.of (sgn false (val b.w))).enc.dec (Z.of (sgn false (val a.w % val b.w))).enc.dec).enc = RV (Z.gcd a.dec b.dec).enc := by
  rw [gcd_nat ha hb ga gb, dec_enc, dec_enc, Z.gcd, lift2_some (Z.of_some (by rw [sgn_abs]; exact hb.vlt)) (Z.of_some (by rw [sgn_abs]; exact mod_lt16 ha)), Int.gcd, sgn_abs, sgn_abs, Nat.gcd_comm, ← Nat.gcd_rec, Nat.gcd_comm]
theorem gcd_zero {a b : R} (ha : a.Ok) (hb : b.Ok) (ga : a.good = true) (gb : b.good = true) (h : val b.w = 0) : RV (Z.abs a.dec).enc = RV (Z.gcd a.dec b.dec).enc := by
  rw [gcd_nat ha hb ga gb, h, Nat.gcd_zero_right, Z.abs, lift1_some (dec_good ha ga), sgn_abs]
theorem enc_val {n : Nat} (h : n < 4294967296 ^ 16) : val (Z.of (sgn false n)).enc.w = n := by
  rw [← enc_signed false h]; simp only; rw [val_toL, Nat.mod_eq_of_lt h]
theorem fillXY {x : Nat} (hx : x < 18446744073709551616) : FillR (fun i => some (i * 1, 1)) (uw (List.replicate 16 0)) [(0, .int .u32 (IntKind.u32.wrap (x : Int))), (1, .int .u32 (IntKind.u32.wrap (((x / 2 ^ 32 : Nat) : Int))))] (uw (x % 4294967296 :: x / 4294967296 :: List.replicate 14 0)) :=
  fill2 (of_lo _) (of_hi hx)
theorem enc_signed' {w : List Nat} (hw : w.length = 16) (hl : Lim w) (neg : Bool) : RV ⟨false, neg && !(val w == 0), w⟩ = RV (Z.of (sgn neg (val w))).enc := by rw [enc_of_digits neg hw hl]
end Go.Num
