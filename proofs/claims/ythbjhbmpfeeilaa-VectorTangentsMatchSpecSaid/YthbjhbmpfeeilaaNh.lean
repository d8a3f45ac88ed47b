/- Numbers: words, and the rest of the reference's whole numbers. No program stands in it. -/
import Derived.Test.YthbjhbmpfeeilaaNg
import Derived.Test.YthbjhbmpfeeilaaNs
set_option linter.unusedVariables false
set_option linter.unusedSimpArgs false
namespace Go.Num
open Go Go.Kn
def wordB (a : R) : Bool := a.good && decide (val a.w < 4611686018427387904)
def wordI (a : R) : Int := if wordB a then sgn a.neg (val a.w) else 0
theorem word_dec {a : R} (ha : a.Ok) (h : wordB a = true) : a.dec.o = some (wordI a) ∧ a.good = true ∧ wordI a = sgn a.neg (val a.w) ∧ -4611686018427387904 < wordI a ∧ wordI a < 4611686018427387904 := by
  have h0 : wordI a = sgn a.neg (val a.w) := by unfold wordI; rw [if_pos h]
  unfold wordB at h
  rw [Bool.and_eq_true, decide_eq_true_iff] at h
  refine ⟨by rw [h0]; exact dec_good ha h.1, h.1, h0, ?_⟩
  rw [h0]; cases a.neg <;> simp only [sgn_t, sgn_f] <;> omega
theorem word_good {a : R} (h : a.good = false) : Value.tuple #[.int .i64 0, .bool false] = .tuple #[.int .i64 (wordI a), .bool (wordB a)] := by
  simp [wordI, wordB, h]
theorem word_not {a : R} (h : ¬ val a.w < 4611686018427387904) : Value.tuple #[.int .i64 0, .bool false] = .tuple #[.int .i64 (wordI a), .bool (wordB a)] := by
  simp [wordI, wordB, h]
theorem val_digit_le {w : List Nat} (hw : Lim w) (k : Nat) : w.getD k 0 * 4294967296 ^ k ≤ val w := by
  rw [getD_val w k hw]
  unfold dig
  exact Nat.le_trans (Nat.mul_le_mul_right _ (Nat.mod_le _ _)) (Nat.div_mul_le_self _ _)
theorem word_top {a : R} (ha : a.Ok) (h : 1073741824 ≤ ((a.w.getD 1 0 : Nat) : Int)) : ¬ val a.w < 4611686018427387904 := by
  have := val_digit_le ha.lim 1
  rw [Nat.pow_one] at this
  omega
theorem word_high {a : R} (ha : a.Ok) {k : Nat} (hk : 2 ≤ k) (h : a.w.getD k 0 ≠ 0) : ¬ val a.w < 4611686018427387904 := by
  have h1 := val_digit_le ha.lim k
  have h2 : (4294967296 : Nat) ^ 2 ≤ 4294967296 ^ k := Nat.pow_le_pow_right (by decide) hk
  have h3 : 4294967296 ^ k ≤ a.w.getD k 0 * 4294967296 ^ k := Nat.le_mul_of_pos_left _ (Nat.pos_of_ne_zero h)
  have h4 : (4294967296 : Nat) ^ 2 = 18446744073709551616 := by decide
  omega
theorem val_two {w : List Nat} (hl : w.length = 16) (h : ∀ j, 2 ≤ j → j < 16 → w.getD j 0 = 0) : val w = w.getD 0 0 + 4294967296 * w.getD 1 0 := by
  have hs : szL w ≤ 2 := by
    rcases Nat.lt_or_ge 2 (szL w) with hc | hc
    · obtain ⟨m, hm⟩ : ∃ m, szL w = m + 1 := ⟨szL w - 1, by omega⟩
      have h1 := szL_top w m hm
      have h2 := szL_le w
      exact absurd (h m (by omega) (by omega)) h1
    · exact hc
  rw [← val_take w 2 hs]
  match w, hl with
  | a :: b :: l, _ => simp [val]
theorem word_sum {a : R} (ha : a.Ok) (h1 : a.w.getD 1 0 < 1073741824) (h : ∀ j, 2 ≤ j → j < 16 → a.w.getD j 0 = 0) :
    IntKind.i64.wrap (IntKind.i64.wrap (IntKind.i64.wrap ((a.w.getD 1 0 : Nat) : Int) * 4294967296) + IntKind.i64.wrap ((a.w.getD 0 0 : Nat) : Int)) = ((val a.w : Nat) : Int) ∧ val a.w < 4611686018427387904 := by
  have h0 := getD_lt ha.lim 0
  rw [val_two ha.len h]
  rw [wrap_i64_id (n := ((a.w.getD 1 0 : Nat) : Int)) (by unfold I64; omega), wrap_i64_id (n := ((a.w.getD 1 0 : Nat) : Int) * 4294967296) (by unfold I64; omega), wrap_i64_id (n := ((a.w.getD 0 0 : Nat) : Int)) (by unfold I64; omega), wrap_i64_id (by unfold I64; omega)]
  exact ⟨by omega, by omega⟩
theorem word_neg {a : R} (g : a.good = true) (h : val a.w < 4611686018427387904) (hn : a.neg = true) : Value.tuple #[.int .i64 (IntKind.i64.wrap (0 - ((val a.w : Nat) : Int))), .bool true] = .tuple #[.int .i64 (wordI a), .bool (wordB a)] := by
  have hb : wordB a = true := by simp [wordB, g, h]
  rw [hb, wordI, if_pos hb, hn, sgn_t, wrap_i64_id (by unfold I64; omega)]; simp
theorem word_pos {a : R} (g : a.good = true) (h : val a.w < 4611686018427387904) (hn : a.neg = false) : Value.tuple #[.int .i64 ((val a.w : Nat) : Int), .bool true] = .tuple #[.int .i64 (wordI a), .bool (wordB a)] := by
  have hb : wordB a = true := by simp [wordB, g, h]
  rw [hb, wordI, if_pos hb, hn, sgn_f]
/-! Of -/
theorem fillI4 (a b c d : Nat) : FillR (fun i => some (i * 1, 1)) (List.replicate 4 [Value.int .i64 0]).flatten [(0, IV a), (1, IV b), (2, IV c), (3, IV d)] (iw [a, b, c, d]) := by
  refine .cons rfl (vs := [IV a]) rfl rfl (by simp) rfl (.cons rfl (vs := [IV b]) rfl rfl (by simp) rfl (.cons rfl (vs := [IV c]) rfl rfl (by simp) rfl (.cons rfl (vs := [IV d]) rfl rfl (by simp) rfl (.nil _))))
def dl4 (m : Nat) : List Nat := [m % 65536, m / 65536 % 65536, m / 4294967296 % 65536, m / 281474976710656]
theorem dl4_DL {m : Nat} (h : m < 9223372036854775808) : DL (dl4 m) := fun d hd => by
  simp only [dl4, List.mem_cons, List.not_mem_nil, or_false] at hd
  rcases hd with rfl | rfl | rfl | rfl <;> omega
theorem dl4_dv (m : Nat) : dv (dl4 m) = m := by simp only [dl4, dv]; omega
theorem quo_c {m : Nat} (c : Nat) (h : m < 9223372036854775808) : Value.int .i64 (IntKind.i64.wrap ((m : Int).tdiv (c : Int))) = .int .i64 ((m / c : Nat) : Int) := by rw [quo_i64n h]
theorem of_mneg {m : Nat} (h : m < 9223372036854775808) : IntKind.i64.wrap (0 - IntKind.i64.wrap (-((m : Int) + 1) + 1)) = (m : Int) := by
  rw [wrap_i64_id (n := -((m : Int) + 1) + 1) (by unfold I64; omega), wrap_i64_id (by unfold I64; omega)]; omega
theorem sgn_S (m : Nat) : sgn true (m + 1) = -((m : Int) + 1) := by rw [sgn_t]; omega
/-! the operations, out of words and out of digits -/
theorem len32 {a : R} (ha : a.Ok) : (dl (val a.w)).length ≤ 32 := dl_len (by rw [pow512]; exact ha.vlt)
theorem wadd {x y : Int} (hx : -4611686018427387904 < x ∧ x < 4611686018427387904) (hy : -4611686018427387904 < y ∧ y < 4611686018427387904) : IntKind.i64.wrap (x + y) = x + y ∧ I64 (x + y) := by
  have : I64 (x + y) := by unfold I64; omega
  exact ⟨wrap_i64_id this, this⟩
theorem half_lt {x : Int} (h : (decide (x < 2147483648) && decide (-2147483648 < x)) = true) : x.natAbs < 2147483648 := by simp only [Bool.and_eq_true, decide_eq_true_iff] at h; omega
theorem wmul {x y : Int} (hx : x.natAbs < 2147483648) (hy : y.natAbs < 2147483648) : IntKind.i64.wrap (x * y) = x * y ∧ I64 (x * y) := by
  have h : (x * y).natAbs < 4611686018427387904 := by
    rw [Int.natAbs_mul]
    calc x.natAbs * y.natAbs ≤ 2147483647 * 2147483647 := Nat.mul_le_mul (by omega) (by omega)
      _ < _ := by decide
  have : I64 (x * y) := by unfold I64; omega
  exact ⟨wrap_i64_id this, this⟩
theorem add_words {a b : R} (ha : a.Ok) (hb : b.Ok) (h : wordB a = true) (k : wordB b = true) : Z.of (wordI a + wordI b) = Z.add a.dec b.dec := by
  rw [Z.add, lift2_some (word_dec ha h).1 (word_dec hb k).1]
theorem mul_words {a b : R} (ha : a.Ok) (hb : b.Ok) (h : wordB a = true) (k : wordB b = true) : Z.of (wordI a * wordI b) = Z.mul a.dec b.dec := by
  rw [Z.mul, lift2_some (word_dec ha h).1 (word_dec hb k).1]
theorem add_eq2 {a b : R} (ha : a.Ok) (hb : b.Ok) (ga : a.good = true) (gb : b.good = true) (hn : a.neg = b.neg) : Z.of (sgn a.neg (val a.w + val b.w)) = Z.add a.dec b.dec := by
  rw [Z.add, lift2_some (dec_good ha ga) (dec_good hb gb), ← hn, sgn_add]
theorem add_lo {a b : R} (ha : a.Ok) (hb : b.Ok) (ga : a.good = true) (gb : b.good = true) (hn : a.neg ≠ b.neg) (hlt : val a.w < val b.w) : Z.of (sgn b.neg (val b.w - val a.w)) = Z.add a.dec b.dec := by
  rw [Z.add, lift2_some (dec_good ha ga) (dec_good hb gb), Int.add_comm, sgn_diff (Ne.symm hn) (by omega)]
theorem add_hi {a b : R} (ha : a.Ok) (hb : b.Ok) (ga : a.good = true) (gb : b.good = true) (hn : a.neg ≠ b.neg) (hge : ¬ val a.w < val b.w) : Z.of (sgn a.neg (val a.w - val b.w)) = Z.add a.dec b.dec := by
  rw [Z.add, lift2_some (dec_good ha ga) (dec_good hb gb), sgn_diff hn (by omega)]
theorem mul_dl {a b : R} (ha : a.Ok) (hb : b.Ok) (ga : a.good = true) (gb : b.good = true) : Z.of (sgn (a.neg != b.neg) (val a.w * val b.w)) = Z.mul a.dec b.dec := by
  rw [Z.mul, lift2_some (dec_good ha ga) (dec_good hb gb), sgn_mul]
theorem bad1 {a : R} (h : a.good = false) : a.dec.o = none := by rw [dec_bad h]; rfl
theorem neg_dl {a : R} (ha : a.Ok) (ga : a.good = true) : Z.of (sgn (!a.neg) (val a.w)) = Z.neg a.dec := by rw [Z.neg, lift1_some (dec_good ha ga), sgn_not]
theorem abs_dl {a : R} (ha : a.Ok) (ga : a.good = true) : Z.of (sgn false (val a.w)) = Z.abs a.dec := by rw [Z.abs, lift1_some (dec_good ha ga), sgn_abs, sgn_f]
theorem quo_words {a b : R} (ha : a.Ok) (hb : b.Ok) (h : wordB a = true) (k : wordB b = true) (h0 : wordI b ≠ 0) : Z.of ((wordI a).fdiv (wordI b)) = Z.quo a.dec b.dec := by
  rw [Z.quo, lift2_some (word_dec ha h).1 (word_dec hb k).1, if_neg h0]
theorem fdiv_I64 {x y : Int} (hx : -4611686018427387904 < x ∧ x < 4611686018427387904) (hy : y ≠ 0) : I64 (x.fdiv y) := by
  have h1 := tdiv_facts (x := x) hy
  have h2 := quo64 (y := y) (x := x) (by unfold I64; omega) (by omega)
  by_cases h0 : x.tmod y = 0 ∨ (decide (x.tmod y < 0) != decide (y < 0)) = false
  · rw [(fl_same hy h0).1]; unfold I64; omega
  · have h3 : x.tmod y ≠ 0 := fun h => h0 (.inl h)
    have h4 : (decide (x.tmod y < 0) != decide (y < 0)) = true := by
      cases hb : (decide (x.tmod y < 0) != decide (y < 0))
      · exact absurd (.inr hb) h0
      · rfl
    rw [(fl_adj hy h3 h4).1]; unfold I64; omega
theorem quo_b {a b : R} (h : a.good = false ∨ b.good = false) : Z.bad = Z.quo a.dec b.dec := by
  rw [Z.quo, lift2_bad (h.imp bad1 bad1)]
theorem quo_0 {a b : R} (ha : a.Ok) (hb : b.Ok) (ga : a.good = true) (gb : b.good = true) (h : val b.w = 0) : Z.bad = Z.quo a.dec b.dec := by
  rw [Z.quo, lift2_some (dec_good ha ga) (dec_good hb gb), if_pos (by rw [h]; cases b.neg <;> rfl)]
theorem fdiv_sgn (n m : Bool) {x y : Nat} (hy : 0 < y) : (sgn n x).fdiv (sgn m y) = if n = m then ((x / y : Nat) : Int) else if x % y = 0 then -((x / y : Nat) : Int) else -((x / y : Nat) : Int) - 1 := by
  have h1 := Nat.div_add_mod x y
  have h2 := Nat.mod_lt x hy
  have e : ((x : Nat) : Int) = (y : Int) * ((x / y : Nat) : Int) + ((x % y : Nat) : Int) := by exact_mod_cast h1.symm
  cases n <;> cases m <;> simp only [sgn_t, sgn_f, reduceIte, Bool.false_eq_true, Bool.true_eq_false, reduceCtorEq]
  · exact (fdiv_of (r := ((x % y : Nat) : Int)) (by rw [e]; omega) (.inl ⟨by omega, by omega⟩)).1
  · split
    · rename_i h0; exact (fdiv_of (r := 0) (by rw [e, h0]; simp [Int.neg_mul_neg]) (.inr ⟨by omega, by omega⟩)).1
    · rename_i h0
      refine (fdiv_of (r := ((x % y : Nat) : Int) - y) ?_ (.inr ⟨by omega, by omega⟩)).1
      rw [e, Int.mul_sub, Int.neg_mul_neg]; omega
  · split
    · rename_i h0; exact (fdiv_of (r := 0) (by rw [e, h0, Int.mul_neg]; omega) (.inl ⟨by omega, by omega⟩)).1
    · rename_i h0
      refine (fdiv_of (r := (y : Int) - ((x % y : Nat) : Int)) ?_ (.inl ⟨by omega, by omega⟩)).1
      rw [e, Int.mul_sub, Int.mul_neg]; omega
  · exact (fdiv_of (r := -((x % y : Nat) : Int)) (by rw [e, Int.neg_mul]; omega) (.inr ⟨by omega, by omega⟩)).1
theorem quo_dl {a b : R} (ha : a.Ok) (hb : b.Ok) (ga : a.good = true) (gb : b.good = true) (h0 : val b.w ≠ 0) (h : a.neg = b.neg ∨ val a.w % val b.w = 0) : Z.of (sgn (a.neg != b.neg) (val a.w / val b.w)) = Z.quo a.dec b.dec := by
  have hp : 0 < val b.w := Nat.pos_of_ne_zero h0
  rw [Z.quo, lift2_some (dec_good ha ga) (dec_good hb gb), if_neg (sgn_ne hp), fdiv_sgn _ _ hp]
  rcases h with h | h
  · rw [if_pos h, h]; simp [sgn]
  · by_cases hn : a.neg = b.neg
    · rw [if_pos hn, hn]; simp [sgn]
    · rw [if_neg hn, if_pos h]; simp [sgn, hn]
theorem quo_dl1 {a b : R} (ha : a.Ok) (hb : b.Ok) (ga : a.good = true) (gb : b.good = true) (h0 : val b.w ≠ 0) (hn : a.neg ≠ b.neg) (h : val a.w % val b.w ≠ 0) : Z.of (sgn (a.neg != b.neg) (val a.w / val b.w + 1)) = Z.quo a.dec b.dec := by
  have hp : 0 < val b.w := Nat.pos_of_ne_zero h0
  rw [Z.quo, lift2_some (dec_good ha ga) (dec_good hb gb), if_neg (sgn_ne hp), fdiv_sgn _ _ hp, if_neg hn, if_neg h]
  have : (a.neg != b.neg) = true := by simpa using hn
  rw [this, sgn_t]; congr 1; omega
theorem sign_dl {a : R} (ha : a.Ok) (g : a.good = true) (h : val a.w ≠ 0) : a.dec.sign = if a.neg then -1 else 1 := by
  have hz : a.zero = false := by simpa [R.zero] using h
  cases hn : a.neg
  · exact (sign_pos ha g hz hn).symm
  · exact (sign_neg ha g hz hn).symm
/-! comparing -/
theorem cmp_b1 {a b : R} (ha : a.good = false) (hb : b.good = false) : (0 : Int) = Z.cmp a.dec b.dec := by rw [dec_bad ha, dec_bad hb]; rfl
theorem cmp_b2 {a b : R} (ha : a.good = false) (hb : b.Ok) (gb : b.good = true) : (-1 : Int) = Z.cmp a.dec b.dec := by unfold Z.cmp; rw [dec_bad ha, dec_good hb gb]; rfl
theorem cmp_b3 {a b : R} (ha : a.Ok) (ga : a.good = true) (hb : b.good = false) : (1 : Int) = Z.cmp a.dec b.dec := by unfold Z.cmp; rw [dec_bad hb, dec_good ha ga]; rfl
theorem cmp_gg {a b : R} (ha : a.Ok) (hb : b.Ok) (ga : a.good = true) (gb : b.good = true) : Z.cmp a.dec b.dec = cmpI (sgn a.neg (val a.w)) (sgn b.neg (val b.w)) := by unfold Z.cmp; rw [dec_good ha ga, dec_good hb gb]
theorem good_neg {a : R} (g : a.good = true) (hn : a.neg = true) : 0 < val a.w := by
  obtain ⟨bad, neg, w⟩ := a
  simp only [R.good, R.valid, R.zero, Bool.and_eq_true, Bool.not_eq_true'] at g hn
  obtain ⟨hb, hv⟩ := g
  subst hb hn
  simp at hv
  exact Nat.pos_of_ne_zero hv
theorem cmp_ne {a b : R} (ha : a.Ok) (hb : b.Ok) (ga : a.good = true) (gb : b.good = true) (hn : a.neg ≠ b.neg) : (if a.neg then (-1 : Int) else 1) = Z.cmp a.dec b.dec := by
  rw [cmp_gg ha hb ga gb]
  cases h1 : a.neg <;> cases h2 : b.neg
  · exact absurd (h1.trans h2.symm) hn
  · have := good_neg gb h2; rw [sgn_f, sgn_t, cmpI_gt (by omega)]; rfl
  · have := good_neg ga h1; rw [sgn_f, sgn_t, cmpI_lt (by omega)]; rfl
  · exact absurd (h1.trans h2.symm) hn
theorem cmp_eqn {a b : R} (ha : a.Ok) (hb : b.Ok) (ga : a.good = true) (gb : b.good = true) (hn : a.neg = b.neg) (x y : Nat) (h : if a.neg then x = val b.w ∧ y = val a.w else x = val a.w ∧ y = val b.w) :
    (if x < y then (-1 : Int) else if y < x then 1 else 0) = Z.cmp a.dec b.dec := by
  rw [cmp_gg ha hb ga gb, ← hn]
  cases h1 : a.neg
  · rw [h1] at h; obtain ⟨rfl, rfl⟩ := h
    rw [sgn_f, sgn_f]
    rcases Nat.lt_trichotomy (val a.w) (val b.w) with h | h | h
    · rw [if_pos h, cmpI_lt (by omega)]
    · rw [h, if_neg (Nat.lt_irrefl _), if_neg (Nat.lt_irrefl _), cmpI_eq]
    · rw [if_neg (by omega), if_pos h, cmpI_gt (by omega)]
  · rw [h1] at h; obtain ⟨rfl, rfl⟩ := h
    rw [sgn_t, sgn_t]
    rcases Nat.lt_trichotomy (val a.w) (val b.w) with h | h | h
    · rw [if_neg (by omega), if_pos h, cmpI_gt (by omega)]
    · rw [h, if_neg (Nat.lt_irrefl _), if_neg (Nat.lt_irrefl _), cmpI_eq]
    · rw [if_pos h, cmpI_lt (by omega)]
theorem pow32 : (4294967296 : Nat) ^ 16 = 65536 ^ 32 := pow512.symm
theorem add_lt33 {a b : R} (ha : a.Ok) (hb : b.Ok) : val a.w + val b.w < 65536 ^ 33 := by
  have h1 := ha.vlt; have h2 := hb.vlt
  rw [pow32] at h1 h2
  rw [Nat.pow_succ (65536) 32]; omega
theorem sub_lt32 {a b : R} (ha : a.Ok) : val a.w - val b.w < 65536 ^ 32 := by
  have h1 := ha.vlt
  rw [pow32] at h1; omega
theorem mul_lt64 {a b : R} (ha : a.Ok) (hb : b.Ok) : val a.w * val b.w < 65536 ^ 64 := by
  have h1 := ha.vlt; have h2 := hb.vlt
  rw [pow32] at h1 h2
  rw [show (65536 : Nat) ^ 64 = 65536 ^ 32 * 65536 ^ 32 from Nat.pow_add 65536 32 32]
  exact Nat.mul_lt_mul_of_lt_of_lt h1 h2
theorem quo_lt33 {a b : R} (ha : a.Ok) : val a.w / val b.w + 1 < 65536 ^ 33 := by
  have h1 := ha.vlt
  have h2 := Nat.div_le_self (val a.w) (val b.w)
  rw [pow32] at h1
  rw [Nat.pow_succ 65536 32]; omega
theorem lt32' {a : R} (ha : a.Ok) : val a.w < 65536 ^ 32 := by rw [pow512]; exact ha.vlt
theorem len_lt {n : Nat} (h : n < 65536 ^ 32) : (dl n).length ≤ 190 := Nat.le_trans (dl_len h) (by decide)
theorem len_pos {n : Nat} (h : (0 : Int) < (((dl n).length : Nat) : Int)) : 0 < n := Nat.pos_of_ne_zero fun hc => by rw [dl_nil.2 hc] at h; exact absurd h (by decide)
theorem len_npos {n : Nat} (h : ¬ (0 : Int) < (((dl n).length : Nat) : Int)) : n = 0 := dl_nil.1 (by omega)
theorem gcd_mod (X Y : Nat) : Nat.gcd Y (X % Y) = Nat.gcd X Y := by rw [Nat.gcd_comm Y, ← Nat.gcd_rec, Nat.gcd_comm]
theorem igcd_mod (x y : Int) : Int.gcd y (x.tmod y) = Int.gcd x y := by
  unfold Int.gcd; rw [Int.natAbs_tmod]; exact gcd_mod _ _
theorem gw_I64 {x : Int} (h : -4611686018427387904 < x ∧ x < 4611686018427387904) : I64 x := by unfold I64; omega
theorem gw_mod {x y : Int} (h : -4611686018427387904 < x ∧ x < 4611686018427387904) : -4611686018427387904 < x.tmod y ∧ x.tmod y < 4611686018427387904 := by
  have h1 : (x.tmod y).natAbs ≤ x.natAbs := by rw [Int.natAbs_tmod]; exact Nat.mod_le _ _
  omega
theorem gcd_words {a b : R} (ha : a.Ok) (hb : b.Ok) (h : wordB a = true) (k : wordB b = true) {x y : Int} (e : Int.gcd x y = Int.gcd (wordI a) (wordI b)) (h0 : y = 0) : Z.abs (Z.of x) = Z.gcd a.dec b.dec := by
  rw [Z.gcd, lift2_some (word_dec ha h).1 (word_dec hb k).1, ← e, h0]
  have h1 : Int.gcd x 0 = x.natAbs := by simp
  have hw := (word_dec ha h).2.2.2
  have hl : Int.gcd (wordI a) (wordI b) < 4294967296 ^ 16 := by
    have p : (4611686018427387904 : Nat) ≤ 4294967296 ^ 16 := by decide
    by_cases hz : wordI a = 0
    · have hb' := (word_dec hb k).2.2.2
      rw [hz]; simp; omega
    · have := Int.gcd_le_natAbs_left (b := wordI b) hz
      omega
  have hx : x.natAbs < 4294967296 ^ 16 := by rw [← h1, ← h0, e]; exact hl
  rw [h1, Z.abs, lift1_some (Z.of_some hx)]
theorem gcd_dl {a b : R} (ha : a.Ok) (hb : b.Ok) (ga : a.good = true) (gb : b.good = true) {X : Nat} (h : X = Nat.gcd (val a.w) (val b.w)) : (Z.gcd a.dec b.dec) = Z.of (sgn false X) := by
  rw [gcd_nat ha hb ga gb, h, sgn_f]
theorem small_sum {a : R} (ha : a.Ok) (h : val a.w < 18446744073709551616) : IntKind.u64.wrap (IntKind.u64.wrap (IntKind.u64.wrap ((a.w.getD 1 0 : Nat) : Int) * 4294967296) + IntKind.u64.wrap ((a.w.getD 0 0 : Nat) : Int)) = ((val a.w : Nat) : Int) := by
  have h1 := two_digits ha h
  rw [wrap_u64, wrap_u64, wrap_u64, wrap_u64]
  have h2 := getD_lt ha.lim 0
  have h3 := getD_lt ha.lim 1
  omega
theorem cmp_of {a : R} (ha : a.Ok) (hg : a.good = true) {v : Int} (hv : v.natAbs < 4294967296 ^ 16) : Z.cmp a.dec (Z.of v).enc.dec = cmpI (sgn a.neg (val a.w)) v := by
  rw [dec_enc]; unfold Z.cmp; rw [dec_good ha hg, Z.of_some hv]
theorem cmpI_lt0 {x y : Int} : cmpI x y < 0 ↔ x < y := by
  unfold cmpI; split
  · simp [*]
  · split <;> simp <;> omega
theorem cmpI_gt0 {x y : Int} : 0 < cmpI x y ↔ y < x := by
  unfold cmpI; split
  · simp; omega
  · split <;> simp <;> omega
theorem small_no0 {a : R} (ha : a.Ok) (hg : a.good = true) (h : Z.cmp a.dec (Z.of (-9223372036854775808)).enc.dec < 0) : ¬ (-9223372036854775808 ≤ sgn a.neg (val a.w) ∧ sgn a.neg (val a.w) ≤ 9223372036854775807) := by
  rw [cmp_of ha hg (by decide), cmpI_lt0] at h; omega
theorem small_no1 {a : R} (ha : a.Ok) (hg : a.good = true) (h : 0 < Z.cmp a.dec (Z.of 9223372036854775807).enc.dec) : ¬ (-9223372036854775808 ≤ sgn a.neg (val a.w) ∧ sgn a.neg (val a.w) ≤ 9223372036854775807) := by
  rw [cmp_of ha hg (by decide), cmpI_gt0] at h; omega
theorem small_rng {a : R} (ha : a.Ok) (hg : a.good = true) (h : ¬ Z.cmp a.dec (Z.of (-9223372036854775808)).enc.dec < 0) (k : ¬ 0 < Z.cmp a.dec (Z.of 9223372036854775807).enc.dec) : -9223372036854775808 ≤ sgn a.neg (val a.w) ∧ sgn a.neg (val a.w) ≤ 9223372036854775807 := by
  rw [cmp_of ha hg (by decide), cmpI_lt0] at h; rw [cmp_of ha hg (by decide), cmpI_gt0] at k; omega
theorem small_nat {a : R} (h : -9223372036854775808 ≤ sgn a.neg (val a.w) ∧ sgn a.neg (val a.w) ≤ 9223372036854775807) : val a.w < 18446744073709551616 := by
  cases hn : a.neg <;> rw [hn] at h <;> simp only [sgn_t, sgn_f] at h <;> omega
theorem small_vneg {a : R} (h : -9223372036854775808 ≤ sgn a.neg (val a.w) ∧ sgn a.neg (val a.w) ≤ 9223372036854775807) (hn : a.neg = true) : IntKind.i64.wrap (0 - IntKind.i64.wrap ((val a.w : Nat) : Int)) = sgn a.neg (val a.w) := by
  rw [hn, sgn_t] at h ⊢
  rw [wrap_i64, wrap_i64]; split <;> split <;> omega
theorem small_vpos {a : R} (h : -9223372036854775808 ≤ sgn a.neg (val a.w) ∧ sgn a.neg (val a.w) ≤ 9223372036854775807) (hn : a.neg = false) : IntKind.i64.wrap ((val a.w : Nat) : Int) = sgn a.neg (val a.w) := by
  rw [hn, sgn_f] at h ⊢
  rw [wrap_i64_id (by unfold I64; omega)]
end Go.Num
