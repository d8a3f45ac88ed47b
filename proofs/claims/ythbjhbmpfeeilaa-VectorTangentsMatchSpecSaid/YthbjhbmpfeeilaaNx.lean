/- Numbers: what sums, comparisons and sizes of digits mean for the integers. No program stands in it. -/
import Derived.Test.YthbjhbmpfeeilaaNw
set_option linter.unusedVariables false
set_option linter.unusedSimpArgs false
namespace Go.Num
open Go Go.Kn
/-! the comparison of digits -/
theorem val_lt_of_high : ∀ {a b : List Nat} {k : Nat}, Lim a → Lim b → a.length = b.length → a.drop (k + 1) = b.drop (k + 1) → a.getD k 0 < b.getD k 0 → val a < val b
  | [], [], k, _, _, _, _, h => by simp at h
  | [], _ :: _, _, _, _, hl, _, _ => by simp at hl
  | _ :: _, [], _, _, _, hl, _, _ => by simp at hl
  | x :: a, y :: b, 0, ha, hb, hl, hd, h => by
    simp only [Nat.zero_add, List.drop_succ_cons, List.drop_zero] at hd
    subst hd
    simp only [List.getD_cons_zero] at h
    simp only [val]; omega
  | x :: a, y :: b, k + 1, ha, hb, hl, hd, h => by
    simp only [List.drop_succ_cons] at hd
    simp only [List.getD_cons_succ] at h
    have ih := val_lt_of_high ha.tail hb.tail (by simpa using hl) hd h
    have h1 := ha.head
    simp only [val]; omega
theorem drop_eq_succ {a b : List Nat} {k : Nat} (hl : a.length = b.length) (hd : a.drop (k + 1) = b.drop (k + 1)) (h : a.getD k 0 = b.getD k 0) (hk : k < a.length) : a.drop k = b.drop k := by
  have hk' : k < b.length := by omega
  rw [List.drop_eq_getElem_cons hk, List.drop_eq_getElem_cons hk', hd]
  congr 1
  simpa [List.getD, hk, hk'] using h
theorem cmpI_lt {x y : Int} (h : x < y) : cmpI x y = -1 := by simp [cmpI, h]
theorem cmpI_gt {x y : Int} (h : y < x) : cmpI x y = 1 := by
  unfold cmpI; rw [if_neg (by omega), if_neg (by omega)]
theorem cmpI_eq (x : Int) : cmpI x x = 0 := by simp [cmpI]
theorem order_step {a b : List Nat} {k : Nat} (ha : Lim a) (hb : Lim b) (hl : a.length = b.length) (hd : a.drop (k + 1) = b.drop (k + 1)) (hne : a.getD k 0 ≠ b.getD k 0) :
    cmpI (a.getD k 0 : Nat) (b.getD k 0 : Nat) = cmpI (val a : Nat) (val b : Nat) := by
  rcases Nat.lt_or_gt_of_ne hne with h | h
  · rw [cmpI_lt (by omega), cmpI_lt (by have := val_lt_of_high ha hb hl hd h; omega)]
  · rw [cmpI_gt (by omega), cmpI_gt (by have := val_lt_of_high hb ha hl.symm hd.symm h; omega)]
theorem pred_i64 {m : Nat} (h : m ≤ 1000000) : IntKind.i64.wrap (((m + 1 : Nat) : Int) - 1) = (m : Int) := by
  rw [wrap_i64_id (by unfold I64; omega)]; omega
theorem succ_i64 {m : Nat} (h : m ≤ 1000000) : IntKind.i64.wrap ((m : Int) + 1) = ((m + 1 : Nat) : Int) := by
  rw [wrap_i64_id (by unfold I64; omega)]; omega
theorem cmpI_ge {a b : Nat} (h : 0 ≤ cmpI (a : Int) (b : Int)) : b ≤ a := by
  rcases Nat.lt_or_ge a b with h1 | h1
  · rw [cmpI_lt (by omega)] at h; omega
  · exact h1
theorem cmpI_nge {a b : Nat} (h : ¬ 0 ≤ cmpI (a : Int) (b : Int)) : a ≤ b := by
  rcases Nat.lt_or_ge b a with h1 | h1
  · rw [cmpI_gt (by omega)] at h; omega
  · exact h1
/-! the number of digits -/
def szL : List Nat → Nat
  | [] => 0
  | d :: l => if szL l = 0 then (if d = 0 then 0 else 1) else szL l + 1
theorem szL_le : ∀ l, szL l ≤ l.length
  | [] => Nat.le_refl _
  | d :: l => by
    have := szL_le l
    simp only [szL, List.length_cons]; split
    · split <;> omega
    · omega
theorem szL_high : ∀ (l : List Nat) (j : Nat), szL l ≤ j → l.getD j 0 = 0
  | [], j, _ => by simp
  | d :: l, 0, h => by
    simp only [szL] at h
    split at h
    · split at h
      · assumption
      · omega
    · omega
  | d :: l, j + 1, h => by
    rw [List.getD_cons_succ]
    refine szL_high l j ?_
    simp only [szL] at h
    split at h <;> omega
theorem szL_top : ∀ (l : List Nat) (n : Nat), szL l = n + 1 → l.getD n 0 ≠ 0
  | [], n, h => by simp [szL] at h
  | d :: l, n, h => by
    simp only [szL] at h
    split at h
    · split at h
      · omega
      · rename_i h1; obtain rfl : n = 0 := by omega
        simpa using h1
    · obtain ⟨m, rfl⟩ : ∃ m, n = m + 1 := ⟨n - 1, by omega⟩
      rw [List.getD_cons_succ]
      exact szL_top l m (by omega)
theorem szL_eq {l : List Nat} {n : Nat} (h : ∀ j, n ≤ j → l.getD j 0 = 0) (hn : n = 0 ∨ l.getD (n - 1) 0 ≠ 0) : szL l = n := by
  rcases Nat.lt_trichotomy (szL l) n with h1 | h1 | h1
  · rcases hn with rfl | hn
    · omega
    · exact absurd (szL_high l (n - 1) (by omega)) hn
  · exact h1
  · obtain ⟨m, hm⟩ : ∃ m, szL l = m + 1 := ⟨szL l - 1, by omega⟩
    exact absurd (h m (by omega)) (szL_top l m hm)
theorem val_take (l : List Nat) (n : Nat) (h : szL l ≤ n) : val (l.take n) = val l := by
  conv => rhs; rw [← List.take_append_drop n l]
  rw [val_append]
  have : val (l.drop n) = 0 := by
    have hz : l.drop n = List.replicate (l.drop n).length 0 := by
      apply List.eq_replicate_iff.2
      refine ⟨rfl, fun d hd => ?_⟩
      obtain ⟨i, hi, rfl⟩ := List.mem_iff_getElem.1 hd
      have := szL_high l (n + i) (by omega)
      rw [List.getElem_drop]
      simp only [List.length_drop] at hi
      simpa [List.getD, show n + i < l.length by omega] using this
    rw [hz, val_zeros]
  simp [this]
theorem val_lt_sz {l : List Nat} (h : Lim l) : val l < 4294967296 ^ szL l := by
  rw [← val_take l (szL l) (Nat.le_refl _)]
  have := val_lt (l.take (szL l)) (fun d hd => h d (List.mem_of_mem_take hd))
  rw [List.length_take, Nat.min_eq_left (szL_le l)] at this
  exact this
/-! sums -/
theorem cy16 {a b : Nat} (ha : a < 4294967296 ^ 16) (hb : b < 4294967296 ^ 16) : cy a b 16 = (a + b) / 4294967296 ^ 16 := by
  unfold cy; rw [Nat.mod_eq_of_lt ha, Nat.mod_eq_of_lt hb]
theorem R.Ok.vlt {r : R} (h : r.Ok) : val r.w < 4294967296 ^ 16 := by have := val_lt r.w h.lim; rw [h.len] at this; exact this
theorem all2 {a b : R} : [a, b].all R.good = true ↔ a.good = true ∧ b.good = true := by simp
theorem not_all2 {a b : R} (h : [a, b].all R.good = false) : a.dec.o = none ∨ b.dec.o = none := by
  by_cases ha : a.good = true
  · have hb : b.good = false := by simpa [ha] using h
    right; rw [dec_bad hb]; rfl
  · left; rw [dec_bad (by simpa using ha)]; rfl
theorem lift2_bad {f : Int → Int → Z} {a b : Z} (h : a.o = none ∨ b.o = none) : lift2 f a b = Z.bad := by
  unfold lift2
  rcases h with h | h
  · rw [h]
  · rw [h]; cases a.o <;> rfl
theorem lift2_some {f : Int → Int → Z} {a b : Z} {x y : Int} (ha : a.o = some x) (hb : b.o = some y) : lift2 f a b = f x y := by unfold lift2; rw [ha, hb]
theorem lift1_bad {f : Int → Z} {a : Z} (h : a.o = none) : lift1 f a = Z.bad := by unfold lift1; rw [h]
theorem lift1_some {f : Int → Z} {a : Z} {x : Int} (ha : a.o = some x) : lift1 f a = f x := by unfold lift1; rw [ha]
theorem enc_signed (neg : Bool) {n : Nat} (h : n < 4294967296 ^ 16) : R.mk false (neg && !(val (toL 16 n) == 0)) (toL 16 n) = (Z.of (sgn neg n)).enc := by
  have h1 := enc_of_digits neg (w := toL 16 n) (toL_len _ _) (toL_lim _ _)
  rw [← h1, val_toL, Nat.mod_eq_of_lt h]
theorem sgn_add (neg : Bool) (a b : Nat) : sgn neg a + sgn neg b = sgn neg (a + b) := by cases neg <;> simp [sgn] <;> omega
theorem sgn_diff {n m : Bool} (h : n ≠ m) {a b : Nat} (hab : b ≤ a) : sgn n a + sgn m b = sgn n (a - b) := by
  cases n <;> cases m <;> first | exact absurd rfl h | (simp [sgn]; omega)
theorem sgn_not (n : Bool) (a : Nat) : sgn (!n) a = - sgn n a := by cases n <;> simp [sgn]
theorem Z.of_big {v : Int} (h : ¬ v.natAbs < 4294967296 ^ 16) : Z.of v = Z.bad := by unfold Z.of; rw [dif_neg h]
theorem add_same {a b : R} (ha : a.Ok) (hb : b.Ok) (ga : a.good = true) (gb : b.good = true) (hn : a.neg = b.neg) (hc : cy (val a.w) (val b.w) 16 = 0) :
    R.mk false (a.neg && !(val (toL 16 (val a.w + val b.w)) == 0)) (toL 16 (val a.w + val b.w)) = (Z.add a.dec b.dec).enc := by
  rw [cy16 ha.vlt hb.vlt, Nat.div_eq_zero_iff] at hc
  have hlt : val a.w + val b.w < 4294967296 ^ 16 := by rcases hc with hc | hc; exact absurd hc (by decide); exact hc
  rw [enc_signed _ hlt, Z.add, lift2_some (dec_good ha ga) (dec_good hb gb), ← hn, sgn_add]
theorem add_over {a b : R} (ha : a.Ok) (hb : b.Ok) (ga : a.good = true) (gb : b.good = true) (hn : a.neg = b.neg) (hc : cy (val a.w) (val b.w) 16 ≠ 0) : Z.bad.enc = (Z.add a.dec b.dec).enc := by
  rw [cy16 ha.vlt hb.vlt] at hc
  rw [Z.add, lift2_some (dec_good ha ga) (dec_good hb gb), ← hn, sgn_add, Z.of_big]
  rw [sgn_abs]
  intro h
  exact hc (Nat.div_eq_of_lt h)
theorem add_sub1 {a b : R} (ha : a.Ok) (hb : b.Ok) (ga : a.good = true) (gb : b.good = true) (hn : a.neg ≠ b.neg) (hle : val b.w ≤ val a.w) :
    R.mk false (a.neg && !(val (toL 16 (val a.w - val b.w)) == 0)) (toL 16 (val a.w - val b.w)) = (Z.add a.dec b.dec).enc := by
  rw [enc_signed _ (Nat.lt_of_le_of_lt (Nat.sub_le _ _) ha.vlt), Z.add, lift2_some (dec_good ha ga) (dec_good hb gb), sgn_diff hn hle]
theorem add_sub2 {a b : R} (ha : a.Ok) (hb : b.Ok) (ga : a.good = true) (gb : b.good = true) (hn : a.neg ≠ b.neg) (hle : val a.w ≤ val b.w) :
    R.mk false (b.neg && !(val (toL 16 (val b.w - val a.w)) == 0)) (toL 16 (val b.w - val a.w)) = (Z.add a.dec b.dec).enc := by
  rw [enc_signed _ (Nat.lt_of_le_of_lt (Nat.sub_le _ _) hb.vlt), Z.add, lift2_some (dec_good ha ga) (dec_good hb gb), Int.add_comm, sgn_diff (Ne.symm hn) hle]
theorem neg_eq {a : R} (ha : a.Ok) (ga : a.good = true) : R.mk false (!a.neg && !(val a.w == 0)) a.w = (Z.neg a.dec).enc := by
  rw [Z.neg, lift1_some (dec_good ha ga), ← sgn_not, enc_of_digits _ ha.len ha.lim]
theorem abs_eq {a : R} (ha : a.Ok) (ga : a.good = true) : R.mk false (false && !(val a.w == 0)) a.w = (Z.abs a.dec).enc := by
  rw [Z.abs, lift1_some (dec_good ha ga), sgn_abs]
  have := enc_of_digits false ha.len ha.lim
  rw [← this]; rfl
theorem fillG2 {a b : R} (ha : a.Ok) (hb : b.Ok) : FillR (fun i => some (i * 18, 18)) (List.replicate 2 zR).flatten [(0, .agg a.cells.toArray), (1, .agg b.cells.toArray)] ([a, b].flatMap R.cells) := by
  have h1 := cells_len ha
  have h2 := cells_len hb
  have hz : zR.length = 18 := rfl
  refine .cons rfl (vs := a.cells) rfl h1 (by simp [hz]) rfl (.cons rfl (vs := b.cells) rfl h2 (by simp [hz, h1]) ?_ (.nil _))
  simp [List.flatMap_cons, h1, h2, hz]
theorem fillG1 {a : R} (ha : a.Ok) : FillR (fun i => some (i * 18, 18)) (List.replicate 1 zR).flatten [(0, .agg a.cells.toArray)] ([a].flatMap R.cells) := by
  have h1 := cells_len ha
  have hz : zR.length = 18 := rfl
  refine .cons rfl (vs := a.cells) rfl h1 (by simp [hz]) ?_ (.nil _)
  simp [List.flatMap_cons, hz]
theorem ok2 {a b : R} (ha : a.Ok) (hb : b.Ok) : ∀ r ∈ [a, b], r.Ok := by
  intro r hr; simp only [List.mem_cons, List.not_mem_nil, or_false] at hr; rcases hr with rfl | rfl <;> assumption
theorem ok1 {a : R} (ha : a.Ok) : ∀ r ∈ [a], r.Ok := by
  intro r hr; simp only [List.mem_cons, List.not_mem_nil, or_false] at hr; subst hr; assumption
theorem not_all1 {a : R} (h : [a].all R.good = false) : a.dec.o = none := by rw [dec_bad (by simpa using h)]; rfl
theorem all1 {a : R} : [a].all R.good = a.good := by simp
theorem sign_zero {a : R} (_ : a.Ok) (h : a.good = false ∨ a.zero = true) : (0 : Int) = a.dec.sign := by
  unfold Z.sign R.dec
  by_cases hg : a.good = true
  · have hz : a.zero = true := by rcases h with h | h; rw [hg] at h; cases h; exact h
    have : val a.w = 0 := by simpa [R.zero] using hz
    rw [if_pos hg, this]; cases a.neg <;> simp [sgn, Z.of_o]
  · rw [if_neg hg]; rfl
theorem sign_neg {a : R} (ha : a.Ok) (hg : a.good = true) (hz : a.zero = false) (hn : a.neg = true) : (-1 : Int) = a.dec.sign := by
  have h0 : val a.w ≠ 0 := by simpa [R.zero] using hz
  unfold Z.sign; rw [dec_good ha hg, hn]; simp only [sgn, if_true]
  rw [Int.sign_eq_neg_one_of_neg (by omega)]
theorem sign_pos {a : R} (ha : a.Ok) (hg : a.good = true) (hz : a.zero = false) (hn : a.neg = false) : (1 : Int) = a.dec.sign := by
  have h0 : val a.w ≠ 0 := by simpa [R.zero] using hz
  unfold Z.sign; rw [dec_good ha hg, hn]; simp only [sgn, Bool.false_eq_true, if_false]
  rw [Int.sign_eq_one_of_pos (by omega)]
theorem enc_cells_len (z : Z) : z.enc.cells.length = 18 := cells_len z.enc_ok
theorem sw_len {x : Bool} {w : List Nat} (h : w.length = 16) : (R.cells ⟨false, x, w⟩).length = 18 := by simp [R.cells, uw, h]
/-! a number of 64 bits in two digits -/
theorem of_neg {n : Int} (h : I64 n) (h0 : n < 0) : IntKind.u64.wrap (0 - IntKind.u64.wrap n) = ((n.natAbs : Nat) : Int) := by
  unfold I64 at h; simp only [wrap_u64]; omega
theorem of_pos {n : Int} (h : I64 n) (h0 : ¬ n < 0) : IntKind.u64.wrap n = ((n.natAbs : Nat) : Int) := by
  unfold I64 at h; simp only [wrap_u64]; omega
theorem of_lo (n : Nat) : IntKind.u32.wrap (n : Int) = ((n % 4294967296 : Nat) : Int) := by rw [wrap_u32]; omega
theorem of_hi {n : Nat} (h : n < 18446744073709551616) : IntKind.u32.wrap (((n / 2 ^ 32 : Nat) : Int)) = ((n / 4294967296 : Nat) : Int) := by rw [wrap_u32]; omega
end Go.Num
