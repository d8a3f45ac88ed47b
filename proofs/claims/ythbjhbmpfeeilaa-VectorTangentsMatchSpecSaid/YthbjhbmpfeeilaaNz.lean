/- Numbers: the schoolbook product, and numbers of 64 bits. No program stands in it. -/
import Derived.Test.YthbjhbmpfeeilaaNy
set_option linter.unusedVariables false
set_option linter.unusedSimpArgs false
namespace Go.Num
open Go Go.Kn
theorem val_set : ∀ (l : List Nat) (j d : Nat), j < l.length → val (l.set j d) + 4294967296 ^ j * l.getD j 0 = val l + 4294967296 ^ j * d
  | [], j, d, h => by simp at h
  | x :: l, 0, d, _ => by simp [val]; omega
  | x :: l, j + 1, d, h => by
    have ih := val_set l j d (by simpa using h)
    simp only [List.set_cons_succ, val, List.getD_cons_succ, Nat.pow_succ]
    rw [Nat.mul_comm (4294967296 ^ j) 4294967296, Nat.mul_assoc, Nat.mul_assoc]
    omega
theorem lim_set {l : List Nat} (h : Lim l) {j d : Nat} (hd : d < 4294967296) : Lim (l.set j d) := fun x hx => by
  rcases List.mem_or_eq_of_mem_set hx with hx | rfl
  · exact h x hx
  · exact hd
theorem getD_set_ne' {l : List Nat} {i j d : Nat} (h : i ≠ j) : (l.set i d).getD j 0 = l.getD j 0 := by simp [List.getD, List.getElem?_set, h]
theorem getD_set_eq {l : List Nat} {i d : Nat} (h : i < l.length) : (l.set i d).getD i 0 = d := by simp [List.getD, h]
structure MulIn (A Bv m i k : Nat) (l : List Nat) (c : Nat) : Prop where
  len : l.length = 32
  lim : Lim l
  clt : c < 4294967296
  high : ∀ j, i + m ≤ j → l.getD j 0 = 0
  eq : val l + c * 4294967296 ^ (i + k) = (A % 4294967296 ^ i) * Bv + dig A i * (Bv % 4294967296 ^ k) * 4294967296 ^ i
structure MulOut (A Bv m i : Nat) (l : List Nat) : Prop where
  len : l.length = 32
  lim : Lim l
  high : ∀ j, i + m ≤ j → l.getD j 0 = 0
  eq : val l = (A % 4294967296 ^ i) * Bv
theorem getD_zeros (n j : Nat) : (List.replicate n 0).getD j 0 = 0 := by
  simp only [List.getD, List.getElem?_replicate]; split <;> rfl
theorem MulOut.start (A Bv m : Nat) : MulOut A Bv m 0 (List.replicate 32 0) :=
  ⟨by simp, lim_zeros _, fun j _ => getD_zeros 32 j, by rw [val_zeros]; simp [Nat.mod_one]⟩
theorem MulOut.row {A Bv m i : Nat} {l : List Nat} (h : MulOut A Bv m i l) : MulIn A Bv m i 0 l 0 :=
  ⟨h.len, h.lim, by decide, h.high, by rw [h.eq]; simp [Nat.mod_one]⟩
theorem mul_lt {x y l c : Nat} (hx : x < 4294967296) (hy : y < 4294967296) (hl : l < 4294967296) (hc : c < 4294967296) : c + (x * y + l) < 18446744073709551616 := by
  have : x * y ≤ 4294967295 * 4294967295 := Nat.mul_le_mul (by omega) (by omega)
  omega
theorem MulIn.step {A Bv m i k : Nat} {l : List Nat} {c : Nat} (h : MulIn A Bv m i k l c) (hik : i + k < 32) (hkm : k < m) :
    MulIn A Bv m i (k + 1) (l.set (i + k) ((c + (dig A i * dig Bv k + l.getD (i + k) 0)) % 4294967296)) ((c + (dig A i * dig Bv k + l.getD (i + k) 0)) / 4294967296) := by
  have hs := mul_lt (dig_lt A i) (dig_lt Bv k) (getD_lt h.lim (i + k)) h.clt
  have hv := val_set l (i + k) ((c + (dig A i * dig Bv k + l.getD (i + k) 0)) % 4294967296) (by rw [h.len]; exact hik)
  have heq := h.eq
  generalize hsd : c + (dig A i * dig Bv k + l.getD (i + k) 0) = s at *
  refine ⟨by simp [h.len], lim_set h.lim (Nat.mod_lt _ (by decide)), by omega, fun j hj => by rw [getD_set_ne' (by omega)]; exact h.high j hj, ?_⟩
  rw [mod_succ Bv k, Nat.mul_add, Nat.add_mul (dig A i * (Bv % 4294967296 ^ k)), ← Nat.add_assoc (A % 4294967296 ^ i * Bv), ← heq, show i + (k + 1) = (i + k) + 1 by omega, Nat.pow_succ]
  have e1 := Nat.div_add_mod s 4294967296
  have e2 : dig A i * (4294967296 ^ k * dig Bv k) * 4294967296 ^ i = 4294967296 ^ (i + k) * (dig A i * dig Bv k) := by
    rw [Nat.pow_add]; ac_rfl
  rw [e2]
  generalize 4294967296 ^ (i + k) = p at *
  generalize dig A i * dig Bv k = xy at *
  generalize l.getD (i + k) 0 = g at *
  have e3 : s / 4294967296 * (p * 4294967296) = p * (4294967296 * (s / 4294967296)) := by ac_rfl
  have e4 : p * s = p * (4294967296 * (s / 4294967296)) + p * (s % 4294967296) := by rw [← Nat.mul_add, e1]
  have e5 : p * s = p * c + (p * xy + p * g) := by rw [← hsd, Nat.mul_add, Nat.mul_add]
  rw [e3, Nat.mul_comm c p]
  omega
theorem MulIn.done {A Bv m i : Nat} {l : List Nat} {c : Nat} (h : MulIn A Bv m i m l c) (him : i + m < 32) (hB : Bv < 4294967296 ^ m) : MulOut A Bv m (i + 1) (l.set (i + m) c) := by
  have hv := val_set l (i + m) c (by rw [h.len]; exact him)
  have h0 := h.high (i + m) (Nat.le_refl _)
  have heq := h.eq
  rw [h0, Nat.mul_zero, Nat.add_zero] at hv
  refine ⟨by simp [h.len], lim_set h.lim h.clt, fun j hj => by rw [getD_set_ne' (by omega)]; exact h.high j (by omega), ?_⟩
  rw [hv, Nat.mul_comm (4294967296 ^ (i + m)), heq, Nat.mod_eq_of_lt hB, mod_succ A i, Nat.add_mul]
  congr 1
  ac_rfl
theorem mul_s {x y l c : Nat} (hx : x < 4294967296) (hy : y < 4294967296) (hl : l < 4294967296) (hc : c < 4294967296) :
    IntKind.u64.wrap ((c : Int) + IntKind.u64.wrap (IntKind.u64.wrap (IntKind.u64.wrap (x : Int) * IntKind.u64.wrap (y : Int)) + IntKind.u64.wrap (l : Int))) = ((c + (x * y + l) : Nat) : Int) := by
  have h := mul_lt hx hy hl hc
  rw [conv_u32_u64 hx, conv_u32_u64 hy, conv_u32_u64 hl]
  have e1 : ((x : Int) * (y : Int)) = ((x * y : Nat) : Int) := by simp
  rw [e1]
  generalize x * y = p at *
  simp only [wrap_u64]; omega
theorem val_split {l : List Nat} (h : l.length = 32) : val l = val (l.take 16) + 4294967296 ^ 16 * val (l.drop 16) := by
  conv => lhs; rw [← List.take_append_drop 16 l]
  rw [val_append]; congr 2; simp [h]
theorem Lim.take {l : List Nat} (h : Lim l) (n : Nat) : Lim (l.take n) := fun d hd => h d (List.mem_of_mem_take hd)
theorem Lim.drop {l : List Nat} (h : Lim l) (n : Nat) : Lim (l.drop n) := fun d hd => h d (List.mem_of_mem_drop hd)
theorem sgn_mul (n m : Bool) (a b : Nat) : sgn n a * sgn m b = sgn (n != m) (a * b) := by
  cases n <;> cases m <;> simp [sgn, Int.neg_mul, Int.mul_neg]
theorem mul_fin {a b : R} (ha : a.Ok) (hb : b.Ok) (ga : a.good = true) (gb : b.good = true) {l : List Nat} (h : l.length = 32) (hl : Lim l) (hv : val l = val a.w * val b.w) (h0 : l.drop 16 = List.replicate 16 0) :
    R.mk false ((a.neg != b.neg) && !(val (l.take 16) == 0)) (l.take 16) = (Z.mul a.dec b.dec).enc := by
  have hs := val_split h
  rw [h0, val_zeros, Nat.mul_zero, Nat.add_zero] at hs
  rw [Z.mul, lift2_some (dec_good ha ga) (dec_good hb gb), sgn_mul, ← hv, hs]
  rw [enc_of_digits _ (by simp [h]) (hl.take 16)]
theorem mul_big {a b : R} (ha : a.Ok) (hb : b.Ok) (ga : a.good = true) (gb : b.good = true) {l : List Nat} (h : l.length = 32) (hl : Lim l) (hv : val l = val a.w * val b.w) (h0 : l.drop 16 ≠ List.replicate 16 0) :
    Z.bad.enc = (Z.mul a.dec b.dec).enc := by
  have hs := val_split h
  have hd : val (l.drop 16) ≠ 0 := fun e => h0 (by have := (val_eq_zero (hl.drop 16)).1 e; rw [this]; simp [h])
  rw [Z.mul, lift2_some (dec_good ha ga) (dec_good hb gb), sgn_mul, ← hv, Z.of_big]
  rw [sgn_abs]
  have : 4294967296 ^ 16 * 1 ≤ 4294967296 ^ 16 * val (l.drop 16) := Nat.mul_le_mul_left _ (Nat.pos_of_ne_zero hd)
  omega
theorem mulout_val {a b : R} {l : List Nat} (h : MulOut (val a.w) (val b.w) (szL b.w) (szL a.w) l) (ha : a.Ok) : val l = val a.w * val b.w := by
  rw [h.eq, Nat.mod_eq_of_lt (val_lt_sz ha.lim)]
theorem add_i64 {i k : Nat} (h : i + k ≤ 1000000) : IntKind.i64.wrap ((i : Int) + (k : Int)) = ((i + k : Nat) : Int) := by
  rw [wrap_i64_id (by unfold I64; omega)]; omega
theorem cellsAt {r : R} {k : Nat} (h : k < r.w.length) : r.cells[0 + 2 + ((k : Int)).toNat * 1]? = some (U32 (r.w.getD k 0)) := by
  rw [show 0 + 2 + ((k : Int)).toNat * 1 = k + 2 by omega]
  simp only [R.cells, List.getElem?_cons_succ]
  exact uw_get h
theorem u32_lt {n : Nat} (h : n < 4294967296) : Value.int .u32 (IntKind.u32.wrap (n : Int)) = U32 n := by rw [u32_nat, Nat.mod_eq_of_lt h]
theorem uw_hi {l : List Nat} (h : l.length = 32) : ((uw l).drop (0 + (16 : Int).toNat * 1)).take 16 = uw (l.drop 16) := by
  rw [show 0 + (16 : Int).toNat * 1 = 16 from rfl, uw, ← List.map_drop]
  exact List.take_of_length_le (by simp [h])
theorem uw_lo {l : List Nat} (_ : l.length = 32) : ((uw l).drop (0 + (0 : Int).toNat * 1)).take 16 = uw (l.take 16) := by
  rw [show 0 + (0 : Int).toNat * 1 = 0 from rfl, List.drop_zero, uw, ← List.map_take]; rfl
theorem dec_uw (a b : List Nat) : decide (a = b) = true ↔ uw a = uw b := by
  rw [decide_eq_true_eq]; exact ⟨fun h => by rw [h], uw_inj⟩
theorem mulin_get {x y : List Nat} {m i k : Nat} {l : List Nat} {c : Nat} (h : MulIn (val x) (val y) m i k l c) (hx : Lim x) (hy : Lim y) (hik : i + k < 32) (hkm : k < m) :
    MulIn (val x) (val y) m i (k + 1) (l.set (i + k) ((c + (x.getD i 0 * y.getD k 0 + l.getD (i + k) 0)) % 4294967296)) ((c + (x.getD i 0 * y.getD k 0 + l.getD (i + k) 0)) / 2 ^ 32) := by
  rw [getD_val x i hx, getD_val y k hy]; exact h.step hik hkm
/-! bits -/
theorem bits_top {w : List Nat} (hw : Lim w) {n : Nat} (h : szL w = n + 1) : bl (val w) = 32 * n + bl (w.getD n 0) := by
  have h0 := szL_top w n h
  have hn : n < w.length := by have := szL_le w; omega
  have hv := val_take w (n + 1) (by omega)
  rw [List.take_add_one, val_append] at hv
  have hg : w[n]?.toList = [w.getD n 0] := by simp [List.getD, hn]
  have hlt := val_lt (w.take n) (hw.take n)
  have hl : (w.take n).length = n := by simp; omega
  rw [hg, hl] at hv
  rw [hl] at hlt
  have hv' : val (w.take n) + 4294967296 ^ n * w.getD n 0 = val w := by rw [← hv]; simp only [val, Nat.mul_zero, Nat.add_zero]
  clear hv; have hv := hv'; clear hv'
  have hp : (2 : Nat) ^ (32 * n) = 4294967296 ^ n := by rw [Nat.pow_mul]
  have hge : 2 ^ (32 * n) ≤ val w := by
    rw [hp, ← hv]
    have : 4294967296 ^ n * 1 ≤ 4294967296 ^ n * w.getD n 0 := Nat.mul_le_mul_left _ (Nat.pos_of_ne_zero h0)
    omega
  rw [bl_shift hge, hp, ← hv, Nat.add_mul_div_left _ _ (pow_pos' n), Nat.div_eq_of_lt hlt, Nat.zero_add]
theorem sz_zero {w : List Nat} (h : szL w = 0) : val w = 0 := by rw [← val_take w 0 (by omega)]; rfl
end Go.Num
