/- Numbers: long division, the machine's words and the rounds of the outer loop. No program stands in it. -/
import Derived.Test.YthbjhbmpfeeilaaNq
set_option linter.unusedVariables false
set_option linter.unusedSimpArgs false
namespace Go.Num
open Go Go.Kn
theorem sub_i64 {a b : Nat} (h : b ≤ a) (h1 : a ≤ 1000000) : IntKind.i64.wrap ((a : Int) - (b : Int)) = ((a - b : Nat) : Int) := by
  rw [wrap_i64_id (by unfold I64; omega)]; omega
theorem sub_i64' {a b : Nat} {c : Int} (hc : c = b) (h : b ≤ a) (h1 : a ≤ 1000000) : IntKind.i64.wrap ((a : Int) - c) = ((a - b : Nat) : Int) := by
  rw [hc]; exact sub_i64 h h1
theorem or_hi {r x : Nat} (hr : r < 4294967296) (hx : x < 4294967296) : IntKind.u64.wrap ((BitVec.ofInt IntKind.u64.bits ((r * 2 ^ 32 : Nat) : Int) ||| BitVec.ofInt IntKind.u64.bits (x : Int)).toNat : Int) = ((r * 4294967296 + x : Nat) : Int) := down_or hr hx
theorem quo_u64 {a b : Nat} (h : a < 18446744073709551616) : IntKind.u64.wrap ((a : Int).tdiv (b : Int)) = ((a / b : Nat) : Int) := by
  rw [quo_nat, Nat.mod_eq_of_lt (Nat.lt_of_le_of_lt (Nat.div_le_self a b) h)]
theorem mul_u64 {a b : Nat} (h : a * b < 18446744073709551616) : IntKind.u64.wrap ((a : Int) * (b : Int)) = ((a * b : Nat) : Int) := by
  rw [wrap_u64, ← Int.natCast_mul]; omega
theorem sub1_u64 {a : Nat} {c : Int} (hc : c = 1) (h : 1 ≤ a) (h1 : a < 18446744073709551616) : IntKind.u64.wrap ((a : Int) - c) = ((a - 1 : Nat) : Int) := by
  rw [wrap_u64]; omega
theorem add_u64 {a b : Nat} (h : a + b < 18446744073709551616) : IntKind.u64.wrap ((a : Int) + (b : Int)) = ((a + b : Nat) : Int) := by
  rw [wrap_u64]; omega
theorem u32u64 {x : Nat} (hx : x < 4294967296) : Value.int .u64 (IntKind.u64.wrap (x : Int)) = .int .u64 (x : Int) := by rw [conv_u32_u64 hx]
theorem lt_prod {a b : Nat} (ha : a < 4294967296) (hb : b < 4294967296) : a * b < 18446744073709551616 := by
  have := mul_lt ha hb (show 0 < 4294967296 by decide) (show 0 < 4294967296 by decide); omega
theorem take_s {c d y : Nat} (hc : c < 4294967296) (hd : d < 4294967296) (hy : y < 4294967296) : IntKind.u64.wrap ((c : Int) + IntKind.u64.wrap ((d : Int) * IntKind.u64.wrap (y : Int))) = ((c + d * y : Nat) : Int) := by
  rw [conv_u32_u64 hy, mul_u64 (lt_prod hd hy), add_u64]
  have := mul_lt hd hy (show 0 < 4294967296 by decide) hc; omega
theorem sub_s {x l b : Nat} (hb : b ≤ 1) (hx : x < 4294967296) (hl : l < 4294967296) : IntKind.u64.wrap (IntKind.u64.wrap (IntKind.u64.wrap (x : Int) - IntKind.u64.wrap (l : Int)) - (b : Int)) = ((sd x l b : Nat) : Int) := minus_s hb hx hl
theorem sub_s' {x l b : Nat} (hb : b ≤ 1) (hx : x < 4294967296) (hl : l < 4294967296) : IntKind.u64.wrap (IntKind.u64.wrap (IntKind.u64.wrap (x : Int) - (l : Int)) - (b : Int)) = ((sd x l b : Nat) : Int) := by
  rw [← sub_s hb hx hl, conv_u32_u64 hl]
theorem give_s {c x y : Nat} (hc : c ≤ 1) (hx : x < 4294967296) (hy : y < 4294967296) : IntKind.u64.wrap ((c : Int) + IntKind.u64.wrap (IntKind.u64.wrap (x : Int) + IntKind.u64.wrap (y : Int))) = ((c + (x + y) : Nat) : Int) := by
  simp only [wrap_u64]; omega
theorem give_e {x c : Nat} (hx : x < 4294967296) (hc : c ≤ 1) : Value.int .u32 (IntKind.u32.wrap ((x : Int) + IntKind.u32.wrap (c : Int))) = U32 ((x + c) % 4294967296) := by
  simp only [wrap_u32, U32]; congr 1; omega
theorem szL_le_of {l : List Nat} {k : Nat} (h : ∀ j, k ≤ j → l.getD j 0 = 0) : szL l ≤ k := by
  rcases Nat.lt_or_ge k (szL l) with h1 | h1
  · obtain ⟨n, hn⟩ : ∃ n, szL l = n + 1 := ⟨szL l - 1, by omega⟩
    exact absurd (h n (by omega)) (szL_top l n hn)
  · exact h1
theorem val_lt_of {l : List Nat} {k : Nat} (hl : Lim l) (h : ∀ j, k ≤ j → l.getD j 0 = 0) : val l < 4294967296 ^ k :=
  Nat.lt_of_lt_of_le (val_lt_sz hl) (Nat.pow_le_pow_right (by decide) (szL_le_of h))
theorem high_of {l : List Nat} {k j : Nat} (hl : Lim l) (h : val l < 4294967296 ^ k) (hj : k ≤ j) : l.getD j 0 = 0 := by
  rw [getD_val l j hl, dig, Nat.div_eq_of_lt (Nat.lt_of_lt_of_le h (Nat.pow_le_pow_right (by decide) hj))]
/-- What take leaves: x.1 the digits, x.2 the borrow. -/
structure Took (u0 : List Nat) (V d j n : Nat) (x : List Nat × Nat) : Prop where
  len : x.1.length = 17
  lim : Lim x.1
  small : val x.1 < 4294967296 ^ (j + n + 1)
  ble : x.2 ≤ 1
  eq : val x.1 + d * V * 4294967296 ^ j = val u0 + x.2 * 4294967296 ^ (j + n + 1)
theorem takein_get {u0 v : List Nat} {d j i : Nat} {u : List Nat} {c bo : Nat} (h : TakeIn u0 (val v) d j i u c bo) (lv : Lim v) (hji : j + i < 17) (hd : d < 4294967296) :
    TakeIn u0 (val v) d j (i + 1) (u.set (j + i) (sd (u.getD (j + i) 0) ((c + d * v.getD i 0) % 4294967296) bo % 4294967296)) ((c + d * v.getD i 0) / 2 ^ 32) (sd (u.getD (j + i) 0) ((c + d * v.getD i 0) % 4294967296) bo / 2 ^ 63) := by
  rw [getD_val v i lv]; exact h.step hji hd
theorem TakeIn.took {u0 : List Nat} {V d j n : Nat} {u : List Nat} {c bo : Nat} (h : TakeIn u0 V d j n u c bo) (hjn : j + n < 17) (hV : V < 4294967296 ^ n) (l0 : Lim u0) (h0 : val u0 < 4294967296 ^ (j + n + 1)) :
    Took u0 V d j n (u.set (j + n) (sd (u.getD (j + n) 0) c bo % 4294967296), sd (u.getD (j + n) 0) c bo / 2 ^ 63) := by
  obtain ⟨h1, h2, h3, h4⟩ := h.done hjn hV
  exact ⟨h1, h2, val_lt_of h2 (fun t ht => by rw [getD_set_ne' (by omega), h.high t (by omega)]; exact high_of l0 h0 ht), h3, h4⟩
structure Gave (u0 : List Nat) (V j n : Nat) (x : List Nat) : Prop where
  len : x.length = 17
  lim : Lim x
  small : val x < 4294967296 ^ (j + n + 1)
  eq : ∃ c, val x + c * 4294967296 ^ (j + n + 1) = val u0 + V * 4294967296 ^ j
theorem givein_get {u0 v : List Nat} {j i : Nat} {u : List Nat} {c : Nat} (h : GiveIn u0 (val v) j i u c) (lv : Lim v) (hji : j + i < 17) :
    GiveIn u0 (val v) j (i + 1) (u.set (j + i) ((c + (u.getD (j + i) 0 + v.getD i 0)) % 4294967296)) ((c + (u.getD (j + i) 0 + v.getD i 0)) / 2 ^ 32) := by
  rw [getD_val v i lv]; exact h.step hji
theorem GiveIn.gave {u0 : List Nat} {V j n : Nat} {u : List Nat} {c : Nat} (h : GiveIn u0 V j n u c) (hjn : j + n < 17) (hV : V < 4294967296 ^ n) (l0 : Lim u0) (h0 : val u0 < 4294967296 ^ (j + n + 1)) :
    Gave u0 V j n (u.set (j + n) ((u.getD (j + n) 0 + c) % 4294967296)) := by
  obtain ⟨h1, h2, h3⟩ := h.done hjn hV
  exact ⟨h1, h2, val_lt_of h2 (fun t ht => by rw [getD_set_ne' (by omega), h.high t (by omega)]; exact high_of l0 h0 ht), _, h3⟩
/-! the outer loop -/
structure DV (xs ys : List Nat) (n s : Nat) : Prop where
  hx : xs.length = 16
  hy : ys.length = 16
  lx : Lim xs
  ly : Lim ys
  hn : szL ys = n
  n2 : 2 ≤ n
  hs : s = 32 - bl (ys.getD (n - 1) 0)
  le : val ys ≤ val xs
section
variable {xs ys : List Nat} {n s : Nat} (h : DV xs ys n s)
include h
theorem DV.n16 : n ≤ 16 := by have := szL_le ys; rw [h.hn, h.hy] at this; exact this
theorem DV.bl1 : 1 ≤ bl (ys.getD (n - 1) 0) := by
  have h2 := h.n2
  have h1 := szL_top ys (n - 1) (by rw [h.hn]; omega)
  unfold bl; rw [if_neg h1]; omega
theorem DV.s32 : s < 32 := by have := h.bl1; have := h.hs; omega
theorem DV.bl32 : bl (ys.getD (n - 1) 0) ≤ 32 := bl_small (getD_lt h.ly _)
theorem DV.blv : bl (val ys) + s = 32 * n := by
  have h2 := h.n2
  have h1 := bits_top h.ly (n := n - 1) (by rw [h.hn]; omega)
  have := h.bl32; have := h.hs
  omega
theorem DV.ypos : 0 < val ys := by
  have h2 := h.n2
  rcases Nat.eq_zero_or_pos (val ys) with h0 | h0
  · exfalso
    have h3 := szL_top ys (n - 1) (by rw [h.hn]; omega)
    rw [getD_val ys _ h.ly, h0] at h3; simp [dig] at h3
  · exact h0
omit h in
theorem pow32' (k : Nat) : 4294967296 ^ k = 2 ^ (32 * k) := by rw [show 4294967296 = 2 ^ 32 from rfl, ← Nat.pow_mul]
theorem DV.vlt : val ys * 2 ^ s < 4294967296 ^ n := by
  rw [pow32' n, ← h.blv, Nat.pow_add]
  exact Nat.mul_lt_mul_of_pos_right (bl_lt _) (Nat.pow_pos (by decide))
theorem DV.v16 : val (toL 16 (val ys * 2 ^ s)) = val ys * 2 ^ s := by
  rw [val_toL]; exact Nat.mod_eq_of_lt (Nat.lt_of_lt_of_le h.vlt (Nat.pow_le_pow_right (by decide) h.n16))
theorem DV.vlow : 2 ^ (32 * n - 1) ≤ val ys * 2 ^ s := by
  have h1 := bl_le (n := val ys) (by have := h.ypos; omega)
  have h2 := h.blv
  have h3 : 1 ≤ bl (val ys) := by unfold bl; rw [if_neg (by have := h.ypos; omega)]; omega
  rw [show 32 * n - 1 = (bl (val ys) - 1) + s by omega, Nat.pow_add]
  exact Nat.mul_le_mul_right _ h1
theorem DV.vtop : 2147483648 ≤ (toL 16 (val ys * 2 ^ s)).getD (n - 1) 0 := by
  have h2 := h.n2
  rw [getD_val _ _ (toL_lim _ _), h.v16, dig]
  have h4 : val ys * 2 ^ s / 4294967296 ^ (n - 1) < 4294967296 := by
    rw [Nat.div_lt_iff_lt_mul (pow_pos' _), Nat.mul_comm 4294967296, ← Nat.pow_succ, show (n - 1).succ = n by omega]; exact h.vlt
  rw [Nat.mod_eq_of_lt h4, Nat.le_div_iff_mul_le (pow_pos' _), pow32' (n - 1), show 2147483648 = 2 ^ 31 from rfl, ← Nat.pow_add, show 31 + 32 * (n - 1) = 32 * n - 1 by omega]
  exact h.vlow
theorem DV.vpos : 0 < val ys * 2 ^ s := Nat.mul_pos h.ypos (Nat.pow_pos (by decide))
theorem DV.nm : n ≤ szL xs := by
  have h2 := h.n2
  rcases Nat.lt_or_ge (szL xs) n with h1 | h1
  · exfalso
    have h3 := val_lt_sz h.lx
    have h4 : 4294967296 ^ szL xs ≤ 4294967296 ^ (n - 1) := Nat.pow_le_pow_right (by decide) (by omega)
    have h5 := high_of h.ly (Nat.lt_of_le_of_lt h.le (Nat.lt_of_lt_of_le h3 h4)) (Nat.le_refl _)
    exact szL_top ys (n - 1) (by rw [h.hn]; omega) h5
  · exact h1
theorem DV.m16 : szL xs ≤ 16 := by have := szL_le xs; rw [h.hx] at this; exact this
theorem DV.start_lt : val xs * 2 ^ s < val ys * 2 ^ s * 4294967296 ^ (szL xs - n + 1) := by
  have h2 := h.n2
  have h3 := h.nm
  refine Nat.lt_of_lt_of_le (Nat.mul_lt_mul_of_pos_right (val_lt_sz h.lx) (Nat.pow_pos (by decide))) ?_
  refine Nat.le_trans ?_ (Nat.mul_le_mul_right _ h.vlow)
  rw [pow32' (szL xs), pow32' (szL xs - n + 1), ← Nat.pow_add, ← Nat.pow_add]
  refine Nat.pow_le_pow_right (by decide) ?_
  have := h.s32
  omega
end
structure QI (xs ys : List Nat) (s k : Nat) (l : List Nat) : Prop where
  len : l.length = 17
  lim : Lim l
  eq : val l = val xs * 2 ^ s % (val ys * 2 ^ s * 4294967296 ^ k)
theorem hpart_start {k n : Nat} (hk : k ≤ 16) (h : n < 4294967296 ^ k) : List.replicate 16 0 = hpart k n := by
  refine List.ext_getElem? fun j => ?_
  unfold hpart
  rcases Nat.lt_or_ge j k with h1 | h1
  · rw [List.getElem?_append_left (by simpa using h1)]; rw [List.getElem?_replicate, List.getElem?_replicate, if_pos h1, if_pos (by omega)]
  · rw [List.getElem?_append_right (by simpa using h1)]
    simp only [List.length_replicate, List.getElem?_drop]
    rw [show k + (j - k) = j by omega]
    rcases Nat.lt_or_ge j 16 with h2 | h2
    · rw [toL_get h2, List.getElem?_replicate, if_pos h2, dig, Nat.div_eq_of_lt (Nat.lt_of_lt_of_le h (Nat.pow_le_pow_right (by decide) h1))]
    · rw [List.getElem?_eq_none (by simpa using h2), List.getElem?_eq_none (by rw [toL_len]; exact h2)]
theorem QI.qh {xs ys : List Nat} {n s j : Nat} {l : List Nat} (d : DV xs ys n s) (q : QI xs ys s (j + 1) l) (hj : j + n ≤ 16) : QH l (toL 16 (val ys * 2 ^ s)) n j :=
  ⟨q.len, q.lim, toL_len _ _, toL_lim _ _, d.n2, hj, by rw [d.v16]; exact d.vlt, d.vtop, by rw [q.eq, d.v16]; exact Nat.mod_lt _ (Nat.mul_pos d.vpos (pow_pos' _))⟩
theorem QI.small {xs ys : List Nat} {n s j : Nat} {l : List Nat} (d : DV xs ys n s) (q : QI xs ys s (j + 1) l) : val l < 4294967296 ^ (j + n + 1) := by
  refine Nat.lt_of_lt_of_le (by rw [q.eq]; exact Nat.mod_lt _ (Nat.mul_pos d.vpos (pow_pos' _))) ?_
  rw [show j + n + 1 = n + (j + 1) by omega, Nat.pow_add 4294967296 n (j + 1)]
  exact Nat.mul_le_mul_right _ (Nat.le_of_lt d.vlt)
theorem QI.digit {xs ys : List Nat} {n s j : Nat} {l : List Nat} (d : DV xs ys n s) (q : QI xs ys s (j + 1) l) : val l / (val ys * 2 ^ s * 4294967296 ^ j) = dig (val xs / val ys) j := by
  have e : val ys * 2 ^ s * 4294967296 ^ (j + 1) = val ys * 2 ^ s * 4294967296 ^ j * 4294967296 := by rw [show 4294967296 ^ (j + 1) = 4294967296 ^ j * 4294967296 from Nat.pow_succ .., Nat.mul_assoc (val ys * 2 ^ s)]
  rw [q.eq, e, Nat.mod_mul_right_div_self, ← Nat.div_div_eq_div_mul, Nat.mul_div_mul_right _ _ (Nat.pow_pos (by decide))]; rfl
theorem QI.low {xs ys : List Nat} {n s j : Nat} {l : List Nat} (_ : DV xs ys n s) (q : QI xs ys s (j + 1) l) : val l % (val ys * 2 ^ s * 4294967296 ^ j) = val xs * 2 ^ s % (val ys * 2 ^ s * 4294967296 ^ j) := by
  have e : val ys * 2 ^ s * 4294967296 ^ (j + 1) = val ys * 2 ^ s * 4294967296 ^ j * 4294967296 := by rw [show 4294967296 ^ (j + 1) = 4294967296 ^ j * 4294967296 from Nat.pow_succ .., Nat.mul_assoc (val ys * 2 ^ s)]
  rw [q.eq, e, Nat.mod_mul_right_mod]
/-- What guess says of its digit. -/
def Guess (u v : List Nat) (j d : Nat) : Prop := d < 4294967296 ∧ val u / (val v * 4294967296 ^ j) ≤ d ∧ d ≤ val u / (val v * 4294967296 ^ j) + 1
theorem guess_fin {u v : List Nat} {n j d rest : Nat} (H : QH u v n j) (g : GI (v.getD (n - 1) 0) (u.getD (j + n) 0 * 4294967296 + u.getD (j + n - 1) 0) (val u / (val v * 4294967296 ^ j)) d rest)
    (hc : 4294967296 ≤ rest ∨ (d < 4294967296 ∧ d * v.getD (n - 2) 0 ≤ rest * 4294967296 + u.getD (j + n - 2) 0)) : Guess u v j d := by
  obtain ⟨h1, h2⟩ := GI.done H.gh g hc
  exact ⟨h1, g.le, H.up h1 h2⟩
theorem QI.took0 {xs ys : List Nat} {n s j : Nat} {l : List Nat} (d : DV xs ys n s) (q : QI xs ys s (j + 1) l) {g : Nat} (hg : Guess l (toL 16 (val ys * 2 ^ s)) j g) {x : List Nat × Nat} (t : Took l (val (toL 16 (val ys * 2 ^ s))) g j n x) (h0 : ¬ x.2 = 1) :
    QI xs ys s j x.1 ∧ g % 4294967296 = dig (val xs / val ys) j := by
  obtain ⟨g1, g2, g3⟩ := hg
  have e := t.eq
  have hb := t.ble
  have hd := q.digit d
  have hl := q.low d
  have hdm := Nat.div_add_mod (val l) (val ys * 2 ^ s * 4294967296 ^ j)
  have hp : 0 < val ys * 2 ^ s * 4294967296 ^ j := Nat.mul_pos d.vpos (pow_pos' _)
  have hm := Nat.mod_lt (val l) hp
  rw [d.v16] at g2 g3 e
  rw [show x.2 = 0 by omega, Nat.zero_mul, Nat.add_zero, Nat.mul_assoc] at e
  generalize hD : val ys * 2 ^ s * 4294967296 ^ j = D at *
  have hgq : g = val l / D := by
    refine Nat.le_antisymm ?_ g2
    rw [Nat.le_div_iff_mul_le hp]; omega
  refine ⟨⟨t.len, t.lim, ?_⟩, by rw [Nat.mod_eq_of_lt g1, hgq, hd]⟩
  rw [hD, ← hl]
  rw [hgq, Nat.mul_comm] at e
  omega
theorem QI.took1 {xs ys : List Nat} {n s j : Nat} {l : List Nat} (d : DV xs ys n s) (q : QI xs ys s (j + 1) l) {g : Nat} (hg : Guess l (toL 16 (val ys * 2 ^ s)) j g) {x : List Nat × Nat} (t : Took l (val (toL 16 (val ys * 2 ^ s))) g j n x) (h0 : x.2 = 1)
    {y : List Nat} (gv : Gave x.1 (val (toL 16 (val ys * 2 ^ s))) j n y) : QI xs ys s j y ∧ (g - 1) % 4294967296 = dig (val xs / val ys) j ∧ 1 ≤ g := by
  obtain ⟨g1, g2, g3⟩ := hg
  have e := t.eq
  obtain ⟨c, ey⟩ := gv.eq
  have hd := q.digit d
  have hl := q.low d
  have hdm := Nat.div_add_mod (val l) (val ys * 2 ^ s * 4294967296 ^ j)
  have hp : 0 < val ys * 2 ^ s * 4294967296 ^ j := Nat.mul_pos d.vpos (pow_pos' _)
  have hm := Nat.mod_lt (val l) hp
  have hs := t.small
  have hys := gv.small
  have hDB : val ys * 2 ^ s * 4294967296 ^ j ≤ 4294967296 ^ (j + n + 1) := by
    rw [show j + n + 1 = (n + j) + 1 by omega, show 4294967296 ^ (n + j + 1) = 4294967296 ^ (n + j) * 4294967296 from Nat.pow_succ .., Nat.pow_add 4294967296 n j]
    refine Nat.le_trans (Nat.mul_le_mul_right _ (Nat.le_of_lt d.vlt)) (Nat.le_mul_of_pos_right _ (by decide))
  rw [d.v16] at g2 g3 e ey
  rw [h0, Nat.one_mul, Nat.mul_assoc] at e
  generalize 4294967296 ^ (j + n + 1) = Bg at *
  generalize hD : val ys * 2 ^ s * 4294967296 ^ j = D at *
  generalize hQ : val l / D = Q at *
  have hgq : g = Q + 1 := by
    rcases Nat.lt_or_ge Q g with h1 | h1
    · omega
    · exfalso
      have : g * D ≤ Q * D := Nat.mul_le_mul_right _ h1
      rw [Nat.mul_comm Q] at this
      omega
  subst hgq
  rw [Nat.succ_mul, Nat.mul_comm Q] at e
  have hc : c = 1 := by
    rcases Nat.lt_trichotomy c 1 with h1 | h1 | h1
    · have : c = 0 := by omega
      subst this; omega
    · exact h1
    · have : 2 * Bg ≤ c * Bg := Nat.mul_le_mul_right _ h1
      omega
  subst hc
  refine ⟨⟨gv.len, gv.lim, ?_⟩, by rw [Nat.add_sub_cancel, Nat.mod_eq_of_lt (by omega), hd], by omega⟩
  rw [hD, ← hl]
  omega
theorem QI.start {xs ys : List Nat} {n s : Nat} (d : DV xs ys n s) : QI xs ys s (szL xs - n + 1) ((toL 16 (val xs * 2 ^ s) ++ [0]).set 16 (val xs * 2 ^ s / 4294967296 ^ 16)) := by
  have ho := up_over d.hx d.lx d.s32
  have hl : (toL 16 (val xs * 2 ^ s) ++ [0]).length = 17 := by simp [toL_len]
  have hm : Lim (toL 16 (val xs * 2 ^ s) ++ [0]) := fun x hx => by
    rcases List.mem_append.1 hx with h1 | h1
    · exact toL_lim _ _ x h1
    · have : x = 0 := by simpa using h1
      omega
  refine ⟨by simp [toL_len], lim_set hm ho, ?_⟩
  rw [Nat.mod_eq_of_lt d.start_lt]
  have hv := val_set (toL 16 (val xs * 2 ^ s) ++ [0]) 16 (val xs * 2 ^ s / 4294967296 ^ 16) (by omega)
  have h16 : (toL 16 (val xs * 2 ^ s) ++ [0]).getD 16 0 = 0 := by simp [List.getD, toL_len]
  have hva : val (toL 16 (val xs * 2 ^ s) ++ [0]) = val xs * 2 ^ s % 4294967296 ^ 16 := by rw [val_append, val_toL]; simp [val]
  rw [h16, hva, Nat.mul_zero, Nat.add_zero] at hv
  rw [hv, Nat.mod_add_div]
theorem QI.fin {xs ys : List Nat} {n s : Nat} {l : List Nat} (d : DV xs ys n s) (q : QI xs ys s 0 l) : toL 16 (val (l.take 16) / 2 ^ s) = toL 16 (val xs % val ys) := by
  have hp : 0 < 2 ^ s := Nat.pow_pos (by decide)
  have e := q.eq
  rw [Nat.pow_zero, Nat.mul_one] at e
  have hlt : val l < 4294967296 ^ 16 := by
    rw [e]; exact Nat.lt_of_lt_of_le (Nat.mod_lt _ d.vpos) (Nat.le_trans (Nat.le_of_lt d.vlt) (Nat.pow_le_pow_right (by decide) d.n16))
  rw [val_take l 16 (szL_le_of fun j hj => high_of q.lim hlt hj), e, Nat.mul_mod_mul_right, Nat.mul_div_cancel _ hp]
theorem DV.qstart {xs ys : List Nat} {n s : Nat} (d : DV xs ys n s) : List.replicate 16 0 = hpart (szL xs - n + 1) (val xs / val ys) := by
  have h1 := d.n2; have h2 := d.m16; have h3 := d.nm
  refine hpart_start (by omega) ?_
  rw [Nat.div_lt_iff_lt_mul d.ypos]
  have h := d.start_lt
  rw [Nat.mul_right_comm, Nat.mul_comm (val ys)] at h
  exact Nat.lt_of_mul_lt_mul_right h
theorem cmpI_neg {a b : Nat} (h : cmpI (a : Int) (b : Int) < 0) : a < b := by
  rcases Nat.lt_or_ge a b with h1 | h1
  · exact h1
  · exfalso; unfold cmpI at h; rw [if_neg (by omega)] at h; split at h <;> omega
theorem sz_pos {l : List Nat} (h : 0 < val l) : 1 ≤ szL l := by
  rcases Nat.eq_zero_or_pos (szL l) with h1 | h1
  · have := sz_zero h1; omega
  · exact h1
theorem one_digit {l : List Nat} (hl : Lim l) (h : szL l = 1) : l.getD 0 0 = val l := by
  have h1 := val_lt_sz hl
  rw [h, Nat.pow_one] at h1
  rw [getD_val l 0 hl, dig, Nat.pow_zero, Nat.div_one, Nat.mod_eq_of_lt h1]
theorem one_pos {l : List Nat} (h : szL l = 1) : 0 < l.getD 0 0 := Nat.pos_of_ne_zero (szL_top l 0 h)
theorem fill1 (m : Nat) : FillR (fun i => some (i * 1, 1)) (uw (List.replicate 16 0)) [(0, U32 m)] (uw (m :: List.replicate 15 0)) := by
  refine .cons rfl rfl ?_ ?_ rfl (.nil _) <;> simp [uw, U32]
theorem toL_one {m : Nat} (h : m < 4294967296) : toL 16 m = m :: List.replicate 15 0 := by
  have h1 : Lim (m :: List.replicate 15 0) := fun d hd => by
    rcases List.mem_cons.1 hd with rfl | h2
    · exact h
    · rw [List.eq_of_mem_replicate h2]; decide
  have h2 := toL_val _ h1
  rw [show val (m :: List.replicate 15 0) = m by simp [val, val_zeros]] at h2
  exact h2
theorem copy_uw {a : List Nat} (h : a.length = 16) : (uw (List.replicate 17 0)).take (0 + (0 : Int).toNat * 1) ++ ((uw a).drop (0 + (0 : Int).toNat * 1)).take (min (((16 : Nat) : Int).toNat - (0 : Int).toNat) (((17 : Nat) : Int).toNat - (0 : Int).toNat) * 1) ++
    (uw (List.replicate 17 0)).drop (0 + (0 : Int).toNat * 1 + min (((16 : Nat) : Int).toNat - (0 : Int).toNat) (((17 : Nat) : Int).toNat - (0 : Int).toNat) * 1) = uw (a ++ [0]) := by
  have e : (uw a).take 16 = uw a := List.take_of_length_le (by rw [uw_len, h]; exact Nat.le_refl _)
  show [] ++ (uw a).take 16 ++ [U32 0] = _
  rw [e]; simp [uw]
theorem Took.pos {u0 : List Nat} {V d j n : Nat} {x : List Nat × Nat} (t : Took u0 V d j n x) (h : x.2 = 1) : 1 ≤ d := by
  rcases Nat.eq_zero_or_pos d with h0 | h0
  · have h1 := t.eq; have h2 := t.small
    rw [h, h0, Nat.zero_mul, Nat.zero_mul, Nat.one_mul] at h1; omega
  · exact h0
theorem uw_lo17 {l : List Nat} : ((uw l).drop (0 + (0 : Int).toNat * 1)).take 16 = uw (l.take 16) := by
  show (uw l).take 16 = _
  simp [uw]
theorem quo_less {xs ys : List Nat} (hx : xs.length = 16) (lx : Lim xs) (h : val xs < val ys) : Value.tuple #[UV (List.replicate 16 0), UV xs] = .tuple #[UV (toL 16 (val xs / val ys)), UV (toL 16 (val xs % val ys))] := by
  rw [Nat.div_eq_of_lt h, Nat.mod_eq_of_lt h, toL_zero, ← hx, toL_val xs lx]
theorem quo_one {xs ys : List Nat} (ly : Lim ys) (h : szL ys = 1) : Value.tuple #[UV (toL 16 (val xs / ys.getD 0 0)), UV (val xs % ys.getD 0 0 :: List.replicate 15 0)] = .tuple #[UV (toL 16 (val xs / val ys)), UV (toL 16 (val xs % val ys))] := by
  rw [← one_digit ly h, toL_one (Nat.lt_trans (Nat.mod_lt _ (one_pos h)) (getD_lt ly 0))]
end Go.Num
