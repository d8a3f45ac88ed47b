/- Numbers: long division (the digit that is guessed, the product that is taken, and given back). No program stands in it. -/
import Derived.Test.YthbjhbmpfeeilaaNz
set_option linter.unusedVariables false
set_option linter.unusedSimpArgs false
namespace Go.Num
open Go Go.Kn
/-! the guess -/
structure GH (first v2 top u2 q : Nat) : Prop where
  f0 : 2147483648 ≤ first
  f1 : first < 4294967296
  v2lt : v2 < 4294967296
  u2lt : u2 < 4294967296
  qW : q * (first * 4294967296 + v2) ≤ top * 4294967296 + u2
  qB : q < 4294967296
  topLt : top < first * 4294967296 + 4294967296
structure GI (first top q d rest : Nat) : Prop where
  eq : d * first + rest = top
  le : q ≤ d
  rlt : rest < 8589934592
theorem GI.dlt {first v2 top u2 q d rest : Nat} (h : GH first v2 top u2 q) (g : GI first top q d rest) : d ≤ 4294967297 := by
  have := g.eq; have := h.topLt; have := h.f0
  rcases Nat.lt_or_ge 4294967297 d with h1 | h1
  · have : 4294967298 * first ≤ d * first := Nat.mul_le_mul_right _ h1
    omega
  · exact h1
theorem GI.start {first v2 top u2 q : Nat} (h : GH first v2 top u2 q) : GI first top q (top / first) (top % first) := by
  have hf : 0 < first := by have := h.f0; omega
  refine ⟨by rw [Nat.mul_comm]; exact Nat.div_add_mod _ _, ?_, by have := Nat.mod_lt top hf; have := h.f1; omega⟩
  rw [Nat.le_div_iff_mul_le hf]
  have := h.qW
  rw [Nat.mul_add, ← Nat.mul_assoc] at this
  have := h.u2lt
  omega
theorem GI.more {first v2 top u2 q d rest : Nat} (h : GH first v2 top u2 q) (g : GI first top q d rest) (hr : rest < 4294967296) (hc : 4294967296 ≤ d ∨ rest * 4294967296 + u2 < d * v2) :
    1 ≤ d ∧ GI first top q (d - 1) (rest + first) := by
  have hq : q < d := by
    rcases hc with hc | hc
    · have := h.qB; omega
    · rcases Nat.lt_or_ge q d with h1 | h1
      · exact h1
      · exfalso
        have h2 : d * (first * 4294967296 + v2) ≤ q * (first * 4294967296 + v2) := Nat.mul_le_mul_right _ h1
        have h3 := h.qW
        have h4 := g.eq
        rw [Nat.mul_add, ← Nat.mul_assoc] at h2
        omega
  have hf := h.f1
  refine ⟨by omega, ?_, by omega, by omega⟩
  have h4 := g.eq
  obtain ⟨e, rfl⟩ : ∃ e, d = e + 1 := ⟨d - 1, by omega⟩
  rw [Nat.add_sub_cancel]
  rw [Nat.succ_mul] at h4
  omega
theorem GI.done {first v2 top u2 q d rest : Nat} (h : GH first v2 top u2 q) (g : GI first top q d rest) (hc : 4294967296 ≤ rest ∨ (d < 4294967296 ∧ d * v2 ≤ rest * 4294967296 + u2)) :
    d < 4294967296 ∧ d * (first * 4294967296 + v2) ≤ top * 4294967296 + u2 := by
  have h4 := g.eq
  have h5 := h.topLt
  have hd : d < 4294967296 := by
    rcases hc with hc | hc
    · rcases Nat.lt_or_ge d 4294967296 with h1 | h1
      · exact h1
      · have : 4294967296 * first ≤ d * first := Nat.mul_le_mul_right _ h1
        omega
    · exact hc.1
  refine ⟨hd, ?_⟩
  rw [Nat.mul_add, ← Nat.mul_assoc]
  rcases hc with hc | hc
  · have h6 : d * v2 ≤ 4294967295 * 4294967295 := Nat.mul_le_mul (by omega) (by have := h.v2lt; omega)
    omega
  · have := hc.2; omega
/-- What the highest digits of u and v say of the quotient's digit. -/
structure QH (u v : List Nat) (n j : Nat) : Prop where
  ulen : u.length = 17
  ulim : Lim u
  vlen : v.length = 16
  vlim : Lim v
  n2 : 2 ≤ n
  jn : j + n ≤ 16
  sz : val v < 4294967296 ^ n
  top : 2147483648 ≤ v.getD (n - 1) 0
  lt : val u < val v * 4294967296 ^ (j + 1)
theorem dig_split (x k : Nat) : x / 4294967296 ^ k = dig x k + 4294967296 * (x / 4294967296 ^ (k + 1)) := by
  unfold dig
  rw [Nat.pow_succ, ← Nat.div_div_eq_div_mul]
  omega
theorem QH.vtop {u v : List Nat} {n j : Nat} (h : QH u v n j) : val v / 4294967296 ^ (n - 2) = v.getD (n - 1) 0 * 4294967296 + v.getD (n - 2) 0 := by
  have h2 := h.n2
  have h1 := dig_split (val v) (n - 2)
  have h3 := dig_split (val v) (n - 1)
  rw [show n - 2 + 1 = n - 1 by omega] at h1
  rw [show n - 1 + 1 = n by omega, Nat.div_eq_of_lt h.sz] at h3
  rw [getD_val v _ h.vlim, getD_val v _ h.vlim]
  omega
theorem QH.ult {u v : List Nat} {n j : Nat} (h : QH u v n j) : val u < 4294967296 ^ (j + n + 1) := by
  refine Nat.lt_of_lt_of_le h.lt ?_
  rw [show j + n + 1 = n + (j + 1) by omega, Nat.pow_add 4294967296 n (j + 1)]
  exact Nat.mul_le_mul_right _ (Nat.le_of_lt h.sz)
theorem QH.utop {u v : List Nat} {n j : Nat} (h : QH u v n j) : val u / 4294967296 ^ (j + n - 2) = (u.getD (j + n) 0 * 4294967296 + u.getD (j + n - 1) 0) * 4294967296 + u.getD (j + n - 2) 0 := by
  have h2 := h.n2
  have h1 := dig_split (val u) (j + n - 2)
  have h3 := dig_split (val u) (j + n - 1)
  have h4 := dig_split (val u) (j + n)
  rw [show j + n - 2 + 1 = j + n - 1 by omega] at h1
  rw [show j + n - 1 + 1 = j + n by omega] at h3
  rw [Nat.div_eq_of_lt h.ult] at h4
  rw [getD_val u _ h.ulim, getD_val u _ h.ulim, getD_val u _ h.ulim]
  omega
theorem QH.vpos {u v : List Nat} {n j : Nat} (h : QH u v n j) : 0 < val v := by
  rcases Nat.eq_zero_or_pos (val v) with h0 | h0
  · have := h.lt; rw [h0] at this; omega
  · exact h0
theorem QH.gh {u v : List Nat} {n j : Nat} (h : QH u v n j) :
    GH (v.getD (n - 1) 0) (v.getD (n - 2) 0) (u.getD (j + n) 0 * 4294967296 + u.getD (j + n - 1) 0) (u.getD (j + n - 2) 0) (val u / (val v * 4294967296 ^ j)) := by
  have hn := h.n2
  have hpos : 0 < val v * 4294967296 ^ j := Nat.mul_pos h.vpos (pow_pos' j)
  have hp := pow_pos' (n - 2)
  have hpj : 4294967296 ^ (j + n - 2) = 4294967296 ^ (n - 2) * 4294967296 ^ j := by rw [← Nat.pow_add]; congr 1; omega
  have ht := h.utop
  have hv := h.vtop
  have hqm := Nat.div_mul_le_self (val u) (val v * 4294967296 ^ j)
  refine ⟨h.top, getD_lt h.vlim _, getD_lt h.vlim _, getD_lt h.ulim _, ?_, ?_, ?_⟩
  · -- q W <= X
    rw [← hv, ← ht, Nat.le_div_iff_mul_le (by rw [hpj]; exact Nat.mul_pos hp (pow_pos' j)), hpj]
    refine Nat.le_trans ?_ hqm
    calc val u / (val v * 4294967296 ^ j) * (val v / 4294967296 ^ (n - 2)) * (4294967296 ^ (n - 2) * 4294967296 ^ j)
        = val u / (val v * 4294967296 ^ j) * (val v / 4294967296 ^ (n - 2) * 4294967296 ^ (n - 2) * 4294967296 ^ j) := by ac_rfl
      _ ≤ val u / (val v * 4294967296 ^ j) * (val v * 4294967296 ^ j) := Nat.mul_le_mul_left _ (Nat.mul_le_mul_right _ (Nat.div_mul_le_self _ _))
  · rw [Nat.div_lt_iff_lt_mul hpos, Nat.mul_comm 4294967296, Nat.mul_assoc, ← Nat.pow_succ]; exact h.lt
  · -- the top two digits
    have e1 : val u / 4294967296 ^ (j + n - 1) = u.getD (j + n) 0 * 4294967296 + u.getD (j + n - 1) 0 := by
      have h3 := dig_split (val u) (j + n - 1)
      have h4 := dig_split (val u) (j + n)
      rw [show j + n - 1 + 1 = j + n by omega] at h3
      rw [Nat.div_eq_of_lt h.ult] at h4
      rw [getD_val u _ h.ulim, getD_val u _ h.ulim]; omega
    have e2 : val v / 4294967296 ^ (n - 1) = v.getD (n - 1) 0 := by
      have h3 := dig_split (val v) (n - 1)
      rw [show n - 1 + 1 = n by omega, Nat.div_eq_of_lt h.sz] at h3
      rw [getD_val v _ h.vlim]; omega
    rw [← e1, ← e2, Nat.div_lt_iff_lt_mul (pow_pos' _), ← Nat.succ_mul]
    refine Nat.lt_of_lt_of_le h.lt ?_
    have e3 : val v ≤ (val v / 4294967296 ^ (n - 1) + 1) * 4294967296 ^ (n - 1) := by
      have := Nat.div_add_mod (val v) (4294967296 ^ (n - 1))
      have := Nat.mod_lt (val v) (pow_pos' (n - 1))
      rw [Nat.succ_mul, Nat.mul_comm (val v / 4294967296 ^ (n - 1))]; omega
    calc val v * 4294967296 ^ (j + 1) ≤ (val v / 4294967296 ^ (n - 1) + 1) * 4294967296 ^ (n - 1) * 4294967296 ^ (j + 1) := Nat.mul_le_mul_right _ e3
      _ = (val v / 4294967296 ^ (n - 1) + 1) * 4294967296 * 4294967296 ^ (j + n - 1) := by
        have q1 : 4294967296 ^ (j + 1) = 4294967296 ^ j * 4294967296 := Nat.pow_succ ..
        have q2 : 4294967296 ^ (j + n - 1) = 4294967296 ^ (n - 1) * 4294967296 ^ j := by rw [← Nat.pow_add]; congr 1; omega
        rw [q1, q2]; ac_rfl
theorem QH.up {u v : List Nat} {n j d : Nat} (h : QH u v n j) (hd : d < 4294967296)
    (hw : d * (v.getD (n - 1) 0 * 4294967296 + v.getD (n - 2) 0) ≤ (u.getD (j + n) 0 * 4294967296 + u.getD (j + n - 1) 0) * 4294967296 + u.getD (j + n - 2) 0) : d ≤ val u / (val v * 4294967296 ^ j) + 1 := by
  have hn := h.n2
  have hpos : 0 < val v * 4294967296 ^ j := Nat.mul_pos h.vpos (pow_pos' j)
  have hpj : 4294967296 ^ (j + n - 2) = 4294967296 ^ (n - 2) * 4294967296 ^ j := by rw [← Nat.pow_add]; congr 1; omega
  rcases Nat.eq_zero_or_pos d with h0 | h0
  · subst h0; exact Nat.zero_le _
  obtain ⟨e, rfl⟩ : ∃ e, d = e + 1 := ⟨d - 1, by omega⟩
  refine Nat.succ_le_succ ?_
  rw [Nat.le_div_iff_mul_le hpos]
  have ht := h.utop
  have hv := h.vtop
  have htop := h.top
  rw [← hv, ← ht] at hw
  have hV : val v ≤ (val v / 4294967296 ^ (n - 2) + 1) * 4294967296 ^ (n - 2) := by
    have := Nat.div_add_mod (val v) (4294967296 ^ (n - 2))
    have := Nat.mod_lt (val v) (pow_pos' (n - 2))
    rw [Nat.succ_mul, Nat.mul_comm (val v / 4294967296 ^ (n - 2))]; omega
  have hW : e ≤ val v / 4294967296 ^ (n - 2) := by rw [hv]; omega
  calc e * (val v * 4294967296 ^ j) ≤ e * ((val v / 4294967296 ^ (n - 2) + 1) * 4294967296 ^ (n - 2) * 4294967296 ^ j) := Nat.mul_le_mul_left _ (Nat.mul_le_mul_right _ hV)
    _ = (e * (val v / 4294967296 ^ (n - 2)) + e) * (4294967296 ^ (n - 2) * 4294967296 ^ j) := by rw [Nat.mul_assoc, ← Nat.mul_assoc e, Nat.mul_succ]
    _ ≤ ((e + 1) * (val v / 4294967296 ^ (n - 2))) * (4294967296 ^ (n - 2) * 4294967296 ^ j) := by
      refine Nat.mul_le_mul_right _ ?_
      rw [Nat.succ_mul]; omega
    _ ≤ val u / 4294967296 ^ (j + n - 2) * 4294967296 ^ (j + n - 2) := by rw [hpj]; exact Nat.mul_le_mul_right _ (by rw [← hpj]; exact hw)
    _ ≤ val u := Nat.div_mul_le_self _ _
/-! the product that is taken -/
structure TakeIn (u0 : List Nat) (V d j i : Nat) (u : List Nat) (c bo : Nat) : Prop where
  len : u.length = 17
  lim : Lim u
  clt : c < 4294967296
  ble : bo ≤ 1
  high : ∀ t, j + i ≤ t → u.getD t 0 = u0.getD t 0
  eq : val u + d * (V % 4294967296 ^ i) * 4294967296 ^ j = val u0 + (c + bo) * 4294967296 ^ (j + i)
theorem TakeIn.start {u0 : List Nat} (hl : u0.length = 17) (hm : Lim u0) (V d j : Nat) : TakeIn u0 V d j 0 u0 0 0 :=
  ⟨hl, hm, by decide, by decide, fun _ _ => rfl, by simp [Nat.mod_one]⟩
/-- The digit that a difference leaves, and what it borrows. -/
def sd (g lo bo : Nat) : Nat := (g + 18446744073709551616 - lo - bo) % 18446744073709551616
theorem sd_eq {g lo bo : Nat} (hg : g < 4294967296) (hl : lo < 4294967296) (hb : bo ≤ 1) : sd g lo bo % 4294967296 + lo + bo = g + 4294967296 * (sd g lo bo / 2 ^ 63) ∧ sd g lo bo / 2 ^ 63 ≤ 1 := by
  unfold sd; constructor <;> omega
theorem TakeIn.step {u0 : List Nat} {V d j i : Nat} {u : List Nat} {c bo : Nat} (h : TakeIn u0 V d j i u c bo) (hji : j + i < 17) (hd : d < 4294967296) :
    TakeIn u0 V d j (i + 1) (u.set (j + i) (sd (u.getD (j + i) 0) ((c + d * dig V i) % 4294967296) bo % 4294967296)) ((c + d * dig V i) / 4294967296) (sd (u.getD (j + i) 0) ((c + d * dig V i) % 4294967296) bo / 2 ^ 63) := by
  have hs : c + d * dig V i < 18446744073709551616 := by
    have := mul_lt hd (dig_lt V i) (show 0 < 4294967296 by decide) h.clt; omega
  obtain ⟨e1, e2⟩ := sd_eq (getD_lt h.lim (j + i)) (Nat.mod_lt (c + d * dig V i) (show 0 < 4294967296 by decide)) h.ble
  have hv := val_set u (j + i) (sd (u.getD (j + i) 0) ((c + d * dig V i) % 4294967296) bo % 4294967296) (by rw [h.len]; exact hji)
  have heq := h.eq
  generalize hsd : sd (u.getD (j + i) 0) ((c + d * dig V i) % 4294967296) bo = s at *
  refine ⟨by simp [h.len], lim_set h.lim (Nat.mod_lt _ (by decide)), by omega, e2, fun t ht => by rw [getD_set_ne' (by omega)]; exact h.high t (by omega), ?_⟩
  rw [mod_succ V i, Nat.mul_add, Nat.add_mul, show j + (i + 1) = (j + i) + 1 by omega, show 4294967296 ^ (j + i + 1) = 4294967296 ^ (j + i) * 4294967296 from Nat.pow_succ ..]
  have e3 : d * (4294967296 ^ i * dig V i) * 4294967296 ^ j = 4294967296 ^ (j + i) * (d * dig V i) := by rw [Nat.pow_add]; ac_rfl
  rw [e3]
  have e4 := Nat.div_add_mod (c + d * dig V i) 4294967296
  generalize 4294967296 ^ (j + i) = p at *
  generalize d * dig V i = xy at *
  generalize u.getD (j + i) 0 = g at *
  generalize d * (V % 4294967296 ^ i) * 4294967296 ^ j = low at *
  have f1 : p * (s % 4294967296) + p * ((c + xy) % 4294967296) + p * bo = p * g + p * (4294967296 * (s / 2 ^ 63)) := by rw [← Nat.mul_add, ← Nat.mul_add, ← Nat.mul_add, e1]
  have f2 : p * (4294967296 * ((c + xy) / 4294967296)) + p * ((c + xy) % 4294967296) = p * c + p * xy := by rw [← Nat.mul_add, ← Nat.mul_add, e4]
  have f3 : ((c + xy) / 4294967296 + s / 2 ^ 63) * (p * 4294967296) = p * (4294967296 * ((c + xy) / 4294967296)) + p * (4294967296 * (s / 2 ^ 63)) := by rw [← Nat.mul_add, ← Nat.mul_add]; ac_rfl
  have f4 : (c + bo) * p = p * c + p * bo := by rw [Nat.mul_comm, Nat.mul_add]
  rw [f3]
  rw [f4] at heq
  omega
theorem TakeIn.done {u0 : List Nat} {V d j n : Nat} {u : List Nat} {c bo : Nat} (h : TakeIn u0 V d j n u c bo) (hjn : j + n < 17) (hV : V < 4294967296 ^ n) :
    (u.set (j + n) (sd (u.getD (j + n) 0) c bo % 4294967296)).length = 17 ∧ Lim (u.set (j + n) (sd (u.getD (j + n) 0) c bo % 4294967296)) ∧ sd (u.getD (j + n) 0) c bo / 2 ^ 63 ≤ 1 ∧
    val (u.set (j + n) (sd (u.getD (j + n) 0) c bo % 4294967296)) + d * V * 4294967296 ^ j = val u0 + sd (u.getD (j + n) 0) c bo / 2 ^ 63 * 4294967296 ^ (j + n + 1) := by
  obtain ⟨e1, e2⟩ := sd_eq (getD_lt h.lim (j + n)) h.clt h.ble
  have hv := val_set u (j + n) (sd (u.getD (j + n) 0) c bo % 4294967296) (by rw [h.len]; exact hjn)
  have heq := h.eq
  rw [Nat.mod_eq_of_lt hV] at heq
  refine ⟨by simp [h.len], lim_set h.lim (Nat.mod_lt _ (by decide)), e2, ?_⟩
  generalize sd (u.getD (j + n) 0) c bo = s at *
  rw [show 4294967296 ^ (j + n + 1) = 4294967296 ^ (j + n) * 4294967296 from Nat.pow_succ ..]
  generalize 4294967296 ^ (j + n) = p at *
  generalize u.getD (j + n) 0 = g at *
  generalize d * V * 4294967296 ^ j = low at *
  have f1 : p * (s % 4294967296) + p * c + p * bo = p * g + p * (4294967296 * (s / 2 ^ 63)) := by rw [← Nat.mul_add, ← Nat.mul_add, ← Nat.mul_add, e1]
  have f3 : s / 2 ^ 63 * (p * 4294967296) = p * (4294967296 * (s / 2 ^ 63)) := by ac_rfl
  have f4 : (c + bo) * p = p * c + p * bo := by rw [Nat.mul_comm, Nat.mul_add]
  rw [f3]
  rw [f4] at heq
  omega
/-! and given back -/
structure GiveIn (u0 : List Nat) (V j i : Nat) (u : List Nat) (c : Nat) : Prop where
  len : u.length = 17
  lim : Lim u
  cle : c ≤ 1
  high : ∀ t, j + i ≤ t → u.getD t 0 = u0.getD t 0
  eq : val u + c * 4294967296 ^ (j + i) = val u0 + V % 4294967296 ^ i * 4294967296 ^ j
theorem GiveIn.start {u0 : List Nat} (hl : u0.length = 17) (hm : Lim u0) (V j : Nat) : GiveIn u0 V j 0 u0 0 :=
  ⟨hl, hm, by decide, fun _ _ => rfl, by simp [Nat.mod_one]⟩
theorem GiveIn.step {u0 : List Nat} {V j i : Nat} {u : List Nat} {c : Nat} (h : GiveIn u0 V j i u c) (hji : j + i < 17) :
    GiveIn u0 V j (i + 1) (u.set (j + i) ((c + (u.getD (j + i) 0 + dig V i)) % 4294967296)) ((c + (u.getD (j + i) 0 + dig V i)) / 4294967296) := by
  have h1 := getD_lt h.lim (j + i)
  have h2 := dig_lt V i
  have h3 := h.cle
  have hv := val_set u (j + i) ((c + (u.getD (j + i) 0 + dig V i)) % 4294967296) (by rw [h.len]; exact hji)
  have heq := h.eq
  refine ⟨by simp [h.len], lim_set h.lim (Nat.mod_lt _ (by decide)), by omega, fun t ht => by rw [getD_set_ne' (by omega)]; exact h.high t (by omega), ?_⟩
  rw [mod_succ V i, Nat.add_mul, show j + (i + 1) = (j + i) + 1 by omega, show 4294967296 ^ (j + i + 1) = 4294967296 ^ (j + i) * 4294967296 from Nat.pow_succ ..]
  have e3 : 4294967296 ^ i * dig V i * 4294967296 ^ j = 4294967296 ^ (j + i) * dig V i := by rw [Nat.pow_add]; ac_rfl
  rw [e3]
  generalize hs : c + (u.getD (j + i) 0 + dig V i) = s at *
  have e4 := Nat.div_add_mod s 4294967296
  generalize 4294967296 ^ (j + i) = p at *
  generalize dig V i = y at *
  generalize u.getD (j + i) 0 = g at *
  generalize V % 4294967296 ^ i * 4294967296 ^ j = low at *
  have f1 : p * (4294967296 * (s / 4294967296)) + p * (s % 4294967296) = p * c + (p * g + p * y) := by rw [← Nat.mul_add, e4, ← hs, Nat.mul_add, Nat.mul_add]
  have f3 : s / 4294967296 * (p * 4294967296) = p * (4294967296 * (s / 4294967296)) := by ac_rfl
  rw [f3]
  rw [Nat.mul_comm c p] at heq
  omega
theorem GiveIn.done {u0 : List Nat} {V j n : Nat} {u : List Nat} {c : Nat} (h : GiveIn u0 V j n u c) (hjn : j + n < 17) (hV : V < 4294967296 ^ n) :
    (u.set (j + n) ((u.getD (j + n) 0 + c) % 4294967296)).length = 17 ∧ Lim (u.set (j + n) ((u.getD (j + n) 0 + c) % 4294967296)) ∧
    val (u.set (j + n) ((u.getD (j + n) 0 + c) % 4294967296)) + (u.getD (j + n) 0 + c) / 4294967296 * 4294967296 ^ (j + n + 1) = val u0 + V * 4294967296 ^ j := by
  have hv := val_set u (j + n) ((u.getD (j + n) 0 + c) % 4294967296) (by rw [h.len]; exact hjn)
  have heq := h.eq
  rw [Nat.mod_eq_of_lt hV] at heq
  refine ⟨by simp [h.len], lim_set h.lim (Nat.mod_lt _ (by decide)), ?_⟩
  rw [show 4294967296 ^ (j + n + 1) = 4294967296 ^ (j + n) * 4294967296 from Nat.pow_succ ..]
  have e4 := Nat.div_add_mod (u.getD (j + n) 0 + c) 4294967296
  generalize 4294967296 ^ (j + n) = p at *
  generalize u.getD (j + n) 0 = g at *
  have f1 : p * (4294967296 * ((g + c) / 4294967296)) + p * ((g + c) % 4294967296) = p * g + p * c := by rw [← Nat.mul_add, e4, Nat.mul_add]
  have f3 : (g + c) / 4294967296 * (p * 4294967296) = p * (4294967296 * ((g + c) / 4294967296)) := by ac_rfl
  rw [f3]
  rw [Nat.mul_comm c p] at heq
  omega
end Go.Num
