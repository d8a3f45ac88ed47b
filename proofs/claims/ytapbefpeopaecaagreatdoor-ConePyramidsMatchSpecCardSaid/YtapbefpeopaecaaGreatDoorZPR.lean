/- The square root by Newton's steps. No program stands in it. -/
import Derived.Test.YtapbefpeopaecaaGreatDoorZFWq

import Derived.KernelRfl
set_option linter.unusedVariables false
set_option linter.unusedSimpArgs false
namespace Go.Num
open Go Go.Kn
theorem nz_ (a : I) : cV_ [a] = a.1.good := by
  unfold cV_ cZ_ cZ_ R.good
  cases a.1.bad <;> cases a.1.valid <;> rfl
/-- r lies between the root of a, rounded down, and 2^256. -/
def h2_ (a m : I) : Prop := ∃ v r : Nat, a.dec = Z.of (v : Int) ∧ 0 < v ∧ v < 4294967296 ^ 16 ∧ m = E (Z.of (r : Int)) ∧ isqrt v ≤ r ∧ 0 < r ∧ r ≤ 2 ^ 256
theorem qQ_ {m k : Nat} (hm : 4294967296 ^ 16 = 2 ^ m) (hk : m = k + k) : (4294967296 : Nat) ^ 16 = 2 ^ k * 2 ^ k := by rw [hm, hk, Nat.pow_add]
theorem sq256 : (4294967296 : Nat) ^ 16 = 2 ^ 256 * 2 ^ 256 := qQ_ js_ rfl
theorem ls_ {v : Nat} (h : 0 < v) (hv : v < 4294967296 ^ 16) : 0 < isqrt v := by
  have := (eW_ hv).2
  rcases Nat.eq_zero_or_pos (isqrt v) with h0 | h0
  · rw [h0] at this; omega
  · exact h0
theorem oV_ {v : Nat} (hv : v < 4294967296 ^ 16) : isqrt v < 2 ^ 256 := by
  have := (eW_ hv).1
  rw [sq256] at hv
  generalize 2 ^ 256 = q at *
  rcases Nat.lt_or_ge (isqrt v) q with h | h
  · exact h
  · have := Nat.mul_le_mul h h; omega
/-- One step of Newton's. -/
theorem sp_ {v r s : Nat} (h1 : s * s ≤ v) (h2 : v < (s + 1) * (s + 1)) (hs : 0 < s) (hr : s ≤ r) : s ≤ (r + v / r) / 2 ∧ v / r ≤ s + 2 ∧ (r ≤ (r + v / r) / 2 → r = s) := by
  have r0 : 0 < r := by omega
  have q1 : r * (v / r) ≤ v := Nat.mul_div_le v r
  have q2 : v < r * (v / r + 1) := by rw [Nat.mul_add, Nat.mul_one]; exact Nat.lt_mul_div_succ v r0
  generalize v / r = q at *
  have e1 : (s + 1) * (s + 1) = s * s + 2 * s + 1 := by rw [Nat.add_mul, Nat.mul_add]; omega
  refine ⟨?_, ?_, ?_⟩
  · rw [Nat.le_div_iff_mul_le (by decide)]
    rcases Nat.lt_or_ge (r + q) (s * 2) with h | h
    · exfalso
      obtain ⟨d, rfl⟩ : ∃ d, r = s + d := ⟨r - s, by omega⟩
      have hq : q + 1 ≤ s - d := by omega
      have hd : d ≤ s := by omega
      have h3 := Nat.mul_le_mul_left (s + d) hq
      have h4 : (s + d) * (s - d) ≤ s * s := by
        obtain ⟨t, rfl⟩ : ∃ t, s = d + t := ⟨s - d, by omega⟩
        rw [Nat.add_sub_cancel_left]
        have : (d + t) * (d + t) = (d + t + d) * t + d * d := by grind
        omega
      omega
    · omega
  · rcases Nat.lt_or_ge (s + 2) q with h | h
    · exfalso
      have h3 := Nat.mul_le_mul hr (show s + 3 ≤ q by omega)
      have : s * (s + 3) = s * s + 3 * s := by grind
      omega
    · exact h
  · intro h
    have h3 : r ≤ q := by rw [Nat.le_div_iff_mul_le (by decide)] at h; omega
    have h4 := Nat.mul_le_mul_left r h3
    rcases Nat.lt_or_ge s r with h5 | h5
    · have := kz_ h5; omega
    · omega
theorem nB {n : Nat} (h : n < 4294967296 ^ 16) : (n : Int).natAbs < 4294967296 ^ 16 := by rwa [Int.natAbs_natCast]
theorem jw_ : (2 : Nat) ^ 256 + 2 ^ 256 + 2 < 4294967296 ^ 16 := by decide +kernel
/-- what a step computes -/
theorem jn_ {a m : I} (h : h2_ a m) : ∃ v r : Nat, a.dec = Z.of (v : Int) ∧ 0 < v ∧ v < 4294967296 ^ 16 ∧ m.dec = Z.of (r : Int) ∧ isqrt v ≤ r ∧ 0 < r ∧ r ≤ 2 ^ 256 ∧ r < 4294967296 ^ 16 ∧ m = E (Z.of (r : Int)) ∧
    Z.add m.dec (Z.quo a.dec m.dec) = Z.of ((r + v / r : Nat) : Int) ∧ r + v / r < 4294967296 ^ 16 ∧ Z.half (Z.add m.dec (Z.quo a.dec m.dec)) = Z.of (((r + v / r) / 2 : Nat) : Int) ∧ isqrt v ≤ (r + v / r) / 2 ∧ (r + v / r) / 2 ≤ 2 ^ 256 ∧ (r ≤ (r + v / r) / 2 → r = isqrt v) := by
  obtain ⟨v, r, ha, hv, hv2, rfl, h1, h2, h3⟩ := h
  have s0 := ls_ hv hv2
  have s1 := oV_ hv2
  obtain ⟨n1, n2, n3⟩ := sp_ (eW_ hv2).1 (eW_ hv2).2 s0 h1
  have hb := jw_
  have r1 : r < 4294967296 ^ 16 := by omega
  have q1 : v / r < 4294967296 ^ 16 := by omega
  have t1 : r + v / r < 4294967296 ^ 16 := by omega
  have e1 : Z.quo (Z.of (v : Int)) (Z.of (r : Int)) = Z.of ((v / r : Nat) : Int) := by
    unfold Z.quo
    rw [bb_ (Z.of_some (nB hv2)) (Z.of_some (nB r1)), if_neg (by omega)]
    congr 1
    rw [Int.fdiv_eq_ediv_of_nonneg _ (by omega)]; rfl
  have e2 : Z.add (Z.of (r : Int)) (Z.of ((v / r : Nat) : Int)) = Z.of ((r + v / r : Nat) : Int) := by
    unfold Z.add
    rw [bb_ (Z.of_some (nB r1)) (Z.of_some (nB q1))]
    congr 1
  have e3 : Z.half (Z.of ((r + v / r : Nat) : Int)) = Z.of (((r + v / r) / 2 : Nat) : Int) := by
    unfold Z.half
    rw [cN_ (Z.of_some (nB t1))]
    congr 1
  refine ⟨v, r, ha, hv, hv2, by rw [E_dec], h1, h2, h3, r1, rfl, ?_, t1, ?_, n1, ?_, n3⟩
  · rw [ha, E_dec, e1, e2]
  · rw [ha, E_dec, e1, e2, e3]
  · generalize 2 ^ 256 = q at *; omega
theorem ml_ {n : Nat} (h : n < 4294967296 ^ 16) : (E (Z.of (n : Int))).1.neg = false := by
  show (Z.of (n : Int)).enc.neg = false
  unfold Z.enc
  rw [Z.of_some (nB h)]
  exact decide_eq_false (show ¬ ((n : Int) < 0) by omega)
theorem qD_ {a m : I} (h : h2_ a m) : (E (Z.add m.dec (Z.quo a.dec m.dec))).1.neg = false := by
  obtain ⟨v, r, _, _, _, _, _, _, _, _, _, e, t, _⟩ := jn_ h
  rw [e]; exact ml_ t
theorem jW_ {a m : I} (h : h2_ a m) : h2_ a (E (Z.half (Z.add m.dec (Z.quo a.dec m.dec)))) := by
  obtain ⟨v, r, ha, hv, hv2, _, _, _, _, _, _, _, _, e, n1, n2, _⟩ := jn_ h
  have := ls_ hv hv2
  exact ⟨v, (r + v / r) / 2, ha, hv, hv2, by rw [e], n1, by omega, n2⟩
theorem pC_ {n : Nat} (h : n < 4294967296 ^ 16) : Z.nat (Z.of (n : Int)) = n := by
  unfold Z.nat
  rw [Z.of_some (nB h)]; exact Int.natAbs_natCast n
theorem k8_ {m n : Nat} (hm : m < 4294967296 ^ 16) (hn : n < 4294967296 ^ 16) : decide (0 ≤ (Z.cmpW (Z.of (m : Int)) (Z.of (n : Int))).1) = decide (n ≤ m) := by
  congr 1
  show (0 ≤ Z.cmp (Z.of (m : Int)) (Z.of (n : Int))) = _
  unfold Z.cmp
  rw [Z.of_some (nB hm), Z.of_some (nB hn)]
  simp only
  unfold cmpI
  apply propext
  constructor
  · intro h
    split at h
    · omega
    · split at h <;> omega
  · intro h
    split
    · omega
    · split <;> omega
theorem lH_ {a m : I} (h : h2_ a m) (hc : decide (0 ≤ (Z.cmpW (Z.half (Z.add m.dec (Z.quo a.dec m.dec))) m.dec).1) = false) : Z.nat (E (Z.half (Z.add m.dec (Z.quo a.dec m.dec)))).dec < Z.nat m.dec := by
  obtain ⟨v, r, ha, hv, hv2, hm, _, _, _, r1, _, _, t, e, n1, n2, _⟩ := jn_ h
  have hb := jw_
  have t1 : (r + v / r) / 2 < 4294967296 ^ 16 := by omega
  rw [e, hm, k8_ t1 r1] at hc
  have := of_decide_eq_false hc
  rw [e, hm, E_dec, pC_ t1, pC_ r1]; omega
theorem p4_ (a : I) : (W.quo (W.add (Z.bitsW a.dec) (wl 1)) (wl 2)).1 = (((a.dec.bits + 1) / 2 : Nat) : Int) := by
  have h := Z.bits_le a.dec
  have e1 : (W.add (Z.bitsW a.dec) (wl 1)).1 = ((a.dec.bits + 1 : Nat) : Int) := by
    show IntKind.i64.wrap (((Z.bits a.dec : Nat) : Int) + 1) = _
    rw [wi (by omega)]; rfl
  show IntKind.i64.wrap ((W.add (Z.bitsW a.dec) (wl 1)).1.tdiv 2) = _
  rw [e1, Int.tdiv_eq_ediv_of_nonneg (by omega)]
  rw [wi (by omega)]; rfl
theorem qJ_ (a : I) : 0 ≤ (W.quo (W.add (Z.bitsW a.dec) (wl 1)) (wl 2)).1 := by rw [p4_]; omega
theorem ja_ {a : I} (h1 : (!(cV_ [a]) || a.1.neg) = false) (h2 : ((Z.signW a.dec).1 == 0) = false) : h2_ a (E (Z.shl (Z.of 1) (W.quo (W.add (Z.bitsW a.dec) (wl 1)) (wl 2)).1)) := by
  rw [nz_, Bool.or_eq_false_iff, Bool.not_eq_false'] at h1
  obtain ⟨ga, hn⟩ := h1
  have hv := val_B a.2
  have ea : a.dec = Z.of ((val a.1.w : Nat) : Int) := by
    show a.1.dec = _
    unfold R.dec
    rw [if_pos ga, hn]; rfl
  have v0 : 0 < val a.1.w := by
    rcases Nat.eq_zero_or_pos (val a.1.w) with h | h
    · exfalso
      rw [ea, h] at h2
      revert h2; decide +kernel
    · exact h
  have eb : a.dec.bits = bl (val a.1.w) := gE_ a.2 ga
  have hbl := Z.bits_le a.dec
  have hk : (a.dec.bits + 1) / 2 ≤ 256 := by omega
  have hlt : val a.1.w < 2 ^ ((a.dec.bits + 1) / 2) * 2 ^ ((a.dec.bits + 1) / 2) := by
    rw [← Nat.pow_add]
    refine Nat.lt_of_lt_of_le (bl_lt _) (Nat.pow_le_pow_right (by decide) ?_)
    rw [← eb]; omega
  have hle : 2 ^ ((a.dec.bits + 1) / 2) ≤ 2 ^ 256 := Nat.pow_le_pow_right (by decide) hk
  have hp : 0 < 2 ^ ((a.dec.bits + 1) / 2) := Nat.pow_pos (by decide)
  refine ⟨val a.1.w, 2 ^ ((a.dec.bits + 1) / 2), ea, v0, hv, ?_, ?_, hp, hle⟩
  · rw [p4_]
    congr 1
    unfold Z.shl
    rw [cN_ (Z.of_some (by decide)), Int.toNat_natCast, Int.one_mul]
    congr 1
  · have := (eW_ hv).1
    generalize 2 ^ ((a.dec.bits + 1) / 2) = q at *
    rcases Nat.lt_or_ge q (isqrt (val a.1.w)) with h | h
    · have := Nat.mul_le_mul (Nat.le_of_lt h) (Nat.le_of_lt h); omega
    · exact h
theorem jY_ (a : I) : ∀ (k : Nat) (m : I), h2_ a m → Z.nat m.dec < k → dk_ a k m = .inr (E (Z.sqrt a.dec))
  | 0, m, _, h => absurd h (Nat.not_lt_zero _)
  | k + 1, m, h, hk => by
    unfold dk_
    cases hc : decide (0 ≤ (Z.cmpW (Z.half (Z.add m.dec (Z.quo a.dec m.dec))) m.dec).1) with
    | false => rw [cond_false]; exact jY_ a k _ (jW_ h) (by have := lH_ h hc; omega)
    | true =>
      obtain ⟨v, r, ha, hv, hv2, hm, _, _, _, r1, hm2, _, t, e, n1, n2, n3⟩ := jn_ h
      have hb := jw_
      have t1 : (r + v / r) / 2 < 4294967296 ^ 16 := by omega
      rw [e, hm, k8_ t1 r1] at hc
      have hr := n3 (of_decide_eq_true hc)
      rw [cond_true, hm2, ha]
      unfold Z.sqrt
      rw [cN_ (Z.of_some (nB hv2)), decide_eq_false (by omega), cond_false, Int.toNat_natCast, ← hr]
theorem qu_ (a : I) : c0_ a = E (Z.sqrt a.dec) := by
  unfold c0_
  cases h1 : (!(cV_ [a]) || a.1.neg) with
  | true =>
    rw [cond_true]
    rw [nz_, Bool.or_eq_true, Bool.not_eq_true'] at h1
    cases ga : a.1.good with
    | false => exact congrArg E (lS_ ga).symm
    | true =>
      rw [ga] at h1
      exact congrArg E (k7_ a.2 ga (by simpa using h1)).symm
  | false =>
    rw [cond_false]
    cases h2 : ((Z.signW a.dec).1 == 0) with
    | true =>
      rw [cond_true]
      have h1' := h1
      rw [nz_, Bool.or_eq_false_iff, Bool.not_eq_false'] at h1'
      obtain ⟨ga, hn⟩ := h1'
      have hz : a.1.dec.sign = 0 := beq_iff_eq.1 h2
      have hv : val a.1.w = 0 := by
        rcases Nat.eq_zero_or_pos (val a.1.w) with h | h
        · exact h
        · exact absurd hz (fun hz => by
            unfold Z.sign at hz
            rw [aU_ a.2 ga, hn] at hz
            have := Int.sign_eq_zero_iff_zero.1 hz
            have e : sgn false (val a.1.w) = ((val a.1.w : Nat) : Int) := rfl
            omega)
      have := j5_ (r := 0) a.2 ga hn (by omega) (by omega)
      have e2 : a = E (Z.of 0) := by
        have h3 := jQ_ a.2 ga
        have h4 : a.1.dec = Z.of 0 := by
          unfold R.dec
          rw [if_pos ga, hn, hv]; rfl
        rw [h4] at h3
        exact (Subtype.ext h3).symm
      conv => lhs; rw [e2]
      exact congrArg E this
    | false =>
      rw [cond_false, jY_ a _ _ (ja_ h1 h2) (Nat.lt_succ_self _)]; rfl
end Go.Num

