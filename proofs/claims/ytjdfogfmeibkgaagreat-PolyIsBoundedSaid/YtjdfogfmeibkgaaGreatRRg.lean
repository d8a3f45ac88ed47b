/- law08: PolyIsBounded. No program stands in it. From a reading of an argument that is a slice to the list that it reads. No program stands in it. -/
import Derived.Test.YtjdfogfmeibkgaaGreatRPV
import Derived.Test.YtjdfogfmeibkgaaGreatRQj
import Derived.Test.YtjdfogfmeibkgaaGreatRFp
import Derived.Test.YtjdfogfmeibkgaaGreatRQc
import Derived.KernelRfl
import Derived.Test.YtjdfogfmeibkgaaGreatRGD
import Derived.ProofKit
import Derived.OpenShut
import Derived.ChangeOld
import Derived.ChangeArms

set_option linter.unusedVariables false
set_option linter.unusedSimpArgs false
namespace Go.Num
open Go Go.Kn
theorem jq_ (x y : Rat) : ∀ n : Nat, (x * y) ^ n = x ^ n * y ^ n
  | 0 => by rw [Rat.pow_zero, Rat.pow_zero, Rat.pow_zero, Rat.one_mul]
  | n + 1 => by rw [Rat.pow_succ, Rat.pow_succ, Rat.pow_succ, jq_ x y n]; grind
theorem rn_ {s t : Int} (hs : s.natAbs < 2 ^ 62) (h0 : 0 < t) (ht : t.natAbs < 2 ^ 62) : (df_ (W.cv s) (W.cv t)).At ((s : Rat) / (t : Rat)) := by
  rw [rr_]
  unfold eG_
  rw [cvE (by omega), cvE (by omega)]
  have t0 : (t : Rat) ≠ 0 := fun e => by have := Rat.intCast_eq_zero_iff.1 e; omega
  have e : (s : Rat) = (t : Rat) * ((s : Rat) / (t : Rat)) := by rw [Rat.div_def, Rat.mul_comm, Rat.mul_assoc, Rat.inv_mul_cancel _ t0, Rat.mul_one]
  exact hn_ (B_pow hs (by decide)) (B_pow ht (by decide)) h0 (nZ_ e)
theorem qK_ {s t : Int} {a b : Nat} (h0 : 0 < t) (hs : s.natAbs < 2 ^ a) (ht : t.natAbs < 2 ^ b) : Az ((s : Rat) / (t : Rat)) a b := by
  have t0 : (t : Rat) ≠ 0 := fun e => by have := Rat.intCast_eq_zero_iff.1 e; omega
  exact Az_of (n := s) (d := t) (by rw [Rat.div_def, Rat.mul_comm, Rat.mul_assoc, Rat.inv_mul_cancel _ t0, Rat.mul_one]) h0 hs ht
theorem tk_ {n i : Nat} (hn : n ≤ 6) (hi : i ≤ 6) : bin n i < 2 ^ 5 := by
  have h : ∀ n, n < 7 → ∀ i, i < 7 → bin n i < 2 ^ 5 := by decide
  exact h n (by omega) i (by omega)
theorem o7_ {n k : Nat} (hn : n ≤ 6) (hk : k < n) : bin n (k + 1) * (k + 1) = bin n k * (n - k) := by
  have h : ∀ n, n < 7 → ∀ k, k < 7 → bin n (k + 1) * (k + 1) = bin n k * (n - k) := by decide
  exact h n (by omega) k (by omega)
theorem ro_ {n : Nat} (hn : n ≤ 6) : bin n n = 1 := by
  have h : ∀ n, n < 7 → bin n n = 1 := by decide
  exact h n (by omega)
/-- A term of Bernstein's sum. -/
def tm (l : Nat → Int) (n : Nat) (t : Rat) (i j k : Nat) : Rat := (l i : Rat) * ((bin n j : Nat) : Rat) * (t ^ j * (1 - t) ^ k)
theorem tm_eq {l : Nat → Int} {n : Nat} {t : Rat} (i j k : Nat) : ((l i * (bin n j : Nat) * (t.num ^ j * ((t.den : Int) - t.num) ^ k) : Int) : Rat) = (((t.den : Int) ^ (j + k) : Int) : Rat) * tm l n t i j k := by
  have e1 := @i0_ t
  have e2 : (((t.den : Int) - t.num : Int) : Rat) = ((t.den : Int) : Rat) * (1 - t) := by rw [Rat.intCast_sub, ← e1]; grind
  rw [Rat.intCast_mul, Rat.intCast_mul, Rat.intCast_mul, Rat.intCast_pow, Rat.intCast_pow, Rat.intCast_pow, e2, ← e1, jq_, jq_, jB_]
  unfold tm
  show _ * ((bin n j : Nat) : Rat) * _ = _
  grind
theorem tm_n {l : Nat → Int} {n B : Nat} {t : Rat} (hn : n ≤ 6) (hl : ∀ i, i ≤ n → (l i).natAbs < 2 ^ B) (ht : Sz t 8) {i j k : Nat} (hi : i ≤ n) (hj : j + k ≤ 6) : (l i * (bin n j : Nat) * (t.num ^ j * ((t.den : Int) - t.num) ^ k)).natAbs < 2 ^ (B + 109) := by
  have a1 := es_ (hl i hi) (show (((bin n j : Nat) : Int)).natAbs < 2 ^ 5 by rw [Int.natAbs_natCast]; exact tk_ hn (by omega))
  have a2 := jL_ ht.n j
  have a3 : (((t.den : Int) - t.num)).natAbs < 2 ^ 9 := by
    have := ht.n
    have := ht.d
    have : (2 : Nat) ^ 9 = 512 := rfl
    have : (2 : Nat) ^ 8 = 256 := rfl
    omega
  have a4 := jL_ a3 k
  have a5 := es_ a1 (es_ a2 a4)
  exact Nat.lt_of_lt_of_le a5 (eW_ (by omega))
theorem tm_d {t : Rat} (ht : Sz t 8) {m : Nat} (hm : m ≤ 6) : ((t.den : Int) ^ m).natAbs < 2 ^ 49 := by
  have := jL_ (a := (t.den : Int)) (b := 8) (by simpa using ht.d) m
  exact Nat.lt_of_lt_of_le this (eW_ (by omega))
theorem tm_Az {l : Nat → Int} {n B : Nat} {t : Rat} (hn : n ≤ 6) (hl : ∀ i, i ≤ n → (l i).natAbs < 2 ^ B) (ht : Sz t 8) {i j k : Nat} (hi : i ≤ n) (hj : j + k ≤ 6) : Az (tm l n t i j k) (B + 109) 49 :=
  Az_of (tm_eq i j k) (Int.pow_pos eg_) (tm_n hn hl ht hi hj) (tm_d ht hj)
/-- The sum of the first m terms. -/
def sm_ (l : Nat → Int) (n : Nat) (t : Rat) (m : Nat) : Rat := sumN (fun i => tm l n t i i (n - i)) m
theorem sm_Az {l : Nat → Int} {n B : Nat} {t : Rat} (hn : n ≤ 6) (hl : ∀ i, i ≤ n → (l i).natAbs < 2 ^ B) (ht : Sz t 8) {m : Nat} (hm : m ≤ n + 1) : Az (sm_ l n t m) (B + 112) 49 := by
  have e : ∀ m, m ≤ n + 1 → ((sumN (fun i => l i * (bin n i : Nat) * (t.num ^ i * ((t.den : Int) - t.num) ^ (n - i))) m : Int) : Rat) = (((t.den : Int) ^ n : Int) : Rat) * sm_ l n t m := by
    intro m
    induction m with
    | zero => intro _; show ((0 : Int) : Rat) = _ * (0 : Rat); rw [Rat.mul_zero]; rfl
    | succ m ih =>
      intro hm
      have h1 := ih (by omega)
      have h2 := tm_eq (l := l) (n := n) (t := t) m m (n - m)
      rw [show m + (n - m) = n by omega] at h2
      unfold sm_ at h1 ⊢
      simp only [sumN]
      rw [Rat.intCast_add, h1, h2, Rat.mul_add]
  have b : ∀ m, m ≤ n + 1 → (sumN (fun i => l i * (bin n i : Nat) * (t.num ^ i * ((t.den : Int) - t.num) ^ (n - i))) m).natAbs ≤ m * 2 ^ (B + 109) := by
    intro m
    induction m with
    | zero => intro _; exact Nat.zero_le _
    | succ m ih =>
      intro hm
      have h1 := ih (by omega)
      have h2 := tm_n hn hl ht (show m ≤ n by omega) (show m + (n - m) ≤ 6 by omega)
      simp only [sumN]
      rw [Nat.succ_mul]
      omega
  have b1 := b m hm
  have e2 : (2 : Nat) ^ (B + 112) = 8 * 2 ^ (B + 109) := by rw [show B + 112 = B + 109 + 3 by omega, Nat.pow_add _ (B + 109) 3, Nat.mul_comm]
  have : m * 2 ^ (B + 109) ≤ 7 * 2 ^ (B + 109) := Nat.mul_le_mul_right _ (by omega)
  have : 0 < 2 ^ (B + 109) := Nat.pow_pos (by decide)
  exact Az_of (e m hm) (Int.pow_pos eg_) (by omega) (tm_d ht hn)
section
variable {p : List I} {a b t : Rt} {l : Nat → Int} {n : Nat} {y : Rat}
theorem pD_ : (bb_ (wl 1)).At 1 := by rw [Of_eq]; exact Of_At (wl 1)
theorem ib1 (hL : aa_ p a b = ((List.range (n + 1)).map (fun i => E (Z.of (l i))), true)) (hn : n ≤ 6) {B : Nat} (hB : B = 279) (hl : ∀ i, i ≤ n → (l i).natAbs < 2 ^ B) (hy : t.At y) (sy : Sz y 8) (least most : W) (m1 r1 r2 : Rt) {i : Nat} (hi : i ≤ n) : ∀ (f k : Nat) (v r30 : Rt), i - k < f → k ≤ i → v.At (tm l n y i k 0) →
    ∃ v', (aN_ p a b t r30 least most i m1 r1 r2 f k v).2 = v' ∧ v'.At (tm l n y i i 0)
  | 0, k, v, r30, h, _, _ => absurd h (Nat.not_lt_zero _)
  | f + 1, k, v, r30, h, hk, hv => by
    unfold aN_
    rcases Nat.lt_or_eq_of_le hk with h1 | h1
    · rw [decide_eq_true (by omega), cond_true, hL]
      simp only [List.length_map, List.length_range]
      have s1 : Az (tm l n y i k 0) 388 49 := (tm_Az hn hl sy hi (by omega)).mono (by omega) (Nat.le_refl _)
      have f1 := rn_ (s := ((n + 1 : Nat) : Int) - 1 - (k : Int)) (t := ((k + 1 : Nat) : Int)) (by omega) (by omega) (by omega)
      have f2 := qK_ (s := ((n + 1 : Nat) : Int) - 1 - (k : Int)) (t := ((k + 1 : Nat) : Int)) (a := 3) (b := 3) (by omega) (by have : (2 : Nat) ^ 3 = 8 := rfl; omega) (by have : (2 : Nat) ^ 3 = 8 := rfl; omega)
      have g1 := m6_ hv hy s1 sy.az (by decide) (by decide)
      have g2 := m6_ g1 f1 (s1.mul sy.az) f2 (by decide) (by decide)
      rw [← ln_, ← ln_] at g2
      refine ib1 hL hn hB hl hy sy least most m1 r1 r2 hi f (k + 1) _ _ (by omega) h1 ?_
      have e : tm l n y i k 0 * y * (((((n + 1 : Nat) : Int) - 1 - (k : Int) : Int) : Rat) / (((k + 1 : Nat) : Int) : Rat)) = tm l n y i (k + 1) 0 := by
        have h3 := o7_ hn (show k < n by omega)
        have h4 : (((bin n (k + 1) : Nat) : Rat)) * ((k + 1 : Nat) : Rat) = ((bin n k : Nat) : Rat) * ((n - k : Nat) : Rat) := by rw [← Rat.natCast_mul, ← Rat.natCast_mul, h3]
        have h5 : ((k + 1 : Nat) : Rat) ≠ 0 := fun e => by
          have : ((k + 1 : Nat) : Rat) = ((0 : Nat) : Rat) := e
          rw [Rat.natCast_inj] at this
          omega
        rw [show ((n + 1 : Nat) : Int) - 1 - (k : Int) = ((n - k : Nat) : Int) by omega]
        show tm l n y i k 0 * y * (((n - k : Nat) : Rat) / ((k + 1 : Nat) : Rat)) = _
        unfold tm
        rw [Rat.div_def, Rat.pow_succ]
        generalize ((n - k : Nat) : Rat) = A at *
        generalize ((k + 1 : Nat) : Rat) = B at *
        have h6 := Rat.mul_inv_cancel B h5
        have h7 : ((bin n (k + 1) : Nat) : Rat) = ((bin n k : Nat) : Rat) * A * B⁻¹ := by rw [← h4, Rat.mul_assoc, h6, Rat.mul_one]
        rw [h7]; grind
      rw [← e]; exact g2
    · subst h1
      rw [decide_eq_false (by omega), cond_false]
      exact ⟨v, rfl, hv⟩
theorem ib2 (hL : aa_ p a b = ((List.range (n + 1)).map (fun i => E (Z.of (l i))), true)) (hn : n ≤ 6) {B : Nat} (hB : B = 279) (hl : ∀ i, i ≤ n → (l i).natAbs < 2 ^ B) (hy : t.At y) (sy : Sz y 8) (least most : W) (m1 : Rt) (k0 : Nat) (m2 r3 r4 : Rt) {i : Nat} (hi : i ≤ n) : ∀ (f m : Nat) (v r30 r1 r2 : Rt), n - m < f → i ≤ m → m ≤ n → v.At (tm l n y i i (m - i)) →
    ∃ v', (aV_ p a b t r30 least most i m1 r1 r2 k0 m2 r3 r4 f m v).2 = v' ∧ v'.At (tm l n y i i (n - i))
  | 0, m, v, r30, r1, r2, h, _, _, _ => absurd h (Nat.not_lt_zero _)
  | f + 1, m, v, r30, r1, r2, h, hm, hk, hv => by
    unfold aV_
    rw [hL]
    simp only [List.length_map, List.length_range]
    rcases Nat.lt_or_eq_of_le hk with h1 | h1
    · rw [decide_eq_true (by omega), cond_true]
      have s1 : Az (tm l n y i i (m - i)) 388 49 := (tm_Az hn hl sy hi (by omega)).mono (by omega) (Nat.le_refl _)
      have o1 : Az (1 : Rat) 1 1 := ⟨by decide, by decide⟩
      have g1 := r8_ pD_ hy o1 sy.az (by decide) (by decide) (by decide)
      have s2 := o1.sub (c := 10) sy.az (by decide) (by decide)
      have g2 := m6_ hv g1 s1 s2 (by decide) (by decide)
      rw [← pT_, ← ln_] at g2
      refine ib2 hL hn hB hl hy sy least most m1 k0 m2 r3 r4 hi f (m + 1) _ _ _ _ (by omega) (by omega) h1 ?_
      have e : tm l n y i i (m - i) * (1 - y) = tm l n y i i (m + 1 - i) := by
        unfold tm
        rw [show m + 1 - i = m - i + 1 by omega, Rat.pow_succ]; grind
      rw [← e]; exact g2
    · subst h1
      rw [decide_eq_false (by omega), cond_false]
      exact ⟨v, rfl, hv⟩
theorem wmin (a b : W) : (W.min a b).1 = min a.1 b.1 := by
  unfold W.min
  by_cases h : b.1 < a.1
  · rw [decide_eq_true h, cond_true]; omega
  · rw [decide_eq_false h, cond_false]; omega
theorem wmax (a b : W) : (W.max a b).1 = max a.1 b.1 := by
  unfold W.max
  by_cases h : a.1 < b.1
  · rw [decide_eq_true h, cond_true]; omega
  · rw [decide_eq_false h, cond_false]; omega
theorem ib0 (hL : aa_ p a b = ((List.range (n + 1)).map (fun i => E (Z.of (l i))), true)) (hn : n ≤ 6) {B : Nat} (hB : B = 279) (hl : ∀ i, i ≤ n → (l i).natAbs < 2 ^ B) (hy : t.At y) (sy : Sz y 8) : ∀ (f i : Nat) (least most : W) (v r30 : Rt), n + 1 - i < f → i ≤ n + 1 → v.At (sm_ l n y i) → (0 ≤ least.1 → ∀ j, j < i → 0 ≤ l j) → (most.1 ≤ 0 → ∀ j, j < i → l j ≤ 0) →
    ∃ (least' most' : W) (i' : Nat) (v' : Rt), aU_ p a b t r30 f least most i v = (least', most', i', v') ∧ v'.At (sm_ l n y (n + 1)) ∧ (0 ≤ least'.1 → ∀ j, j < n + 1 → 0 ≤ l j) ∧ (most'.1 ≤ 0 → ∀ j, j < n + 1 → l j ≤ 0)
  | 0, i, least, most, v, r30, h, _, _, _, _ => absurd h (Nat.not_lt_zero _)
  | f + 1, i, least, most, v, r30, h, hi, hv, h1, h2 => by
    unfold aU_
    rcases Nat.lt_or_eq_of_le hi with h3 | h3
    · have bl : ∀ i, i ≤ n → B512 (l i) := fun i hi => B_pow (hl i hi) (by omega)
      have eg : (aa_ p a b).1.getD i I0 = E (Z.of (l i)) := by rw [hL, hb_, if_pos h3]
      have hlen : (aa_ p a b).1.length = n + 1 := by rw [hL, List.length_map, List.length_range]
      rw [hlen, decide_eq_true (by omega), cond_true, eg]
      have m1 : (ag_ (E (Z.of (l i))) (E (Z.of 1))).At (tm l n y i 0 0) := by
        rw [lh_]
        refine hn_ (bl i (by omega)) B1 (by decide) ?_
        have : tm l n y i 0 0 = ((l i : Int) : Rat) := by
          unfold tm
          rw [show bin n 0 = 1 by cases n <;> rfl, Rat.pow_zero, Rat.pow_zero]
          show (l i : Rat) * 1 * (1 * 1) = _
          grind
        rw [this]
        show l i * 1 = l i * 1
        rfl
      obtain ⟨v1, e1, a1⟩ := ib1 hL hn hB hl hy sy least most v r30 (ag_ (E (Z.of (l i))) (E (Z.of 1))) (show i ≤ n by omega) (i + 1) 0 _ r30 (by omega) (Nat.zero_le _) m1
      have a1' : v1.At (tm l n y i i (i - i)) := by rw [Nat.sub_self]; exact a1
      obtain ⟨v2, e2, a2⟩ := ib2 hL hn hB hl hy sy least most v (aN_ p a b t r30 least most i v r30 (ag_ (E (Z.of (l i))) (E (Z.of 1))) (i + 1) 0 (ag_ (E (Z.of (l i))) (E (Z.of 1)))).1 v1 r30 (ag_ (E (Z.of (l i))) (E (Z.of 1))) (show i ≤ n by omega) (n + 1 + 1) i v1 r30 r30 (ag_ (E (Z.of (l i))) (E (Z.of 1))) (by omega) (Nat.le_refl _) (by omega) a1'
      simp only [ap]
      rw [e1, e2]
      have s1 : Az (sm_ l n y i) 391 49 := (sm_Az hn hl sy (show i ≤ n + 1 by omega)).mono (by omega) (Nat.le_refl _)
      have s2 : Az (tm l n y i i (n - i)) 388 49 := (tm_Az hn hl sy (show i ≤ n by omega) (show i + (n - i) ≤ 6 by omega)).mono (by omega) (Nat.le_refl _)
      have g := pN_ hv a2 s1 s2 (by decide) (by decide) (by decide)
      rw [← mR_] at g
      have sg : (Z.signW (E (Z.of (l i))).dec).1 = (l i).sign := by rw [E_dec]; exact c3_ (bl i (by omega))
      refine ib0 hL hn hB hl hy sy f (i + 1) _ _ _ _ (by omega) h3 g (fun h4 j hj => ?_) (fun h4 j hj => ?_)
      · rw [wmin, sg] at h4
        rcases Nat.lt_or_eq_of_le (Nat.le_of_lt_succ hj) with h5 | h5
        · exact h1 (by omega) j h5
        · subst h5; exact Int.sign_nonneg_iff.1 (by omega)
      · rw [wmax, sg] at h4
        rcases Nat.lt_or_eq_of_le (Nat.le_of_lt_succ hj) with h5 | h5
        · exact h2 (by omega) j h5
        · subst h5
          have : (l j).sign ≤ 0 := by omega
          rcases Int.lt_trichotomy (l j) 0 with h6 | h6 | h6
          · omega
          · omega
          · rw [Int.sign_eq_one_of_pos h6] at this; omega
    · subst h3
      have hlen : (aa_ p a b).1.length = n + 1 := by rw [hL, List.length_map, List.length_range]
      rw [hlen, decide_eq_false (by omega), cond_false]
      exact ⟨least, most, n + 1, v, rfl, hv, h1, h2⟩
end
theorem nn_ : ∀ n, 0 < fac n
  | 0 => by decide
  | n + 1 => Int.mul_pos (nn_ n) (by omega)
theorem pP_ {f : Nat → Rat} : ∀ {n : Nat}, (∀ i, i < n → 0 ≤ f i) → 0 ≤ sumN f n
  | 0, _ => Rat.le_refl
  | n + 1, h => Rat.add_nonneg (pP_ fun i hi => h i (by omega)) (h n (by omega))
theorem tm_nn {l : Nat → Int} {n : Nat} {y : Rat} (h0 : 0 ≤ y) (h1 : y ≤ 1) {i j k : Nat} (hl : 0 ≤ l i) : 0 ≤ tm l n y i j k := by
  unfold tm
  have a1 : (0 : Rat) ≤ (l i : Rat) := Rat.intCast_nonneg.2 hl
  have a2 : (0 : Rat) ≤ ((bin n j : Nat) : Rat) := Rat.natCast_nonneg
  have a3 : (0 : Rat) ≤ 1 - y := by grind
  exact Rat.mul_nonneg (Rat.mul_nonneg a1 a2) (Rat.mul_nonneg (Rat.pow_nonneg h0) (Rat.pow_nonneg a3))
theorem sm_nn {l : Nat → Int} {n : Nat} {y : Rat} (h0 : 0 ≤ y) (h1 : y ≤ 1) {m : Nat} (hl : ∀ i, i < m → 0 ≤ l i) : 0 ≤ sm_ l n y m := pP_ fun i hi => tm_nn h0 h1 (hl i hi)
theorem sm_np {l : Nat → Int} {n : Nat} {y : Rat} (h0 : 0 ≤ y) (h1 : y ≤ 1) {m : Nat} (hl : ∀ i, i < m → l i ≤ 0) : sm_ l n y m ≤ 0 := by
  have h := sm_nn (l := fun i => -(l i)) (n := n) h0 h1 (m := m) fun i hi => by show 0 ≤ -(l i); have := hl i hi; omega
  have e : sm_ (fun i => -(l i)) n y m = -1 * sm_ l n y m := by
    unfold sm_
    rw [← fa_]
    exact b7_ fun i _ => by unfold tm; show ((-(l i) : Int) : Rat) * _ * _ = _; rw [Rat.intCast_neg]; grind
  rw [e] at h
  grind
theorem ti_ {q : Rat} (h : 0 ≤ q) : 0 ≤ q.num.sign := Int.sign_nonneg_iff.2 (Rat.num_nonneg.2 h)
theorem rM_ {q : Rat} (h : q ≤ 0) : q.num.sign ≤ 0 := by
  rcases Int.lt_trichotomy q.num 0 with h1 | h1 | h1
  · rw [Int.sign_eq_neg_one_of_neg h1]; decide
  · rw [h1]; decide
  · have h2 : q = 0 := Rat.le_antisymm h (Rat.num_nonneg.1 (Int.le_of_lt h1))
    rw [h2] at h1; exact absurd h1 (by decide)
theorem rV_ (l : Nat → Int) {n : Nat} : sm_ l n 0 (n + 1) = (l 0 : Rat) := by
  unfold sm_
  rw [jO_ (a := 0) (fun i hi => by
    obtain ⟨j, rfl⟩ : ∃ j, i = j + 1 := ⟨i - 1, by omega⟩
    unfold tm
    rw [Rat.pow_succ, Rat.mul_zero, Rat.zero_mul, Rat.mul_zero]) (by omega)]
  unfold tm
  have e : ∀ m : Nat, (1 - (0 : Rat)) ^ m = 1 := fun m => by
    induction m with
    | zero => exact Rat.pow_zero _
    | succ m ih => rw [Rat.pow_succ, ih]; grind
  rw [e, Rat.pow_zero, show bin n 0 = 1 by cases n <;> rfl]
  show (l 0 : Rat) * 1 * (1 * 1) = _
  grind
theorem sd_ (l : Nat → Int) {n : Nat} (hn : n ≤ 6) : sm_ l n 1 (n + 1) = (l n : Rat) := by
  unfold sm_
  simp only [sumN]
  rw [dz_ fun i hi => by
    obtain ⟨j, hj⟩ : ∃ j, n - i = j + 1 := ⟨n - i - 1, by omega⟩
    unfold tm
    rw [hj, Rat.pow_succ, show (1 : Rat) - 1 = 0 by grind, Rat.mul_zero, Rat.mul_zero, Rat.mul_zero], Rat.zero_add]
  unfold tm
  have e : ∀ m : Nat, (1 : Rat) ^ m = 1 := fun m => by
    induction m with
    | zero => exact Rat.pow_zero _
    | succ m ih => rw [Rat.pow_succ, ih]; grind
  rw [e, Nat.sub_self, Rat.pow_zero, ro_ hn]
  show (l n : Rat) * 1 * (1 * 1) = _
  grind
theorem oV_ {a b : Rt} {γ : Nat → Int} (hf : bM_ [a, b] = true) (hC : Po (aM_ [] a (a5_ b a)) γ) : aa_ [] a b = ([], true) := by
  unfold aa_
  rw [show ae_ [] = false from px_.nb, hf, hC.nb]
  rfl
theorem q1_ {c γ l : Nat → Int} {n : Nat} {g W G : Int} {q d y : Rat} (hn : n ≤ 6) (hG : 0 < G) (hl : ∀ i, i ≤ n → G * l i = bs γ n i) (hg : 0 < g) (hW : 0 < W) (hγ : ∀ k, n + 1 ≤ k → γ k = 0) (hv : (g : Rat) * vl (cR γ) y 26 = (W : Rat) * vl (cR c) (q + d * y) 7) : (sm_ l n y (n + 1)).num.sign = (vl (cR c) (q + d * y) 7).num.sign := by
  rw [iG_ (n := n + 1) (fun i hi => by unfold cR; rw [hγ i hi]; rfl) (by omega)] at hv
  rw [← lO_ hg hW hv]
  refine lO_ hG (nn_ n) ?_
  have h := q4_ hn γ y
  unfold vl cR
  rw [← h]
  unfold sm_
  rw [← fa_]
  exact b7_ fun i hi => by
    rw [← hl i (by omega), Rat.intCast_mul]
    unfold tm
    grind
theorem mM_ (p : List I) (a b t : Rt) : a6_ p a b t = true := by
  unfold a6_
  cases hc : (!(aW_ p 6 30) || ((ae_ p) || (!(ar_ a 8) || (!(ar_ b 8) || (!(ar_ t 8) || (decide (0 ≤ (bP_ a b).1) || (decide ((bF_ t).1 < 0) || decide (0 < (bP_ t (bb_ (wl 1))).1))))))))
  case true => rw [cond_true]; exact l3_
  simp only [Bool.or_eq_false_iff, Bool.not_eq_false'] at hc
  obtain ⟨fp, bp, h1, h2, h3, _, h5, h6⟩ := hc
  have rp := (few_f (p := p) (d := 6) (b := 30) (by rw [fp]; rfl)).1
  obtain ⟨c, hp, hb⟩ := o1_ fp (rC_ (rT_ rp) bp)
  have hb : Bd c 7 30 := hb
  obtain ⟨qa, ha, sa⟩ := jm_ h1
  obtain ⟨qb, hq, sq⟩ := jm_ h2
  obtain ⟨y, hy, sy⟩ := jm_ h3
  have sa : Sz qa 8 := sa
  have sq : Sz qb 8 := sq
  have sy : Sz y 8 := sy
  have y0 : 0 ≤ y := by
    have := of_decide_eq_false h5
    rw [nF_, n6_ hy] at this
    exact Rat.num_nonneg.1 (Int.sign_nonneg_iff.1 (by omega))
  have y1 : y ≤ 1 := by
    have := of_decide_eq_false h6
    rw [sz_ hy pD_] at this
    exact Rat.not_lt.1 this
  have hd := r4_ hq ha sq sa (by decide)
  rw [← pT_] at hd
  have sd : Sz (qb - qa) 17 := by rw [Rat.sub_eq_add_neg]; exact sq.add sa.neg
  obtain ⟨w, hw⟩ : ∃ w : Nat, w = 38 := ⟨_, rfl⟩
  obtain ⟨g, γ, W, hg, hW, hC, bC, _, hγ, hv⟩ := mL_ (e := 3) (w := w) hp hb ha hd (sa.mono (by decide)) sd (by decide) (by decide) (by rw [hw]; decide) (by rw [hw]; decide) (by rw [hw]; decide)
  have hf : bM_ [a, b] = true := by rw [fine2, en_, en_, eS_ ha, eS_ hq]; rfl
  rw [cond_false, l3_]
  by_cases h0 : p = []
  · subst h0
    rw [oV_ hf hC]; rfl
  obtain ⟨n, t1, t2, t3⟩ := hp.top h0
  have hn : n ≤ 6 := by have := hp.len hb; omega
  obtain ⟨B, hB⟩ : ∃ B : Nat, B = 266 := ⟨_, rfl⟩
  obtain ⟨G, l, hG, hl, lb, hL⟩ := o6_ t1 hn bp hf hC (B := B) (fun k => Nat.lt_of_lt_of_le (bC.b k) (eW_ (by omega))) (by omega)
  have hlen : (aa_ p a b).1.length = n + 1 := by rw [hL, List.length_map, List.length_range]
  have hWp : 0 < W ^ (p.length - 1) := Int.pow_pos hW
  have sg : ∀ y, (sm_ l n y (n + 1)).num.sign = (vl (cR c) (qa + (qb - qa) * y) 7).num.sign := fun y => q1_ hn hG hl hg hWp (fun k hk => hγ k (by omega)) (hv y)
  have bl : ∀ i, i ≤ n → B512 (l i) := fun i hi => B_pow (lb i hi) (by omega)
  have eg : ∀ i, i ≤ n → (Z.signW ((aa_ p a b).1.getD i I0).dec).1 = (l i).sign := fun i hi => by
    rw [hL, hb_, if_pos (by omega), E_dec]; exact c3_ (bl i hi)
  have hm := pB_ hd hy (((sd.mul sy).bn (by decide))) ((sd.mul sy).bd (by decide))
  have hz := pL_ ha hm sa (sd.mul sy) (by decide)
  have sz := sa.add (sd.mul sy)
  rw [← ln_, ← mR_] at hz
  have u1 := jV_ (e := 3) hp hb ha sa (by decide) (by decide)
  have u2 := jV_ (e := 3) hp hb hq sq (by decide) (by decide)
  have u3 := jV_ (e := 3) hp hb hz sz (by decide) (by decide)
  have k1 : (l 0).sign = (vl (cR c) qa 7).num.sign := by
    have := sg 0
    rw [rV_, nV_, Rat.mul_zero, Rat.add_zero] at this
    exact this
  have k2 : (l n).sign = (vl (cR c) qb 7).num.sign := by
    have := sg 1
    rw [sd_ l hn, nV_, Rat.mul_one, show qa + (qb - qa) = qb by grind] at this
    exact this
  have z0 : (bb_ (wl 0)).At (sm_ l n y 0) := by rw [Of_eq]; exact Of_At (wl 0)
  simp only [hlen, Nat.add_sub_cancel, eg 0 (Nat.zero_le _), eg n (Nat.le_refl _)]
  obtain ⟨least, most, i', v', e1, e2, e3, e4⟩ := ib0 hL hn (show B + 13 = 279 by omega) lb hy sy (n + 1 + 1) 0 (wl 1) (wl (-1)) (bb_ (wl 0)) (b4_ a (a7_ (a5_ b a) t)) (by omega) (Nat.zero_le _) z0 (fun _ j hj => absurd hj (Nat.not_lt_zero _)) (fun _ j hj => absurd hj (Nat.not_lt_zero _))
  have hs : (bF_ v').1 = (vl (cR c) (qa + (qb - qa) * y) 7).num.sign := by rw [nF_, n6_ e2, sg y]
  rw [e1, u1.1, u1.2, u2.1, u2.2, u3.1, u3.2, k1, k2, hL, t1]
  simp only [ap]
  rw [hs]
  have j1 : 0 ≤ least.1 → 0 ≤ (vl (cR c) (qa + (qb - qa) * y) 7).num.sign := fun h => by rw [← sg y]; exact ti_ (sm_nn y0 y1 (e3 h))
  have j2 : most.1 ≤ 0 → (vl (cR c) (qa + (qb - qa) * y) 7).num.sign ≤ 0 := fun h => by rw [← sg y]; exact rM_ (sm_np y0 y1 (e4 h))
  have x1 : ((((n + 1 : Nat) : Int) == 0)) = false := beq_eq_false_iff_ne.2 (by omega)
  rw [x1]
  simp only [bne_self_eq_false, Bool.not_true, Bool.or_false, Bool.false_or, cond_false, Bool.true_and, BEq.rfl, Bool.and_true]
  cases d1 : decide (least.1 < 0) <;> cases d2 : decide (0 < most.1) <;> simp only [cond_true, cond_false, Bool.and_eq_true, decide_eq_true_eq]
  · exact ⟨j1 (by have := of_decide_eq_false d1; omega), j2 (by have := of_decide_eq_false d2; omega)⟩
  · exact ⟨j1 (by have := of_decide_eq_false d1; omega), trivial⟩
  · exact j2 (by have := of_decide_eq_false d2; omega)
end Go.Num


set_option linter.unusedVariables false
set_option linter.unusedSimpArgs false
namespace Go.Num
open Go Go.Kn Go.RowKit Go.ChangeShapes Go.WideShapes
section
variable {H : Type} {enc : TypeId × Value → H} {P : Program} {w : World} {base : Nat} {spare : Nat → Bool} {held : Bool} {α : Type} {e : El α}
theorem Rd.app {a : Addr} {A B : List Value} (h : Rd w a A) (k : Rd w (a.add A.length) B) : Rd w a (A ++ B) := fun j v hj => by
  rcases Nat.lt_or_ge j A.length with h' | h'
  · rw [List.getElem?_append_left h'] at hj; exact h j v hj
  · rw [List.getElem?_append_right h'] at hj
    have := k _ _ hj
    rw [k7_, Nat.add_sub_cancel' h'] at this
    exact this
theorem Rd.of_cells {a : Addr} {n : Nat} {cs : List Value} (h : w.cells? base a n = some cs) : Rd w a cs := fun j v hj => by
  obtain ⟨_, hl, hc⟩ := World.cells?_some h
  have hj' : j < cs.length := (List.getElem?_eq_some_iff.1 hj).1
  have h1 := hc j (by omega)
  rw [hj] at h1
  exact h1
theorem oo_ {a : Addr} {len : Nat} (h : ∀ i, i < len → ∃ x : α, w.cells? base (a.add (i * e.n)) e.n = some (e.cs x)) : ∀ k, k ≤ len → ∃ l : List α, l.length = k ∧ Rd w a (rows e l)
  | 0, _ => ⟨[], rfl, fun j v hj => by simp [rows] at hj⟩
  | k + 1, hk => by
    obtain ⟨l, hl, hr⟩ := oo_ h k (by omega)
    obtain ⟨x, hx⟩ := h k (by omega)
    refine ⟨l ++ [x], by simp [hl], ?_⟩
    rw [eQ_]
    refine Rd.app hr ?_
    rw [cT_, hl]
    have := Rd.of_cells hx
    simpa [rows] using this
theorem rL_ {T E : TypeId} {ls : List Leaf} {v : Value} {d : DataW H} {p : List MemPlace} {b0 : Nat} {r : Reach} (hT : P.underlying T = some (.slice E)) (hl : lz P 8 E = some ls) (hn : P.cellsOf E = e.n)
    (op : ∀ cs, LWF cs ls → ∃ x : α, cs = e.cs x) (hv : Value.okWide P w r b0 T v) (ht : DataW.Trod enc P w base spare held T v d p) : ∃ l : List α, Slr w e v l := by
  obtain ⟨fuel, hf⟩ := ht
  have hv' : ∃ a n c, v = .slice a n c := by
    unfold Value.okWide at hv
    rw [hT] at hv
    unfold Cell.okWide at hv
    rw [hT] at hv
    cases v <;> simp_all [Cell.ok]
  obtain ⟨a, n, c, rfl⟩ := hv'
  have e1 : (Value.slice a n c).cells.toList = [.slice a n c] := rfl
  rw [e1] at hf
  rcases DataW.trod_slice hT hf with ⟨h, _⟩ | ⟨a', len, cap, elems, rest, m, _, h, _, _, hlc, hc, hel, hall, _⟩
  · cases h
    exact ⟨[], none, 0, rfl, Nat.le_refl _, by decide, .inl ⟨rfl, rfl, rfl⟩⟩
  · cases h
    have hx : ∀ i, i < n → ∃ x : α, w.cells? base (a'.add (i * e.n)) e.n = some (e.cs x) := fun i hi => by
      have h1 := hall i hi
      rw [List.getElem?_eq_getElem (by omega), hn] at h1
      cases hc' : w.cells? base (a'.add (i * e.n)) e.n with
      | none => rw [hc'] at h1; cases h1
      | some cs =>
        rw [hc'] at h1
        obtain ⟨x, hx⟩ := op cs (ft_ 8 hl h1)
        exact ⟨x, by rw [hx]⟩
    obtain ⟨l, hl', hr⟩ := oo_ hx n (Nat.le_refl _)
    exact ⟨l, some a', c, by rw [hl'], by omega, hc, .inr ⟨a', rfl, hr⟩⟩
end
theorem tq_ {cs : List Value} (h : LWF cs LI) : ∃ x : I, cs = elI.cs x := by
  obtain ⟨x0, rfl⟩ := openI h
  exact ⟨x0, by first | rfl | exact (List.append_nil _).symm | simp [El.cs, elI, flat]⟩
end Go.Num

