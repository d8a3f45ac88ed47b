/- Remainders of polynomials, by coefficients. No program stands in it. Polynomials: three statements: what is made, sums, values. No program stands in it. What is left of a product and a rest, divided by a factor. No program stands in it. What these functions compute, as plain functions. No program stands in it. What Cmp returns: the sign of a difference; order, the greater and the lesser. No program stands in it. Intervals: what the program computes is what the reference defines. No program stands in it. Intervals: products, quotients, powers, hulls, what is in two of them. No program stands in it. Intervals as intervals of rational numbers: what they share, hulls, order; the statement on sets. No program stands in it. Rational arithmetic at numbers, with their sizes: no result lacks digits. No program stands in it. Values of polynomials at rational numbers. No program stands in it. Polynomials without their content; what is put into a polynomial. No program stands in it. Polynomials over the rationals: divisors, Bezout, irreducible factors, square-free parts. No program stands in it. -/
import Derived.Test.YtjdfogfmeibkgaaGreatQL7
import Derived.KernelRfl
import Derived.Test.YtjdfogfmeibkgaaGreatQYf
import Derived.Test.YtjdfogfmeibkgaaGreatQFp
import Derived.Test.YtjdfogfmeibkgaaGreatQGE
import Derived.Test.YtjdfogfmeibkgaaGreatQYg

set_option linter.unusedVariables false
set_option linter.unusedSimpArgs false
namespace Go.Num
open Go Go.Kn
/-- The coefficients, moved up by i. -/
def shf (d : Nat → Int) (i k : Nat) : Int := if i ≤ k then d (k - i) else 0
/-- One round of a division. -/
def rstep (a o : Int) (d : Nat → Int) (n i : Nat) (r : Nat → Int) (k : Nat) : Int := a * r k - o * r (i + n) * shf d i k
def remf (a o : Int) (d : Nat → Int) (n : Nat) : Nat → (Nat → Int) → Nat → Int
  | 0, r => r
  | m + 1, r => remf a o d n m (rstep a o d n m r)
/-- There are enough digits for each round. -/
def RemB (a o : Int) (d : Nat → Int) (n : Nat) : Nat → (Nat → Int) → Prop
  | 0, r => ∀ k, B512 (r k)
  | m + 1, r => (∀ k, B512 (r k)) ∧ B512 (o * r (m + n)) ∧ (∀ k, B512 (a * r k)) ∧ (∀ k, B512 (o * r (m + n) * d k)) ∧ RemB a o d n m (rstep a o d n m r)
theorem RemB.B {a o : Int} {d : Nat → Int} {n : Nat} : ∀ {m : Nat} {r : Nat → Int}, RemB a o d n m r → ∀ k, B512 (r k)
  | 0, _, h => h
  | _ + 1, _, h => h.1
theorem ro_ {u : Int} {b b' : Nat} (h : u.natAbs < 2 ^ b) (hb : b ≤ b') : u.natAbs < 2 ^ b' := Nat.lt_of_lt_of_le h (Nat.pow_le_pow_right (by decide) hb)
section
variable {p q : List I} {c d : Nat → Int} {n : Nat}
theorem o2_ (g : Po q d) (i k : Nat) : aD_ q ((k : Int) - (i : Int)) = E (Z.of (shf d i k)) := by
  unfold shf
  by_cases h : i ≤ k
  · rw [if_pos h, show (k : Int) - (i : Int) = ((k - i : Nat) : Int) by omega, jx_, g.get]
  · rw [if_neg h]; unfold aD_
    rw [decide_eq_true (by omega), Bool.true_or, cond_true]; rfl
theorem shf_B (g : Po q d) (i k : Nat) : B512 (shf d i k) := by
  unfold shf; split
  · exact g.B _
  · exact B0
theorem md_ (g : Po q d) (hn : q.length = n + 1) {r : Nat → Int} {i : Nat} (l : List I) (h1 : B512 (d n).natAbs) (h2 : ∀ k, B512 (r k)) (h3 : B512 ((d n).sign * r (i + n))) (h4 : ∀ k, B512 (((d n).natAbs : Int) * r k)) (h5 : ∀ k, B512 ((d n).sign * r (i + n) * d k))
    (h6 : ∀ k, B512 (rstep (d n).natAbs (d n).sign d n i r k)) : ∀ (f k : Nat) (t : List I), l.length - k < f → k ≤ l.length → t.length = l.length →
    (∀ j, t.getD j I0 = E (Z.of (if j < k then rstep (d n).natAbs (d n).sign d n i r j else r j))) →
    ∃ t', a5_ p q (i : Int) l (E (Z.of ((d n).sign * r (i + n)))) f k t = .inl (l.length, t') ∧ t'.length = l.length ∧ ∀ j, t'.getD j I0 = E (Z.of (if j < l.length then rstep (d n).natAbs (d n).sign d n i r j else r j))
  | 0, k, t, hf, _, _, _ => absurd hf (Nat.not_lt_zero _)
  | f + 1, k, t, hf, hk, ht, hv => by
    unfold a5_
    by_cases hl : k < l.length
    · rw [decide_eq_true (by omega), cond_true]
      have e := hv k
      rw [if_neg (Nat.lt_irrefl k)] at e
      have h5' : B512 ((d n).sign * r (i + n) * shf d i k) := by
        unfold shf; split
        · exact h5 _
        · rw [Int.mul_zero]; exact B0
      have e2 : E (Z.sub (Z.mul (Z.abs (q.getD (q.length - 1) I0).dec) (t.getD k I0).dec) (Z.mul (E (Z.of ((d n).sign * r (i + n)))).dec (aD_ q ((k : Int) - (i : Int))).dec)) = E (Z.of (rstep (d n).natAbs (d n).sign d n i r k)) := by
        rw [hn, Nat.add_sub_cancel, g.get, e, o2_ g, E_dec, E_dec, E_dec, E_dec, p6_ (g.B _), id_ h1 (h2 k), id_ h3 (shf_B g i k), lk_ (h4 k) h5']
        rfl
      simp only
      rw [e2, dx_ t k _ (by omega), rb_ (h6 k), cond_false]
      refine md_ g hn l h1 h2 h3 h4 h5 h6 f (k + 1) _ (by omega) (by omega) (by rw [List.length_set]; exact ht) fun j => ?_
      by_cases hj : j = k
      · subst hj; rw [dx_ t j _ (by omega), if_pos (by omega)]
      · rw [ew_ t k j _ hj, hv j]
        by_cases hjk : j < k
        · rw [if_pos hjk, if_pos (by omega)]
        · rw [if_neg hjk, if_neg (by omega)]
    · rw [decide_eq_false (by omega), cond_false]
      have : k = l.length := by omega
      subst this
      exact ⟨t, rfl, ht, hv⟩
theorem iq_ (g : Po q d) (hn : q.length = n + 1) {r : Nat → Int} {i L j : Nat} (hz : ∀ k, L ≤ k → r k = 0) (hi : i + n < L) (hj : L ≤ j) : rstep (d n).natAbs (d n).sign d n i r j = 0 := by
  unfold rstep
  have e : shf d i j = 0 := by
    unfold shf; rw [if_pos (by omega)]; exact g.zero (by omega)
  rw [hz j hj, e, Int.mul_zero, Int.mul_zero]; rfl
theorem abs_B {v : Int} (h : B512 v) : B512 (v.natAbs : Int) := by unfold B512 at *; rw [Int.natAbs_natCast]; exact h
theorem ms_ (g : Po q d) (hn : q.length = n + 1) : ∀ (m f : Nat) (i : Int) (l : List I) (r : Nat → Int), i = (m : Int) - 1 → m < f → (m ≤ l.length - n) → (∀ j, l.getD j I0 = E (Z.of (r j))) → (∀ k, l.length ≤ k → r k = 0) →
    RemB (d n).natAbs (d n).sign d n m r → ∃ i' l', aP_ p q f i l = .inl (i', l') ∧ l'.length = l.length ∧ (∀ j, l'.getD j I0 = E (Z.of (remf (d n).natAbs (d n).sign d n m r j))) ∧ (∀ k, l.length ≤ k → remf (d n).natAbs (d n).sign d n m r k = 0) ∧ ∀ k, B512 (remf (d n).natAbs (d n).sign d n m r k)
  | m, 0, i, l, r, _, hf, _, _, _, _ => absurd hf (Nat.not_lt_zero _)
  | 0, f + 1, i, l, r, hi, hf, hm, hl, hz, hB => by
    unfold aP_
    rw [decide_eq_false (by omega), cond_false]
    exact ⟨i, l, rfl, rfl, hl, hz, hB⟩
  | m + 1, f + 1, i, l, r, hi, hf, hm, hl, hz, hB => by
    unfold aP_
    rw [decide_eq_true (by omega), cond_true]
    obtain ⟨b1, b2, b3, b4, b5⟩ := hB
    have e : E (Z.mul (Z.of (Z.signW (q.getD (q.length - 1) I0).dec).1) (l.getD (i.toNat + (q.length - 1)) I0).dec) = E (Z.of ((d n).sign * r (m + n))) := by
      have hs : B512 (d n).sign := by
        rcases Int.lt_trichotomy (d n) 0 with h | h | h
        · rw [Int.sign_eq_neg_one_of_neg h]; decide
        · rw [h]; decide
        · rw [Int.sign_eq_one_of_pos h]; decide
      rw [hn, Nat.add_sub_cancel, g.get, hl, E_dec, E_dec, gy_ (g.B n), show i.toNat = m by omega, id_ hs (b1 _)]
    obtain ⟨t, h1, h2, h3⟩ := md_ (p := p) g hn (i := m) l (abs_B (g.B n)) b1 b2 b3 b4 b5.B (l.length + 1) 0 l (by omega) (Nat.zero_le _) rfl (fun j => by rw [if_neg (Nat.not_lt_zero _)]; exact hl j)
    simp only
    rw [e, show i = (m : Int) by omega, h1]
    have k1 : ∀ j, t.getD j I0 = E (Z.of (rstep (d n).natAbs (d n).sign d n m r j)) := fun j => by
      rw [h3 j]
      split
      · rfl
      · rw [hz j (by omega), iq_ g hn hz (by omega) (by omega)]
    obtain ⟨i', l', a1, a2, a3, a4, a5⟩ := ms_ g hn m f ((m : Int) - 1) t _ rfl (by omega) (by omega) k1 (fun k hk => iq_ g hn hz (by omega) (by omega)) b5
    exact ⟨i', l', a1, a2.trans h2, a3, fun k hk => a4 k (by omega), a5⟩
theorem oH_ (h : Po p c) (g : Po q d) (hn : q.length = n + 1) (hB : RemB (d n).natAbs (d n).sign d n (p.length - n) c) : Po (ao_ p q) (remf (d n).natAbs (d n).sign d n (p.length - n) c) := by
  unfold ao_
  rw [h.nb, g.nb, show ((((q.length : Nat) : Int) == 0)) = false from beq_eq_false_iff_ne.2 (by omega), Bool.false_or, Bool.false_or, cond_false, List.nil_append, hn]
  have hl := h.l
  have go : ∀ i : Int, i = ((p.length : Nat) : Int) - 1 - (((n + 1 : Nat) : Int) - 1) → ∃ i' l', aP_ p q (p.length + 1) i p = .inl (i', l') ∧ l'.length = p.length ∧ (∀ j, l'.getD j I0 = E (Z.of (remf (d n).natAbs (d n).sign d n (p.length - n) c j))) ∧ (∀ k, p.length ≤ k → remf (d n).natAbs (d n).sign d n (p.length - n) c k = 0) ∧ ∀ k, B512 (remf (d n).natAbs (d n).sign d n (p.length - n) c k) := fun i hi => by
    by_cases hs : n ≤ p.length
    · exact ms_ g hn (p.length - n) (p.length + 1) i p c (by omega) (by omega) (Nat.le_refl _) h.get (fun k hk => h.zero hk) hB
    · have e0 : p.length - n = 0 := by omega
      rw [e0] at hB ⊢
      unfold aP_
      rw [decide_eq_false (by omega), cond_false]
      exact ⟨i, p, rfl, rfl, h.get, fun k hk => h.zero hk, h.B⟩
  obtain ⟨i', l', a1, a2, a3, a4, a5⟩ := go _ rfl
  rw [a1]
  show Po (ak_ l') _
  rw [kf_]
  exact mf_ a3 a5 fun k hk => a4 k (by omega)
end
end Go.Num


set_option linter.unusedVariables false
set_option linter.unusedSimpArgs false
namespace Go.Num
open Go Go.Kn
theorem iL_ : aI_ = true := by kernel_rfl
end Go.Num


set_option linter.unusedVariables false
set_option linter.unusedSimpArgs false
namespace Go.Num
open Go Go.Kn
theorem fP_ (d : Nat → Int) (m k : Nat) : conv d (fun i => if i = m then 1 else 0) k = shf d m k := by
  rw [ce_]
  unfold conv shf
  by_cases h : m ≤ k
  · rw [if_pos h, i2_ (a := m) (fun i hi => ?_) (by omega)]
    · show (if m = m then 1 else 0) * d (k - m) = _
      rw [if_pos rfl, Int.one_mul]
    · show (if i = m then 1 else 0) * d (k - i) = _
      rw [if_neg hi, Int.zero_mul]
  · rw [if_neg h]
    refine cD_ fun i hi => ?_
    show (if i = m then 1 else 0) * d (k - i) = _
    rw [if_neg (by omega), Int.zero_mul]
theorem im_ (d S : Nat → Int) (m k : Nat) (hS : ∀ i, m < i → S i = 0) : conv d S k = conv d (fun i => if i < m then S i else 0) k + S m * shf d m k := by
  have e : conv d (fun i => S m * (if i = m then 1 else 0)) k = S m * shf d m k := by rw [← fP_, cV_]
  rw [← e]
  rw [show conv d S = fun k => conv d (fun i => if i < m then S i else 0) k + conv d (fun i => S m * (if i = m then 1 else 0)) k by
    rw [← gi_]
    congr 1
    funext i
    rcases Nat.lt_trichotomy i m with h | h | h
    · rw [if_pos h, if_neg (by omega), Int.mul_zero, Int.add_zero]
    · rw [if_neg (by omega), if_pos h, h, Int.mul_one, Int.zero_add]
    · rw [if_neg (by omega), if_neg (by omega), hS i h, Int.mul_zero]; rfl]
theorem lw_ {a o : Int} {d : Nat → Int} {n : Nat} (ho : o * d n = a) (hd : ∀ i, n < i → d i = 0) : ∀ (m : Nat) (S R : Nat → Int), (∀ i, m ≤ i → S i = 0) → (∀ i, n ≤ i → R i = 0) → remf a o d n m (fun k => conv d S k + R k) = fun k => a ^ m * R k
  | 0, S, R, hS, hR => by
    funext k
    show conv d S k + R k = _
    rw [show conv d S k = 0 from cD_ fun i _ => by rw [hS _ (Nat.zero_le _), Int.mul_zero], Int.pow_zero, Int.zero_add, Int.one_mul]
  | m + 1, S, R, hS, hR => by
    have hS' : ∀ i, m < i → S i = 0 := fun i hi => hS i hi
    have e : rstep a o d n m (fun k => conv d S k + R k) = fun k => conv d (fun i => a * (if i < m then S i else 0)) k + a * R k := by
      funext k
      show a * (conv d S k + R k) - o * (conv d S (m + n) + R (m + n)) * shf d m k = _
      rw [hR (m + n) (by omega), Nat.add_comm m n, c3_ (n := n) (m := m) hd hS', cV_, im_ d S m k hS', ← ho]
      grind
    show remf a o d n m (rstep a o d n m _) = _
    rw [e, lw_ ho hd m _ (fun k => a * R k) (fun i hi => by rw [if_neg (by omega), Int.mul_zero]) (fun i hi => by show a * R i = 0; rw [hR i hi, Int.mul_zero])]
    funext k
    rw [Int.pow_succ, Int.mul_assoc]
theorem iu_ (v : Int) : v.sign * v = (v.natAbs : Int) := by
  rcases Int.lt_trichotomy v 0 with h | h | h
  · rw [Int.sign_eq_neg_one_of_neg h]; omega
  · subst h; rfl
  · rw [Int.sign_eq_one_of_pos h]; omega
theorem iA_ (v : Int) : v.sign.natAbs ≤ 1 := by
  rcases Int.lt_trichotomy v 0 with h | h | h
  · rw [Int.sign_eq_neg_one_of_neg h]; decide
  · subst h; decide
  · rw [Int.sign_eq_one_of_pos h]; decide
theorem hH_ {p : List I} (hl : p.length ≤ 1000) (h : ae_ p = false) : p.all gdI = true := by
  rw [fB_ hl] at h; simpa using h
end Go.Num

set_option linter.unusedVariables false
set_option linter.unusedSimpArgs false
namespace Go.Num
open Go Go.Kn
end Go.Num


set_option linter.unusedVariables false
set_option linter.unusedSimpArgs false
namespace Go.Num
open Go Go.Kn
theorem pz_ {u v : Int} (hu : B512 u) (hv : B512 v) (h : 0 < v) : Z.quo (Z.of u) (Z.of v) = Z.of (u / v) := by
  rw [o9_ hu hv (by omega), nK_ h]
end Go.Num

set_option linter.unusedVariables false
set_option linter.unusedSimpArgs false
namespace Go.Num
open Go Go.Kn
/-- An interval that is not bad: its ends, in order. -/
structure Iv.Is (a : Iv) (n d m e : Int) : Prop where
  lo : a.lo.Is n d
  hi : a.hi.Is m e
  le : n * e ≤ m * d
end Go.Num

set_option linter.unusedVariables false
set_option linter.unusedSimpArgs false
namespace Go.Num
open Go Go.Kn
/-- The number that a fraction is. -/
def Rt.At (a : Rt) (q : Rat) : Prop := a.Is q.num (q.den : Int)
/-- An interval from p to q. -/
structure Iv.At (a : Iv) (p q : Rat) : Prop where
  lo : a.lo.At p
  hi : a.hi.At q
  le : p ≤ q
end Go.Num

set_option linter.unusedVariables false
set_option linter.unusedSimpArgs false
namespace Go.Num
open Go Go.Kn
def mn (p q : Rat) : Rat := if p ≤ q then p else q
end Go.Num

set_option linter.unusedVariables false
set_option linter.unusedSimpArgs false
namespace Go.Num
open Go Go.Kn
/-- Above and below of less than k bits. -/
structure Sz (q : Rat) (k : Nat) : Prop where
  n : q.num.natAbs < 2 ^ k
  d : q.den < 2 ^ k
theorem jX_ {a b : Nat} (h : a ≤ b) : (2 : Nat) ^ a ≤ 2 ^ b := Nat.pow_le_pow_right (by decide) h
theorem rc_ {v : Int} {k : Nat} (m : Nat) (hm : 4294967296 ^ 16 = 2 ^ m) (h : v.natAbs < 2 ^ k) (hk : k ≤ m) : B512 v := by
  unfold B512
  rw [hm]
  exact Nat.lt_of_lt_of_le h (jX_ hk)
theorem B_pow {v : Int} {k : Nat} (h : v.natAbs < 2 ^ k) (hk : k ≤ 512) : B512 v := rc_ 512 my_ h hk
theorem Sz.mono {q : Rat} {j k : Nat} (h : Sz q j) (hk : j ≤ k) : Sz q k := ⟨Nat.lt_of_lt_of_le h.n (jX_ hk), Nat.lt_of_lt_of_le h.d (jX_ hk)⟩
theorem Sz.bd {q : Rat} {k : Nat} (h : Sz q k) (hk : k ≤ 512) : B512 (q.den : Int) := B_pow (by simpa using h.d) hk
theorem hK_ {a b j k : Nat} (h : a < 2 ^ j) (g : b < 2 ^ k) : a * b < 2 ^ (j + k) := by
  rw [Nat.pow_add]
  exact Nat.mul_lt_mul_of_lt_of_le h (Nat.le_of_lt g) (Nat.pow_pos (by decide))
theorem Sz.mul {p q : Rat} {j k : Nat} (h : Sz p j) (g : Sz q k) : Sz (p * q) (j + k) := by
  constructor
  · rw [Rat.num_mul]
    refine Nat.lt_of_le_of_lt (Int.natAbs_ediv_le_natAbs _ _) ?_
    rw [Int.natAbs_mul]; exact hK_ h.n g.n
  · rw [Rat.den_mul]
    exact Nat.lt_of_le_of_lt (Nat.div_le_self _ _) (hK_ h.d g.d)
theorem Sz.neg {p : Rat} {k : Nat} (h : Sz p k) : Sz (-p) k := ⟨by rw [Rat.neg_num, Int.natAbs_neg]; exact h.n, h.d⟩
theorem lS_ {n m : Int} {d e j k : Nat} (h1 : n.natAbs < 2 ^ j) (h2 : e < 2 ^ k) (h3 : m.natAbs < 2 ^ k) (h4 : d < 2 ^ j) : (n * e + m * d).natAbs < 2 ^ (j + k + 1) := by
  have a := hK_ h1 h2
  have b := hK_ h4 h3
  have c := Int.natAbs_add_le (n * e) (m * d)
  rw [Int.natAbs_mul, Int.natAbs_mul, Int.natAbs_natCast, Int.natAbs_natCast] at c
  rw [Nat.pow_succ]
  rw [Nat.mul_comm d] at b
  omega
theorem Sz.add {p q : Rat} {j k : Nat} (h : Sz p j) (g : Sz q k) : Sz (p + q) (j + k + 1) := by
  constructor
  · rw [Rat.num_add]
    exact Nat.lt_of_le_of_lt (Int.natAbs_ediv_le_natAbs _ _) (lS_ h.n g.d g.n h.d)
  · rw [Rat.den_add]
    exact Nat.lt_of_le_of_lt (Nat.div_le_self _ _) (Nat.lt_of_lt_of_le (hK_ h.d g.d) (jX_ (by omega)))
theorem Sz.int {n : Int} {k : Nat} (h : n.natAbs < 2 ^ k) (hk : 0 < k) : Sz (n : Rat) k := ⟨h, Nat.one_lt_two_pow (by omega)⟩
theorem At.is {a : Rt} {q : Rat} (h : a.At q) : a.Is q.num (q.den : Int) := h
end Go.Num


set_option linter.unusedVariables false
set_option linter.unusedSimpArgs false
namespace Go.Num
open Go Go.Kn
/-- The value of a polynomial with n coefficients. -/
def vl (c : Nat → Rat) (x : Rat) (n : Nat) : Rat := sumN (fun i => c i * x ^ i) n
theorem kP_ (x : Rat) (m : Nat) : ∀ n : Nat, x ^ (m + n) = x ^ m * x ^ n
  | 0 => by rw [Rat.pow_zero, Rat.mul_one]; rfl
  | n + 1 => by rw [← Nat.add_assoc, Rat.pow_succ, kP_ x m n, Rat.pow_succ, Rat.mul_assoc]
theorem l3_ {c : Nat → Rat} {x : Rat} {n : Nat} (h : ∀ i, n ≤ i → c i = 0) {m : Nat} (hm : n ≤ m) : vl c x m = vl c x n :=
  dn_ (fun i hi => by rw [h i hi, Rat.zero_mul]) m hm
theorem pn_ {c d : Nat → Rat} {x : Rat} {n m : Nat} (hc : ∀ i, n ≤ i → c i = 0) (hd : ∀ i, m ≤ i → d i = 0) {K : Nat} (hK : n + m ≤ K) : vl (conv c d) x K = vl c x n * vl d x m := by
  have h := iQ_ (fun i j => c i * x ^ i * (d j * x ^ j)) K
  have e1 : vl (conv c d) x K = sumN (fun k => sumN (fun i => c i * x ^ i * (d (k - i) * x ^ (k - i))) (k + 1)) K := by
    refine bx_ fun k _ => ?_
    show sumN _ _ * _ = _
    rw [← hs_]
    refine bx_ fun i hi => ?_
    have : x ^ k = x ^ i * x ^ (k - i) := by rw [← kP_]; congr 1; omega
    rw [this]; grind
  rw [e1, h]
  unfold vl
  rw [← hs_]
  rw [dn_ (n := n) (fun i hi => by rw [hc i hi]; exact cD_ fun j _ => by rw [Rat.zero_mul, Rat.zero_mul]) K (by omega)]
  refine bx_ fun i hi => ?_
  rw [d6_]
  congr 1
  exact dn_ (fun j hj => by rw [hd j hj, Rat.zero_mul]) _ (by omega)
def hv (c : Nat → Int) (N D : Int) (L : Nat) : Nat → Int
  | 0 => 0
  | t + 1 => hv c N D L t * N + c (L - 1 - t) * D ^ t
section
variable {c : Nat → Int} {N D : Int} {L : Nat}
/-- Enough digits for a value. -/
structure Room (c : Nat → Int) (N D : Int) (L : Nat) : Prop where
  h : ∀ t, t ≤ L → B512 (hv c N D L t)
  m : ∀ t, t < L → B512 (hv c N D L t * N)
  p : ∀ t, t < L → B512 (D ^ t)
  q : ∀ t, t < L → B512 (c (L - 1 - t) * D ^ t)
variable {p : List I} {x : Rt}
end
end Go.Num


set_option linter.unusedVariables false
set_option linter.unusedSimpArgs false
namespace Go.Num
open Go Go.Kn
theorem gO_ {u : Int} : ∀ (l : List I) (g : Nat), u ∣ (g : Int) → (∀ x ∈ l, u ∣ vI x) → u ∣ ((l.foldl fg g : Nat) : Int)
  | [], g, h, _ => h
  | y :: l, g, h, hx => gO_ l (fg g y) (Int.dvd_coe_gcd h (hx y List.mem_cons_self)) fun x hm => hx x (List.mem_cons_of_mem _ hm)
/-- No number but 1 and -1 divides all. -/
def Prm (c : Nat → Int) : Prop := ∀ u : Int, (∀ k, u ∣ c k) → u ∣ 1
theorem hI_ {u : Int} {g : Nat} (h : 0 < g) (hd : (g : Int) ∣ u) : (u.fdiv g).natAbs ≤ u.natAbs := by
  obtain ⟨x, rfl⟩ := hd
  rw [Int.mul_fdiv_cancel_left _ (by omega), Int.natAbs_mul, Int.natAbs_natCast]
  exact Nat.le_mul_of_pos_left _ h
section
variable {p q : List I} {c d : Nat → Int}
theorem Po.mem (h : Po p c) {x : I} (hx : x ∈ p) : ∃ k, vI x = c k := by
  obtain ⟨k, hk, rfl⟩ := List.getElem_of_mem hx
  refine ⟨k, ?_⟩
  rw [← h.c k]
  simp [List.getD, hk]
theorem Po.dvd (h : Po p c) (k : Nat) : ((cN p : Nat) : Int) ∣ c k := by
  by_cases hk : k < p.length
  · rw [← h.c k, show p.getD k I0 = p[k] by simp [List.getD, hk]]
    exact lb_ (List.getElem_mem hk)
  · rw [h.zero (by omega)]; exact Int.dvd_zero _
theorem Po.cpos (h : Po p c) (h0 : p ≠ []) : 0 < cN p := by
  obtain ⟨n, hn⟩ : ∃ n, p.length = n + 1 := ⟨p.length - 1, by have := List.length_pos_iff.2 h0; omega⟩
  rcases Nat.eq_zero_or_pos (cN p) with e | e
  · have h1 := h.dvd n
    rw [e] at h1
    exact absurd (Int.zero_dvd.1 h1) (h.last hn)
  · exact e
theorem dk_ (h : Po p c) : Po (ab_ p) (fun k => (c k).fdiv (cN p)) := by
  have e := lh_ h.g h.s h.l
  have hB : ∀ x ∈ p, B512 ((vI x).fdiv (cN p)) := fun x hx => by
    obtain ⟨k, hk⟩ := h.mem hx
    rw [hk]
    exact Nat.lt_of_le_of_lt (hI_ (h.cpos (List.ne_nil_of_mem hx)) (h.dvd k)) (h.B k)
  have hg : (ab_ p).all gdI = true := by
    rw [e]
    refine List.all_eq_true.2 fun y hy => ?_
    obtain ⟨x, hx, rfl⟩ := List.mem_map.1 hy
    exact gd_E (hB x hx)
  refine (oZ_ (gw_ p h.l3) hg).cast fun k => ?_
  rw [e]
  by_cases hk : k < p.length
  · have e2 : (p.map fun x => E (Z.of ((vI x).fdiv (cN p)))).getD k I0 = E (Z.of ((vI p[k]).fdiv (cN p))) := by simp [List.getD, hk]
    rw [e2, vI_E (hB _ (List.getElem_mem hk)), ← h.c k, show p.getD k I0 = p[k] by simp [List.getD, hk]]
  · rw [dW_ (by rw [List.length_map]; omega), vI0, h.zero (by omega), Int.zero_fdiv]
theorem cW_ (h : Po p c) (k : Nat) : ((cN p : Nat) : Int) * (c k).fdiv (cN p) = c k := by
  by_cases h0 : p = []
  · subst h0; rw [h.zero (Nat.zero_le k), Int.zero_fdiv, Int.mul_zero]
  · have hp := h.cpos h0
    obtain ⟨x, hx⟩ := h.dvd k
    rw [hx, Int.mul_fdiv_cancel_left _ (by omega)]
theorem d2_ (h : Po p c) (h0 : p ≠ []) : Prm (fun k => (c k).fdiv (cN p)) := fun u hu => by
  have hp := h.cpos h0
  have h1 : ((cN p : Nat) : Int) * u ∣ ((cN p : Nat) : Int) := gO_ p 0 (Int.dvd_zero _) fun x hx => by
    obtain ⟨k, hk⟩ := h.mem hx
    rw [hk, ← cW_ h k]
    exact Int.mul_dvd_mul_left _ (hu k)
  obtain ⟨y, hy⟩ := h1
  refine ⟨y, ?_⟩
  have : ((cN p : Nat) : Int) * 1 = ((cN p : Nat) : Int) * (u * y) := by rw [Int.mul_one, ← Int.mul_assoc]; exact hy
  exact Int.eq_of_mul_eq_mul_left (by omega) this
theorem mZ_ (h : Po p c) (hc : Prm c) : ab_ p = p := by
  have h1 := hc _ h.dvd
  have h2 : cN p = 1 := by
    have := Int.le_of_dvd (by decide) h1
    rcases Nat.eq_zero_or_pos (cN p) with e | e
    · rw [e] at h1; exact absurd (Int.zero_dvd.1 h1) (by decide)
    · omega
  refine ((dk_ h).cast fun k => ?_).eq h
  have := cW_ h k
  rw [h2] at this ⊢
  show (c k).fdiv ((1 : Nat) : Int) = c k
  simp
variable {u v W : Int} {L : Nat}
end
end Go.Num


set_option linter.unusedVariables false
set_option linter.unusedSimpArgs false
namespace Go.Num
/-- A polynomial with rational coefficients. -/
structure QP where
  c : Nat → Rat
  fs : ∃ n, ∀ i, n ≤ i → c i = 0
namespace QP
theorem ex {a b : QP} (h : ∀ k, a.c k = b.c k) : a = b := by
  obtain ⟨c, _⟩ := a
  obtain ⟨d, _⟩ := b
  have e : c = d := funext h
  subst e
  rfl
instance : Add QP := ⟨fun a b => ⟨fun k => a.c k + b.c k, by
  obtain ⟨n, h⟩ := a.fs
  obtain ⟨m, g⟩ := b.fs
  exact ⟨max n m, fun i hi => by show a.c i + b.c i = 0; rw [h i (by omega), g i (by omega), Rat.add_zero]⟩⟩⟩
instance : Mul QP := ⟨fun a b => ⟨conv a.c b.c, by
  obtain ⟨n, h⟩ := a.fs
  obtain ⟨m, g⟩ := b.fs
  exact ⟨n + m, fun i hi => cC_ h g i (by omega)⟩⟩⟩
/-- A constant times a power of the variable. -/
def M (t : Rat) (j : Nat) : QP := ⟨fun k => if k = j then t else 0, ⟨j + 1, fun i hi => if_neg (by omega)⟩⟩
def C (t : Rat) : QP := M t 0
theorem mt_ {a b : Rat} (ha : a ≠ 0) (hb : b ≠ 0) : a * b ≠ 0 := fun h => by
  rcases Rat.mul_eq_zero.1 h with h1 | h1
  · exact ha h1
  · exact hb h1
theorem add_c (a b : QP) (k : Nat) : (a + b).c k = a.c k + b.c k := rfl
theorem mul_c (a b : QP) (k : Nat) : (a * b).c k = conv a.c b.c k := rfl
theorem M_mul (t : Rat) (j : Nat) (a : QP) (k : Nat) : (M t j * a).c k = if j ≤ k then t * a.c (k - j) else 0 := by
  rw [mul_c]; unfold conv
  by_cases h : j ≤ k
  · rw [if_pos h, i2_ (a := j) (fun i hi => by show (if i = j then t else 0) * _ = 0; rw [if_neg hi]; exact Rat.zero_mul _) (by omega)]
    show (if j = j then t else 0) * _ = _
    rw [if_pos rfl]
  · rw [if_neg h]
    exact cD_ fun i hi => by show (if i = j then t else 0) * _ = 0; rw [if_neg (by omega)]; exact Rat.zero_mul _
theorem C_mul (t : Rat) (a : QP) (k : Nat) : (C t * a).c k = t * a.c k := by unfold C; rw [M_mul, if_pos (Nat.zero_le _), Nat.sub_zero]
theorem C_c (t : Rat) (k : Nat) : (C t).c k = if k = 0 then t else 0 := rfl
theorem mC_ (a b : QP) : a + b = b + a := ex fun k => Rat.add_comm _ _
theorem cq_ (a b : QP) : a * b = b * a := ex fun k => congrFun (ce_ a.c b.c) k
theorem mul_assoc' (a b c : QP) : a * b * c = a * (b * c) := ex fun k => congrFun (e0_ a.c b.c c.c) k
theorem mul_add' (a b c : QP) : a * (b + c) = a * b + a * c := ex fun k => congrFun (gi_ a.c b.c c.c) k
theorem lp_ (a b c : QP) : (a + b) * c = a * c + b * c := by rw [cq_, mul_add', cq_ c a, cq_ c b]
theorem lc' (a b c : QP) : a * (b * c) = b * (a * c) := by rw [← mul_assoc', cq_ a b, mul_assoc']
theorem C_C (s t : Rat) : C s * C t = C (s * t) := ex fun k => by
  rw [C_mul, C_c, C_c]; split
  · rfl
  · exact Rat.mul_zero _
theorem es_ (a : QP) : C 1 * a = a := ex fun k => by rw [C_mul, Rat.one_mul]
theorem mul_one' (a : QP) : a * C 1 = a := by rw [cq_, es_]
theorem hT_ (a : QP) : C 0 * a = C 0 := ex fun k => by rw [C_mul, Rat.zero_mul, C_c]; split <;> rfl
theorem mul_zero' (a : QP) : a * C 0 = C 0 := by rw [cq_, hT_]
theorem C0_c (k : Nat) : (C 0).c k = 0 := by rw [C_c]; split <;> rfl
theorem i7_ (a : QP) : a + C 0 = a := ex fun k => by rw [add_c, C0_c, Rat.add_zero]
theorem ju_ (a : QP) : C 0 + a = a := by rw [mC_, i7_]
/-- Without a. -/
theorem l1_ {a b : QP} (h : a + C (-1) * b = C 0) : a = b := ex fun k => by
  have e := congrArg (fun x : QP => x.c k) h
  simp only [add_c, C_mul, C0_c] at e
  grind
def Dg (a : QP) (n : Nat) : Prop := a.c n ≠ 0 ∧ ∀ i, n < i → a.c i = 0
theorem dg_or (a : QP) : ∀ N : Nat, (∀ i, N ≤ i → a.c i = 0) → a = C 0 ∨ ∃ n, n < N ∧ Dg a n
  | 0, h => .inl (ex fun k => by rw [h k (Nat.zero_le _), C0_c])
  | N + 1, h => by
    by_cases h0 : a.c N = 0
    · rcases dg_or a N (fun i hi => by rcases Nat.lt_or_eq_of_le hi with h1 | h1; exact h i h1; rw [← h1]; exact h0) with h1 | ⟨n, h1, h2⟩
      · exact .inl h1
      · exact .inr ⟨n, by omega, h2⟩
    · exact .inr ⟨N, by omega, h0, fun i hi => h i hi⟩
theorem ex_dg {a : QP} (h : a ≠ C 0) : ∃ n, Dg a n := by
  obtain ⟨N, hN⟩ := a.fs
  rcases dg_or a N hN with h1 | ⟨n, _, h2⟩
  · exact absurd h1 h
  · exact ⟨n, h2⟩
theorem Dg.ne {a : QP} {n : Nat} (h : Dg a n) : a ≠ C 0 := fun e => h.1 (by rw [e, C0_c])
theorem Dg.un {a : QP} {n m : Nat} (h : Dg a n) (g : Dg a m) : n = m := by
  rcases Nat.lt_trichotomy n m with h1 | h1 | h1
  · exact absurd (h.2 _ h1) g.1
  · exact h1
  · exact absurd (g.2 _ h1) h.1
theorem Dg.mul {a b : QP} {n m : Nat} (h : Dg a n) (g : Dg b m) : Dg (a * b) (n + m) := by
  refine ⟨?_, fun i hi => cC_ (n := n + 1) (m := m + 1) (fun j hj => h.2 j hj) (fun j hj => g.2 j hj) i (by omega)⟩
  rw [mul_c, c3_ h.2 g.2]
  exact mt_ h.1 g.1
theorem C_dg {t : Rat} (h : t ≠ 0) : Dg (C t) 0 := ⟨by rw [C_c, if_pos rfl]; exact h, fun i hi => by rw [C_c, if_neg (by omega)]⟩
theorem dg_C {a : QP} (h : Dg a 0) : a = C (a.c 0) := ex fun k => by
  rw [C_c]; split
  · next e => rw [e]
  · exact h.2 k (by omega)
theorem mul_ne {a b : QP} (ha : a ≠ C 0) (hb : b ≠ C 0) : a * b ≠ C 0 := by
  obtain ⟨n, h⟩ := ex_dg ha
  obtain ⟨m, g⟩ := ex_dg hb
  exact (h.mul g).ne
theorem mul_can {a b c : QP} (ha : a ≠ C 0) (h : a * b = a * c) : b = c := by
  apply l1_
  apply Classical.byContradiction
  intro hn
  refine mul_ne ha hn ?_
  rw [mul_add', lc' a (C (-1)), h]
  exact ex fun k => by rw [add_c, C_mul, C0_c]; grind
def Dv (a b : QP) : Prop := ∃ h, b = a * h
theorem Dv.refl (a : QP) : Dv a a := ⟨C 1, (mul_one' a).symm⟩
theorem Dv.trans {a b c : QP} (h : Dv a b) (g : Dv b c) : Dv a c := by
  obtain ⟨x, hx⟩ := h
  obtain ⟨y, hy⟩ := g
  exact ⟨x * y, by rw [hy, hx, mul_assoc']⟩
theorem Dv.mul {a b : QP} (h : Dv a b) (c : QP) : Dv a (b * c) := h.trans ⟨c, rfl⟩
theorem Dv.mul_l {a b : QP} (h : Dv a b) (c : QP) : Dv a (c * b) := by rw [cq_]; exact h.mul c
theorem Dv.add {a b c : QP} (h : Dv a b) (g : Dv a c) : Dv a (b + c) := by
  obtain ⟨x, hx⟩ := h
  obtain ⟨y, hy⟩ := g
  exact ⟨x + y, by rw [hx, hy, mul_add']⟩
theorem Dv.zero (a : QP) : Dv a (C 0) := ⟨C 0, (mul_zero' a).symm⟩
theorem Dv.of_zero {a : QP} (h : Dv (C 0) a) : a = C 0 := by obtain ⟨x, hx⟩ := h; rw [hx, hT_]
theorem Dv.both {a b : QP} (c : QP) (h : Dv a b) : Dv (c * a) (c * b) := by obtain ⟨x, hx⟩ := h; exact ⟨x, by rw [hx, mul_assoc']⟩
theorem Dv.cancel {a b c : QP} (hc : c ≠ C 0) (h : Dv (c * a) (c * b)) : Dv a b := by
  obtain ⟨x, hx⟩ := h
  exact ⟨x, QP.mul_can hc (by rw [hx, mul_assoc'])⟩
theorem Dv.ne {a b : QP} (h : Dv a b) (hb : b ≠ C 0) : a ≠ C 0 := fun e => hb (by rw [e] at h; exact h.of_zero)
theorem Dv.unit {a b : QP} {t : Rat} (ht : t ≠ 0) (h : Dv (C t * a) b) : Dv a b := (show Dv a (C t * a) from ⟨C t, cq_ _ _⟩).trans h
theorem Dv.scale {a b : QP} {t : Rat} (ht : t ≠ 0) (h : Dv a (C t * b)) : Dv a b := by
  obtain ⟨x, hx⟩ := h
  refine ⟨C t⁻¹ * x, ?_⟩
  rw [lc' a, ← hx, ← mul_assoc', C_C, Rat.inv_mul_cancel _ ht, es_]
theorem C_dv {t : Rat} (ht : t ≠ 0) (a : QP) : Dv (C t * a) a := ⟨C t⁻¹, by rw [cq_ _ (C t⁻¹), ← mul_assoc', C_C, Rat.inv_mul_cancel _ ht, es_]⟩
theorem qQ_ {a : QP} (h : Dg a 0) (b : QP) : Dv a b := by
  refine ⟨C (a.c 0)⁻¹ * b, ?_⟩
  conv => rhs; rw [dg_C h]
  rw [show (C (a.c 0)).c 0 = a.c 0 from rfl, ← mul_assoc', C_C, Rat.mul_inv_cancel _ h.1, es_]
theorem Dv.dg {a b : QP} {n m : Nat} (h : Dv a b) (ha : Dg a n) (hb : Dg b m) : n ≤ m := by
  obtain ⟨x, hx⟩ := h
  have h0 : x ≠ C 0 := fun e => hb.ne (by rw [hx, e, mul_zero'])
  obtain ⟨l, hl⟩ := ex_dg h0
  have := (ha.mul hl).un (hx ▸ hb)
  omega
theorem Dv.same {a b : QP} {n : Nat} (h : Dv a b) (ha : Dg a n) (hb : Dg b n) : ∃ t, t ≠ 0 ∧ b = C t * a := by
  obtain ⟨x, hx⟩ := h
  have h0 : x ≠ C 0 := fun e => hb.ne (by rw [hx, e, mul_zero'])
  obtain ⟨l, hl⟩ := ex_dg h0
  have := (ha.mul hl).un (hx ▸ hb)
  obtain rfl : l = 0 := by omega
  exact ⟨x.c 0, hl.1, by rw [hx, cq_, dg_C hl]; rfl⟩
theorem Dv.back {a b : QP} {n : Nat} (h : Dv a b) (ha : Dg a n) (hb : Dg b n) : Dv b a := by
  obtain ⟨t, ht, e⟩ := h.same ha hb
  rw [e]; exact C_dv ht a
theorem nf_ {b : QP} {n : Nat} (hb : Dg b n) : ∀ (N : Nat) (a : QP), (∀ i, N ≤ i → a.c i = 0) → ∃ q r : QP, a = b * q + r ∧ ∀ i, n ≤ i → r.c i = 0
  | 0, a, h => ⟨C 0, a, by rw [mul_zero', ju_], fun i _ => h i (Nat.zero_le _)⟩
  | N + 1, a, h => by
    by_cases hn : N < n
    · exact ⟨C 0, a, by rw [mul_zero', ju_], fun i hi => h i (by omega)⟩
    obtain ⟨q, r, h1, h2⟩ := nf_ hb N (a + M (-(a.c N / b.c n)) (N - n) * b) (fun i hi => by
      rw [add_c, M_mul, if_pos (by omega)]
      rcases Nat.lt_or_eq_of_le hi with h3 | h3
      · rw [h i h3, hb.2 (i - (N - n)) (by omega)]; grind
      · rw [← h3, show N - (N - n) = n by omega]
        have := hb.1
        grind)
    refine ⟨q + M (a.c N / b.c n) (N - n), r, ?_, h2⟩
    refine ex fun k => ?_
    have e := congrArg (fun x : QP => x.c k) h1
    simp only [add_c, M_mul] at e
    rw [mul_add', cq_ b (M _ _), add_c, add_c, M_mul]
    split at e
    · next h3 => rw [if_pos h3]; grind
    · next h3 => rw [if_neg h3]; grind
theorem bez : ∀ (N : Nat) (a b : QP), (∀ i, N ≤ i → b.c i = 0) → ∃ g u v : QP, g = u * a + v * b ∧ Dv g a ∧ Dv g b := by
  intro N
  induction N using Nat.strongRecOn with
  | _ N ih =>
    intro a b h
    rcases dg_or b N h with h0 | ⟨n, hn, hb⟩
    · exact ⟨a, C 1, C 0, by rw [hT_, i7_, es_], .refl a, by rw [h0]; exact .zero a⟩
    · obtain ⟨M, hM⟩ := a.fs
      obtain ⟨q, r, h1, h2⟩ := nf_ hb M a hM
      obtain ⟨g, u, v, h3, h4, h5⟩ := ih n hn b r h2
      refine ⟨g, v, u + C (-1) * (v * q), ?_, by rw [h1]; exact (h4.mul q).add h5, h4⟩
      rw [h3, h1, mul_add', lp_, mul_assoc' (C (-1)), mul_assoc' v q b, cq_ q b]
      exact ex fun k => by simp only [add_c, C_mul]; grind
theorem bezout (a b : QP) : ∃ g u v : QP, g = u * a + v * b ∧ Dv g a ∧ Dv g b := by
  obtain ⟨N, hN⟩ := b.fs
  exact bez N a b hN
def Irr (h : QP) : Prop := ∃ n, 1 ≤ n ∧ Dg h n ∧ ∀ d, Dv d h → Dg d 0 ∨ Dg d n
theorem Irr.ne {h : QP} (i : Irr h) : h ≠ C 0 := by obtain ⟨n, _, hd, _⟩ := i; exact hd.ne
theorem mY_ : ∀ (n : Nat) (p : QP), Dg p n → 1 ≤ n → ∃ h, Irr h ∧ Dv h p := by
  intro n
  induction n using Nat.strongRecOn with
  | _ n ih =>
    intro p hp hn
    by_cases hx : ∃ d, Dv d p ∧ ¬ Dg d 0 ∧ ¬ Dg d n
    · obtain ⟨d, h1, h2, h3⟩ := hx
      obtain ⟨m, hm⟩ := ex_dg (h1.ne hp.ne)
      have := h1.dg hm hp
      have m0 : m ≠ 0 := fun e => h2 (e ▸ hm)
      have mn : m ≠ n := fun e => h3 (e ▸ hm)
      obtain ⟨h, hi, hd⟩ := ih m (by omega) d hm (by omega)
      exact ⟨h, hi, hd.trans h1⟩
    · refine ⟨p, ⟨n, hn, hp, fun d hd => ?_⟩, .refl p⟩
      apply Classical.byContradiction
      intro hc
      exact hx ⟨d, hd, fun e => hc (.inl e), fun e => hc (.inr e)⟩
theorem Irr.prime {h a b : QP} (i : Irr h) (hd : Dv h (a * b)) : Dv h a ∨ Dv h b := by
  obtain ⟨n, hn, hh, hi⟩ := i
  obtain ⟨g, u, v, h1, h2, h3⟩ := bezout h a
  rcases hi g h2 with h4 | h4
  · right
    have e : C (g.c 0) * b = h * (u * b) + v * (a * b) := by
      rw [← dg_C h4, h1, lp_, mul_assoc', mul_assoc', lc' u]
    refine Dv.scale h4.1 (t := g.c 0) ?_
    rw [e]
    exact (Dv.mul (.refl h) _).add (hd.mul_l v)
  · exact .inl ((h2.back h4 hh).trans h3)
def D (a : QP) : QP := ⟨fun k => ((k + 1 : Nat) : Rat) * a.c (k + 1), by
  obtain ⟨n, h⟩ := a.fs
  exact ⟨n, fun i hi => by show _ * a.c (i + 1) = 0; rw [h _ (by omega), Rat.mul_zero]⟩⟩
theorem D_c (a : QP) (k : Nat) : (D a).c k = ((k + 1 : Nat) : Rat) * a.c (k + 1) := rfl
theorem D_mul (a b : QP) : D (a * b) = D a * b + a * D b := ex fun k => by
  rw [D_c, add_c, mul_c, mul_c, mul_c]
  unfold conv
  rw [← d6_]
  have e : sumN (fun i => ((k + 1 : Nat) : Rat) * (a.c i * b.c (k + 1 - i))) (k + 1 + 1) = sumN (fun i => (i : Rat) * (a.c i * b.c (k + 1 - i)) + ((k + 1 - i : Nat) : Rat) * (a.c i * b.c (k + 1 - i))) (k + 1 + 1) := bx_ fun i hi => by
    have : ((k + 1 : Nat) : Rat) = (i : Rat) + ((k + 1 - i : Nat) : Rat) := by rw [← Rat.natCast_add]; congr 1; omega
    rw [this, Rat.add_mul]
  rw [e, gn_]
  congr 1
  · rw [d0_]
    rw [show ((0 : Nat) : Rat) = 0 from rfl, Rat.zero_mul, Rat.zero_add]
    exact bx_ fun i hi => by rw [D_c, show k + 1 - (i + 1) = k - i by omega, Rat.mul_assoc]
  · show sumN _ (k + 1) + ((k + 1 - (k + 1) : Nat) : Rat) * _ = _
    rw [show k + 1 - (k + 1) = 0 by omega, show ((0 : Nat) : Rat) = 0 from rfl, Rat.zero_mul, Rat.add_zero]
    exact bx_ fun i hi => by rw [D_c, show k + 1 - i = k - i + 1 by omega]; grind
theorem D_dg {a : QP} {n : Nat} (h : Dg a (n + 1)) : Dg (D a) n := by
  refine ⟨?_, fun i hi => by rw [D_c, h.2 _ (by omega), Rat.mul_zero]⟩
  rw [D_c]
  refine mt_ (fun e => ?_) h.1
  have : ((n + 1 : Nat) : Rat) = ((0 : Nat) : Rat) := e
  rw [Rat.natCast_inj] at this
  omega
theorem Irr.nD {h : QP} (i : Irr h) : ¬ Dv h (D h) := by
  obtain ⟨n, hn, hh, _⟩ := i
  obtain ⟨m, rfl⟩ : ∃ m, n = m + 1 := ⟨n - 1, by omega⟩
  intro hd
  have := hd.dg hh (D_dg hh)
  omega
def pow (a : QP) : Nat → QP
  | 0 => C 1
  | n + 1 => a * pow a n
theorem o3_ {a : QP} (h : a ≠ C 0) : ∀ n, pow a n ≠ C 0
  | 0 => (C_dg (by decide)).ne
  | n + 1 => mul_ne h (o3_ h n)
theorem pow_add (a : QP) (m : Nat) : ∀ n, pow a (m + n) = pow a m * pow a n
  | 0 => (mul_one' _).symm
  | n + 1 => by show a * pow a (m + n) = pow a m * (a * pow a n); rw [pow_add a m n, lc']
theorem D_pow (h m : QP) : ∀ e : Nat, D (pow h (e + 1) * m) = pow h e * (C ((e + 1 : Nat) : Rat) * (D h * m) + h * D m)
  | 0 => by
    show D (h * C 1 * m) = C 1 * (C 1 * (D h * m) + h * D m)
    rw [mul_one', D_mul, es_, es_]
  | e + 1 => by
    rw [show pow h (e + 1 + 1) * m = h * (pow h (e + 1) * m) from mul_assoc' _ _ _, D_mul, D_pow h m e, lc' (D h), ← mul_assoc' h (pow h e), show h * pow h e = pow h (e + 1) from rfl, ← mul_add']
    congr 1
    refine ex fun k => ?_
    simp only [add_c, C_mul]
    rw [show ((e + 1 + 1 : Nat) : Rat) = ((e + 1 : Nat) : Rat) + 1 by rw [Rat.natCast_add]; rfl]
    grind
theorem p7_ {h : QP} (i : Irr h) : ∀ (n : Nat) (P : QP), Dg P n → ∃ e m, P = pow h e * m ∧ ¬ Dv h m := by
  intro n
  induction n using Nat.strongRecOn with
  | _ n ih =>
    intro P hP
    by_cases hd : Dv h P
    · obtain ⟨x, hx⟩ := hd
      have x0 : x ≠ C 0 := fun e => hP.ne (by rw [hx, e, mul_zero'])
      obtain ⟨l, hl⟩ := ex_dg x0
      obtain ⟨k, hk, hh, _⟩ := i
      have := (hh.mul hl).un (hx ▸ hP)
      obtain ⟨e, m, h1, h2⟩ := ih l (by omega) x hl
      exact ⟨e + 1, m, by rw [hx, h1]; exact (mul_assoc' _ _ _).symm, h2⟩
    · exact ⟨0, P, (es_ P).symm, hd⟩
theorem sqf_part {P G F : QP} (hP : P ≠ C 0) (hF : P = G * F) (hD : Dv G (D P)) (hG : ∀ d, Dv d P → Dv d (D P) → Dv d G) {h : QP} (i : Irr h) : (Dv h P → Dv h F) ∧ ¬ Dv (h * h) F := by
  obtain ⟨n, hn⟩ := ex_dg hP
  obtain ⟨e, m, he, hm⟩ := p7_ i n P hn
  cases e with
  | zero =>
    have hnP : ¬ Dv h P := fun hd => hm (by rw [he] at hd; rwa [show pow h 0 * m = m from es_ m] at hd)
    refine ⟨fun hd => absurd hd hnP, fun hd => hnP ?_⟩
    rw [hF]
    exact ((show Dv h (h * h) from ⟨h, rfl⟩).trans hd).mul_l G
  | succ e =>
    have e1 : ((e + 1 : Nat) : Rat) ≠ 0 := fun x => by
      have : ((e + 1 : Nat) : Rat) = ((0 : Nat) : Rat) := x
      rw [Rat.natCast_inj] at this
      omega
    have hK : ¬ Dv h (C ((e + 1 : Nat) : Rat) * (D h * m) + h * D m) := fun hd => by
      have h1 : Dv h (C ((e + 1 : Nat) : Rat) * (D h * m)) := by
        obtain ⟨x, hx⟩ := hd
        refine ⟨x + C (-1) * D m, ?_⟩
        rw [mul_add', ← hx, lc' h]
        exact ex fun k => by simp only [add_c, C_mul]; grind
      rcases i.prime (h1.scale e1) with h2 | h2
      · exact i.nD h2
      · exact hm h2
    have hDP : D P = pow h e * (C ((e + 1 : Nat) : Rat) * (D h * m) + h * D m) := by rw [he, D_pow]
    have hPe : P = pow h e * (h * m) := by rw [he]; show h * pow h e * m = _; rw [cq_ h, mul_assoc']
    obtain ⟨G1, hG1⟩ := hG (pow h e) ⟨_, hPe⟩ ⟨_, hDP⟩
    have p0 := o3_ i.ne e
    have nG : ¬ Dv h G1 := fun hd => hK (by
      refine Dv.cancel p0 ?_
      rw [← hDP]
      refine Dv.trans (Dv.both _ hd) ?_
      rw [← hG1]; exact hD)
    have hmF : h * m = G1 * F := mul_can p0 (by rw [← hPe, hF, hG1, mul_assoc'])
    have hF1 : Dv h F := by
      rcases i.prime (show Dv h (G1 * F) from ⟨m, hmF.symm⟩) with h1 | h1
      · exact absurd h1 nG
      · exact h1
    refine ⟨fun _ => hF1, fun hd => ?_⟩
    obtain ⟨F2, hF2⟩ := hd
    refine hm ⟨G1 * F2, mul_can i.ne ?_⟩
    rw [hmF, hF2, mul_assoc', lc' G1, lc' G1]
theorem sqf_dvd {F G : QP} (h0 : F ≠ C 0) (hs : ∀ h, Irr h → ¬ Dv (h * h) F) (hd : ∀ h, Irr h → Dv h F → Dv h G) : Dv F G := by
  obtain ⟨g, u, v, h1, h2, h3⟩ := bezout F G
  obtain ⟨x, hx⟩ := h2
  have x0 : x ≠ C 0 := fun e => h0 (by rw [hx, e, mul_zero'])
  obtain ⟨l, hl⟩ := ex_dg x0
  cases l with
  | zero =>
    have : F = C (x.c 0) * g := by rw [cq_, ← dg_C hl]; exact hx
    rw [this]
    exact (C_dv hl.1 g).trans h3
  | succ l =>
    obtain ⟨h, hi, hh⟩ := mY_ _ x hl (by omega)
    have hF : Dv h F := by rw [hx]; exact hh.mul_l g
    have hg : Dv h g := by rw [h1]; exact (hF.mul_l u).add ((hd h hi hF).mul_l v)
    obtain ⟨y, hy⟩ := hg
    obtain ⟨z, hz⟩ := hh
    exact absurd ⟨y * z, by rw [hx, hy, hz, mul_assoc', mul_assoc', lc' y]⟩ (hs h hi)
theorem dvd_pow {P F : QP} (hd : ∀ h, Irr h → Dv h P → Dv h F) : ∀ (n : Nat) (R : QP), Dg R n → Dv R P → Dv R (pow F n) := by
  intro n
  induction n using Nat.strongRecOn with
  | _ n ih =>
    intro R hR hP
    cases n with
    | zero => exact qQ_ hR _
    | succ n =>
      obtain ⟨h, hi, hh⟩ := mY_ _ R hR (by omega)
      obtain ⟨x, hx⟩ := hh
      have x0 : x ≠ C 0 := fun e => hR.ne (by rw [hx, e, mul_zero'])
      obtain ⟨l, hl⟩ := ex_dg x0
      have hi' := hi
      obtain ⟨k, hk, hdk, _⟩ := hi'
      have hs := (hdk.mul hl).un (hx ▸ hR)
      have h1 := ih l (by omega) x hl ((show Dv x R from ⟨h, by rw [hx, cq_]⟩).trans hP)
      have h2 : Dv h F := hd h hi ((show Dv h R from ⟨x, hx⟩).trans hP)
      obtain ⟨y, hy⟩ := h2
      obtain ⟨z, hz⟩ := h1
      rw [hx, show n + 1 = 1 + l + (n - l) by omega, pow_add, pow_add]
      refine Dv.mul ⟨y * z, ?_⟩ _
      show F * C 1 * pow F l = _
      rw [mul_one', hz, mul_assoc', lc' x]
      conv => lhs; rw [hy]
      rw [mul_assoc']
theorem sqf_co {F : QP} (hs : ∀ h, Irr h → ¬ Dv (h * h) F) {d : QP} {n : Nat} (h1 : Dv d F) (h2 : Dv d (D F)) (hd : Dg d n) : n = 0 := by
  cases n with
  | zero => rfl
  | succ n =>
    obtain ⟨h, hi, hh⟩ := mY_ _ d hd (by omega)
    obtain ⟨x, hx⟩ := hh.trans h1
    obtain ⟨y, hy⟩ := hh.trans h2
    have : Dv h (D h * x) := by
      refine ⟨y + C (-1) * D x, ?_⟩
      have e : D F = D h * x + h * D x := by rw [hx, D_mul]
      rw [mul_add', ← hy, lc' h, e]
      exact ex fun k => by simp only [add_c, C_mul]; grind
    rcases hi.prime this with h3 | h3
    · exact absurd h3 hi.nD
    · obtain ⟨z, hz⟩ := h3
      exact absurd ⟨z, by rw [hx, hz, mul_assoc']⟩ (hs h hi)
end QP
end Go.Num

