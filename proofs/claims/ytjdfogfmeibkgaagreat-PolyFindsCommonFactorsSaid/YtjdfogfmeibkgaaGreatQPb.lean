/- The statements about vectors, of the plain functions that the program and the reference compute. No program stands in it. Polynomials: the program's and the reference's sums, products, remainders; remainders get shorter. No program stands in it. Walks: what these functions return. -/
import Derived.Test.YtjdfogfmeibkgaaGreatQGE
import Derived.KernelRfl
import Derived.Test.YtjdfogfmeibkgaaGreatQFp
import Derived.Test.YtjdfogfmeibkgaaGreatQYl
import Derived.Test.YtjdfogfmeibkgaaGreatQSa

set_option linter.unusedVariables false
set_option linter.unusedSimpArgs false
namespace Go.Num
open Go Go.Kn
theorem Z.cases (z : Z) : z = Z.bad ∨ ∃ v : Int, v.natAbs < 4294967296 ^ 16 ∧ z = Z.of v ∧ z.o = some v := by
  cases h : z.o with
  | none => exact .inl (Z.eq_bad h)
  | some v => exact .inr ⟨v, z.h v h, Z.eq_of h, rfl⟩
theorem Z.zero_add (z : Z) : Z.add (Z.of 0) z = z := by
  rcases Z.cases z with rfl | ⟨v, _, rfl, hv⟩
  · rfl
  · rw [Z.add, bp_ (Z.of_some (by decide)) hv, Int.zero_add]
theorem W.ext {a b : W} (h : a.1 = b.1) : a = b := Subtype.ext h
theorem sign0 (z : Z) : ((Z.signW z).1 == 0) = decide (z.sign = 0) := by
  show (z.sign == 0) = _
  rfl
/-- What Primitive returns if all goes well. -/
structure PrimOk (a : A3 I) (p : A3 W) (x y z g : Int) : Prop where
  ax : a.x.dec.o = some x
  ay : a.y.dec.o = some y
  az : a.z.dec.o = some z
  gd : g = ((Int.gcd (Int.gcd (Int.gcd 0 x : Nat) y : Nat) z : Nat) : Int)
  g0 : 0 < g
  px : g * p.x.1 = x
  py : g * p.y.1 = y
  pz : g * p.z.1 = z
  bx : -2305843009213693952 < p.x.1 ∧ p.x.1 < 2305843009213693952
  bY : -2305843009213693952 < p.y.1 ∧ p.y.1 < 2305843009213693952
  bz : -2305843009213693952 < p.z.1 ∧ p.z.1 < 2305843009213693952
theorem ir_ {x g : Int} (h : g ∣ x) : g * x.fdiv g = x := Int.mul_fdiv_cancel' h
def Z.Is (z : Z) (v : Int) : Prop := z.o = none ∨ z.o = some v
theorem is_of (v : Int) : (Z.of v).Is v := by unfold Z.Is; rw [Z.of_o]; split <;> simp
theorem k7_ {f : Int → Int → Int} {a b : Z} {x y : Int} (ha : a.Is x) (hb : b.Is y) : (lift2 (fun x y => Z.of (f x y)) a b).Is (f x y) := by
  rcases ha with ha | ha
  · left; rw [dP_ (.inl ha)]; rfl
  · rcases hb with hb | hb
    · left; rw [dP_ (.inr hb)]; rfl
    · rw [bp_ ha hb]; exact is_of _
theorem qN_ {a b : Z} {x y : Int} (ha : a.Is x) (hb : b.Is y) : (Z.add a b).Is (x + y) := k7_ ha hb
theorem jI_ {a b : Z} {x y : Int} (ha : a.Is x) (hb : b.Is y) : (Z.mul a b).Is (x * y) := k7_ ha hb
theorem qB_ {a : Z} {x : Int} (ha : a.Is x) : (Z.neg a).Is (-x) := by
  rcases ha with ha | ha
  · left; rw [Z.neg, fG_ ha]; rfl
  · rw [Z.neg, df_ ha]; exact is_of _
theorem pa_ {a b : Z} {x y : Int} (ha : a.Is x) (hb : b.Is y) : (Z.sub a b).Is (x - y) := by
  rw [Int.sub_eq_add_neg]; exact qN_ ha (qB_ hb)
theorem Z.Is.sign {z : Z} {v : Int} (h : z.Is v) : z.o = none ∨ z.sign = v.sign := by
  rcases h with h | h
  · exact .inl h
  · right; unfold Z.sign; rw [h]
theorem Z.Is.sign0 {z : Z} (h : z.Is 0) : z.sign = 0 := by
  unfold Z.sign; rcases h with h | h <;> rw [h] <;> rfl
/-- z is the number v, of less than 2^k in absolute value. -/
structure Fit (z : Z) (v : Int) (k : Nat) : Prop where
  eq : z = Z.of v
  lt : v.natAbs < 2 ^ k
theorem p512 {k : Nat} (hk : k ≤ 511) {n : Nat} (h : n < 2 ^ k) : n < 4294967296 ^ 16 := by
  have e : (2 : Nat) ^ (32 * 16) = (2 ^ 32) ^ 16 := Nat.pow_mul 2 32 16
  exact Nat.lt_of_lt_of_le h (Nat.le_trans (Nat.pow_le_pow_right (by decide) (show k ≤ 32 * 16 by omega)) (Nat.le_of_eq e))
theorem Fit.o {z : Z} {v : Int} {k : Nat} (h : Fit z v k) (hk : k ≤ 511) : z.o = some v := by rw [h.eq]; exact Z.of_some (p512 hk h.lt)
theorem Fit.mono {z : Z} {v : Int} {k k' : Nat} (h : Fit z v k) (hk : k ≤ k') : Fit z v k' := ⟨h.eq, Nat.lt_of_lt_of_le h.lt (Nat.pow_le_pow_right (by decide) hk)⟩
theorem Fit.mul {a b : Z} {x y : Int} {k l : Nat} (ha : Fit a x k) (hb : Fit b y l) (hk : k ≤ 511 ∧ l ≤ 511) : Fit (Z.mul a b) (x * y) (k + l) :=
  ⟨by rw [Z.mul, bp_ (ha.o hk.1) (hb.o hk.2)], by rw [Int.natAbs_mul, Nat.pow_add]; exact Nat.mul_lt_mul_of_lt_of_lt ha.lt hb.lt⟩
theorem Fit.add {a b : Z} {x y : Int} {k l : Nat} (ha : Fit a x k) (hb : Fit b y l) (hk : k ≤ 511 ∧ l ≤ 511) : Fit (Z.add a b) (x + y) (max k l + 1) := by
  refine ⟨by rw [Z.add, bp_ (ha.o hk.1) (hb.o hk.2)], ?_⟩
  have h1 := (ha.mono (Nat.le_max_left k l)).lt
  have h2 := (hb.mono (Nat.le_max_right k l)).lt
  rw [Nat.pow_succ]; omega
theorem Fit.neg {a : Z} {x : Int} {k : Nat} (ha : Fit a x k) (hk : k ≤ 511) : Fit (Z.neg a) (-x) k := ⟨by rw [Z.neg, df_ (ha.o hk)], by rw [Int.natAbs_neg]; exact ha.lt⟩
theorem Fit.sub {a b : Z} {x y : Int} {k l : Nat} (ha : Fit a x k) (hb : Fit b y l) (hk : k ≤ 511 ∧ l ≤ 511) : Fit (Z.sub a b) (x - y) (max k l + 1) := by
  rw [Int.sub_eq_add_neg]; exact ha.add (hb.neg hk.2) hk
theorem Fit.sign {z : Z} {v : Int} {k : Nat} (h : Fit z v k) (hk : k ≤ 511) : z.sign = v.sign := by unfold Z.sign; rw [h.o hk]
end Go.Num


set_option linter.unusedVariables false
set_option linter.unusedSimpArgs false
namespace Go.Num
open Go Go.Kn
theorem is_ (l : List I) (f : I → Bool) : ∀ (k i : Nat), l.length - i < k → (∃ j : Nat, j < l.length ∧ bU_ l f k i = .inr (W.cv (j : Int)) ∧ (l.drop i).any f = true) ∨ (∃ j, bU_ l f k i = .inl j ∧ (l.drop i).any f = false)
  | 0, i, h => absurd h (Nat.not_lt_zero _)
  | k + 1, i, h => by
    unfold bU_
    by_cases hi : i < l.length
    · rw [decide_eq_true (by omega), cond_true, gN_ l hi, List.any_cons]
      cases hf : f (l.getD i I0)
      · simp only [cond_false, Bool.false_or]
        exact is_ l f k (i + 1) (by omega)
      · exact .inl ⟨i, hi, rfl, rfl⟩
    · rw [decide_eq_false (by omega), cond_false, List.drop_of_length_le (by omega)]
      exact .inr ⟨i, rfl, rfl⟩
theorem j7_ (l : List I) (f : I → Bool) (hl : l.length ≤ 1000) : do_ l f = l.any f := by
  unfold do_ dV_
  rcases is_ l f (l.length + 1) 0 (by omega) with ⟨j, hj, h1, h2⟩ | ⟨j, h1, h2⟩
  · rw [h1]
    show decide (0 ≤ (W.cv (j : Int)).1) = _
    rw [cvE (by omega), decide_eq_true (by omega)]
    rw [List.drop_zero] at h2; exact h2.symm
  · rw [h1]
    rw [List.drop_zero] at h2; rw [h2]; rfl
theorem pJ_ (l : List I) : (l.any fun y => !gdI y) = !l.all gdI := by
  induction l with
  | nil => rfl
  | cons x l ih =>
    rw [List.any_cons, List.all_cons, ih]
    cases gdI x <;> rfl
theorem fB_ {p : List I} (h : p.length ≤ 1000) : ae_ p = !p.all gdI := by
  unfold ae_
  rw [j7_ _ _ h]; exact pJ_ p
theorem h8_ (p : List I) : ∀ (k i : Nat), p.length - i < k → (∃ j, aZ_ p k i = .inl j ∧ (p.drop i).all gdI = true) ∨ (aZ_ p k i = .inr true ∧ (p.drop i).all gdI = false)
  | 0, i, h => absurd h (Nat.not_lt_zero _)
  | k + 1, i, h => by
    unfold aZ_
    by_cases hi : i < p.length
    · rw [decide_eq_true (by omega), cond_true, gN_ p hi, List.all_cons]
      show (∃ j, (bif gdI (p.getD i I0) then _ else _) = _ ∧ _) ∨ ((bif gdI (p.getD i I0) then _ else _) = _ ∧ _)
      cases gdI (p.getD i I0)
      · exact .inr ⟨rfl, rfl⟩
      · simp only [cond_true, Bool.true_and]
        exact h8_ p k (i + 1) (by omega)
    · rw [decide_eq_false (by omega), cond_false, List.drop_of_length_le (by omega)]
      exact .inl ⟨i, rfl, rfl⟩
theorem pE_ (p : List I) : bf_ p = !p.all gdI := by
  unfold bf_
  rcases h8_ p (p.length + 1) 0 (by omega) with ⟨j, h1, h2⟩ | ⟨h1, h2⟩
  · rw [h1]; rw [List.drop_zero] at h2; rw [h2]; rfl
  · rw [h1]; rw [List.drop_zero] at h2; rw [h2]; rfl
theorem dW_ {l : List I} {k : Nat} (h : l.length ≤ k) : l.getD k I0 = I0 := by simp [List.getD, List.getElem?_eq_none h]
theorem jx_ (p : List I) (k : Nat) : aD_ p (k : Int) = p.getD k I0 := by
  unfold aD_
  rw [decide_eq_false (by omega), Bool.false_or, Int.toNat_natCast]
  by_cases h : p.length ≤ k
  · rw [decide_eq_true (by omega), cond_true, dW_ h]
  · rw [decide_eq_false (by omega), cond_false]
theorem gU_ {p q : List I} (f : I → I → I) (hp : p.length ≤ 1000) (hq : q.length ≤ 1000) : bl_ p q f = bif (p.all gdI && q.all gdI) then mkP ((List.range (max p.length q.length)).map fun k => f (p.getD k I0) (q.getD k I0)) else badp := by
  unfold bl_
  rw [fB_ hp, fB_ hq, eJ_, Int.toNat_natCast]
  have e : ((List.range (max p.length q.length)).map fun j => by_ (dd_ j f p q)) = (List.range (max p.length q.length)).map fun k => f (p.getD k I0) (q.getD k I0) := List.map_congr_left fun k _ => by
    show f (aD_ p (k : Int)) (aD_ q (k : Int)) = _
    rw [jx_, jx_]
  rw [e]
  cases p.all gdI <;> cases q.all gdI <;> rfl
theorem ew_ (t : List I) (k j : Nat) (x : I) (h : j ≠ k) : (t.set k x).getD j I0 = t.getD j I0 := by
  simp [List.getD, List.getElem?_set_ne (Ne.symm h)]
theorem dx_ (t : List I) (k : Nat) (x : I) (h : k < t.length) : (t.set k x).getD k I0 = x := by
  simp [List.getD, List.getElem?_set_self h]
theorem zr_is {x : I} (h : x.dec.Is 0) : zrI x = true := by
  unfold zrI
  have := h.sign0
  show (x.dec.sign == 0) = true
  rw [this]; rfl
theorem is_zr {x : I} (h : zrI x = true) : x.dec.Is 0 := by
  have h1 : x.dec.sign = 0 := by unfold zrI at h; exact (by simpa using h : (Z.signW x.dec).1 = 0)
  cases ho : x.dec.o with
  | none => exact .inl ho
  | some v =>
    unfold Z.sign at h1
    rw [ho] at h1
    have : v = 0 := Int.sign_eq_zero_iff_zero.1 h1
    rw [this] at ho; exact .inr ho
theorem zr0 : zrI I0 = true := by decide +kernel
theorem mK_ (z : Z) : ∃ v : Int, z.Is v := by
  cases h : z.o with
  | none => exact ⟨0, .inl h⟩
  | some v => exact ⟨v, .inr h⟩
theorem ov_ {z : Z} {v : Int} (h : z.Is v) : (Z.abs z).Is (v.natAbs : Int) := by
  rcases h with h | h
  · left; rw [Z.abs, fG_ h]; rfl
  · rw [Z.abs, df_ h]; exact is_of _
/-- All elements from n on are zero. -/
def ZFrom (n : Nat) (r : List I) : Prop := ∀ j : Nat, n ≤ j → zrI (r.getD j I0) = true
theorem f8_ {n : Nat} : ∀ (m : Nat) (r : List I), r.length ≤ m → ZFrom n r → (strip r).length ≤ n
  | 0, r, h, _ => by
    have : r = [] := List.eq_nil_of_length_eq_zero (by omega)
    rw [this]; exact Nat.zero_le _
  | m + 1, r, h, hz => by
    by_cases hn : r.length ≤ n
    · exact Nat.le_trans (gD_ r) hn
    · rcases dB_ r with rfl | ⟨s, x, rfl⟩
      · exact Nat.zero_le _
      · simp only [List.length_append, List.length_cons, List.length_nil] at hn h
        have hx := hz s.length (by omega)
        rw [show (s ++ [x]).getD s.length I0 = x by simp] at hx
        rw [dH_, hx, cond_true]
        refine f8_ m s (by omega) (fun j hj => ?_)
        by_cases hjs : j < s.length
        · have := hz j hj
          rwa [show (s ++ [x]).getD j I0 = s.getD j I0 by simp [List.getD, List.getElem?_append_left hjs]] at this
        · rw [dW_ (by omega)]; exact zr0
theorem m2_ {n : Nat} {r : List I} (h : ZFrom n r) : mkP r = badp ∨ (mkP r).length ≤ n := by
  unfold mkP
  cases r.all gdI
  · exact .inl rfl
  · simp only [cond_true]
    split
    · exact .inr (f8_ _ r (Nat.le_refl _) h)
    · exact .inl rfl
/-- What a round makes of an element. -/
def remE (q : List I) (i : Int) (c : I) (k : Nat) (x : I) : I := E (Z.sub (Z.mul (Z.abs (q.getD (q.length - 1) I0).dec) x.dec) (Z.mul c.dec (aD_ q ((k : Int) - i)).dec))
theorem oh_ (q : List I) (i : Int) (c : I) (k : Nat) (x : I) : (remE q i c k x).dec = Z.sub (Z.mul (Z.abs (q.getD (q.length - 1) I0).dec) x.dec) (Z.mul c.dec (aD_ q ((k : Int) - i)).dec) := by
  unfold remE; rw [E_dec]
theorem hR_ (p q r : List I) (i : Int) (c : I) : ∀ (f k : Nat) (t : List I), r.length - k < f → t.length = r.length →
    (∃ t' k', a5_ p q i r c f k t = .inl (k', t') ∧ t'.length = r.length ∧ ∀ j, t'.getD j I0 = if k ≤ j ∧ j < r.length then remE q i c j (t.getD j I0) else t.getD j I0) ∨ a5_ p q i r c f k t = .inr badp
  | 0, k, t, h, _ => absurd h (Nat.not_lt_zero _)
  | f + 1, k, t, h, hl => by
    unfold a5_
    by_cases hk : k < r.length
    · rw [decide_eq_true (by omega), cond_true]
      show (∃ t' k', (bif ((t.set k (remE q i c k (t.getD k I0))).getD k I0).1.bad then _ else a5_ p q i r c f (k + 1) (t.set k (remE q i c k (t.getD k I0)))) = _ ∧ _) ∨ (bif ((t.set k (remE q i c k (t.getD k I0))).getD k I0).1.bad then _ else a5_ p q i r c f (k + 1) (t.set k (remE q i c k (t.getD k I0)))) = _
      cases ((t.set k (remE q i c k (t.getD k I0))).getD k I0).1.bad
      · simp only [cond_false]
        rcases hR_ p q r i c f (k + 1) (t.set k (remE q i c k (t.getD k I0))) (by omega) (by rw [List.length_set]; exact hl) with ⟨t', k', h1, h2, h3⟩ | h1
        · refine .inl ⟨t', k', h1, h2, fun j => ?_⟩
          rw [h3 j]
          by_cases hj : j = k
          · subst hj
            rw [if_neg (by omega), if_pos (by omega), dx_ _ _ _ (by omega)]
          · rw [ew_ _ _ _ _ hj]
            by_cases hj2 : k + 1 ≤ j ∧ j < r.length
            · rw [if_pos hj2, if_pos (by omega)]
            · rw [if_neg hj2, if_neg (by omega)]
        · exact .inr h1
      · exact .inr rfl
    · rw [decide_eq_false (by omega), cond_false]
      exact .inl ⟨t, k, rfl, hl, fun j => by rw [if_neg (by omega)]⟩
theorem mR_ {q r t : List I} {i n : Nat} {c : I} (hn : q.length = n + 1) (hc : c.dec = Z.mul (Z.of (Z.signW (q.getD n I0).dec).1) (r.getD (i + n) I0).dec) (hz : ∀ j, i + n < j → zrI (r.getD j I0) = true)
    (ht : ∀ j, t.getD j I0 = if 0 ≤ j ∧ j < r.length then remE q i c j (r.getD j I0) else r.getD j I0) (j : Nat) (hj : i + n ≤ j) : zrI (t.getD j I0) = true := by
  rw [ht j]
  by_cases hlt : j < r.length
  · rw [if_pos ⟨Nat.zero_le _, hlt⟩]
    refine zr_is ?_
    rw [oh_, hn, Nat.add_sub_cancel]
    obtain ⟨a, ha⟩ := mK_ (q.getD n I0).dec
    by_cases he : j = i + n
    · subst he
      have e1 : aD_ q (((i + n : Nat) : Int) - (i : Int)) = q.getD n I0 := by
        rw [show (((i + n : Nat) : Int) - (i : Int)) = (n : Int) by omega, jx_]
      rw [e1, hc]
      obtain ⟨v, hv⟩ := mK_ (r.getD (i + n) I0).dec
      have hs : (Z.of (Z.signW (q.getD n I0).dec).1).Is (a.sign) ∨ (q.getD n I0).dec.o = none := by
        rcases ha with h | h
        · exact .inr h
        · left
          have : (Z.signW (q.getD n I0).dec).1 = a.sign := by show (q.getD n I0).dec.sign = _; unfold Z.sign; rw [h]
          rw [this]; exact is_of _
      rcases hs with hs | hs
      · have h1 := pa_ (jI_ (ov_ ha) hv) (jI_ (jI_ hs hv) ha)
        have e2 : (a.natAbs : Int) * v - a.sign * v * a = 0 := by
          have h3 : a.sign * a = (a.natAbs : Int) := by rcases Int.lt_trichotomy a 0 with h | h | h <;> first | (rw [Int.sign_eq_neg_one_of_neg h]; omega) | (rw [Int.sign_eq_one_of_pos h]; omega) | (subst h; rfl)
          have h4 : a.sign * v * a = (a.sign * a) * v := by rw [Int.mul_assoc, Int.mul_comm v a, Int.mul_assoc]
          rw [h4, h3]; omega
        rw [e2] at h1; exact h1
      · left
        have hb : ∀ z : Z, (Z.mul z (q.getD n I0).dec).o = none := fun z => by rw [Z.mul, dP_ (.inr hs)]; rfl
        have h2 := hb (Z.mul (Z.of (Z.signW (q.getD n I0).dec).1) (r.getD (i + n) I0).dec)
        have h3 : (Z.neg (Z.mul (Z.mul (Z.of (Z.signW (q.getD n I0).dec).1) (r.getD (i + n) I0).dec) (q.getD n I0).dec)).o = none := by rw [Z.neg, fG_ h2]; rfl
        show (Z.add _ (Z.neg _)).o = none
        rw [Z.add, dP_ (.inr h3)]; rfl
    · have hzj := is_zr (hz j (by omega))
      have e1 : aD_ q ((j : Int) - (i : Int)) = I0 := by
        unfold aD_
        rw [decide_eq_true (p := ((q.length : Nat) : Int) ≤ (j : Int) - (i : Int)) (by omega), Bool.or_true, cond_true]
      obtain ⟨w, hw⟩ := mK_ c.dec
      rw [e1]
      have h1 := pa_ (jI_ (ov_ ha) hzj) (jI_ hw (is_zr zr0))
      simpa using h1
  · rw [if_neg (by omega), dW_ (by omega)]; exact zr0
theorem kO_ (p q : List I) {n : Nat} (hn : q.length = n + 1) : ∀ (f : Nat) (i : Int) (r : List I), (i + 1).toNat < f → (∀ j : Nat, n ≤ j → i + n < (j : Int) → zrI (r.getD j I0) = true) →
    (∃ i' r', aP_ p q f i r = .inl (i', r') ∧ ZFrom n r') ∨ aP_ p q f i r = .inr badp
  | 0, i, r, h, _ => absurd h (Nat.not_lt_zero _)
  | f + 1, i, r, h, hz => by
    unfold aP_
    by_cases hi : 0 ≤ i
    · obtain ⟨m, rfl⟩ : ∃ m : Nat, i = (m : Int) := ⟨i.toNat, by omega⟩
      rw [decide_eq_true hi, cond_true]
      simp only
      rcases hR_ p q r (m : Int) (E (Z.mul (Z.of (Z.signW (q.getD (q.length - 1) I0).dec).1) (r.getD ((m : Int).toNat + (q.length - 1)) I0).dec)) (r.length + 1) 0 r (by omega) rfl with ⟨t', k', h1, h2, h3⟩ | h1
      · rw [h1]
        refine kO_ p q hn f ((m : Int) - 1) t' (by omega) (fun j hj1 hj2 => ?_)
        refine mR_ (i := m) hn ?_ (fun j' hj' => hz j' (by omega) (by omega)) h3 j (by omega)
        rw [E_dec, hn, Nat.add_sub_cancel, Int.toNat_natCast]
      · rw [h1]; exact .inr rfl
    · rw [decide_eq_false hi, cond_false]
      exact .inl ⟨i, r, rfl, fun j hj => hz j hj (by omega)⟩
theorem kf_ (l : List I) : ak_ l = mkP l := by
  unfold ak_
  rw [eJ_, Int.toNat_natCast]
  congr 1
  refine List.ext_getElem? fun k => ?_
  by_cases h : k < l.length
  · simp [h, by_, di_]
  · simp [h]
theorem jo_ (p q : List I) (hq : 0 < q.length) : ao_ p q = badp ∨ (ao_ p q).length < q.length := by
  obtain ⟨n, hn⟩ : ∃ n, q.length = n + 1 := ⟨q.length - 1, by omega⟩
  unfold ao_
  cases (ae_ p || (ae_ q || (((q.length : Nat) : Int) == 0)))
  · simp only [cond_false]
    rcases kO_ p q hn (p.length + 1) (((p.length : Nat) : Int) - 1 - (((q.length : Nat) : Int) - 1)) ([] ++ p) (by omega) (fun j hj1 hj2 => by rw [List.nil_append, dW_ (by omega)]; exact zr0) with ⟨i', r', h1, h2⟩ | h1
    · rw [h1]
      show ak_ r' = badp ∨ (ak_ r').length < _
      rw [kf_]
      rcases m2_ h2 with h3 | h3
      · exact .inl h3
      · exact .inr (by omega)
    · rw [h1]; exact .inl rfl
  · exact .inl rfl
theorem pp_ (p q : List I) : ∀ (f : Nat) (i : Int) (r : List I) (y : List I), aP_ p q f i r = .inr y → y = badp := by
  intro f
  induction f with
  | zero => intro i r y hy; cases hy
  | succ f ih =>
    intro i r y hy
    unfold aP_ at hy
    cases hd : decide (0 ≤ i)
    · rw [hd] at hy; cases hy
    · rw [hd] at hy
      simp only [cond_true] at hy
      rcases hR_ p q r i (E (Z.mul (Z.of (Z.signW (q.getD (q.length - 1) I0).dec).1) (r.getD (i.toNat + (q.length - 1)) I0).dec)) (r.length + 1) 0 r (by omega) rfl with ⟨t', k', h1, h2, h3⟩ | h1
      · rw [h1] at hy; exact ih _ _ _ hy
      · rw [h1] at hy; exact (Sum.inr.inj hy).symm
theorem cn_ (p q : List I) : (ao_ p q).length ≤ 25 := by
  unfold ao_
  exact eV_ dL_ (qP_ (fun s => cw_ _) (fun r h => pp_ p q _ _ _ _ h))
theorem b3_ : badp.all gdI = false := by decide +kernel
theorem kz_ {l : List I} (h : (mkP l).all gdI = true) : mkP l = strip l := by
  unfold mkP at h ⊢
  cases hl : l.all gdI
  · rw [hl] at h; rw [cond_false, b3_] at h; cases h
  · simp only [hl, cond_true] at h ⊢
    split
    · rfl
    · rename_i hs; rw [if_neg hs, b3_] at h; cases h
theorem hc_ {p : List I} (hp : p.length ≤ 1000) (h : (ab_ p).all gdI = true) : p.all gdI = true ∧ (ab_ p).length ≤ p.length := by
  unfold ab_ at h ⊢
  rw [gU_ _ hp (by decide)] at h ⊢
  simp only [List.length_nil, Nat.max_zero, List.all_nil, Bool.and_true] at h ⊢
  cases hg : p.all gdI
  · rw [hg, cond_false, b3_] at h; cases h
  · rw [hg] at h
    simp only [cond_true] at h ⊢
    rw [kz_ h]
    refine ⟨trivial, Nat.le_trans (gD_ _) ?_⟩
    simp
theorem kh_ {a b : List I} (hl : a.length ≤ 25 ∧ b.length ≤ 25) (h : (ae_ a || ae_ b) = false) (h0 : decide (0 < ((b.length : Nat) : Int)) = true) : gmP (ab_ (ao_ a b)) < gmP b := by
  have hb := (Bool.or_eq_false_iff.1 h).2
  rw [fB_ (by omega)] at hb
  have hbg : b.all gdI = true := by simpa using hb
  have hpos := of_decide_eq_true h0
  have e1 : gmP b = 2 * b.length := by unfold gmP; rw [hbg]; rfl
  rw [e1]
  unfold gmP
  cases hg : (ab_ (ao_ a b)).all gdI
  · rw [cond_false]; omega
  · rw [cond_true]
    have h1 := cn_ a b
    obtain ⟨h2, h3⟩ := hc_ (by omega) hg
    rcases jo_ a b (by omega) with h4 | h4
    · rw [h4, b3_] at h2; cases h2
    · omega
end Go.Num

namespace Go.Proofs.YtjdfogfmeibkgaaGreat
open Go.Kn Go.Num
set_option linter.unusedVariables false
set_option linter.unusedSimpArgs false
set_option maxRecDepth 20000
set_option maxHeartbeats 8000000
theorem fu_ (va : Value) (n k : Nat) (hk : k ≤ 1000000) (w : World) (hva : Sl w va (dl n)) :
    Calls Tryz.prog 126 [va, .int .i64 (k : Int)].toArray w (fun e w' => e = .returned (.int .i64 ((n / 2 ^ k % 2 : Nat) : Int)) ∧ Ext w w') := by
 refine aU_ (N := 13) Tryz.func126 rfl rfl (by simp) ?_
 obtain ⟨w0, rfl⟩ : ∃ w0, w0 = w := ⟨_, rfl⟩
 simp only [initF, Nat.reduceAdd]
 refine Sq fun K1 J1 => Rk fun K J => sE rfl (nl J (J1 _ _ (Sq fun K2 J2 => Rk fun K J => sE rfl (sE rfl (sQ (q_as (q_quo rfl rfl (by decide)) (congrArg (Value.int .i64) (shq 16 (by decide) (by omega)))) rfl (sQ (q_as (aH_ m1_ rfl (fun w hw => cR_ va (dl n) (k / 16) w (SL.sl (M := _) hva.old hw))) (congrArg (fun z : Nat => Value.int .i64 (z : Int)) (km_ n (k / 16)))) rfl (sE rfl (sQ (q_as (q_rem rfl rfl (by decide)) (congrArg (Value.int .i64) (shr 16 k))) rfl (sQ (q_shr rfl rfl (Int.natCast_nonneg _)) rfl (sQ (q_as (q_rem rfl rfl (by decide)) (congrArg (Value.int .i64) (p3_ n k))) rfl (sE rfl (nl J (J2 _ _ (W_ret (ret1 rfl (.inr rfl) rfl ?_)))))))))))))))
 exact rfl

theorem fq_ (a : R) (ha : a.Ok) :
    Ret Tryz.prog 75 [RV a] (.int .i64 ((a.dec.bits : Nat) : Int)) := by
 refine aM_ (N := 25) Tryz.func75 rfl rfl (by simp) (fun w0 => ?_)
 simp only [initF, Nat.reduceAdd]
 refine Sq fun K1 J1 => Rk fun K J => WL_r rfl (r_box rfl rfl (fun b1 hb1 => sE rfl (nl J (J1 _ _ (Sq fun K2 J2 => Sq fun K3 J3 => Rk fun K J => sQ (aG_ ty_38 rfl (by repeat (first | exact .head _ | apply List.mem_append_right | apply List.Mem.tail)) (a0_ ha)) rfl ?_)))))
 refine sQ (q_ret oV_ (dS_ a ha) rfl) rfl (sE rfl (nl J (J3 _ _ ?_)))
 refine be_ _ rfl (fun hg => ?_) (fun hg => ?_)
 ·(try simp only [decide_eq_true_eq, decide_eq_false_iff_not, beq_iff_eq, bne_iff_ne, beq_eq_false_iff_ne, bne_eq_false_iff_eq, Bool.not_eq_true', Bool.not_eq_false'] at hg)
  refine Sq fun K4 J4 => Rk fun K J => sE rfl (nl J (J4 _ _ (W_ret (aj_ (ret1 rfl (.inr rfl) rfl ?_)))))
  exact congrArg (fun z : Nat => Value.int .i64 (z : Int)) (nQ_ (by simpa using hg)).symm
 ·(try simp only [decide_eq_true_eq, decide_eq_false_iff_not, beq_iff_eq, bne_iff_ne, beq_eq_false_iff_ne, bne_eq_false_iff_eq, Bool.not_eq_true', Bool.not_eq_false'] at hg)
  refine am_ (J2 _ _ (Sq fun K5 J5 => Rk fun K J => sQ (aG_ ty_38 rfl (by repeat (first | exact .head _ | apply List.mem_append_right | apply List.Mem.tail)) (a0_ ha)) rfl ?_))
  refine WL_r rfl (hU_ oW_ rfl (fun w hw => dD_ a ha w) (fun v L hv => sE rfl (nl J (J5 _ _ (Sq fun K6 J6 => ?_)))))
  have hl32 : (dl (val a.w)).length ≤ 32 := kU_ (by rw [← or_]; have := fX_ a.w ha.lim; rwa [ha.len] at this)
  refine Rk fun K J => sE rfl (sQ (gx_ sl_70 rfl (SL.sub hv.sl (List.sublist_append_left _ _))) rfl (sQ (q_as (q_mul rfl rfl) (congrArg (Value.int .i64) (mul16 (Nat.le_trans hl32 (by decide))))) rfl (sE rfl (nl J (J6 _ _ (Sq fun K7 J7 => aq_ ?_))))))
  refine aL_ [4, 13, 14, 15, 16, 17, 18, 19, 20, 21, 22, 23] (fun g nn M => ∃ (k : Nat), (g 4 = .int .i64 (k : Int)) ∧ M = L ++ [⟨b1, 38, a.cells⟩] ∧ nn = k + 0 ∧ (k ≤ 16 * (dl (val a.w)).length ∧ val a.w < 2 ^ k)) (16 * (dl (val a.w)).length) ?start ?round
  case start =>
   refine ⟨_, (List.Sublist.refl _), 16 * (dl (val a.w)).length, ?a4, ?mem0, rfl, ⟨Nat.le_refl _, lK_ _⟩⟩
   case mem0 => rfl
   case a4 => rfl
  case round =>
   rintro nn g M ⟨k, hg4, rfl, hmeas, ⟨hk, hlt⟩⟩
   subst nn
   simp only [setG, hg4]
   clear hg4
   refine Sq fun K8 J8 => Sq fun K9 J9 => Rk fun K J => sE rfl (sE rfl (sE rfl ?_))
   cases hz : decide ((0 : Int) < (k : Int))
   ·skip
    refine WL_n rfl (WL_n rfl (WL_n rfl (WL_n rfl (WL_n rfl (sE rfl (nl J (J9 _ _ (dw_ rfl (bw_ (ap_ (ap_ (as_ (J7 _ _ (Sq fun K10 J10 => Rk fun K J => sE rfl (sE rfl (nl J (J10 _ _ (W_ret (ret1 rfl (.inr rfl) rfl ?_)))))))))))))))))))
    exact congrArg (fun z : Nat => Value.int .i64 (z : Int)) (pX_ ha (by simpa using hg) hlt (by have := of_decide_eq_false hz; omega)).symm
   ·skip
    have hz' := of_decide_eq_true hz
    obtain ⟨m, rfl⟩ : ∃ m, k = m + 1 := ⟨k - 1, by omega⟩
    refine sE rfl (sE rfl (sQ (q_as (q_sub rfl rfl) (congrArg (Value.int .i64) (fQ_ (by omega)))) rfl (sQ (aH_ qF_ rfl (fun w hw => fu_ v (val a.w) m (by omega) w (SL.sl (SL.sub hv.sl (List.sublist_append_left _ _)) hw))) rfl (sE rfl (sE rfl (nl J (J9 _ _ ?_)))))))
    refine be_ _ rfl (fun h0 => ?_) (fun h0 => ?_)
    ·(try simp only [decide_eq_true_eq, decide_eq_false_iff_not, beq_iff_eq, bne_iff_ne, beq_eq_false_iff_ne, bne_eq_false_iff_eq, Bool.not_eq_true', Bool.not_eq_false'] at h0)
     refine am_ (J8 _ _ (aq_ (Rk fun K J => sE rfl (sQ (q_as (q_sub rfl rfl) (congrArg (Value.int .i64) (fQ_ (by omega)))) rfl (sE rfl (nl J ?_))))))
     refine ⟨(by repeat first | exact .refl | refine .cons rfl ?_), _, _, (List.Sublist.refl _), (by omega), m, ?s4, ?mem, rfl, ⟨by omega, nq_ hlt (by omega)⟩⟩
     case mem => rfl
     case s4 => rfl
    ·(try simp only [decide_eq_true_eq, decide_eq_false_iff_not, beq_iff_eq, bne_iff_ne, beq_eq_false_iff_ne, bne_eq_false_iff_eq, Bool.not_eq_true', Bool.not_eq_false'] at h0)
     refine bw_ (ap_ (ap_ (as_ (J7 _ _ (Sq fun K11 J11 => Rk fun K J => sE rfl (sE rfl (nl J (J11 _ _ (W_ret (ret1 rfl (.inr rfl) rfl ?_))))))))))
     exact congrArg (fun z : Nat => Value.int .i64 (z : Int)) ((jb_ ha (by simpa using hg)).trans (pB_ hlt (by omega))).symm
end Go.Proofs.YtjdfogfmeibkgaaGreat

