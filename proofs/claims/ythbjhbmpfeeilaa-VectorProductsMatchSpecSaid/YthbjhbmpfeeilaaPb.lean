/- The statements about vectors, of the plain functions that the program and the reference compute. No program stands in it. -/
import Derived.Test.YthbjhbmpfeeilaaFn

import Derived.KernelRfl
set_option linter.unusedVariables false
set_option linter.unusedSimpArgs false
namespace Go.Num
open Go Go.Kn
theorem sanity06 : F_skewbacklaw06_sanity = true := by kernel_rfl
theorem Z.cases (z : Z) : z = Z.bad ∨ ∃ v : Int, v.natAbs < 4294967296 ^ 16 ∧ z = Z.of v ∧ z.o = some v := by
  cases h : z.o with
  | none => exact .inl (Z.eq_bad h)
  | some v => exact .inr ⟨v, z.h v h, Z.eq_of h, rfl⟩
theorem Z.zero_add (z : Z) : Z.add (Z.of 0) z = z := by
  rcases Z.cases z with rfl | ⟨v, _, rfl, hv⟩
  · rfl
  · rw [Z.add, lift2_some (Z.of_some (by decide)) hv, Int.zero_add]
theorem dot_eq (a b : A3 I) : F_vector_dot a b = F_skewbackref06_DotOf a b := by
  unfold F_vector_dot F_skewbackref06_DotOf
  simp only [E_dec, Z.zero_add]
theorem numbers_eq (a : A3 W) : F_vector_numbers a = F_skewbackref06_Wide a := rfl
theorem cross_eq (a b : A3 I) : F_vector_cross a b = F_skewbackref06_CrossOf a b := rfl
theorem Dot_eq (a b : A3 W) : F_vector_Dot a b = F_skewbackref06_Dot a b := dot_eq _ _
theorem Cross_eq (a b : A3 W) : F_vector_Cross a b = F_skewbackref06_Cross a b := rfl
theorem VectorProducts_true (a b : A3 W) : F_skewbacklaw06_VectorProductsMatchSpec a b = true := by
  unfold F_skewbacklaw06_VectorProductsMatchSpec
  rw [sanity06, Dot_eq, Cross_eq]; simp
/-! Primitive -/
theorem W.ext {a b : W} (h : a.1 = b.1) : a = b := Subtype.ext h
def okW (z : Z) : Bool := z.small.2 && (!decide (2305843009213693952 ≤ (Z.smallW z).1) && !decide ((Z.smallW z).1 ≤ (-2305843009213693952)))
theorem okW_not (z : Z) : (!z.small.2 || (decide (2305843009213693952 ≤ (Z.smallW z).1) || decide ((Z.smallW z).1 ≤ (-2305843009213693952)))) = !okW z := by
  unfold okW; cases z.small.2 <;> cases decide (2305843009213693952 ≤ (Z.smallW z).1) <;> cases decide ((Z.smallW z).1 ≤ (-2305843009213693952)) <;> rfl
def V0 : A3 W := ⟨wl 0, wl 0, wl 0⟩
def gcd3 (a : A3 I) : Z := Z.gcd (Z.gcd (Z.gcd (Z.of 0) a.x.dec) a.y.dec) a.z.dec
/-- Primitive, told once. -/
def prim (a : A3 I) : A3 W × W :=
  if (gcd3 a).o = none then (V0, wl 30)
  else if (gcd3 a).sign = 0 then (V0, wl 31)
  else if okW (Z.quo a.x.dec (gcd3 a)) && (okW (Z.quo a.y.dec (gcd3 a)) && okW (Z.quo a.z.dec (gcd3 a))) then (⟨Z.smallW (Z.quo a.x.dec (gcd3 a)), Z.smallW (Z.quo a.y.dec (gcd3 a)), Z.smallW (Z.quo a.z.dec (gcd3 a))⟩, wl 0)
  else (V0, wl 30)
theorem E_bad (z : Z) : (E z).1.bad = decide (z.o = none) := by
  show z.enc.bad = _
  unfold Z.enc
  cases h : z.o <;> simp
theorem sign0 (z : Z) : ((Z.signW z).1 == 0) = decide (z.sign = 0) := by
  show (z.sign == 0) = _
  rfl
theorem prog_prim (a : A3 I) : F_vector_Primitive a = prim a := by
  unfold F_vector_Primitive prim
  simp only [E_dec, okW_not, E_bad, sign0]
  show (bif decide ((gcd3 a).o = none) then _ else bif decide ((gcd3 a).sign = 0) then _ else bif !okW (Z.quo a.x.dec (gcd3 a)) then _ else bif !okW (Z.quo a.y.dec (gcd3 a)) then _ else bif !okW (Z.quo a.z.dec (gcd3 a)) then _ else _) = _
  by_cases h1 : (gcd3 a).o = none
  · simp [h1, V0]
  · by_cases h2 : (gcd3 a).sign = 0
    · simp [h1, h2, V0]
    · simp only [h1, h2, decide_false, cond_false, if_false]
      cases okW (Z.quo a.x.dec (gcd3 a)) <;> cases okW (Z.quo a.y.dec (gcd3 a)) <;> cases okW (Z.quo a.z.dec (gcd3 a)) <;> rfl
theorem small06 (a : A3 W) : F_skewbackref06_Small a = (!(decide (2305843009213693952 ≤ a.x.1) || decide (a.x.1 ≤ (-2305843009213693952))) && (!(decide (2305843009213693952 ≤ a.y.1) || decide (a.y.1 ≤ (-2305843009213693952))) && !(decide (2305843009213693952 ≤ a.z.1) || decide (a.z.1 ≤ (-2305843009213693952))))) := by
  unfold F_skewbackref06_Small
  cases (decide (2305843009213693952 ≤ a.x.1) || decide (a.x.1 ≤ (-2305843009213693952))) <;> cases (decide (2305843009213693952 ≤ a.y.1) || decide (a.y.1 ≤ (-2305843009213693952))) <;> cases (decide (2305843009213693952 ≤ a.z.1) || decide (a.z.1 ≤ (-2305843009213693952))) <;> rfl
theorem prim_bool {α : Type} (p1 p2 p3 q1 q2 q3 r1 r2 r3 : Bool) (X Y : α) : (bif p1 then (bif p2 then (bif p3 then (bif (!(q1 || r1) && (!(q2 || r2) && !(q3 || r3))) then X else Y) else Y) else Y) else Y) =
    if ((p1 && (!q1 && !r1)) && ((p2 && (!q2 && !r2)) && (p3 && (!q3 && !r3)))) = true then X else Y := by
  cases p1 <;> cases p2 <;> cases p3 <;> cases q1 <;> cases q2 <;> cases q3 <;> cases r1 <;> cases r2 <;> cases r3 <;> rfl
def mkDir (p : A3 W × W) : Dir := ⟨p.1, p.2⟩
theorem ref_prim (a : A3 I) : F_skewbackref06_Primitive a = mkDir (prim a) := by
  unfold F_skewbackref06_Primitive prim
  simp only [E_dec, E_bad, sign0, small06]
  show (bif decide ((gcd3 a).o = none) then _ else bif decide ((gcd3 a).sign = 0) then _ else bif (Z.quo a.x.dec (gcd3 a)).small.2 then bif (Z.quo a.y.dec (gcd3 a)).small.2 then bif (Z.quo a.z.dec (gcd3 a)).small.2 then _ else _ else _ else _) = _
  by_cases h1 : (gcd3 a).o = none
  · rw [decide_eq_true h1, cond_true, if_pos h1]; rfl
  · by_cases h2 : (gcd3 a).sign = 0
    · rw [decide_eq_false h1, cond_false, decide_eq_true h2, cond_true, if_neg h1, if_pos h2]; rfl
    · rw [decide_eq_false h1, cond_false, decide_eq_false h2, cond_false, if_neg h1, if_neg h2, apply_ite mkDir]
      exact prim_bool _ _ _ _ _ _ _ _ _ _ _
theorem gcd_next {p q : Z} {v : Int} (hp : p.o = some v) (h : (Z.gcd p q).o ≠ none) : ∃ w : Int, q.o = some w ∧ (Z.gcd p q).o = some ((Int.gcd v w : Nat) : Int) := by
  cases hq : q.o with
  | none => rw [Z.gcd, lift2_bad (.inr hq)] at h; exact absurd rfl h
  | some w =>
    rw [Z.gcd, lift2_some hp hq] at h ⊢
    refine ⟨w, rfl, Z.of_some (Classical.byContradiction fun hc => h ?_)⟩
    rw [Z.of_big hc]; rfl
theorem gcd_none {p q : Z} (h : (Z.gcd p q).o ≠ none) : p.o ≠ none := fun hp => by rw [Z.gcd, lift2_bad (.inl hp)] at h; exact h rfl
theorem gcd3_some {a : A3 I} (h : (gcd3 a).o ≠ none) : ∃ x y z : Int, a.x.dec.o = some x ∧ a.y.dec.o = some y ∧ a.z.dec.o = some z ∧ (gcd3 a).o = some ((Int.gcd (Int.gcd (Int.gcd 0 x : Nat) y : Nat) z : Nat) : Int) := by
  obtain ⟨x, hx, h1⟩ := gcd_next (p := Z.of 0) (q := a.x.dec) (Z.of_some (by decide)) (gcd_none (gcd_none h))
  obtain ⟨y, hy, h2⟩ := gcd_next h1 (gcd_none h)
  obtain ⟨z, hz, h3⟩ := gcd_next h2 h
  exact ⟨x, y, z, hx, hy, hz, h3⟩
theorem quo_val {p q : Z} {x g v : Int} (hp : p.o = some x) (hq : q.o = some g) (h0 : g ≠ 0) (h : (Z.quo p q).o = some v) : v = x.fdiv g := by
  rw [Z.quo, lift2_some hp hq, if_neg h0, Z.of_o] at h
  split at h
  · cases h; rfl
  · cases h
theorem okW_val {q : Z} (h : okW q = true) : q.o = some (Z.smallW q).1 ∧ -2305843009213693952 < (Z.smallW q).1 ∧ (Z.smallW q).1 < 2305843009213693952 := by
  unfold okW at h
  simp only [Bool.and_eq_true, Bool.not_eq_true', decide_eq_false_iff_not] at h
  exact ⟨(small_true h.1).1, by omega, by omega⟩
/-- What Primitive returns if all goes well. -/
structure PrimOk (a : A3 I) (p : A3 W) (x y z g : Int) : Prop where
  ax : a.x.dec.o = some x
  ay : a.y.dec.o = some y
  az : a.z.dec.o = some z
  gd : g = ((Int.gcd (Int.gcd (Int.gcd 0 x : Nat) y : Nat) z : Nat) : Int)
  g0 : 0 < g
  px : g * p.x.1 = x
  py : g * p.y.1 = y
  pz : g * p.z.1 = z
  bx : -2305843009213693952 < p.x.1 ∧ p.x.1 < 2305843009213693952
  bY : -2305843009213693952 < p.y.1 ∧ p.y.1 < 2305843009213693952
  bz : -2305843009213693952 < p.z.1 ∧ p.z.1 < 2305843009213693952
theorem fdiv_exact {x g : Int} (h : g ∣ x) : g * x.fdiv g = x := Int.mul_fdiv_cancel' h
theorem prim_ok {a : A3 I} (h : (prim a).2.1 = 0) : ∃ x y z g : Int, PrimOk a (prim a).1 x y z g := by
  unfold prim at h ⊢
  split at h
  · exact absurd h (by decide)
  · rename_i h1
    rw [if_neg h1]
    split at h
    · exact absurd h (by decide)
    · rename_i h2
      rw [if_neg h2]
      split at h
      · rename_i h3
        rw [if_pos h3]
        obtain ⟨x, y, z, hx, hy, hz, hg⟩ := gcd3_some h1
        rw [Bool.and_eq_true, Bool.and_eq_true] at h3
        have k1 := okW_val h3.1; have k2 := okW_val h3.2.1; have k3 := okW_val h3.2.2
        have hg0 := sign_ne hg h2
        have q1 : (Z.smallW (Z.quo a.x.dec (gcd3 a))).1 = x.fdiv ((Int.gcd (Int.gcd (Int.gcd 0 x : Nat) y : Nat) z : Nat) : Int) := quo_val hx hg hg0 k1.1
        have q2 := quo_val hy hg hg0 k2.1
        have q3 := quo_val hz hg hg0 k3.1
        have d3 : ((Int.gcd (Int.gcd (Int.gcd 0 x : Nat) y : Nat) z : Nat) : Int) ∣ z := Int.gcd_dvd_right ..
        have d2 : ((Int.gcd (Int.gcd (Int.gcd 0 x : Nat) y : Nat) z : Nat) : Int) ∣ y := Int.dvd_trans (Int.gcd_dvd_left ..) (Int.gcd_dvd_right ..)
        have d1 : ((Int.gcd (Int.gcd (Int.gcd 0 x : Nat) y : Nat) z : Nat) : Int) ∣ x := Int.dvd_trans (Int.gcd_dvd_left ..) (Int.dvd_trans (Int.gcd_dvd_left ..) (Int.gcd_dvd_right ..))
        exact ⟨x, y, z, _, hx, hy, hz, rfl, by omega, by rw [q1]; exact fdiv_exact d1, by rw [q2]; exact fdiv_exact d2, by rw [q3]; exact fdiv_exact d3, k1.2, k2.2, k3.2⟩
      · exact absurd h (by decide)
/-! sizes -/
def Z.Is (z : Z) (v : Int) : Prop := z.o = none ∨ z.o = some v
theorem is_of (v : Int) : (Z.of v).Is v := by unfold Z.Is; rw [Z.of_o]; split <;> simp
theorem is_some {z : Z} {v : Int} (h : z.o = some v) : z.Is v := .inr h
theorem is_lift2 {f : Int → Int → Int} {a b : Z} {x y : Int} (ha : a.Is x) (hb : b.Is y) : (lift2 (fun x y => Z.of (f x y)) a b).Is (f x y) := by
  rcases ha with ha | ha
  · left; rw [lift2_bad (.inl ha)]; rfl
  · rcases hb with hb | hb
    · left; rw [lift2_bad (.inr hb)]; rfl
    · rw [lift2_some ha hb]; exact is_of _
theorem is_add {a b : Z} {x y : Int} (ha : a.Is x) (hb : b.Is y) : (Z.add a b).Is (x + y) := is_lift2 ha hb
theorem is_mul {a b : Z} {x y : Int} (ha : a.Is x) (hb : b.Is y) : (Z.mul a b).Is (x * y) := is_lift2 ha hb
theorem is_neg {a : Z} {x : Int} (ha : a.Is x) : (Z.neg a).Is (-x) := by
  rcases ha with ha | ha
  · left; rw [Z.neg, lift1_bad ha]; rfl
  · rw [Z.neg, lift1_some ha]; exact is_of _
theorem is_sub {a b : Z} {x y : Int} (ha : a.Is x) (hb : b.Is y) : (Z.sub a b).Is (x - y) := by
  rw [Int.sub_eq_add_neg]; exact is_add ha (is_neg hb)
theorem Z.Is.sign {z : Z} {v : Int} (h : z.Is v) : z.o = none ∨ z.sign = v.sign := by
  rcases h with h | h
  · exact .inl h
  · right; unfold Z.sign; rw [h]
theorem Z.Is.sign0 {z : Z} (h : z.Is 0) : z.sign = 0 := by
  unfold Z.sign; rcases h with h | h <;> rw [h] <;> rfl
/-- z is the number v, of less than 2^k in absolute value. -/
structure Fit (z : Z) (v : Int) (k : Nat) : Prop where
  eq : z = Z.of v
  lt : v.natAbs < 2 ^ k
theorem p512 {k : Nat} (hk : k ≤ 511) {n : Nat} (h : n < 2 ^ k) : n < 4294967296 ^ 16 := by
  have e : (2 : Nat) ^ (32 * 16) = (2 ^ 32) ^ 16 := Nat.pow_mul 2 32 16
  exact Nat.lt_of_lt_of_le h (Nat.le_trans (Nat.pow_le_pow_right (by decide) (show k ≤ 32 * 16 by omega)) (Nat.le_of_eq e))
theorem Fit.o {z : Z} {v : Int} {k : Nat} (h : Fit z v k) (hk : k ≤ 511) : z.o = some v := by rw [h.eq]; exact Z.of_some (p512 hk h.lt)
theorem Fit.mono {z : Z} {v : Int} {k k' : Nat} (h : Fit z v k) (hk : k ≤ k') : Fit z v k' := ⟨h.eq, Nat.lt_of_lt_of_le h.lt (Nat.pow_le_pow_right (by decide) hk)⟩
theorem Fit.mul {a b : Z} {x y : Int} {k l : Nat} (ha : Fit a x k) (hb : Fit b y l) (hk : k ≤ 511 ∧ l ≤ 511) : Fit (Z.mul a b) (x * y) (k + l) :=
  ⟨by rw [Z.mul, lift2_some (ha.o hk.1) (hb.o hk.2)], by rw [Int.natAbs_mul, Nat.pow_add]; exact Nat.mul_lt_mul_of_lt_of_lt ha.lt hb.lt⟩
theorem Fit.add {a b : Z} {x y : Int} {k l : Nat} (ha : Fit a x k) (hb : Fit b y l) (hk : k ≤ 511 ∧ l ≤ 511) : Fit (Z.add a b) (x + y) (max k l + 1) := by
  refine ⟨by rw [Z.add, lift2_some (ha.o hk.1) (hb.o hk.2)], ?_⟩
  have h1 := (ha.mono (Nat.le_max_left k l)).lt
  have h2 := (hb.mono (Nat.le_max_right k l)).lt
  rw [Nat.pow_succ]; omega
theorem Fit.neg {a : Z} {x : Int} {k : Nat} (ha : Fit a x k) (hk : k ≤ 511) : Fit (Z.neg a) (-x) k := ⟨by rw [Z.neg, lift1_some (ha.o hk)], by rw [Int.natAbs_neg]; exact ha.lt⟩
theorem Fit.sub {a b : Z} {x y : Int} {k l : Nat} (ha : Fit a x k) (hb : Fit b y l) (hk : k ≤ 511 ∧ l ≤ 511) : Fit (Z.sub a b) (x - y) (max k l + 1) := by
  rw [Int.sub_eq_add_neg]; exact ha.add (hb.neg hk.2) hk
theorem Fit.sign {z : Z} {v : Int} {k : Nat} (h : Fit z v k) (hk : k ≤ 511) : z.sign = v.sign := by unfold Z.sign; rw [h.o hk]
theorem fitW (w : W) : Fit (Z.of w.1) w.1 64 := ⟨rfl, by have := w.2; unfold I64 at this; omega⟩
theorem fitW' {w : W} (h : -2305843009213693952 < w.1 ∧ w.1 < 2305843009213693952) : Fit (Z.of w.1) w.1 61 := ⟨rfl, by omega⟩
theorem fit0 : Fit (Z.of 0) 0 0 := ⟨rfl, by decide⟩
theorem sq_nn (a : Int) : 0 ≤ a * a := by rcases Int.le_total 0 a with h | h; exact Int.mul_nonneg h h; exact Int.mul_nonneg_of_nonpos_of_nonpos h h
theorem sq_pos1 {a : Int} (h : a ≠ 0) : 0 < a * a := by
  have := sq_nn a
  rcases Int.lt_or_eq_of_le this with h1 | h1
  · exact h1
  · rcases Int.mul_eq_zero.1 h1.symm with h2 | h2 <;> exact absurd h2 h
theorem sq_pos {a b c : Int} (h : ¬ (a = 0 ∧ b = 0 ∧ c = 0)) : 0 < a * a + b * b + c * c := by
  have h1 := sq_nn a; have h2 := sq_nn b; have h3 := sq_nn c
  by_cases ha : a = 0
  · by_cases hb : b = 0
    · have := sq_pos1 (a := c) (fun hc => h ⟨ha, hb, hc⟩); omega
    · have := sq_pos1 hb; omega
  · have := sq_pos1 ha; omega
/-! Primitive again -/
theorem prim_ne {a : A3 I} {p : A3 W} {x y z g : Int} (h : PrimOk a p x y z g) : ¬ (p.x.1 = 0 ∧ p.y.1 = 0 ∧ p.z.1 = 0) := fun ⟨h1, h2, h3⟩ => by
  have hx := h.px; have hy := h.py; have hz := h.pz; have hg := h.gd; have h0 := h.g0
  rw [h1, Int.mul_zero] at hx; rw [h2, Int.mul_zero] at hy; rw [h3, Int.mul_zero] at hz
  subst hx hy hz
  rw [hg] at h0; exact absurd h0 (by decide)
theorem gcd3_one {x y z p q r g : Int} (hg : g = ((Int.gcd (Int.gcd (Int.gcd 0 x : Nat) y : Nat) z : Nat) : Int)) (h0 : 0 < g) (hx : g * p = x) (hy : g * q = y) (hz : g * r = z) :
    Int.gcd (Int.gcd (Int.gcd 0 p : Nat) q : Nat) r = 1 := by
  subst hx hy hz
  have e1 : Int.gcd 0 (g * p) = g.natAbs * Int.gcd 0 p := by simp [Int.natAbs_mul]
  have e2 : ∀ (n : Nat) (m : Int), Int.gcd ((g.natAbs * n : Nat) : Int) (g * m) = g.natAbs * Int.gcd (n : Int) m := fun n m => by
    unfold Int.gcd; rw [Int.natAbs_mul, Int.natAbs_natCast, Int.natAbs_natCast, Nat.gcd_mul_left]
  rw [e1, e2, e2] at hg
  have h1 : g.natAbs * 1 = g.natAbs * Int.gcd (Int.gcd (Int.gcd 0 p : Nat) q : Nat) r := by omega
  exact (Nat.eq_of_mul_eq_mul_left (by omega) h1).symm
theorem okW_of {z : Z} {w : W} (hz : z = Z.of w.1) (h : -2305843009213693952 < w.1 ∧ w.1 < 2305843009213693952) : okW z = true ∧ Z.smallW z = w := by
  have ho : z.o = some w.1 := by rw [hz]; exact (fitW w).o (by decide)
  have hs : z.small = (w.1, true) := by unfold Z.small; rw [ho]; simp only; rw [if_pos (by omega)]
  have h1 : Z.smallW z = w := W.ext (by show z.small.1 = _; rw [hs])
  refine ⟨?_, h1⟩
  unfold okW; rw [h1, hs]
  have h2 : ¬ 2305843009213693952 ≤ w.1 := by omega
  have h3 : ¬ w.1 ≤ -2305843009213693952 := by omega
  simp [h2, h3]
theorem gcd_o {p q : Z} {x y : Int} (hp : p.o = some x) (hq : q.o = some y) (h : Int.gcd x y < 4294967296 ^ 16) : (Z.gcd p q).o = some ((Int.gcd x y : Nat) : Int) := by
  rw [Z.gcd, lift2_some hp hq]; exact Z.of_some h
theorem prim_again {a : A3 I} {p : A3 W} {x y z g : Int} (h : PrimOk a p x y z g) : prim (F_skewbackref06_Wide p) = (p, wl 0) := by
  have h1 := gcd3_one h.gd h.g0 h.px h.py h.pz
  have hg : gcd3 (F_skewbackref06_Wide p) = Z.of 1 := by
    show Z.gcd (Z.gcd (Z.gcd (Z.of 0) (E (Z.of p.x.1)).dec) (E (Z.of p.y.1)).dec) (E (Z.of p.z.1)).dec = _
    rw [E_dec, E_dec, E_dec]
    have o := fun w : W => (fitW w).o (k := 64) (by decide)
    have b : ∀ (n : Int) (w : W), n.natAbs < 2 ^ 64 → (Int.gcd n w.1) < 4294967296 ^ 16 := fun n w hn => by
      by_cases h0 : n = 0
      · subst h0; rw [Int.gcd_zero_left]; exact p512 (by decide) (fitW w).lt
      · exact p512 (k := 64) (by decide) (Nat.lt_of_le_of_lt (Int.gcd_le_natAbs_left _ h0) hn)
    have b' : ∀ (n : Int) (w : W), n.natAbs < 2 ^ 64 → (Int.gcd n w.1) < 2 ^ 64 := fun n w hn => by
      by_cases h0 : n = 0
      · subst h0; rw [Int.gcd_zero_left]; exact (fitW w).lt
      · exact Nat.lt_of_le_of_lt (Int.gcd_le_natAbs_left _ h0) hn
    have g1 : (Z.gcd (Z.of 0) (Z.of p.x.1)).o = some ((Int.gcd 0 p.x.1 : Nat) : Int) := gcd_o (Z.of_some (by decide)) (o p.x) (b 0 p.x (by decide))
    have g2 : (Z.gcd (Z.gcd (Z.of 0) (Z.of p.x.1)) (Z.of p.y.1)).o = some ((Int.gcd (Int.gcd 0 p.x.1 : Nat) p.y.1 : Nat) : Int) := gcd_o g1 (o p.y) (b _ p.y (by rw [Int.natAbs_natCast]; exact b' 0 p.x (by decide)))
    have g3 := gcd_o g2 (o p.z) (by rw [h1]; decide)
    rw [h1] at g3
    exact Z.eq_of g3
  have q : ∀ w : W, Z.quo (E (Z.of w.1)).dec (Z.of 1) = Z.of w.1 := fun w => by
    rw [E_dec, Z.quo, lift2_some ((fitW w).o (by decide)) (Z.of_some (by decide)), if_neg (by decide), Int.fdiv_one]
  have ox := okW_of (q p.x) h.bx; have oy := okW_of (q p.y) h.bY; have oz := okW_of (q p.z) h.bz
  unfold prim
  rw [hg]
  rw [if_neg (by decide), if_neg (by decide)]
  show (if (okW (Z.quo (E (Z.of p.x.1)).dec (Z.of 1)) && (okW (Z.quo (E (Z.of p.y.1)).dec (Z.of 1)) && okW (Z.quo (E (Z.of p.z.1)).dec (Z.of 1)))) = true then ((⟨Z.smallW (Z.quo (E (Z.of p.x.1)).dec (Z.of 1)), Z.smallW (Z.quo (E (Z.of p.y.1)).dec (Z.of 1)), Z.smallW (Z.quo (E (Z.of p.z.1)).dec (Z.of 1))⟩ : A3 W), wl 0) else _) = _
  rw [ox.1, oy.1, oz.1, ox.2, oy.2, oz.2]; rfl
theorem minor0 {a b c d : Z} {p q x y : Int} (ha : a.Is p) (hb : b.Is x) (hc : c.Is q) (hd : d.Is y) (e : p * x = q * y) : (Z.sub (Z.mul a b) (Z.mul c d)).sign = 0 := by
  have := is_sub (is_mul ha hb) (is_mul hc hd)
  rw [e, Int.sub_self] at this
  exact this.sign0
theorem minor_dec (a b c d : I) : (F_skewbackref06_minor a b c d).dec = Z.sub (Z.mul a.dec b.dec) (Z.mul c.dec d.dec) := E_dec _
theorem dotof_dec (a b : A3 I) : F_skewbackref06_DotOf a b = E (Z.add (Z.add (Z.mul a.x.dec b.x.dec) (Z.mul a.y.dec b.y.dec)) (Z.mul a.z.dec b.z.dec)) := by
  unfold F_skewbackref06_DotOf
  rfl
theorem VectorPrimitives_true (a : A3 I) : F_skewbacklaw06_VectorPrimitivesMatchSpec a = true := by
  unfold F_skewbacklaw06_VectorPrimitivesMatchSpec
  simp only [prog_prim, ref_prim, mkDir, sanity06]
  simp only [decide_true, Bool.and_self, Bool.not_true, Bool.false_or, bne_self_eq_false, cond_false]
  by_cases h : (prim a).2.1 = 0
  · obtain ⟨x, y, z, g, H⟩ := prim_ok h
    have e := prim_again H
    have hw : ((prim a).2.1 != 0) = false := by rw [h]; rfl
    rw [hw, cond_false, e]
    simp only [decide_true, Bool.and_self, Bool.true_and]
    have i1 := is_some H.ax; have i2 := is_some H.ay; have i3 := is_some H.az
    have j1 : (F_skewbackref06_Wide (prim a).1).x.dec.Is (prim a).1.x.1 := by show (E _).dec.Is _; rw [E_dec]; exact is_of _
    have j2 : (F_skewbackref06_Wide (prim a).1).y.dec.Is (prim a).1.y.1 := by show (E _).dec.Is _; rw [E_dec]; exact is_of _
    have j3 : (F_skewbackref06_Wide (prim a).1).z.dec.Is (prim a).1.z.1 := by show (E _).dec.Is _; rw [E_dec]; exact is_of _
    have c1 : (F_skewbackref06_CrossOf (F_skewbackref06_Wide (prim a).1) a).x.dec.sign = 0 := by
      show (F_skewbackref06_minor _ _ _ _).dec.sign = 0; rw [minor_dec]; exact minor0 j2 i3 j3 i2 (by rw [← H.py, ← H.pz]; grind)
    have c2 : (F_skewbackref06_CrossOf (F_skewbackref06_Wide (prim a).1) a).y.dec.sign = 0 := by
      show (F_skewbackref06_minor _ _ _ _).dec.sign = 0; rw [minor_dec]; exact minor0 j3 i1 j1 i3 (by rw [← H.px, ← H.pz]; grind)
    have c3 : (F_skewbackref06_CrossOf (F_skewbackref06_Wide (prim a).1) a).z.dec.sign = 0 := by
      show (F_skewbackref06_minor _ _ _ _).dec.sign = 0; rw [minor_dec]; exact minor0 j1 i2 j2 i1 (by rw [← H.px, ← H.py]; grind)
    simp only [sign0, c1, c2, c3, decide_true, Bool.and_self, Bool.true_and, dotof_dec, E_bad, E_dec]
    have hd := is_add (is_add (is_mul j1 i1) (is_mul j2 i2)) (is_mul j3 i3)
    rcases hd.sign with hb | hb
    · rw [hb]; rfl
    · have hp : (prim a).1.x.1 * x + (prim a).1.y.1 * y + (prim a).1.z.1 * z = g * ((prim a).1.x.1 * (prim a).1.x.1 + (prim a).1.y.1 * (prim a).1.y.1 + (prim a).1.z.1 * (prim a).1.z.1) := by
        rw [← H.px, ← H.py, ← H.pz]; grind
      have hq : 0 < (prim a).1.x.1 * (prim a).1.x.1 + (prim a).1.y.1 * (prim a).1.y.1 + (prim a).1.z.1 * (prim a).1.z.1 := sq_pos (prim_ne H)
      have hs : (Z.signW (Z.add (Z.add (Z.mul (F_skewbackref06_Wide (prim a).1).x.dec a.x.dec) (Z.mul (F_skewbackref06_Wide (prim a).1).y.dec a.y.dec)) (Z.mul (F_skewbackref06_Wide (prim a).1).z.dec a.z.dec))).1 = 1 := by
        show Z.sign _ = 1
        rw [hb, hp]; exact Int.sign_eq_one_of_pos (Int.mul_pos H.g0 hq)
      rw [hs]; simp
  · have hw : ((prim a).2.1 != 0) = true := by simpa using h
    rw [hw]; rfl
end Go.Num
