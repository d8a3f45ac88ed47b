/- The statements about vectors, of the plain functions that the program and the reference compute. No program stands in it. The statements about vectors, second part: tangents, orientation, sums. No program stands in it. Rational numbers: the program's and the reference's functions are the same; what they compute of fractions. No program stands in it. The statement about rational vectors, of the plain functions that the program and the reference compute. No program stands in it. What Cmp returns: the sign of a difference; order, the greater and the lesser. No program stands in it. Intervals: what the program computes is what the reference defines. No program stands in it. Intervals: products, quotients, powers, hulls, what is in two of them. No program stands in it. Intervals as intervals of rational numbers: what they share, hulls, order; the statement on sets. No program stands in it. Rational arithmetic at numbers, with their sizes: no result lacks digits. No program stands in it. -/
import Derived.Test.YtapbefpeopaecaaGreatDoorYFn
import Derived.Test.YtapbefpeopaecaaGreatDoorYSk
import Derived.Test.YtapbefpeopaecaaGreatDoorYPR
import Derived.Test.YtapbefpeopaecaaGreatDoorYGd
import Derived.KernelRfl

set_option linter.unusedVariables false
set_option linter.unusedSimpArgs false
namespace Go.Num
open Go Go.Kn
theorem Z.cases (z : Z) : z = Z.bad ∨ ∃ v : Int, v.natAbs < 4294967296 ^ 16 ∧ z = Z.of v ∧ z.o = some v := by
  cases h : z.o with
  | none => exact .inl (Z.eq_bad h)
  | some v => exact .inr ⟨v, z.h v h, Z.eq_of h, rfl⟩
theorem Z.zero_add (z : Z) : Z.add (Z.of 0) z = z := by
  rcases Z.cases z with rfl | ⟨v, _, rfl, hv⟩
  · rfl
  · rw [Z.add, a4_ (Z.of_some (by decide)) hv, Int.zero_add]
theorem ro_ (a b : A3 I) : eK_ a b = b9_ a b := by
  unfold eK_ b9_
  simp only [E_dec, Z.zero_add]
theorem lU_ (a : A3 W) : az_ a = aP_ a := rfl
theorem oD_ (a b : A3 I) : dR_ a b = bA_ a b := rfl
theorem kT_ (a b : A3 W) : bc_ a b = an_ a b := ro_ _ _
theorem W.ext {a b : W} (h : a.1 = b.1) : a = b := Subtype.ext h
def okW (z : Z) : Bool := z.small.2 && (!decide (2305843009213693952 ≤ (Z.smallW z).1) && !decide ((Z.smallW z).1 ≤ (-2305843009213693952)))
theorem pZ_ (z : Z) : (!z.small.2 || (decide (2305843009213693952 ≤ (Z.smallW z).1) || decide ((Z.smallW z).1 ≤ (-2305843009213693952)))) = !okW z := by
  unfold okW; cases z.small.2 <;> cases decide (2305843009213693952 ≤ (Z.smallW z).1) <;> cases decide ((Z.smallW z).1 ≤ (-2305843009213693952)) <;> rfl
def VW0 : A3 W := ⟨wl 0, wl 0, wl 0⟩
def gcd3 (a : A3 I) : Z := Z.gcd (Z.gcd (Z.gcd (Z.of 0) a.x.dec) a.y.dec) a.z.dec
/-- Primitive, told once. -/
def prim (a : A3 I) : A3 W × W :=
  if (gcd3 a).o = none then (VW0, wl 30)
  else if (gcd3 a).sign = 0 then (VW0, wl 31)
  else if okW (Z.quo a.x.dec (gcd3 a)) && (okW (Z.quo a.y.dec (gcd3 a)) && okW (Z.quo a.z.dec (gcd3 a))) then (⟨Z.smallW (Z.quo a.x.dec (gcd3 a)), Z.smallW (Z.quo a.y.dec (gcd3 a)), Z.smallW (Z.quo a.z.dec (gcd3 a))⟩, wl 0)
  else (VW0, wl 30)
theorem E_bad (z : Z) : (E z).1.bad = decide (z.o = none) := by
  show z.enc.bad = _
  unfold Z.enc
  cases h : z.o <;> simp
theorem sign0 (z : Z) : ((Z.signW z).1 == 0) = decide (z.sign = 0) := by
  show (z.sign == 0) = _
  rfl
theorem mY_ (a : A3 I) : a2_ a = prim a := by
  unfold a2_ prim
  simp only [E_dec, pZ_, E_bad, sign0]
  show (bif decide ((gcd3 a).o = none) then _ else bif decide ((gcd3 a).sign = 0) then _ else bif !okW (Z.quo a.x.dec (gcd3 a)) then _ else bif !okW (Z.quo a.y.dec (gcd3 a)) then _ else bif !okW (Z.quo a.z.dec (gcd3 a)) then _ else _) = _
  by_cases h1 : (gcd3 a).o = none
  · simp [h1, VW0]
  · by_cases h2 : (gcd3 a).sign = 0
    · simp [h1, h2, VW0]
    · simp only [h1, h2, decide_false, cond_false, if_false]
      cases okW (Z.quo a.x.dec (gcd3 a)) <;> cases okW (Z.quo a.y.dec (gcd3 a)) <;> cases okW (Z.quo a.z.dec (gcd3 a)) <;> rfl
theorem qF_ (a : A3 W) : bX_ a = (!(decide (2305843009213693952 ≤ a.x.1) || decide (a.x.1 ≤ (-2305843009213693952))) && (!(decide (2305843009213693952 ≤ a.y.1) || decide (a.y.1 ≤ (-2305843009213693952))) && !(decide (2305843009213693952 ≤ a.z.1) || decide (a.z.1 ≤ (-2305843009213693952))))) := by
  unfold bX_
  cases (decide (2305843009213693952 ≤ a.x.1) || decide (a.x.1 ≤ (-2305843009213693952))) <;> cases (decide (2305843009213693952 ≤ a.y.1) || decide (a.y.1 ≤ (-2305843009213693952))) <;> cases (decide (2305843009213693952 ≤ a.z.1) || decide (a.z.1 ≤ (-2305843009213693952))) <;> rfl
theorem nD_ {α : Type} (p1 p2 p3 q1 q2 q3 r1 r2 r3 : Bool) (X Y : α) : (bif p1 then (bif p2 then (bif p3 then (bif (!(q1 || r1) && (!(q2 || r2) && !(q3 || r3))) then X else Y) else Y) else Y) else Y) =
    if ((p1 && (!q1 && !r1)) && ((p2 && (!q2 && !r2)) && (p3 && (!q3 && !r3)))) = true then X else Y := by
  cases p1 <;> cases p2 <;> cases p3 <;> cases q1 <;> cases q2 <;> cases q3 <;> cases r1 <;> cases r2 <;> cases r3 <;> rfl
def mkDir (p : A3 W × W) : Dir := ⟨p.1, p.2⟩
theorem oJ_ (a : A3 I) : aV_ a = mkDir (prim a) := by
  unfold aV_ prim
  simp only [E_dec, E_bad, sign0, qF_]
  show (bif decide ((gcd3 a).o = none) then _ else bif decide ((gcd3 a).sign = 0) then _ else bif (Z.quo a.x.dec (gcd3 a)).small.2 then bif (Z.quo a.y.dec (gcd3 a)).small.2 then bif (Z.quo a.z.dec (gcd3 a)).small.2 then _ else _ else _ else _) = _
  by_cases h1 : (gcd3 a).o = none
  · rw [decide_eq_true h1, cond_true, if_pos h1]; rfl
  · by_cases h2 : (gcd3 a).sign = 0
    · rw [decide_eq_false h1, cond_false, decide_eq_true h2, cond_true, if_neg h1, if_pos h2]; rfl
    · rw [decide_eq_false h1, cond_false, decide_eq_false h2, cond_false, if_neg h1, if_neg h2, apply_ite mkDir]
      exact nD_ _ _ _ _ _ _ _ _ _ _ _
theorem jn_ {p q : Z} {v : Int} (hp : p.o = some v) (h : (Z.gcd p q).o ≠ none) : ∃ w : Int, q.o = some w ∧ (Z.gcd p q).o = some ((Int.gcd v w : Nat) : Int) := by
  cases hq : q.o with
  | none => rw [Z.gcd, c9_ (.inr hq)] at h; exact absurd rfl h
  | some w =>
    rw [Z.gcd, a4_ hp hq] at h ⊢
    refine ⟨w, rfl, Z.of_some (Classical.byContradiction fun hc => h ?_)⟩
    rw [Z.of_big hc]; rfl
theorem i7_ {p q : Z} (h : (Z.gcd p q).o ≠ none) : p.o ≠ none := fun hp => by rw [Z.gcd, c9_ (.inl hp)] at h; exact h rfl
theorem mo_ {a : A3 I} (h : (gcd3 a).o ≠ none) : ∃ x y z : Int, a.x.dec.o = some x ∧ a.y.dec.o = some y ∧ a.z.dec.o = some z ∧ (gcd3 a).o = some ((Int.gcd (Int.gcd (Int.gcd 0 x : Nat) y : Nat) z : Nat) : Int) := by
  obtain ⟨x, hx, h1⟩ := jn_ (p := Z.of 0) (q := a.x.dec) (Z.of_some (by decide)) (i7_ (i7_ h))
  obtain ⟨y, hy, h2⟩ := jn_ h1 (i7_ h)
  obtain ⟨z, hz, h3⟩ := jn_ h2 h
  exact ⟨x, y, z, hx, hy, hz, h3⟩
theorem kf_ {p q : Z} {x g v : Int} (hp : p.o = some x) (hq : q.o = some g) (h0 : g ≠ 0) (h : (Z.quo p q).o = some v) : v = x.fdiv g := by
  rw [Z.quo, a4_ hp hq, if_neg h0, Z.of_o] at h
  split at h
  · cases h; rfl
  · cases h
theorem kj_ {q : Z} (h : okW q = true) : q.o = some (Z.smallW q).1 ∧ -2305843009213693952 < (Z.smallW q).1 ∧ (Z.smallW q).1 < 2305843009213693952 := by
  unfold okW at h
  simp only [Bool.and_eq_true, Bool.not_eq_true', decide_eq_false_iff_not] at h
  exact ⟨(ho_ h.1).1, by omega, by omega⟩
/-- What Primitive returns if all goes well. -/
structure PrimOk (a : A3 I) (p : A3 W) (x y z g : Int) : Prop where
  ax : a.x.dec.o = some x
  ay : a.y.dec.o = some y
  az : a.z.dec.o = some z
  gd : g = ((Int.gcd (Int.gcd (Int.gcd 0 x : Nat) y : Nat) z : Nat) : Int)
  g0 : 0 < g
  px : g * p.x.1 = x
  py : g * p.y.1 = y
  pz : g * p.z.1 = z
  bx : -2305843009213693952 < p.x.1 ∧ p.x.1 < 2305843009213693952
  bY : -2305843009213693952 < p.y.1 ∧ p.y.1 < 2305843009213693952
  bz : -2305843009213693952 < p.z.1 ∧ p.z.1 < 2305843009213693952
theorem hk_ {x g : Int} (h : g ∣ x) : g * x.fdiv g = x := Int.mul_fdiv_cancel' h
theorem nj_ {a : A3 I} (h : (prim a).2.1 = 0) : ∃ x y z g : Int, PrimOk a (prim a).1 x y z g := by
  unfold prim at h ⊢
  split at h
  · exact absurd h (by decide)
  · rename_i h1
    rw [if_neg h1]
    split at h
    · exact absurd h (by decide)
    · rename_i h2
      rw [if_neg h2]
      split at h
      · rename_i h3
        rw [if_pos h3]
        obtain ⟨x, y, z, hx, hy, hz, hg⟩ := mo_ h1
        rw [Bool.and_eq_true, Bool.and_eq_true] at h3
        have k1 := kj_ h3.1; have k2 := kj_ h3.2.1; have k3 := kj_ h3.2.2
        have hg0 := je_ hg h2
        have q1 : (Z.smallW (Z.quo a.x.dec (gcd3 a))).1 = x.fdiv ((Int.gcd (Int.gcd (Int.gcd 0 x : Nat) y : Nat) z : Nat) : Int) := kf_ hx hg hg0 k1.1
        have q2 := kf_ hy hg hg0 k2.1
        have q3 := kf_ hz hg hg0 k3.1
        have d3 : ((Int.gcd (Int.gcd (Int.gcd 0 x : Nat) y : Nat) z : Nat) : Int) ∣ z := Int.gcd_dvd_right ..
        have d2 : ((Int.gcd (Int.gcd (Int.gcd 0 x : Nat) y : Nat) z : Nat) : Int) ∣ y := Int.dvd_trans (Int.gcd_dvd_left ..) (Int.gcd_dvd_right ..)
        have d1 : ((Int.gcd (Int.gcd (Int.gcd 0 x : Nat) y : Nat) z : Nat) : Int) ∣ x := Int.dvd_trans (Int.gcd_dvd_left ..) (Int.dvd_trans (Int.gcd_dvd_left ..) (Int.gcd_dvd_right ..))
        exact ⟨x, y, z, _, hx, hy, hz, rfl, by omega, by rw [q1]; exact hk_ d1, by rw [q2]; exact hk_ d2, by rw [q3]; exact hk_ d3, k1.2, k2.2, k3.2⟩
      · exact absurd h (by decide)
def Z.Is (z : Z) (v : Int) : Prop := z.o = none ∨ z.o = some v
theorem Z.Is.sign {z : Z} {v : Int} (h : z.Is v) : z.o = none ∨ z.sign = v.sign := by
  rcases h with h | h
  · exact .inl h
  · right; unfold Z.sign; rw [h]
theorem Z.Is.sign0 {z : Z} (h : z.Is 0) : z.sign = 0 := by
  unfold Z.sign; rcases h with h | h <;> rw [h] <;> rfl
/-- z is the number v, of less than 2^k in absolute value. -/
structure Fit (z : Z) (v : Int) (k : Nat) : Prop where
  eq : z = Z.of v
  lt : v.natAbs < 2 ^ k
theorem p512 {k : Nat} (hk : k ≤ 511) {n : Nat} (h : n < 2 ^ k) : n < 4294967296 ^ 16 := by
  have e : (2 : Nat) ^ (32 * 16) = (2 ^ 32) ^ 16 := Nat.pow_mul 2 32 16
  exact Nat.lt_of_lt_of_le h (Nat.le_trans (Nat.pow_le_pow_right (by decide) (show k ≤ 32 * 16 by omega)) (Nat.le_of_eq e))
theorem Fit.o {z : Z} {v : Int} {k : Nat} (h : Fit z v k) (hk : k ≤ 511) : z.o = some v := by rw [h.eq]; exact Z.of_some (p512 hk h.lt)
theorem Fit.mono {z : Z} {v : Int} {k k' : Nat} (h : Fit z v k) (hk : k ≤ k') : Fit z v k' := ⟨h.eq, Nat.lt_of_lt_of_le h.lt (Nat.pow_le_pow_right (by decide) hk)⟩
theorem Fit.mul {a b : Z} {x y : Int} {k l : Nat} (ha : Fit a x k) (hb : Fit b y l) (hk : k ≤ 511 ∧ l ≤ 511) : Fit (Z.mul a b) (x * y) (k + l) :=
  ⟨by rw [Z.mul, a4_ (ha.o hk.1) (hb.o hk.2)], by rw [Int.natAbs_mul, Nat.pow_add]; exact Nat.mul_lt_mul_of_lt_of_lt ha.lt hb.lt⟩
theorem Fit.add {a b : Z} {x y : Int} {k l : Nat} (ha : Fit a x k) (hb : Fit b y l) (hk : k ≤ 511 ∧ l ≤ 511) : Fit (Z.add a b) (x + y) (max k l + 1) := by
  refine ⟨by rw [Z.add, a4_ (ha.o hk.1) (hb.o hk.2)], ?_⟩
  have h1 := (ha.mono (Nat.le_max_left k l)).lt
  have h2 := (hb.mono (Nat.le_max_right k l)).lt
  rw [Nat.pow_succ]; omega
theorem Fit.neg {a : Z} {x : Int} {k : Nat} (ha : Fit a x k) (hk : k ≤ 511) : Fit (Z.neg a) (-x) k := ⟨by rw [Z.neg, cx_ (ha.o hk)], by rw [Int.natAbs_neg]; exact ha.lt⟩
theorem Fit.sub {a b : Z} {x y : Int} {k l : Nat} (ha : Fit a x k) (hb : Fit b y l) (hk : k ≤ 511 ∧ l ≤ 511) : Fit (Z.sub a b) (x - y) (max k l + 1) := by
  rw [Int.sub_eq_add_neg]; exact ha.add (hb.neg hk.2) hk
theorem Fit.sign {z : Z} {v : Int} {k : Nat} (h : Fit z v k) (hk : k ≤ 511) : z.sign = v.sign := by unfold Z.sign; rw [h.o hk]
theorem fitW (w : W) : Fit (Z.of w.1) w.1 64 := ⟨rfl, by have := w.2; unfold I64 at this; omega⟩
theorem fit0 : Fit (Z.of 0) 0 0 := ⟨rfl, by decide⟩
theorem mS_ {a : A3 I} {p : A3 W} {x y z g : Int} (h : PrimOk a p x y z g) : ¬ (p.x.1 = 0 ∧ p.y.1 = 0 ∧ p.z.1 = 0) := fun ⟨h1, h2, h3⟩ => by
  have hx := h.px; have hy := h.py; have hz := h.pz; have hg := h.gd; have h0 := h.g0
  rw [h1, Int.mul_zero] at hx; rw [h2, Int.mul_zero] at hy; rw [h3, Int.mul_zero] at hz
  subst hx hy hz
  rw [hg] at h0; exact absurd h0 (by decide)
theorem q4_ {z : Z} {w : W} (hz : z = Z.of w.1) (h : -2305843009213693952 < w.1 ∧ w.1 < 2305843009213693952) : okW z = true ∧ Z.smallW z = w := by
  have ho : z.o = some w.1 := by rw [hz]; exact (fitW w).o (by decide)
  have hs : z.small = (w.1, true) := by unfold Z.small; rw [ho]; simp only; rw [if_pos (by omega)]
  have h1 : Z.smallW z = w := W.ext (by show z.small.1 = _; rw [hs])
  refine ⟨?_, h1⟩
  unfold okW; rw [h1, hs]
  have h2 : ¬ 2305843009213693952 ≤ w.1 := by omega
  have h3 : ¬ w.1 ≤ -2305843009213693952 := by omega
  simp [h2, h3]
theorem j4_ (a b c d : I) : (a0_ a b c d).dec = Z.sub (Z.mul a.dec b.dec) (Z.mul c.dec d.dec) := E_dec _
theorem mW_ (a b : A3 I) : b9_ a b = E (Z.add (Z.add (Z.mul a.x.dec b.x.dec) (Z.mul a.y.dec b.y.dec)) (Z.mul a.z.dec b.z.dec)) := by
  unfold b9_
  rfl
end Go.Num

set_option linter.unusedVariables false
set_option linter.unusedSimpArgs false
namespace Go.Num
open Go Go.Kn
def tang (a : A3 W) : A3 W × A3 W :=
  if a.x.1 = 0 ∧ a.y.1 = 0 then (⟨wl 1, wl 0, wl 0⟩, ⟨wl 0, wl 1, wl 0⟩)
  else if (prim ⟨E (Z.neg (Z.of a.y.1)), E (Z.of a.x.1), E (Z.of 0)⟩).2.1 ≠ 0 ∨ (prim (bA_ (aP_ a) (aP_ (prim ⟨E (Z.neg (Z.of a.y.1)), E (Z.of a.x.1), E (Z.of 0)⟩).1))).2.1 ≠ 0 then (VW0, VW0)
  else ((prim ⟨E (Z.neg (Z.of a.y.1)), E (Z.of a.x.1), E (Z.of 0)⟩).1, (prim (bA_ (aP_ a) (aP_ (prim ⟨E (Z.neg (Z.of a.y.1)), E (Z.of a.x.1), E (Z.of 0)⟩).1))).1)
theorem lo_ {α : Type} {c : Bool} {p : Prop} [Decidable p] (h : c = true ↔ p) (x y : α) : (bif c then x else y) = if p then x else y := by
  cases c
  · rw [if_neg (fun hp => by have := h.2 hp; cases this)]; rfl
  · rw [if_pos (h.1 rfl)]; rfl
theorem or_ne (a b : W) : ((a.1 != 0) || (b.1 != 0)) = true ↔ (a.1 ≠ 0 ∨ b.1 ≠ 0) := by simp
theorem mi_ (a : A3 W) : ao_ a = tang a := by
  unfold ao_ tang
  simp only [mY_, lU_, oD_]
  have e1 : (aP_ a).y.dec = Z.of a.y.1 := E_dec _
  simp only [e1]
  rw [lo_ (p := a.x.1 = 0 ∧ a.y.1 = 0) (by simp)]
  congr 1
  exact lo_ (or_ne _ _) _ _
theorem iW_ (a : A3 W) : aJ_ a = tang a := by
  unfold aJ_ tang
  simp only [oJ_, mkDir]
  have e1 : (aP_ a).y.dec = Z.of a.y.1 := E_dec _
  simp only [e1]
  rw [lo_ (p := a.x.1 = 0 ∧ a.y.1 = 0) (by simp)]
  congr 1
  exact lo_ (or_ne _ _) _ _
theorem dotW (a b : A3 W) : bc_ a b = E (Z.of (a.x.1 * b.x.1 + a.y.1 * b.y.1 + a.z.1 * b.z.1)) ∧ Fit (Z.of (a.x.1 * b.x.1 + a.y.1 * b.y.1 + a.z.1 * b.z.1)) (a.x.1 * b.x.1 + a.y.1 * b.y.1 + a.z.1 * b.z.1) 130 := by
  have h := ((fitW a.x).mul (fitW b.x) (by decide)).add ((fitW a.y).mul (fitW b.y) (by decide)) (by decide)
  have h2 := h.add ((fitW a.z).mul (fitW b.z) (by decide)) (by decide)
  rw [kT_]
  show b9_ (aP_ a) (aP_ b) = _ ∧ _
  rw [mW_]
  show E (Z.add (Z.add (Z.mul (E _).dec (E _).dec) (Z.mul (E _).dec (E _).dec)) (Z.mul (E _).dec (E _).dec)) = _ ∧ _
  simp only [E_dec]
  exact ⟨congrArg E h2.eq, ⟨rfl, h2.lt⟩⟩
end Go.Num

set_option linter.unusedVariables false
set_option linter.unusedSimpArgs false
namespace Go.Num
open Go Go.Kn
abbrev B512 (v : Int) : Prop := v.natAbs < 4294967296 ^ 16
theorem nO_ {x : I} (h : x.1.good = true) : E x.dec = x := Subtype.ext (ja_ x.2 h)
theorem ph_ {x : I} (h : x.1.good = true) : ∃ v : Int, B512 v ∧ x = E (Z.of v) := by
  have h1 := aX_ x.2 h
  refine ⟨_, x.dec.h _ h1, ?_⟩
  rw [← Z.eq_of h1]; exact (nO_ h).symm
theorem h7_ {v : Int} (h : B512 v) : (E (Z.of v)).1.good = true := by
  show (Z.of v).enc.good = true
  rw [Z.enc_good, Z.of_some h]; rfl
theorem pm_ {v : Int} (h : B512 v) : (E (Z.of v)).1.bad = false := by
  have := h7_ h; unfold R.good at this; simp only [Bool.and_eq_true, Bool.not_eq_true'] at this; exact this.1
theorem rW_ : (E Z.bad).1.bad = true := rfl
theorem kR_ : (E Z.bad).1.good = false := rfl
theorem mk_ {v : Int} (h : B512 v) : (Z.of v).sign = v.sign := by unfold Z.sign; rw [Z.of_some h]
theorem ee_ {v : Int} (h : B512 v) : (Z.signW (Z.of v)).1 = v.sign := mk_ h
theorem hy_ {u v : Int} (hu : B512 u) (hv : B512 v) : Z.gcd (Z.of u) (Z.of v) = Z.of (Int.gcd u v) := by rw [Z.gcd, a4_ (Z.of_some hu) (Z.of_some hv)]
theorem jY_ {u v : Int} (hu : B512 u) (hv : B512 v) (h : v ≠ 0) : Z.quo (Z.of u) (Z.of v) = Z.of (u.fdiv v) := by rw [Z.quo, a4_ (Z.of_some hu) (Z.of_some hv), if_neg h]
theorem gG_ {u v : Int} (hu : B512 u) (hv : B512 v) : Z.mul (Z.of u) (Z.of v) = Z.of (u * v) := by rw [Z.mul, a4_ (Z.of_some hu) (Z.of_some hv)]
theorem rk_ {u v : Int} (hu : B512 u) (hv : B512 v) : Z.add (Z.of u) (Z.of v) = Z.of (u + v) := by rw [Z.add, a4_ (Z.of_some hu) (Z.of_some hv)]
theorem rK_ {u : Int} (hu : B512 u) : Z.neg (Z.of u) = Z.of (-u) := by rw [Z.neg, cx_ (Z.of_some hu)]
theorem pG_ {v : Int} (h : ¬ B512 v) : Z.of v = Z.bad := by unfold Z.of; rw [dif_neg h]
theorem B1 : B512 1 := by decide
theorem B0 : B512 0 := by decide
theorem gcd_B {u v : Int} (hv : B512 v) (h : v ≠ 0) : B512 (Int.gcd u v : Nat) := by
  have : Int.gcd u v ≤ v.natAbs := Nat.le_of_dvd (by omega) (Int.gcd_dvd_natAbs_right u v)
  show ((Int.gcd u v : Nat) : Int).natAbs < _
  rw [Int.natAbs_natCast]; exact Nat.lt_of_le_of_lt this hv
theorem q8_ {u v : Int} (hu : B512 u) (hv : B512 v) (h : Z.of u = Z.of v) : u = v := by
  have := congrArg Z.o h
  rw [Z.of_some hu, Z.of_some hv] at this; exact Option.some.inj this
/-- a is the fraction n / d in lowest terms. -/
structure Rt.Is (a : Rt) (n d : Int) : Prop where
  en : a.n = E (Z.of n)
  ed : a.d = E (Z.of d)
  hn : B512 n
  hd : B512 d
  pos : 0 < d
  cop : Int.gcd n d = 1
theorem Rt.ext {a b : Rt} (h : a.n = b.n) (k : a.d = b.d) : a = b := by cases a; cases b; simp_all
theorem one4 : F_skewbackref04_one = E (Z.of 1) := rfl
theorem one_r : F_ratio_one = E (Z.of 1) := rfl
theorem nn_ : ei_ = cL_ := rfl
theorem pk_ (a : I) : ch_ a = a.1.good := rfl
theorem fL_ (a : Rt) : a5_ a = al_ a := by
  unfold a5_ al_
  rw [pk_, pk_, one4, one_r]
  cases a.n.1.good <;> cases a.d.1.good <;> rfl
theorem kx_ (a b : I) : ap_ a b = am_ a b := rfl
theorem re_ (a : Rt) : b4_ a = bu_ a := by unfold b4_ bu_; rw [fL_, nn_]
theorem kC_ (a b : Rt) : aA_ a b = aq_ a b := by unfold aA_ aq_; rw [fL_, fL_, nn_]; rfl
theorem mJ_ (a b : Rt) : ah_ a b = aw_ a b := by unfold ah_ aw_; rw [re_, kC_]
theorem sg_ {a : Rt} : al_ a = true ↔ ∃ n d, Rt.Is a n d := by
  unfold al_
  constructor
  · intro h
    cases gn : a.n.1.good <;> cases gd : a.d.1.good <;> simp only [gn, gd, Bool.not_true, Bool.not_false, Bool.or_true, Bool.true_or, Bool.or_false, cond_true, cond_false, Bool.false_eq_true] at h
    obtain ⟨n, hn, en⟩ := ph_ gn
    obtain ⟨d, hd, ed⟩ := ph_ gd
    rw [en, ed] at h
    simp only [E_dec, Bool.and_eq_true, decide_eq_true_eq, ee_ hd] at h
    obtain ⟨h1, h2⟩ := h
    have hp : 0 < d := Int.sign_pos_iff.1 h1
    rw [hy_ hn hd, one4] at h2
    have h3 := q8_ (gcd_B hd (by omega)) B1 (E_inj h2)
    exact ⟨n, d, en, ed, hn, hd, hp, by exact_mod_cast h3⟩
  · rintro ⟨n, d, h⟩
    rw [h.en, h.ed, h7_ h.hn, h7_ h.hd]
    simp only [Bool.not_true, Bool.or_false, cond_false, E_dec, Bool.and_eq_true, decide_eq_true_eq, ee_ h.hd]
    refine ⟨Int.sign_pos_iff.2 h.pos, ?_⟩
    rw [hy_ h.hn h.hd, h.cop]; rfl
theorem jz_ (v : Int) : v.fdiv 1 = v := by rw [Int.fdiv_eq_ediv_of_nonneg _ (by decide)]; exact Int.ediv_one v
theorem qi_ {n d : Int} (hn : B512 n) (hd : B512 d) (hp : 0 < d) (hc : Int.gcd n d = 1) : am_ (E (Z.of n)) (E (Z.of d)) = ⟨E (Z.of n), E (Z.of d)⟩ := by
  unfold am_
  have h1 : ((Z.signW (E (Z.of d)).dec).1 == 0) = false := by rw [E_dec, ee_ hd, Int.sign_eq_one_of_pos hp]; rfl
  have h2 : decide ((Z.signW (E (Z.of d)).dec).1 < 0) = false := by rw [E_dec, ee_ hd, Int.sign_eq_one_of_pos hp]; rfl
  rw [h7_ hn, h7_ hd, h1, h2, E_dec, E_dec, hy_ hn hd, hc]
  simp only [Bool.not_true, Bool.or_false, cond_false]
  rw [show ((1 : Nat) : Int) = 1 from rfl, jY_ hn B1 (by decide), jY_ hd B1 (by decide), jz_, jz_]
theorem nr_ (b : I) : am_ (E Z.bad) b = cL_ := by unfold am_; rw [kR_]; rfl
theorem mz_ (a : I) : am_ a (E Z.bad) = cL_ := by
  unfold am_; rw [kR_]
  cases a.1.good <;> rfl
theorem i1_ {u g : Int} (hg : 0 < g) : u.fdiv g = u / g := Int.fdiv_eq_ediv_of_nonneg _ (Int.le_of_lt hg)
theorem div_B {u g : Int} (hu : B512 u) (hg : 0 < g) (hd : g ∣ u) : B512 (u / g) := by
  obtain ⟨k, rfl⟩ := hd
  rw [Int.mul_ediv_cancel_left _ (by omega)]
  refine Nat.lt_of_le_of_lt ?_ hu
  rw [Int.natAbs_mul]
  exact Nat.le_mul_of_pos_left _ (by omega)
/-- Make of a positive denominator. -/
theorem n7_ {n d : Int} (hn : B512 n) (hd : B512 d) (hp : 0 < d) :
    am_ (E (Z.of n)) (E (Z.of d)) = ⟨E (Z.of (n / (Int.gcd n d : Nat))), E (Z.of (d / (Int.gcd n d : Nat)))⟩ := by
  unfold am_
  have h1 : ((Z.signW (E (Z.of d)).dec).1 == 0) = false := by rw [E_dec, ee_ hd, Int.sign_eq_one_of_pos hp]; rfl
  have h2 : decide ((Z.signW (E (Z.of d)).dec).1 < 0) = false := by rw [E_dec, ee_ hd, Int.sign_eq_one_of_pos hp]; rfl
  have hg : 0 < ((Int.gcd n d : Nat) : Int) := by
    have := Int.gcd_pos_of_ne_zero_right n (show d ≠ 0 by omega)
    omega
  have hb := gcd_B (u := n) hd (by omega)
  rw [h7_ hn, h7_ hd, h1, h2, E_dec, E_dec, hy_ hn hd]
  simp only [Bool.not_true, Bool.or_false, cond_false]
  rw [jY_ hn hb (by omega), jY_ hd hb (by omega), i1_ hg, i1_ hg]
theorem gT_ {n d : Int} (hn : B512 n) (hd : B512 d) (hp : 0 < d) : Rt.Is (am_ (E (Z.of n)) (E (Z.of d))) (n / (Int.gcd n d : Nat)) (d / (Int.gcd n d : Nat)) := by
  have hg : 0 < ((Int.gcd n d : Nat) : Int) := by
    have := Int.gcd_pos_of_ne_zero_right n (show d ≠ 0 by omega)
    omega
  have d1 : ((Int.gcd n d : Nat) : Int) ∣ n := Int.gcd_dvd_left ..
  have d2 : ((Int.gcd n d : Nat) : Int) ∣ d := Int.gcd_dvd_right ..
  rw [n7_ hn hd hp]
  refine ⟨rfl, rfl, div_B hn hg d1, div_B hd hg d2, Int.ediv_pos_of_pos_of_dvd hp (by omega) d2, ?_⟩
  rw [Int.gcd_ediv d1 d2, Int.natAbs_natCast, Nat.div_self (by omega)]
/-- Two values of the reference's functions: bad, or a fraction. -/
theorem kY_ {a b : Rt} {n d m e : Int} (ha : a.Is n d) (hb : b.Is m e) :
    ∃ p q r s : Int, am_ a.n b.d = ⟨E (Z.of p), E (Z.of q)⟩ ∧ am_ b.n a.d = ⟨E (Z.of r), E (Z.of s)⟩ ∧ B512 p ∧ B512 q ∧ B512 r ∧ B512 s ∧ 0 < q ∧ 0 < s ∧ Int.gcd (p * r) (q * s) = 1 ∧ n * m * (q * s) = p * r * (d * e) := by
  have h1 := gT_ ha.hn hb.hd hb.pos
  have h2 := gT_ hb.hn ha.hd ha.pos
  have g1 : ((Int.gcd n e : Nat) : Int) ∣ n := Int.gcd_dvd_left ..
  have g2 : ((Int.gcd n e : Nat) : Int) ∣ e := Int.gcd_dvd_right ..
  have g3 : ((Int.gcd m d : Nat) : Int) ∣ m := Int.gcd_dvd_left ..
  have g4 : ((Int.gcd m d : Nat) : Int) ∣ d := Int.gcd_dvd_right ..
  refine ⟨n / (Int.gcd n e : Nat), e / (Int.gcd n e : Nat), m / (Int.gcd m d : Nat), d / (Int.gcd m d : Nat), ?_, ?_, h1.hn, h1.hd, h2.hn, h2.hd, h1.pos, h2.pos, ?_, ?_⟩
  · rw [ha.en, hb.ed]; exact Rt.ext h1.en h1.ed
  · rw [hb.en, ha.ed]; exact Rt.ext h2.en h2.ed
  · generalize hG : ((Int.gcd n e : Nat) : Int) = G at *
    generalize hH : ((Int.gcd m d : Nat) : Int) = H at *
    have c1 : Nat.Coprime (n / G).natAbs (e / G).natAbs := h1.cop
    have c2 : Nat.Coprime (m / H).natAbs (d / H).natAbs := h2.cop
    have k1 : Nat.Coprime n.natAbs d.natAbs := ha.cop
    have k2 : Nat.Coprime m.natAbs e.natAbs := hb.cop
    have d1 : (n / G).natAbs ∣ n.natAbs := Int.natAbs_dvd_natAbs.2 (Int.ediv_dvd_of_dvd g1)
    have d2 : (e / G).natAbs ∣ e.natAbs := Int.natAbs_dvd_natAbs.2 (Int.ediv_dvd_of_dvd g2)
    have d3 : (m / H).natAbs ∣ m.natAbs := Int.natAbs_dvd_natAbs.2 (Int.ediv_dvd_of_dvd g3)
    have d4 : (d / H).natAbs ∣ d.natAbs := Int.natAbs_dvd_natAbs.2 (Int.ediv_dvd_of_dvd g4)
    show Nat.gcd (n / G * (m / H)).natAbs (e / G * (d / H)).natAbs = 1
    rw [Int.natAbs_mul, Int.natAbs_mul]
    have x1 : Nat.Coprime (n / G).natAbs (d / H).natAbs := (k1.coprime_dvd_left d1).coprime_dvd_right d4
    have x2 : Nat.Coprime (m / H).natAbs (e / G).natAbs := (k2.coprime_dvd_left d3).coprime_dvd_right d2
    exact (Nat.Coprime.mul_right c1 x1).mul_left (Nat.Coprime.mul_right x2 c2)
  · obtain ⟨x, hx⟩ := g1
    obtain ⟨y, hy⟩ := g2
    obtain ⟨z, hz⟩ := g3
    obtain ⟨t, ht⟩ := g4
    have p1 : 0 < ((Int.gcd n e : Nat) : Int) := by have := Int.gcd_pos_of_ne_zero_right n (show e ≠ 0 by have := hb.pos; omega); omega
    have p2 : 0 < ((Int.gcd m d : Nat) : Int) := by have := Int.gcd_pos_of_ne_zero_right m (show d ≠ 0 by have := ha.pos; omega); omega
    generalize ((Int.gcd n e : Nat) : Int) = G at *
    generalize ((Int.gcd m d : Nat) : Int) = H at *
    have q1 : n / G = x := by rw [hx]; exact Int.mul_ediv_cancel_left _ (by omega)
    have q2 : e / G = y := by rw [hy]; exact Int.mul_ediv_cancel_left _ (by omega)
    have q3 : m / H = z := by rw [hz]; exact Int.mul_ediv_cancel_left _ (by omega)
    have q4 : d / H = t := by rw [ht]; exact Int.mul_ediv_cancel_left _ (by omega)
    rw [q1, q2, q3, q4, hx, hy, hz, ht]; grind
theorem mg_ (a b : Rt) : aE_ a b = aj_ a b := by
  unfold aE_ aj_
  rw [fL_, fL_, nn_, kx_, kx_]
  cases hga : al_ a <;> cases hgb : al_ b <;> simp only [Bool.not_true, Bool.not_false, Bool.or_true, Bool.true_or, Bool.or_false, cond_true, cond_false]
  obtain ⟨n, d, ha⟩ := sg_.1 hga
  obtain ⟨m, e, hb⟩ := sg_.1 hgb
  obtain ⟨p, q, r, s, e1, e2, hp, hq, hr, hs, q0, s0, hc, _⟩ := kY_ ha hb
  rw [e1, e2]
  simp only [E_dec, gG_ hp hr, gG_ hq hs]
  by_cases b1 : B512 (p * r)
  · by_cases b2 : B512 (q * s)
    · rw [qi_ b1 b2 (Int.mul_pos q0 s0) hc, pm_ b1, pm_ b2]; rfl
    · rw [pG_ b2, mz_, rW_, Bool.or_true]; rfl
  · rw [pG_ b1, nr_]; rfl
end Go.Num

set_option linter.unusedVariables false
set_option linter.unusedSimpArgs false
namespace Go.Num
open Go Go.Kn
theorem qc_ (a b : A3 Rt) : cn_ a b = aD_ a b := by unfold cn_ aD_; rw [kC_, kC_, kC_]
theorem ow_ (a b : A3 Rt) : ct_ a b = aU_ a b := by unfold ct_ aU_; rw [mJ_, mJ_, mJ_]
theorem oB_ (a : Rt) (b : A3 Rt) : b7_ a b = ae_ a b := by unfold b7_ ae_; rw [mg_, mg_, mg_]
theorem qW_ (a : A3 W) : cd_ a = ad_ a := rfl
end Go.Num

set_option linter.unusedVariables false
set_option linter.unusedSimpArgs false
namespace Go.Num
open Go Go.Kn
theorem lg_ {u g : Int} (hu : B512 u) (hg : 0 < g) : B512 (u / g) := by
  unfold B512 at *
  have h1 := Int.mul_ediv_add_emod u g
  have h2 := Int.emod_nonneg u (by omega : g ≠ 0)
  have h3 := Int.emod_lt_of_pos u hg
  have h4 : (u / g).natAbs ≤ u.natAbs := by
    rcases Int.lt_or_le u 0 with h | h
    · have h5 : u / g < 0 := Int.ediv_neg_of_neg_of_pos h hg
      have h6 : u ≤ u / g := by
        have h7 : g * (u / g) ≤ u / g := by
          have := Int.mul_le_mul_of_nonpos_right (show (1 : Int) ≤ g by omega) (Int.le_of_lt h5)
          omega
        have h8 : u < g * (u / g) + g := by omega
        rcases Int.lt_or_le u (g * (u / g)) with h9 | h9
        · omega
        · have h10 : (g - 1) * (u / g) ≤ -(g - 1) := by
            have := Int.mul_le_mul_of_nonneg_left (show u / g ≤ -1 by omega) (show 0 ≤ g - 1 by omega)
            omega
          have h11 : g * (u / g) = (g - 1) * (u / g) + u / g := by rw [Int.sub_mul]; omega
          omega
      omega
    · have h5 : 0 ≤ u / g := Int.ediv_nonneg h (by omega)
      have h6 : u / g ≤ u := Int.ediv_le_self _ h
      omega
  omega
theorem kJ_ {u g : Int} (hg : 0 < g) (hb : B512 g) : B512 (u % g) := by
  unfold B512 at *
  have h2 := Int.emod_nonneg u (by omega : g ≠ 0)
  have h3 := Int.emod_lt_of_pos u hg
  omega
theorem ne_ {u v : Int} (hu : B512 u) (hv : B512 v) (h : 0 < v) : Z.rem (Z.of u) (Z.of v) = Z.of (u % v) := by
  rw [Z.rem, a4_ (Z.of_some hu) (Z.of_some hv), if_neg (by omega), Int.fmod_eq_emod_of_nonneg _ (by omega)]
theorem hs_ {u v : Int} (hu : B512 u) (hv : B512 v) (h : 0 < v) : Z.quo (Z.of u) (Z.of v) = Z.of (u / v) := by
  rw [jY_ hu hv (by omega), i1_ h]
theorem ky_ {u v : Int} (hu : B512 u) (hv : B512 v) : (Z.cmpW (Z.of u) (Z.of v)).1 = (u - v).sign := by
  show Z.cmp _ _ = _
  unfold Z.cmp
  rw [Z.of_some hu, Z.of_some hv]
  simp only
  rcases Int.lt_trichotomy u v with h | h | h
  · rw [f9_ h, Int.sign_eq_neg_one_of_neg (by omega)]
  · subst h; rw [hR_, Int.sub_self]; rfl
  · rw [f3_ h, Int.sign_eq_one_of_pos (by omega)]
theorem ht_ {n : Int} (h : -4 ≤ n ∧ n ≤ 4) : IntKind.i64.wrap n = n := wi ⟨by omega, by omega⟩
theorem js_ (x : Int) : -1 ≤ x.sign ∧ x.sign ≤ 1 := by
  rcases Int.lt_trichotomy x 0 with h | h | h
  · rw [Int.sign_eq_neg_one_of_neg h]; omega
  · subst h; decide
  · rw [Int.sign_eq_one_of_pos h]; omega
theorem mul_o {o x : W} (ho : o.1 = 1 ∨ o.1 = -1) (hx : -2 ≤ x.1 ∧ x.1 ≤ 2) : (W.mul o x).1 = o.1 * x.1 := by
  show IntKind.i64.wrap (o.1 * x.1) = _
  refine ht_ ?_
  rcases ho with h | h <;> rw [h] <;> omega
theorem neg_o {o : W} (ho : o.1 = 1 ∨ o.1 = -1) : (W.neg o).1 = -o.1 := by
  show IntKind.i64.wrap (0 - o.1) = _
  rw [ht_ (by omega)]; omega
theorem od_ {b d p r s : Int} (hb : 0 < b) (hd : 0 < d) (h0 : p ≠ 0) (hr : 0 ≤ r) (hrb : r < b) (hs : 0 ≤ s) (hsd : s < d) : (b * d * p + (r * d - s * b)).sign = p.sign := by
  have hbd : 0 < b * d := Int.mul_pos hb hd
  have h1 : r * d < b * d := Int.mul_lt_mul_of_pos_right hrb hd
  have h2 : s * b < d * b := Int.mul_lt_mul_of_pos_right hsd hb
  have h3 : 0 ≤ r * d := Int.mul_nonneg hr (by omega)
  have h4 : 0 ≤ s * b := Int.mul_nonneg hs (by omega)
  rw [Int.mul_comm d b] at h2
  rcases Int.lt_trichotomy p 0 with h | h | h
  · rw [Int.sign_eq_neg_one_of_neg h, Int.sign_eq_neg_one_of_neg]
    have : b * d * p ≤ b * d * (-1) := Int.mul_le_mul_of_nonneg_left (by omega) (by omega)
    omega
  · exact absurd h h0
  · rw [Int.sign_eq_one_of_pos h, Int.sign_eq_one_of_pos]
    have : b * d * 1 ≤ b * d * p := Int.mul_le_mul_of_nonneg_left (by omega) (by omega)
    omega
theorem qT_ : ∀ (k : Nat) (o : W) (a b c d : Int), b.toNat ≤ k → 0 < b → 0 < d → B512 a → B512 b → B512 c → B512 d → (o.1 = 1 ∨ o.1 = -1) →
    (cf k o (E (Z.of a)) (E (Z.of b)) (E (Z.of c)) (E (Z.of d))).1 = o.1 * (a * d - c * b).sign := by
  intro k
  induction k with
  | zero => intro o a b c d hk hb; omega
  | succ k ih =>
    intro o a b c d hk hb hd ha hb' hc hd' ho
    unfold cf
    simp only [E_dec]
    rw [hs_ ha hb' hb, hs_ hc hd' hd, ne_ ha hb' hb, ne_ hc hd' hd, ee_ (kJ_ hb hb'), ee_ (kJ_ hd hd'), ky_ (lg_ ha hb) (lg_ hc hd)]
    have e1 := Int.mul_ediv_add_emod a b
    have e2 := Int.mul_ediv_add_emod c d
    have r1 := Int.emod_nonneg a (by omega : b ≠ 0)
    have r2 := Int.emod_lt_of_pos a hb
    have s1 := Int.emod_nonneg c (by omega : d ≠ 0)
    have s2 := Int.emod_lt_of_pos c hd
    have hrB := kJ_ (u := a) hb hb'
    have hsB := kJ_ (u := c) hd hd'
    have hpB := lg_ ha hb
    have hqB := lg_ hc hd
    generalize hp : a / b = p at *
    generalize hr : a % b = r at *
    generalize hq : c / d = q at *
    generalize hs : c % d = s at *
    have key : a * d - c * b = b * d * (p - q) + (r * d - s * b) := by
      rw [← e1, ← e2]; grind
    rw [key]
    by_cases hpq : p = q
    · have h1 : (p - q).sign = 0 := by rw [hpq, Int.sub_self]; rfl
      have h2 : b * d * (p - q) + (r * d - s * b) = r * d - s * b := by rw [hpq]; grind
      rw [h1, h2]
      have h3 : ((0 : Int) != 0) = false := rfl
      rw [h3]
      simp only [cond_false]
      by_cases h0 : r = 0 ∨ s = 0
      · have h4 : ((r.sign == 0) || (s.sign == 0)) = true := by
          rcases h0 with h | h <;> subst h <;> simp
        rw [h4]
        simp only [cond_true]
        have h5 := js_ r
        have h6 := js_ s
        have e5 : (W.sub (Z.signW (Z.of r)) (Z.signW (Z.of s))).1 = r.sign - s.sign := by
          show IntKind.i64.wrap ((Z.signW (Z.of r)).1 - (Z.signW (Z.of s)).1) = _
          rw [ee_ hrB, ee_ hsB]
          exact ht_ (by omega)
        rw [mul_o ho (by rw [e5]; omega), e5]
        congr 1
        rcases h0 with h | h
        · subst h
          rw [Int.zero_mul, Int.zero_sub, Int.sign_neg, Int.sign_mul, Int.sign_eq_one_of_pos hb]; simp
        · subst h
          rw [Int.zero_mul, Int.sub_zero, Int.sign_mul, Int.sign_eq_one_of_pos hd]; simp
      · have hr0 : 0 < r := by omega
        have hs0 : 0 < s := by omega
        have h4 : ((r.sign == 0) || (s.sign == 0)) = false := by
          rw [Int.sign_eq_one_of_pos hr0, Int.sign_eq_one_of_pos hs0]; rfl
        rw [h4]
        simp only [cond_false]
        rw [ih _ _ _ _ _ (by omega) hr0 hs0 hb' hrB hd' hsB (by rw [neg_o ho]; omega), neg_o ho]
        have : b * s - d * r = -(r * d - s * b) := by grind
        rw [this, Int.sign_neg, Int.neg_mul_neg]
    · have h1 : ((p - q).sign != 0) = true := by
        rcases Int.lt_trichotomy (p - q) 0 with h | h | h
        · rw [Int.sign_eq_neg_one_of_neg h]; rfl
        · omega
        · rw [Int.sign_eq_one_of_pos h]; rfl
      rw [h1]
      simp only [cond_true]
      rw [mul_o ho (by rw [ky_ hpB hqB]; have := js_ (p - q); omega), ky_ hpB hqB]
      rw [od_ hb hd (by omega) r1 r2 s1 s2]
theorem rD_ {d : Int} (h : B512 d) : cfN (E (Z.of d)) = d.toNat := by
  unfold cfN
  rw [E_dec, Z.of_some h]
theorem iV_ {a : Rt} {n d : Int} (h : a.Is n d) : al_ a = true := sg_.2 ⟨n, d, h⟩
theorem rU_ {a b : Rt} {n d m e : Int} (ha : a.Is n d) (hb : b.Is m e) : (cK_ a b).1 = (n * e - m * d).sign := by
  unfold cK_
  rw [fL_, fL_, iV_ ha, iV_ hb]
  simp only [Bool.not_true, Bool.and_false, cond_true, cond_false]
  rw [ha.en, ha.ed, hb.en, hb.ed, rD_ ha.hd, qT_ _ _ _ _ _ _ (Nat.le_refl _) ha.pos hb.pos ha.hn ha.hd hb.hn hb.hd (.inl rfl)]
  exact Int.one_mul _
end Go.Num

set_option linter.unusedVariables false
set_option linter.unusedSimpArgs false
namespace Go.Num
open Go Go.Kn
theorem qN_ (a b : Rt) : cK_ a b = cr_ a b := by
  unfold cK_ cr_ bw_
  rw [fL_, fL_]
  cases al_ a <;> cases al_ b <;> simp only [Bool.not_true, Bool.not_false, Bool.or_true, Bool.true_or, Bool.or_false, Bool.and_true, Bool.and_false, Bool.false_and, Bool.true_and, cond_true, cond_false, E_dec] <;> rfl
theorem rG_ {a : Rt} {n d : Int} (h : a.Is n d) : Rt.Is (bu_ a) (-n) d := by
  have e : bu_ a = ⟨E (Z.of (-n)), E (Z.of d)⟩ := by
    unfold bu_
    rw [iV_ h, h.en, h.ed, E_dec, rK_ h.hn]; rfl
  rw [e]
  refine ⟨rfl, rfl, ?_, h.hd, h.pos, by rw [Int.neg_gcd]; exact h.cop⟩
  have := h.hn
  unfold B512 at *
  rw [Int.natAbs_neg]; exact this
theorem or_ {x : Int} : x.sign ≤ 0 ↔ x ≤ 0 := Int.sign_nonpos_iff
/-- An interval that is not bad: its ends, in order. -/
structure Iv.Is (a : Iv) (n d m e : Int) : Prop where
  lo : a.lo.Is n d
  hi : a.hi.Is m e
  le : n * e ≤ m * d
end Go.Num


set_option linter.unusedVariables false
set_option linter.unusedSimpArgs false
namespace Go.Num
open Go Go.Kn
/-- The number that a fraction is. -/
def Rt.At (a : Rt) (q : Rat) : Prop := a.Is q.num (q.den : Int)
theorem Is_At {a : Rt} {n d : Int} (h : a.Is n d) : ∃ q : Rat, a.At q ∧ q.num = n ∧ (q.den : Int) = d := by
  have hd : (d.toNat : Int) = d := Int.toNat_of_nonneg (Int.le_of_lt h.pos)
  have hc : n.natAbs.Coprime d.toNat := by
    have := h.cop
    unfold Int.gcd at this
    rw [show d.natAbs = d.toNat by omega] at this
    exact this
  refine ⟨⟨n, d.toNat, by have := h.pos; omega, hc⟩, ?_, rfl, hd⟩
  show a.Is n (d.toNat : Int)
  rw [hd]; exact h
theorem iq_ {a : Rt} {q : Rat} (h : a.At q) : al_ a = true := iV_ h
theorem m1_ {a b : Rt} {q : Rat} (ha : a.At q) (hb : b.At q) : a = b := Rt.ext (ha.en.trans hb.en.symm) (ha.ed.trans hb.ed.symm)
theorem rb_ {a b : Rt} {p q : Rat} (ha : a.At p) (hb : b.At q) : (cK_ a b).1 = (p.num * q.den - q.num * p.den).sign := rU_ ha hb
theorem rQ_ {a b : Rt} {p q : Rat} (ha : a.At p) (hb : b.At q) : (cK_ a b).1 ≤ 0 ↔ p ≤ q := by
  rw [rb_ ha hb, or_, Rat.le_iff]; omega
/-- An interval from p to q. -/
structure Iv.At (a : Iv) (p q : Rat) : Prop where
  lo : a.lo.At p
  hi : a.hi.At q
  le : p ≤ q
end Go.Num

set_option linter.unusedVariables false
set_option linter.unusedSimpArgs false
namespace Go.Num
open Go Go.Kn
end Go.Num

set_option linter.unusedVariables false
set_option linter.unusedSimpArgs false
namespace Go.Num
open Go Go.Kn
/-- Above and below of less than k bits. -/
structure Sz (q : Rat) (k : Nat) : Prop where
  n : q.num.natAbs < 2 ^ k
  d : q.den < 2 ^ k
theorem fk_ {a b : Nat} (h : a ≤ b) : (2 : Nat) ^ a ≤ 2 ^ b := Nat.pow_le_pow_right (by decide) h
theorem rO_ {v : Int} {k : Nat} (m : Nat) (hm : 4294967296 ^ 16 = 2 ^ m) (h : v.natAbs < 2 ^ k) (hk : k ≤ m) : B512 v := by
  unfold B512
  rw [hm]
  exact Nat.lt_of_lt_of_le h (fk_ hk)
theorem B_pow {v : Int} {k : Nat} (h : v.natAbs < 2 ^ k) (hk : k ≤ 512) : B512 v := rO_ 512 hV_ h hk
theorem Sz.mono {q : Rat} {j k : Nat} (h : Sz q j) (hk : j ≤ k) : Sz q k := ⟨Nat.lt_of_lt_of_le h.n (fk_ hk), Nat.lt_of_lt_of_le h.d (fk_ hk)⟩
theorem Sz.bn {q : Rat} {k : Nat} (h : Sz q k) (hk : k ≤ 512) : B512 q.num := B_pow h.n hk
theorem Sz.bd {q : Rat} {k : Nat} (h : Sz q k) (hk : k ≤ 512) : B512 (q.den : Int) := B_pow (by simpa using h.d) hk
theorem dG_ {a b j k : Nat} (h : a < 2 ^ j) (g : b < 2 ^ k) : a * b < 2 ^ (j + k) := by
  rw [Nat.pow_add]
  exact Nat.mul_lt_mul_of_lt_of_le h (Nat.le_of_lt g) (Nat.pow_pos (by decide))
theorem Sz.mul {p q : Rat} {j k : Nat} (h : Sz p j) (g : Sz q k) : Sz (p * q) (j + k) := by
  constructor
  · rw [Rat.num_mul]
    refine Nat.lt_of_le_of_lt (Int.natAbs_ediv_le_natAbs _ _) ?_
    rw [Int.natAbs_mul]; exact dG_ h.n g.n
  · rw [Rat.den_mul]
    exact Nat.lt_of_le_of_lt (Nat.div_le_self _ _) (dG_ h.d g.d)
theorem Sz.neg {p : Rat} {k : Nat} (h : Sz p k) : Sz (-p) k := ⟨by rw [Rat.neg_num, Int.natAbs_neg]; exact h.n, h.d⟩
theorem l9_ {n m : Int} {d e j k : Nat} (h1 : n.natAbs < 2 ^ j) (h2 : e < 2 ^ k) (h3 : m.natAbs < 2 ^ k) (h4 : d < 2 ^ j) : (n * e + m * d).natAbs < 2 ^ (j + k + 1) := by
  have a := dG_ h1 h2
  have b := dG_ h4 h3
  have c := Int.natAbs_add_le (n * e) (m * d)
  rw [Int.natAbs_mul, Int.natAbs_mul, Int.natAbs_natCast, Int.natAbs_natCast] at c
  rw [Nat.pow_succ]
  rw [Nat.mul_comm d] at b
  omega
theorem Sz.add {p q : Rat} {j k : Nat} (h : Sz p j) (g : Sz q k) : Sz (p + q) (j + k + 1) := by
  constructor
  · rw [Rat.num_add]
    exact Nat.lt_of_le_of_lt (Int.natAbs_ediv_le_natAbs _ _) (l9_ h.n g.d g.n h.d)
  · rw [Rat.den_add]
    exact Nat.lt_of_le_of_lt (Nat.div_le_self _ _) (Nat.lt_of_lt_of_le (dG_ h.d g.d) (fk_ (by omega)))
theorem Sz.int {n : Int} {k : Nat} (h : n.natAbs < 2 ^ k) (hk : 0 < k) : Sz (n : Rat) k := ⟨h, Nat.one_lt_two_pow (by omega)⟩
theorem At_of {a : Rt} {n d : Int} {q : Rat} (h : a.Is n d) (he : q.num * d = n * q.den) : a.At q := by
  obtain ⟨p, hp, h1, h2⟩ := Is_At h
  have : p = q := Rat.eq_iff_mul_eq_mul.2 (by rw [h1, h2]; exact he.symm)
  rw [← this]; exact hp
theorem At.is {a : Rt} {q : Rat} (h : a.At q) : a.Is q.num (q.den : Int) := h
theorem h8_ {n d : Int} {q : Rat} (hn : B512 n) (hd : B512 d) (hp : 0 < d) (he : q.num * d = n * q.den) : (am_ (E (Z.of n)) (E (Z.of d))).At q := by
  refine At_of (gT_ hn hd hp) ?_
  have g1 : ((Int.gcd n d : Nat) : Int) ∣ n := Int.gcd_dvd_left ..
  have g2 : ((Int.gcd n d : Nat) : Int) ∣ d := Int.gcd_dvd_right ..
  have p1 : 0 < ((Int.gcd n d : Nat) : Int) := by have := Int.gcd_pos_of_ne_zero_right n (show d ≠ 0 by omega); omega
  obtain ⟨x, hx⟩ := g1
  obtain ⟨y, hy⟩ := g2
  generalize ((Int.gcd n d : Nat) : Int) = G at *
  have q1 : n / G = x := by rw [hx]; exact Int.mul_ediv_cancel_left _ (by omega)
  have q2 : d / G = y := by rw [hy]; exact Int.mul_ediv_cancel_left _ (by omega)
  rw [q1, q2]
  rw [hx, hy] at he
  exact Int.eq_of_mul_eq_mul_left (show G ≠ 0 by omega) (by grind)
theorem Of_At (c : W) : (ac_ c).At (c.1 : Rat) := by
  unfold ac_
  rw [one4]
  have := c.2
  unfold I64 at this
  exact h8_ (B_pow (k := 64) (by omega) (by decide)) B1 (by decide) (by simp)
theorem rq_ {a : Rt} {p : Rat} (h : a.At p) : (bu_ a).At (-p) := rG_ h
theorem iR_ {q : Rat} : (0 : Int) < q.den := by have := q.den_nz; omega
theorem r7_ {a b : Rt} {p q : Rat} (ha : a.At p) (hb : b.At q) (hn : B512 (p * q).num) (hd : B512 ((p * q).den : Int)) : (aj_ a b).At (p * q) := by
  unfold aj_
  rw [iq_ ha, iq_ hb]
  obtain ⟨x, y, r, s, e1, e2, b1, b2, b3, b4, h1, h2, hc, he⟩ := kY_ ha hb
  simp only [Bool.not_true, Bool.or_false, cond_false, e1, e2, E_dec]
  rw [gG_ b1 b3, gG_ b2 b4]
  have hps : 0 < y * s := Int.mul_pos h1 h2
  have hpq : p * q = Rat.divInt (x * r) (y * s) := by
    rw [← Rat.num_divInt_den p, ← Rat.num_divInt_den q, Rat.divInt_mul_divInt]
    exact (Rat.divInt_eq_divInt_iff (by have := @iR_ p; have := @iR_ q; exact Int.mul_ne_zero (by omega) (by omega)) (by omega)).2 (by rw [he])
  have hnum : (p * q).num = x * r := by
    rw [hpq, Rat.num_divInt, Int.gcd_comm, hc, Int.sign_eq_one_of_pos hps]; simp
  have hden : ((p * q).den : Int) = y * s := by
    rw [hpq, Rat.den_divInt, if_neg (by omega), Int.gcd_comm, hc, Nat.div_one]; omega
  rw [hnum] at hn
  rw [hden] at hd
  exact h8_ hn hd hps (by rw [hnum, hden])
theorem qf_ {a : Rt} {p : Rat} (h : a.At p) : (b2_ a).1 = p.num.sign := by
  unfold b2_
  rw [iq_ h, (At.is h).en, E_dec]
  exact ee_ (At.is h).hn
end Go.Num

