/- The statements about vectors, of the plain functions that the program and the reference compute. No program stands in it. The statements about vectors, second part: tangents, orientation, sums. No program stands in it. Rational numbers: the program's and the reference's functions are the same; what they compute of fractions. No program stands in it. The statement about rational vectors, of the plain functions that the program and the reference compute. No program stands in it. What Cmp returns: the sign of a difference; order, the greater and the lesser. No program stands in it. Intervals: what the program computes is what the reference defines. No program stands in it. -/
import Derived.Test.YtapbefpeopaecaaGreatDoorZFn
import Derived.Test.YtapbefpeopaecaaGreatDoorZFi
import Derived.Test.YtapbefpeopaecaaGreatDoorZFGc
import Derived.Test.YtapbefpeopaecaaGreatDoorZFc
import Derived.Test.YtapbefpeopaecaaGreatDoorZFl
import Derived.Test.YtapbefpeopaecaaGreatDoorZPR
import Derived.Test.YtapbefpeopaecaaGreatDoorZPq

import Derived.KernelRfl
set_option linter.unusedVariables false
set_option linter.unusedSimpArgs false
namespace Go.Num
open Go Go.Kn
theorem Z.cases (z : Z) : z = Z.bad ∨ ∃ v : Int, v.natAbs < 4294967296 ^ 16 ∧ z = Z.of v ∧ z.o = some v := by
  cases h : z.o with
  | none => exact .inl (Z.eq_bad h)
  | some v => exact .inr ⟨v, z.h v h, Z.eq_of h, rfl⟩
theorem Z.zero_add (z : Z) : Z.add (Z.of 0) z = z := by
  rcases Z.cases z with rfl | ⟨v, _, rfl, hv⟩
  · rfl
  · rw [Z.add, bb_ (Z.of_some (by decide)) hv, Int.zero_add]
theorem sn_ (a b : A3 I) : e9_ a b = di_ a b := by
  unfold e9_ di_
  simp only [E_dec, Z.zero_add]
theorem mt_ (a : A3 W) : az_ a = a9_ a := rfl
theorem oC_ (a b : A3 I) : d9_ a b = cg_ a b := rfl
theorem oj_ (a b : A3 W) : bi_ a b = a0_ a b := sn_ _ _
theorem W.ext {a b : W} (h : a.1 = b.1) : a = b := Subtype.ext h
def okW (z : Z) : Bool := z.small.2 && (!decide (2305843009213693952 ≤ (Z.smallW z).1) && !decide ((Z.smallW z).1 ≤ (-2305843009213693952)))
theorem qU_ (z : Z) : (!z.small.2 || (decide (2305843009213693952 ≤ (Z.smallW z).1) || decide ((Z.smallW z).1 ≤ (-2305843009213693952)))) = !okW z := by
  unfold okW; cases z.small.2 <;> cases decide (2305843009213693952 ≤ (Z.smallW z).1) <;> cases decide ((Z.smallW z).1 ≤ (-2305843009213693952)) <;> rfl
def VW0 : A3 W := ⟨wl 0, wl 0, wl 0⟩
def gcd3 (a : A3 I) : Z := Z.gcd (Z.gcd (Z.gcd (Z.of 0) a.x.dec) a.y.dec) a.z.dec
/-- Primitive, told once. -/
def prim (a : A3 I) : A3 W × W :=
  if (gcd3 a).o = none then (VW0, wl 30)
  else if (gcd3 a).sign = 0 then (VW0, wl 31)
  else if okW (Z.quo a.x.dec (gcd3 a)) && (okW (Z.quo a.y.dec (gcd3 a)) && okW (Z.quo a.z.dec (gcd3 a))) then (⟨Z.smallW (Z.quo a.x.dec (gcd3 a)), Z.smallW (Z.quo a.y.dec (gcd3 a)), Z.smallW (Z.quo a.z.dec (gcd3 a))⟩, wl 0)
  else (VW0, wl 30)
theorem E_bad (z : Z) : (E z).1.bad = decide (z.o = none) := by
  show z.enc.bad = _
  unfold Z.enc
  cases h : z.o <;> simp
theorem sign0 (z : Z) : ((Z.signW z).1 == 0) = decide (z.sign = 0) := by
  show (z.sign == 0) = _
  rfl
theorem ne_ (a : A3 I) : a1_ a = prim a := by
  unfold a1_ prim
  simp only [E_dec, qU_, E_bad, sign0]
  show (bif decide ((gcd3 a).o = none) then _ else bif decide ((gcd3 a).sign = 0) then _ else bif !okW (Z.quo a.x.dec (gcd3 a)) then _ else bif !okW (Z.quo a.y.dec (gcd3 a)) then _ else bif !okW (Z.quo a.z.dec (gcd3 a)) then _ else _) = _
  by_cases h1 : (gcd3 a).o = none
  · simp [h1, VW0]
  · by_cases h2 : (gcd3 a).sign = 0
    · simp [h1, h2, VW0]
    · simp only [h1, h2, decide_false, cond_false, if_false]
      cases okW (Z.quo a.x.dec (gcd3 a)) <;> cases okW (Z.quo a.y.dec (gcd3 a)) <;> cases okW (Z.quo a.z.dec (gcd3 a)) <;> rfl
theorem qS_ (a : A3 W) : cf_ a = (!(decide (2305843009213693952 ≤ a.x.1) || decide (a.x.1 ≤ (-2305843009213693952))) && (!(decide (2305843009213693952 ≤ a.y.1) || decide (a.y.1 ≤ (-2305843009213693952))) && !(decide (2305843009213693952 ≤ a.z.1) || decide (a.z.1 ≤ (-2305843009213693952))))) := by
  unfold cf_
  cases (decide (2305843009213693952 ≤ a.x.1) || decide (a.x.1 ≤ (-2305843009213693952))) <;> cases (decide (2305843009213693952 ≤ a.y.1) || decide (a.y.1 ≤ (-2305843009213693952))) <;> cases (decide (2305843009213693952 ≤ a.z.1) || decide (a.z.1 ≤ (-2305843009213693952))) <;> rfl
theorem nu_ {α : Type} (p1 p2 p3 q1 q2 q3 r1 r2 r3 : Bool) (X Y : α) : (bif p1 then (bif p2 then (bif p3 then (bif (!(q1 || r1) && (!(q2 || r2) && !(q3 || r3))) then X else Y) else Y) else Y) else Y) =
    if ((p1 && (!q1 && !r1)) && ((p2 && (!q2 && !r2)) && (p3 && (!q3 && !r3)))) = true then X else Y := by
  cases p1 <;> cases p2 <;> cases p3 <;> cases q1 <;> cases q2 <;> cases q3 <;> cases r1 <;> cases r2 <;> cases r3 <;> rfl
def mkDir (p : A3 W × W) : Dir := ⟨p.1, p.2⟩
theorem o1_ (a : A3 I) : aT_ a = mkDir (prim a) := by
  unfold aT_ prim
  simp only [E_dec, E_bad, sign0, qS_]
  show (bif decide ((gcd3 a).o = none) then _ else bif decide ((gcd3 a).sign = 0) then _ else bif (Z.quo a.x.dec (gcd3 a)).small.2 then bif (Z.quo a.y.dec (gcd3 a)).small.2 then bif (Z.quo a.z.dec (gcd3 a)).small.2 then _ else _ else _ else _) = _
  by_cases h1 : (gcd3 a).o = none
  · rw [decide_eq_true h1, cond_true, if_pos h1]; rfl
  · by_cases h2 : (gcd3 a).sign = 0
    · rw [decide_eq_false h1, cond_false, decide_eq_true h2, cond_true, if_neg h1, if_pos h2]; rfl
    · rw [decide_eq_false h1, cond_false, decide_eq_false h2, cond_false, if_neg h1, if_neg h2, apply_ite mkDir]
      exact nu_ _ _ _ _ _ _ _ _ _ _ _
/-- What Primitive returns if all goes well. -/
structure PrimOk (a : A3 I) (p : A3 W) (x y z g : Int) : Prop where
  ax : a.x.dec.o = some x
  ay : a.y.dec.o = some y
  az : a.z.dec.o = some z
  gd : g = ((Int.gcd (Int.gcd (Int.gcd 0 x : Nat) y : Nat) z : Nat) : Int)
  g0 : 0 < g
  px : g * p.x.1 = x
  py : g * p.y.1 = y
  pz : g * p.z.1 = z
  bx : -2305843009213693952 < p.x.1 ∧ p.x.1 < 2305843009213693952
  bY : -2305843009213693952 < p.y.1 ∧ p.y.1 < 2305843009213693952
  bz : -2305843009213693952 < p.z.1 ∧ p.z.1 < 2305843009213693952
def Z.Is (z : Z) (v : Int) : Prop := z.o = none ∨ z.o = some v
theorem Z.Is.sign {z : Z} {v : Int} (h : z.Is v) : z.o = none ∨ z.sign = v.sign := by
  rcases h with h | h
  · exact .inl h
  · right; unfold Z.sign; rw [h]
theorem Z.Is.sign0 {z : Z} (h : z.Is 0) : z.sign = 0 := by
  unfold Z.sign; rcases h with h | h <;> rw [h] <;> rfl
/-- z is the number v, of less than 2^k in absolute value. -/
structure Fit (z : Z) (v : Int) (k : Nat) : Prop where
  eq : z = Z.of v
  lt : v.natAbs < 2 ^ k
theorem p512 {k : Nat} (hk : k ≤ 511) {n : Nat} (h : n < 2 ^ k) : n < 4294967296 ^ 16 := by
  have e : (2 : Nat) ^ (32 * 16) = (2 ^ 32) ^ 16 := Nat.pow_mul 2 32 16
  exact Nat.lt_of_lt_of_le h (Nat.le_trans (Nat.pow_le_pow_right (by decide) (show k ≤ 32 * 16 by omega)) (Nat.le_of_eq e))
theorem Fit.o {z : Z} {v : Int} {k : Nat} (h : Fit z v k) (hk : k ≤ 511) : z.o = some v := by rw [h.eq]; exact Z.of_some (p512 hk h.lt)
theorem Fit.mono {z : Z} {v : Int} {k k' : Nat} (h : Fit z v k) (hk : k ≤ k') : Fit z v k' := ⟨h.eq, Nat.lt_of_lt_of_le h.lt (Nat.pow_le_pow_right (by decide) hk)⟩
theorem Fit.mul {a b : Z} {x y : Int} {k l : Nat} (ha : Fit a x k) (hb : Fit b y l) (hk : k ≤ 511 ∧ l ≤ 511) : Fit (Z.mul a b) (x * y) (k + l) :=
  ⟨by rw [Z.mul, bb_ (ha.o hk.1) (hb.o hk.2)], by rw [Int.natAbs_mul, Nat.pow_add]; exact Nat.mul_lt_mul_of_lt_of_lt ha.lt hb.lt⟩
theorem Fit.add {a b : Z} {x y : Int} {k l : Nat} (ha : Fit a x k) (hb : Fit b y l) (hk : k ≤ 511 ∧ l ≤ 511) : Fit (Z.add a b) (x + y) (max k l + 1) := by
  refine ⟨by rw [Z.add, bb_ (ha.o hk.1) (hb.o hk.2)], ?_⟩
  have h1 := (ha.mono (Nat.le_max_left k l)).lt
  have h2 := (hb.mono (Nat.le_max_right k l)).lt
  rw [Nat.pow_succ]; omega
theorem Fit.neg {a : Z} {x : Int} {k : Nat} (ha : Fit a x k) (hk : k ≤ 511) : Fit (Z.neg a) (-x) k := ⟨by rw [Z.neg, cN_ (ha.o hk)], by rw [Int.natAbs_neg]; exact ha.lt⟩
theorem Fit.sub {a b : Z} {x y : Int} {k l : Nat} (ha : Fit a x k) (hb : Fit b y l) (hk : k ≤ 511 ∧ l ≤ 511) : Fit (Z.sub a b) (x - y) (max k l + 1) := by
  rw [Int.sub_eq_add_neg]; exact ha.add (hb.neg hk.2) hk
theorem Fit.sign {z : Z} {v : Int} {k : Nat} (h : Fit z v k) (hk : k ≤ 511) : z.sign = v.sign := by unfold Z.sign; rw [h.o hk]
end Go.Num

set_option linter.unusedVariables false
set_option linter.unusedSimpArgs false
namespace Go.Num
open Go Go.Kn
def tang (a : A3 W) : A3 W × A3 W :=
  if a.x.1 = 0 ∧ a.y.1 = 0 then (⟨wl 1, wl 0, wl 0⟩, ⟨wl 0, wl 1, wl 0⟩)
  else if (prim ⟨E (Z.neg (Z.of a.y.1)), E (Z.of a.x.1), E (Z.of 0)⟩).2.1 ≠ 0 ∨ (prim (cg_ (a9_ a) (a9_ (prim ⟨E (Z.neg (Z.of a.y.1)), E (Z.of a.x.1), E (Z.of 0)⟩).1))).2.1 ≠ 0 then (VW0, VW0)
  else ((prim ⟨E (Z.neg (Z.of a.y.1)), E (Z.of a.x.1), E (Z.of 0)⟩).1, (prim (cg_ (a9_ a) (a9_ (prim ⟨E (Z.neg (Z.of a.y.1)), E (Z.of a.x.1), E (Z.of 0)⟩).1))).1)
theorem lK_ {α : Type} {c : Bool} {p : Prop} [Decidable p] (h : c = true ↔ p) (x y : α) : (bif c then x else y) = if p then x else y := by
  cases c
  · rw [if_neg (fun hp => by have := h.2 hp; cases this)]; rfl
  · rw [if_pos (h.1 rfl)]; rfl
theorem or_ne (a b : W) : ((a.1 != 0) || (b.1 != 0)) = true ↔ (a.1 ≠ 0 ∨ b.1 ≠ 0) := by simp
theorem no_ (a : A3 W) : am_ a = tang a := by
  unfold am_ tang
  simp only [ne_, mt_, oC_]
  have e1 : (a9_ a).y.dec = Z.of a.y.1 := E_dec _
  simp only [e1]
  rw [lK_ (p := a.x.1 = 0 ∧ a.y.1 = 0) (by simp)]
  congr 1
  exact lK_ (or_ne _ _) _ _
theorem pb_ (a : A3 W) : av_ a = tang a := by
  unfold av_ tang
  simp only [o1_, mkDir]
  have e1 : (a9_ a).y.dec = Z.of a.y.1 := E_dec _
  simp only [e1]
  rw [lK_ (p := a.x.1 = 0 ∧ a.y.1 = 0) (by simp)]
  congr 1
  exact lK_ (or_ne _ _) _ _
end Go.Num

set_option linter.unusedVariables false
set_option linter.unusedSimpArgs false
namespace Go.Num
open Go Go.Kn
abbrev B512 (v : Int) : Prop := v.natAbs < 4294967296 ^ 16
theorem nm_ {x : I} (h : x.1.good = true) : E x.dec = x := Subtype.ext (jQ_ x.2 h)
theorem pW_ {x : I} (h : x.1.good = true) : ∃ v : Int, B512 v ∧ x = E (Z.of v) := by
  have h1 := aU_ x.2 h
  refine ⟨_, x.dec.h _ h1, ?_⟩
  rw [← Z.eq_of h1]; exact (nm_ h).symm
theorem iM_ {v : Int} (h : B512 v) : (E (Z.of v)).1.good = true := by
  show (Z.of v).enc.good = true
  rw [Z.enc_good, Z.of_some h]; rfl
theorem pv_ {v : Int} (h : B512 v) : (E (Z.of v)).1.bad = false := by
  have := iM_ h; unfold R.good at this; simp only [Bool.and_eq_true, Bool.not_eq_true'] at this; exact this.1
theorem rt_ : (E Z.bad).1.bad = true := rfl
theorem l5_ : (E Z.bad).1.good = false := rfl
theorem qM_ {v : Int} (h : B512 v) : (Z.of v).sign = v.sign := by unfold Z.sign; rw [Z.of_some h]
theorem f7_ {v : Int} (h : B512 v) : (Z.signW (Z.of v)).1 = v.sign := qM_ h
theorem ko_ {u v : Int} (hu : B512 u) (hv : B512 v) : Z.gcd (Z.of u) (Z.of v) = Z.of (Int.gcd u v) := by rw [Z.gcd, bb_ (Z.of_some hu) (Z.of_some hv)]
theorem iZ_ {u v : Int} (hu : B512 u) (hv : B512 v) (h : v ≠ 0) : Z.quo (Z.of u) (Z.of v) = Z.of (u.fdiv v) := by rw [Z.quo, bb_ (Z.of_some hu) (Z.of_some hv), if_neg h]
theorem iz_ {u v : Int} (hu : B512 u) (hv : B512 v) : Z.mul (Z.of u) (Z.of v) = Z.of (u * v) := by rw [Z.mul, bb_ (Z.of_some hu) (Z.of_some hv)]
theorem sk_ {u v : Int} (hu : B512 u) (hv : B512 v) : Z.add (Z.of u) (Z.of v) = Z.of (u + v) := by rw [Z.add, bb_ (Z.of_some hu) (Z.of_some hv)]
theorem r4_ {u : Int} (hu : B512 u) : Z.neg (Z.of u) = Z.of (-u) := by rw [Z.neg, cN_ (Z.of_some hu)]
theorem l2_ {v : Int} (h : ¬ B512 v) : Z.of v = Z.bad := by unfold Z.of; rw [dif_neg h]
theorem B1 : B512 1 := by decide
theorem B0 : B512 0 := by decide
theorem gcd_B {u v : Int} (hv : B512 v) (h : v ≠ 0) : B512 (Int.gcd u v : Nat) := by
  have : Int.gcd u v ≤ v.natAbs := Nat.le_of_dvd (by omega) (Int.gcd_dvd_natAbs_right u v)
  show ((Int.gcd u v : Nat) : Int).natAbs < _
  rw [Int.natAbs_natCast]; exact Nat.lt_of_le_of_lt this hv
theorem rY_ {u v : Int} (hu : B512 u) (hv : B512 v) (h : Z.of u = Z.of v) : u = v := by
  have := congrArg Z.o h
  rw [Z.of_some hu, Z.of_some hv] at this; exact Option.some.inj this
/-- a is the fraction n / d in lowest terms. -/
structure Rt.Is (a : Rt) (n d : Int) : Prop where
  en : a.n = E (Z.of n)
  ed : a.d = E (Z.of d)
  hn : B512 n
  hd : B512 d
  pos : 0 < d
  cop : Int.gcd n d = 1
theorem Rt.ext {a b : Rt} (h : a.n = b.n) (k : a.d = b.d) : a = b := by cases a; cases b; simp_all
theorem one4 : F_skewbackref04_one = E (Z.of 1) := rfl
theorem one_r : F_ratio_one = E (Z.of 1) := rfl
theorem lR_ : eA_ = bK_ := rfl
theorem pJ_ (a : I) : cy_ a = a.1.good := rfl
theorem f9_ (a : Rt) : a7_ a = ae_ a := by
  unfold a7_ ae_
  rw [pJ_, pJ_, one4, one_r]
  cases a.n.1.good <;> cases a.d.1.good <;> rfl
theorem iQ_ (a b : I) : ap_ a b = ai_ a b := rfl
theorem Of_eq (a : W) : aa_ a = ac_ a := rfl
theorem p5_ (a : Rt) : co_ a = bj_ a := by unfold co_ bj_; rw [f9_, lR_]
theorem jc_ (a b : Rt) : aB_ a b = ag_ a b := by unfold aB_ ag_; rw [f9_, f9_, lR_]; rfl
theorem ke_ (a b : Rt) : a6_ a b = ak_ a b := by unfold a6_ ak_; rw [p5_, jc_]
theorem sq_ {a : Rt} : ae_ a = true ↔ ∃ n d, Rt.Is a n d := by
  unfold ae_
  constructor
  · intro h
    cases gn : a.n.1.good <;> cases gd : a.d.1.good <;> simp only [gn, gd, Bool.not_true, Bool.not_false, Bool.or_true, Bool.true_or, Bool.or_false, cond_true, cond_false, Bool.false_eq_true] at h
    obtain ⟨n, hn, en⟩ := pW_ gn
    obtain ⟨d, hd, ed⟩ := pW_ gd
    rw [en, ed] at h
    simp only [E_dec, Bool.and_eq_true, decide_eq_true_eq, f7_ hd] at h
    obtain ⟨h1, h2⟩ := h
    have hp : 0 < d := Int.sign_pos_iff.1 h1
    rw [ko_ hn hd, one4] at h2
    have h3 := rY_ (gcd_B hd (by omega)) B1 (E_inj h2)
    exact ⟨n, d, en, ed, hn, hd, hp, by exact_mod_cast h3⟩
  · rintro ⟨n, d, h⟩
    rw [h.en, h.ed, iM_ h.hn, iM_ h.hd]
    simp only [Bool.not_true, Bool.or_false, cond_false, E_dec, Bool.and_eq_true, decide_eq_true_eq, f7_ h.hd]
    refine ⟨Int.sign_pos_iff.2 h.pos, ?_⟩
    rw [ko_ h.hn h.hd, h.cop]; rfl
theorem hO_ (v : Int) : v.fdiv 1 = v := by rw [Int.fdiv_eq_ediv_of_nonneg _ (by decide)]; exact Int.ediv_one v
theorem jr_ {n d : Int} (hn : B512 n) (hd : B512 d) (hp : 0 < d) (hc : Int.gcd n d = 1) : ai_ (E (Z.of n)) (E (Z.of d)) = ⟨E (Z.of n), E (Z.of d)⟩ := by
  unfold ai_
  have h1 : ((Z.signW (E (Z.of d)).dec).1 == 0) = false := by rw [E_dec, f7_ hd, Int.sign_eq_one_of_pos hp]; rfl
  have h2 : decide ((Z.signW (E (Z.of d)).dec).1 < 0) = false := by rw [E_dec, f7_ hd, Int.sign_eq_one_of_pos hp]; rfl
  rw [iM_ hn, iM_ hd, h1, h2, E_dec, E_dec, ko_ hn hd, hc]
  simp only [Bool.not_true, Bool.or_false, cond_false]
  rw [show ((1 : Nat) : Int) = 1 from rfl, iZ_ hn B1 (by decide), iZ_ hd B1 (by decide), hO_, hO_]
theorem j3_ (b : I) : ai_ (E Z.bad) b = bK_ := by unfold ai_; rw [l5_]; rfl
theorem jT_ (a : I) : ai_ a (E Z.bad) = bK_ := by
  unfold ai_; rw [l5_]
  cases a.1.good <;> rfl
theorem le_ {u g : Int} (hg : 0 < g) : u.fdiv g = u / g := Int.fdiv_eq_ediv_of_nonneg _ (Int.le_of_lt hg)
theorem div_B {u g : Int} (hu : B512 u) (hg : 0 < g) (hd : g ∣ u) : B512 (u / g) := by
  obtain ⟨k, rfl⟩ := hd
  rw [Int.mul_ediv_cancel_left _ (by omega)]
  refine Nat.lt_of_le_of_lt ?_ hu
  rw [Int.natAbs_mul]
  exact Nat.le_mul_of_pos_left _ (by omega)
/-- Make of a positive denominator. -/
theorem pd_ {n d : Int} (hn : B512 n) (hd : B512 d) (hp : 0 < d) :
    ai_ (E (Z.of n)) (E (Z.of d)) = ⟨E (Z.of (n / (Int.gcd n d : Nat))), E (Z.of (d / (Int.gcd n d : Nat)))⟩ := by
  unfold ai_
  have h1 : ((Z.signW (E (Z.of d)).dec).1 == 0) = false := by rw [E_dec, f7_ hd, Int.sign_eq_one_of_pos hp]; rfl
  have h2 : decide ((Z.signW (E (Z.of d)).dec).1 < 0) = false := by rw [E_dec, f7_ hd, Int.sign_eq_one_of_pos hp]; rfl
  have hg : 0 < ((Int.gcd n d : Nat) : Int) := by
    have := Int.gcd_pos_of_ne_zero_right n (show d ≠ 0 by omega)
    omega
  have hb := gcd_B (u := n) hd (by omega)
  rw [iM_ hn, iM_ hd, h1, h2, E_dec, E_dec, ko_ hn hd]
  simp only [Bool.not_true, Bool.or_false, cond_false]
  rw [iZ_ hn hb (by omega), iZ_ hd hb (by omega), le_ hg, le_ hg]
theorem io_ {n d : Int} (hn : B512 n) (hd : B512 d) (hp : 0 < d) : Rt.Is (ai_ (E (Z.of n)) (E (Z.of d))) (n / (Int.gcd n d : Nat)) (d / (Int.gcd n d : Nat)) := by
  have hg : 0 < ((Int.gcd n d : Nat) : Int) := by
    have := Int.gcd_pos_of_ne_zero_right n (show d ≠ 0 by omega)
    omega
  have d1 : ((Int.gcd n d : Nat) : Int) ∣ n := Int.gcd_dvd_left ..
  have d2 : ((Int.gcd n d : Nat) : Int) ∣ d := Int.gcd_dvd_right ..
  rw [pd_ hn hd hp]
  refine ⟨rfl, rfl, div_B hn hg d1, div_B hd hg d2, Int.ediv_pos_of_pos_of_dvd hp (by omega) d2, ?_⟩
  rw [Int.gcd_ediv d1 d2, Int.natAbs_natCast, Nat.div_self (by omega)]
/-- Two values of the reference's functions: bad, or a fraction. -/
theorem lk_ {a b : Rt} {n d m e : Int} (ha : a.Is n d) (hb : b.Is m e) :
    ∃ p q r s : Int, ai_ a.n b.d = ⟨E (Z.of p), E (Z.of q)⟩ ∧ ai_ b.n a.d = ⟨E (Z.of r), E (Z.of s)⟩ ∧ B512 p ∧ B512 q ∧ B512 r ∧ B512 s ∧ 0 < q ∧ 0 < s ∧ Int.gcd (p * r) (q * s) = 1 ∧ n * m * (q * s) = p * r * (d * e) := by
  have h1 := io_ ha.hn hb.hd hb.pos
  have h2 := io_ hb.hn ha.hd ha.pos
  have g1 : ((Int.gcd n e : Nat) : Int) ∣ n := Int.gcd_dvd_left ..
  have g2 : ((Int.gcd n e : Nat) : Int) ∣ e := Int.gcd_dvd_right ..
  have g3 : ((Int.gcd m d : Nat) : Int) ∣ m := Int.gcd_dvd_left ..
  have g4 : ((Int.gcd m d : Nat) : Int) ∣ d := Int.gcd_dvd_right ..
  refine ⟨n / (Int.gcd n e : Nat), e / (Int.gcd n e : Nat), m / (Int.gcd m d : Nat), d / (Int.gcd m d : Nat), ?_, ?_, h1.hn, h1.hd, h2.hn, h2.hd, h1.pos, h2.pos, ?_, ?_⟩
  · rw [ha.en, hb.ed]; exact Rt.ext h1.en h1.ed
  · rw [hb.en, ha.ed]; exact Rt.ext h2.en h2.ed
  · generalize hG : ((Int.gcd n e : Nat) : Int) = G at *
    generalize hH : ((Int.gcd m d : Nat) : Int) = H at *
    have c1 : Nat.Coprime (n / G).natAbs (e / G).natAbs := h1.cop
    have c2 : Nat.Coprime (m / H).natAbs (d / H).natAbs := h2.cop
    have k1 : Nat.Coprime n.natAbs d.natAbs := ha.cop
    have k2 : Nat.Coprime m.natAbs e.natAbs := hb.cop
    have d1 : (n / G).natAbs ∣ n.natAbs := Int.natAbs_dvd_natAbs.2 (Int.ediv_dvd_of_dvd g1)
    have d2 : (e / G).natAbs ∣ e.natAbs := Int.natAbs_dvd_natAbs.2 (Int.ediv_dvd_of_dvd g2)
    have d3 : (m / H).natAbs ∣ m.natAbs := Int.natAbs_dvd_natAbs.2 (Int.ediv_dvd_of_dvd g3)
    have d4 : (d / H).natAbs ∣ d.natAbs := Int.natAbs_dvd_natAbs.2 (Int.ediv_dvd_of_dvd g4)
    show Nat.gcd (n / G * (m / H)).natAbs (e / G * (d / H)).natAbs = 1
    rw [Int.natAbs_mul, Int.natAbs_mul]
    have x1 : Nat.Coprime (n / G).natAbs (d / H).natAbs := (k1.coprime_dvd_left d1).coprime_dvd_right d4
    have x2 : Nat.Coprime (m / H).natAbs (e / G).natAbs := (k2.coprime_dvd_left d3).coprime_dvd_right d2
    exact (Nat.Coprime.mul_right c1 x1).mul_left (Nat.Coprime.mul_right x2 c2)
  · obtain ⟨x, hx⟩ := g1
    obtain ⟨y, hy⟩ := g2
    obtain ⟨z, hz⟩ := g3
    obtain ⟨t, ht⟩ := g4
    have p1 : 0 < ((Int.gcd n e : Nat) : Int) := by have := Int.gcd_pos_of_ne_zero_right n (show e ≠ 0 by have := hb.pos; omega); omega
    have p2 : 0 < ((Int.gcd m d : Nat) : Int) := by have := Int.gcd_pos_of_ne_zero_right m (show d ≠ 0 by have := ha.pos; omega); omega
    generalize ((Int.gcd n e : Nat) : Int) = G at *
    generalize ((Int.gcd m d : Nat) : Int) = H at *
    have q1 : n / G = x := by rw [hx]; exact Int.mul_ediv_cancel_left _ (by omega)
    have q2 : e / G = y := by rw [hy]; exact Int.mul_ediv_cancel_left _ (by omega)
    have q3 : m / H = z := by rw [hz]; exact Int.mul_ediv_cancel_left _ (by omega)
    have q4 : d / H = t := by rw [ht]; exact Int.mul_ediv_cancel_left _ (by omega)
    rw [q1, q2, q3, q4, hx, hy, hz, ht]; grind
theorem il_ (a b : Rt) : aG_ a b = ah_ a b := by
  unfold aG_ ah_
  rw [f9_, f9_, lR_, iQ_, iQ_]
  cases hga : ae_ a <;> cases hgb : ae_ b <;> simp only [Bool.not_true, Bool.not_false, Bool.or_true, Bool.true_or, Bool.or_false, cond_true, cond_false]
  obtain ⟨n, d, ha⟩ := sq_.1 hga
  obtain ⟨m, e, hb⟩ := sq_.1 hgb
  obtain ⟨p, q, r, s, e1, e2, hp, hq, hr, hs, q0, s0, hc, _⟩ := lk_ ha hb
  rw [e1, e2]
  simp only [E_dec, iz_ hp hr, iz_ hq hs]
  by_cases b1 : B512 (p * r)
  · by_cases b2 : B512 (q * s)
    · rw [jr_ b1 b2 (Int.mul_pos q0 s0) hc, pv_ b1, pv_ b2]; rfl
    · rw [l2_ b2, jT_, rt_, Bool.or_true]; rfl
  · rw [l2_ b1, j3_]; rfl
/-- Right, or bad. -/
def Rt.Vld (a : Rt) : Prop := ae_ a = true ∨ a = bK_
theorem kc_ {a : Rt} (h : a.Vld) : ag_ (ac_ (wl 0)) a = a := by
  have h0 : (ac_ (wl 0)).Is 0 1 := by
    have : ac_ (wl 0) = ⟨E (Z.of 0), E (Z.of 1)⟩ := by
      show ai_ (E (Z.of 0)) F_skewbackref04_one = _
      rw [one4, jr_ B0 B1 (by decide) (by decide)]
    rw [this]; exact ⟨rfl, rfl, B0, B1, by decide, by decide⟩
  unfold ag_
  rw [sq_.2 ⟨_, _, h0⟩]
  rcases h with hg | hb
  · obtain ⟨n, d, ha⟩ := sq_.1 hg
    have hd0 := ha.pos
    simp only [hg, Bool.not_true, Bool.or_false, cond_false]
    rw [h0.en, h0.ed, ha.en, ha.ed]
    simp only [E_dec]
    rw [ko_ B1 ha.hd, Int.gcd_one_left]
    rw [show ((1 : Nat) : Int) = 1 from rfl, iZ_ ha.hd B1 (by decide), iZ_ B1 B1 (by decide), hO_, hO_, iz_ B0 ha.hd, Int.zero_mul, iz_ ha.hn B1, Int.mul_one, sk_ B0 ha.hn, Int.zero_add, iz_ B1 ha.hd, Int.one_mul,
      jr_ ha.hn ha.hd ha.pos ha.cop]
    exact Rt.ext ha.en.symm ha.ed.symm
  · have hn : ae_ a = false := by rw [hb]; decide +kernel
    rw [hn]; exact hb.symm
theorem ol_ {p q : Int} (hp : B512 p) (hq : B512 q) (h0 : 0 < q) (hc : Int.gcd p q = 1) : Rt.Vld ⟨E (Z.of p), E (Z.of q)⟩ := .inl (sq_.2 ⟨p, q, rfl, rfl, hp, hq, h0, hc⟩)
theorem nV_ (a b : Rt) : (ah_ a b).Vld := by
  unfold ah_
  cases hga : ae_ a <;> cases hgb : ae_ b <;> simp only [Bool.not_true, Bool.not_false, Bool.or_true, Bool.true_or, Bool.or_false, cond_true, cond_false] <;> try exact .inr rfl
  obtain ⟨n, d, ha⟩ := sq_.1 hga
  obtain ⟨m, e, hb⟩ := sq_.1 hgb
  obtain ⟨p, q, r, s, e1, e2, hp, hq, hr, hs, q0, s0, hc, _⟩ := lk_ ha hb
  rw [e1, e2]
  simp only [E_dec, iz_ hp hr, iz_ hq hs]
  by_cases b1 : B512 (p * r)
  · by_cases b2 : B512 (q * s)
    · rw [jr_ b1 b2 (Int.mul_pos q0 s0) hc]; exact ol_ b1 b2 (Int.mul_pos q0 s0) hc
    · rw [l2_ b2, jT_]; exact .inr rfl
  · rw [l2_ b1, j3_]; exact .inr rfl
end Go.Num

set_option linter.unusedVariables false
set_option linter.unusedSimpArgs false
namespace Go.Num
open Go Go.Kn
theorem rr_ (a b : Rt) : dN_ a b = cW_ a b := by
  unfold dN_ cW_ bN_
  rw [f9_, f9_]
  cases ae_ a <;> cases ae_ b <;> simp only [Bool.not_true, Bool.not_false, Bool.or_true, Bool.true_or, Bool.or_false, Bool.and_true, Bool.and_false, cond_true, cond_false, E_dec] <;> rfl
theorem mO_ (a b : A3 Rt) : cG_ a b = bs_ a b := by unfold cG_ bs_; rw [jc_, jc_, jc_]
theorem oQ_ (a b : A3 Rt) : cL_ a b = bC_ a b := by unfold cL_ bC_; rw [ke_, ke_, ke_]
theorem lF_ (a : Rt) (b : A3 Rt) : cq_ a b = bl_ a b := by unfold cq_ bl_; rw [il_, il_, il_]
theorem lz_ (a b : A3 Rt) : c6_ a b = b5_ a b := by
  unfold c6_ b5_
  simp only [il_, jc_, Of_eq]
  rw [kc_ (nV_ _ _)]
theorem oJ_ (a b : A3 Rt) : c5_ a b = b6_ a b := by
  unfold c5_ b6_ bD_
  simp only [il_, ke_]
theorem k5_ (a : A3 W) : cu_ a = bf_ a := rfl
theorem nk_ (a : A3 W) (b : A3 Rt) : bO_ a b = aV_ a b := by
  unfold bO_ aV_
  rw [k5_, lz_]
end Go.Num

set_option linter.unusedVariables false
set_option linter.unusedSimpArgs false
namespace Go.Num
open Go Go.Kn
theorem kO_ {a : Rt} {n d : Int} (h : a.Is n d) : ae_ a = true := sq_.2 ⟨n, d, h⟩
end Go.Num

set_option linter.unusedVariables false
set_option linter.unusedSimpArgs false
namespace Go.Num
open Go Go.Kn
theorem kY_ (a : Rt) : aI_ a = aL_ a := by unfold aI_ aL_; rw [f9_]
theorem pr_ (a b : Rt) : ab_ a b = bL_ a b := by unfold ab_ bL_; rw [f9_, iQ_, il_, lR_]
theorem l9_ {a : Rt} (h : ae_ a = false) : bj_ a = bK_ := by unfold bj_; rw [h]; rfl
theorem qG_ : ae_ bK_ = false := by decide +kernel
theorem n8_ {a : Rt} {n d : Int} (h : a.Is n d) : Rt.Is (bj_ a) (-n) d := by
  have e : bj_ a = ⟨E (Z.of (-n)), E (Z.of d)⟩ := by
    unfold bj_
    rw [kO_ h, h.en, h.ed, E_dec, r4_ h.hn]; rfl
  rw [e]
  refine ⟨rfl, rfl, ?_, h.hd, h.pos, by rw [Int.neg_gcd]; exact h.cop⟩
  have := h.hn
  unfold B512 at *
  rw [Int.natAbs_neg]; exact this
theorem qB_ {a : Rt} {n d : Int} (h : a.Is n d) : bj_ (bj_ a) = a := by
  have h1 := n8_ (n8_ h)
  rw [Int.neg_neg] at h1
  exact Rt.ext (h1.en.trans h.en.symm) (h1.ed.trans h.ed.symm)
theorem Is_of {a : Rt} (h : ae_ a = true) : ∃ n d, Rt.Is a n d := sq_.1 h
/-- An interval that is not bad: its ends, in order. -/
structure Iv.Is (a : Iv) (n d m e : Int) : Prop where
  lo : a.lo.Is n d
  hi : a.hi.Is m e
  le : n * e ≤ m * d
end Go.Num

