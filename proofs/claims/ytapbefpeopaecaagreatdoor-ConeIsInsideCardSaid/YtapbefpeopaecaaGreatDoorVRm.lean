/- law21: ConeIsInside. No program stands in it. -/
import Derived.Test.YtapbefpeopaecaaGreatDoorVQa
import Derived.KernelRfl

set_option linter.unusedVariables false
set_option linter.unusedSimpArgs false
namespace Go.Num
open Go Go.Kn
theorem oo_ (q : Rat) : q * ((q.den : Int) : Rat) = ((q.num : Int) : Rat) := by
  have h := Rat.num_divInt_den q
  rw [Rat.divInt_eq_div, Rat.div_def] at h
  have h0 : (((q.den : Nat) : Int) : Rat) ≠ 0 := fun h => q.den_nz (by have := Rat.intCast_eq_zero_iff.1 h; omega)
  have e : (((q.num : Int) : Rat) * (((q.den : Nat) : Int) : Rat)⁻¹) * (((q.den : Nat) : Int) : Rat) = ((q.num : Int) : Rat) := by rw [Rat.mul_assoc, Rat.inv_mul_cancel _ h0, Rat.mul_one]
  rw [h] at e; exact e
theorem ks_ (q : Rat) : (((q.den : Int) : Rat)) * q = ((q.num : Int) : Rat) := by rw [Rat.mul_comm]; exact oo_ q
theorem ra_ : (0 : Rat) ≤ 1 / 2 := by rw [Rat.div_def]; exact Rat.mul_nonneg (by decide) (j4_ (by decide))
theorem pB_ {q s : Rat} (hs : 0 < s) : (if q < 0 then -(ab q / s) else ab q / s) * s = q := by
  have e : ab q / s * s = ab q := by rw [Rat.div_def, Rat.mul_assoc, Rat.inv_mul_cancel _ (by grind), Rat.mul_one]
  unfold ab at *
  split
  · rw [Rat.neg_mul, e]; split <;> grind
  · rw [e]; split <;> grind
/-- The multipliers of Split. -/
structure Ml (l : List Rt) (L : Int) (x y z s1 s2 : Rat) : Prop where
  ex : ∃ (k0 k1 k2 k3 : Rt) (q0 q1 q2 q3 : Rat), l = [k0, k1, k2, k3] ∧ k0.At q0 ∧ k1.At q1 ∧ k2.At q2 ∧ k3.At q3 ∧ Cm q0 L 224 ∧ Cm q1 L 224 ∧ Cm q2 L 224 ∧ Cm q3 L 224 ∧ 0 ≤ q0 ∧ 0 ≤ q1 ∧ 0 ≤ q2 ∧ 0 ≤ q3 ∧ q0 + q1 + (q2 + q3) = z ∧ (q0 - q1) * s1 = x ∧ (q2 - q3) * s2 = y
theorem halfq : ((1 : Int) : Rat) = ((2 : Int) : Rat) * ((1 : Rat) / 2) := by
  show (1 : Rat) = 2 * (1 / 2)
  rw [Rat.div_def, Rat.one_mul, Rat.mul_inv_cancel _ (by decide)]
theorem mG_ : Az ((1 : Rat) / 2) 1 2 := Az_of halfq (by decide) (by decide) (by decide)
theorem og_ : (au_ (wl 1) (wl 2)).At ((1 : Rat) / 2) := by
  exact gt_ (n := 1) (d := 2) B1 (by decide) (by decide) (kM_ halfq)
theorem qo_ {n : A3 W} {b : W} {f : A3 Rt} {x y z : Rat} (hc : Ct n b) (hcc : aJ_ n b = true) (nx : n.x.1.natAbs < 2 ^ 11) (ny : n.y.1.natAbs < 2 ^ 11) (nz : n.z.1.natAbs < 2 ^ 11) (hf : V3 f x y z 20 8) (hb : b.1 ≠ 0)
    (k1 : slS n (tang n).1 b.1 < 2 ^ 22) (k2 : slS n (tang n).2 b.1 < 2 ^ 22) (h : (a9_ n b f).is = true) :
    ∃ L : Int, 0 < L ∧ L.natAbs < 2 ^ 222 ∧ Ml (a9_ n b f).l L (al (tang n).1 x y z) (al (tang n).2 x y z) (al n x y z) ((slS n (tang n).1 b.1 : Rat) / 256) ((slS n (tang n).2 b.1 : Rat) / 256) := by
  have tg := jf_ hc.x hc.y hc.z hc.n0
  obtain ⟨tx, ty, tz⟩ := tg.tb 11 (by decide) nx ny nz
  obtain ⟨ux, uy, uz⟩ := tg.ub 11 (by decide) nx ny nz
  have pn := dT_ hc.n0
  have pt := dT_ tg.t0
  have pu := dT_ tg.u0
  obtain ⟨a1, s1⟩ := eC_ tx ty tz pt hf (by decide) (by decide)
  obtain ⟨a2, s2⟩ := eC_ ux uy uz pu hf (by decide) (by decide)
  obtain ⟨a3, s3⟩ := eC_ nx ny nz pn hf (by decide) (by decide)
  obtain ⟨b1, r1⟩ := fi_ hc.b0 hc.b1 (Int.le_of_lt pn) pt k1 (by decide)
  obtain ⟨b2, r2⟩ := fi_ hc.b0 hc.b1 (Int.le_of_lt pn) pu k2 (by decide)
  obtain ⟨c1, d1⟩ := gC_ a1 b1 s1 r1 (by decide) (by decide)
  obtain ⟨c2, d2⟩ := gC_ a2 b2 s2 r2 (by decide) (by decide)
  have his := h
  rw [lo_ (N := 11) (K := 22) hc hcc (by decide) nx ny nz hf k1 k2 (by decide) (by decide)] at h
  simp only [Bool.and_eq_true, Bool.or_eq_true, Bool.not_eq_true', decide_eq_true_eq, decide_eq_false_iff_not] at h
  obtain ⟨g1, g2, g3⟩ := h
  obtain ⟨p1, q1⟩ := d1 g1
  obtain ⟨p2, q2⟩ := d2 g2
  have m1 := gH_ a3 p1 s3 q1 (by decide) (by decide) (by decide)
  have w1 := s3.sub (c := 126) q1 (by decide) (by decide)
  have m2 := gH_ m1 p2 w1 q2 (by decide) (by decide) (by decide)
  have sg1 : 0 ≤ (slS n (tang n).1 b.1 : Rat) / 256 := by rw [Rat.div_def]; exact Rat.mul_nonneg (Rat.intCast_nonneg.2 ii_) i256
  have sg2 : 0 ≤ (slS n (tang n).2 b.1 : Rat) / 256 := by rw [Rat.div_def]; exact Rat.mul_nonneg (Rat.intCast_nonneg.2 ii_) i256
  have e1 : (aN_ (an_ (tang n).1 f) (ap_ n b (tang n).1)).2 = true := by rw [c1]; simpa using g1
  have e2 : (aN_ (an_ (tang n).2 f) (ap_ n b (tang n).2)).2 = true := by rw [c2]; simpa using g2
  have hz := og_
  have lz := fk_
  have x1 := fM_ a1
  have x2 := fM_ a2
  have n3 : decide ((aI_ (aZ_ (aZ_ (an_ n f) (aN_ (an_ (tang n).1 f) (ap_ n b (tang n).1)).1) (aN_ (an_ (tang n).2 f) (ap_ n b (tang n).2)).1)).1 < 0) = false := by
    rw [fM_ m2]
    exact decide_eq_false fun hx => by have := Int.sign_neg_iff.1 hx; have := Rat.num_nonneg.2 g3; omega
  have hb0 : (b.1 == 0) = false := beq_eq_false_iff_ne.2 hb
  unfold a9_
  rw [hcc, cond_true, g3_]
  simp only
  rw [e1, e2, n3, hb0]
  simp only [Bool.not_true, Bool.or_false, cond_false]
  generalize (aN_ (an_ (tang n).1 f) (ap_ n b (tang n).1)).1 = PX at *
  generalize (aN_ (an_ (tang n).2 f) (ap_ n b (tang n).2)).1 = PY at *
  generalize hX : al (tang n).1 x y z = X at *
  generalize hY : al (tang n).2 x y z = Y at *
  generalize hZ : al n x y z = Z at *
  generalize (slS n (tang n).1 b.1 : Rat) / 256 = σ1 at *
  generalize (slS n (tang n).2 b.1 : Rat) / 256 = σ2 at *
  have P0 : 0 ≤ ab X / σ1 := by
    rw [Rat.div_def]; exact Rat.mul_nonneg (ab_nn X) (j4_ sg1)
  have Q0 : 0 ≤ ab Y / σ2 := by
    rw [Rat.div_def]; exact Rat.mul_nonneg (ab_nn Y) (j4_ sg2)
  have mX : (if X < 0 then -(ab X / σ1) else ab X / σ1) * σ1 = X := by
    rcases g1 with g | g
    · rw [ab_0 g, g, Rat.div_def, Rat.zero_mul]; split <;> grind
    · exact pB_ (Rat.lt_of_le_of_ne sg1 fun e => g e.symm)
  have mY : (if Y < 0 then -(ab Y / σ2) else ab Y / σ2) * σ2 = Y := by
    rcases g2 with g | g
    · rw [ab_0 g, g, Rat.div_def, Rat.zero_mul]; split <;> grind
    · exact pB_ (Rat.lt_of_le_of_ne sg2 fun e => g e.symm)
  generalize ab X / σ1 = P at *
  generalize ab Y / σ2 = Q at *
  -- the common denominator
  have dP := ks_ P
  have dQ := ks_ Q
  have dZ := ks_ Z
  have pP := @gF_ P
  have pQ := @gF_ Q
  have pZ := @gF_ Z
  have lP : P.num.natAbs < 2 ^ 61 ∧ ((P.den : Int)).natAbs < 2 ^ 73 := ⟨q1.n, by simpa using q1.d⟩
  have lQ : Q.num.natAbs < 2 ^ 73 ∧ ((Q.den : Int)).natAbs < 2 ^ 97 := ⟨q2.n, by simpa using q2.d⟩
  have lZ : Z.num.natAbs < 2 ^ 52 ∧ ((Z.den : Int)).natAbs < 2 ^ 51 := ⟨s3.n, by simpa using s3.d⟩
  have t2 : (2 : Int).natAbs < 2 ^ 2 := by decide
  refine ⟨(P.den : Int) * (Q.den : Int) * (Z.den : Int) * 2, Int.mul_pos (Int.mul_pos (Int.mul_pos pP pQ) pZ) (by decide), ?_, ?_⟩
  · have h1 := mbits (mbits (mbits lP.2 lQ.2) lZ.2) t2
    have h2 : ((P.den : Int) * (Q.den : Int) * (Z.den : Int) * 2).natAbs = ((P.den : Int) * (Q.den : Int) * (Z.den : Int)).natAbs * 2 := by rw [Int.natAbs_mul]; rfl
    have h3 := mbits (mbits lP.2 lQ.2) lZ.2
    rw [h2]
    have e : (2 : Nat) ^ 222 = 2 ^ (73 + 97 + 51) * 2 := by rw [← Nat.pow_succ]
    omega
  have cP : Cm P ((P.den : Int) * (Q.den : Int) * (Z.den : Int) * 2) 223 := ⟨P.num * (Q.den : Int) * (Z.den : Int) * 2, by
    rw [Rat.intCast_mul _ 2, Rat.intCast_mul, Rat.intCast_mul, Rat.intCast_mul _ 2, Rat.intCast_mul, Rat.intCast_mul, ← dP]; grind, Nat.lt_of_lt_of_le (mbits (mbits (mbits lP.1 lQ.2) lZ.2) t2) (dS_ (by decide))⟩
  have cQ : Cm Q ((P.den : Int) * (Q.den : Int) * (Z.den : Int) * 2) 223 := ⟨Q.num * (P.den : Int) * (Z.den : Int) * 2, by
    rw [Rat.intCast_mul _ 2, Rat.intCast_mul, Rat.intCast_mul, Rat.intCast_mul _ 2, Rat.intCast_mul, Rat.intCast_mul, ← dQ]; grind, Nat.lt_of_lt_of_le (mbits (mbits (mbits lQ.1 lP.2) lZ.2) t2) (dS_ (by decide))⟩
  have cR : Cm ((Z - P - Q) * (1 / 2)) ((P.den : Int) * (Q.den : Int) * (Z.den : Int) * 2) 223 := ⟨Z.num * (P.den : Int) * (Q.den : Int) - P.num * (Q.den : Int) * (Z.den : Int) - Q.num * (P.den : Int) * (Z.den : Int), by
    rw [Rat.intCast_sub, Rat.intCast_sub, Rat.intCast_mul, Rat.intCast_mul, Rat.intCast_mul, Rat.intCast_mul, Rat.intCast_mul, Rat.intCast_mul, Rat.intCast_mul _ 2, Rat.intCast_mul, Rat.intCast_mul, ← dP, ← dQ, ← dZ]
    have : ((2 : Int) : Rat) = 2 := rfl
    rw [this]; grind, by
    have u1 := Nat.lt_of_lt_of_le (mbits (mbits lZ.1 lP.2) lQ.2) (dS_ (show 52 + 73 + 97 ≤ 222 by decide))
    have u2 := Nat.lt_of_lt_of_le (mbits (mbits lP.1 lQ.2) lZ.2) (dS_ (show 61 + 97 + 51 ≤ 220 by decide))
    have u3 := Nat.lt_of_lt_of_le (mbits (mbits lQ.1 lP.2) lZ.2) (dS_ (show 73 + 73 + 51 ≤ 220 by decide))
    have e1 : (2 : Nat) ^ 223 = 2 * 2 ^ 222 := by rw [Nat.pow_succ, Nat.mul_comm]
    have e2 : (2 : Nat) ^ 222 = 4 * 2 ^ 220 := by rw [Nat.pow_succ, Nat.pow_succ, Nat.mul_assoc, Nat.mul_comm]
    omega⟩
  have cP' := cP.mono (show 223 ≤ 224 by decide)
  have cQ' := cQ.mono (show 223 ≤ 224 by decide)
  have cR' := cR.mono (show 223 ≤ 224 by decide)
  have cPR := cP.add cR
  generalize hL : (P.den : Int) * (Q.den : Int) * (Z.den : Int) * 2 = L at *
  have w2 := w1.sub (c := 225) q2 (by decide) (by decide)
  have hr := eO_ m2 hz w2 mG_ (by decide) (by decide)
  have wr := w2.mul mG_
  have hPR := fa_ p1 hr q1 wr (by decide) (by decide) (by decide)
  have R0 : 0 ≤ (Z - P - Q) * (1 / 2) := Rat.mul_nonneg g3 ra_
  rw [x1, x2]
  have sx : decide (X.num.sign < 0) = decide (X < 0) := decide_eq_decide.2 (by rw [Int.sign_neg_iff, ← Rat.not_le, ← Rat.num_nonneg]; omega)
  have sy : decide (Y.num.sign < 0) = decide (Y < 0) := decide_eq_decide.2 (by rw [Int.sign_neg_iff, ← Rat.not_le, ← Rat.num_nonneg]; omega)
  rw [sx, sy]
  have PR0 : 0 ≤ P + (Z - P - Q) * (1 / 2) := Rat.add_nonneg P0 R0
  by_cases hx : X < 0 <;> by_cases hy : Y < 0
  · rw [decide_eq_true hx, decide_eq_true hy]
    rw [if_pos hx] at mX
    rw [if_pos hy] at mY
    exact ⟨_, _, _, _, _, _, _, _, rfl, hr, hPR, lz, p2, cR', cPR, .zero, cQ', R0, PR0, by decide, Q0, by grind, by rw [← mX]; grind, by rw [← mY]; grind⟩
  · rw [decide_eq_true hx, decide_eq_false hy]
    rw [if_pos hx] at mX
    rw [if_neg hy] at mY
    exact ⟨_, _, _, _, _, _, _, _, rfl, hr, hPR, p2, lz, cR', cPR, cQ', .zero, R0, PR0, Q0, by decide, by grind, by rw [← mX]; grind, by rw [← mY]; grind⟩
  · rw [decide_eq_false hx, decide_eq_true hy]
    rw [if_neg hx] at mX
    rw [if_pos hy] at mY
    exact ⟨_, _, _, _, _, _, _, _, rfl, hPR, hr, lz, p2, cPR, cR', .zero, cQ', PR0, R0, by decide, Q0, by grind, by rw [← mX]; grind, by rw [← mY]; grind⟩
  · rw [decide_eq_false hx, decide_eq_false hy]
    rw [if_neg hx] at mX
    rw [if_neg hy] at mY
    exact ⟨_, _, _, _, _, _, _, _, rfl, hPR, hr, p2, lz, cPR, cR', cQ', .zero, PR0, R0, Q0, by decide, by grind, by rw [← mX]; grind, by rw [← mY]; grind⟩
structure VC (a : A3 Rt) (x y z : Rat) (L : Int) (m : Nat) : Prop where
  hx : a.x.At x
  hy : a.y.At y
  hz : a.z.At z
  cx : Cm x L m
  cy : Cm y L m
  cz : Cm z L m
theorem VC.plus {a b : A3 Rt} {x y z u v w : Rat} {L : Int} {m c : Nat} (ha : VC a x y z L m) (hb : VC b u v w L m) (h0 : 0 < L) (hL : L.natAbs < 2 ^ c) (h : m + c < 512) (h2 : 2 * c ≤ 512) : VC (aH_ a b) (x + u) (y + v) (z + w) L (m + 1) :=
  ⟨fa_ ha.hx hb.hx (ha.cx.az h0 hL) (hb.cx.az h0 hL) h h (by omega), fa_ ha.hy hb.hy (ha.cy.az h0 hL) (hb.cy.az h0 hL) h h (by omega), fa_ ha.hz hb.hz (ha.cz.az h0 hL) (hb.cz.az h0 hL) h h (by omega), ha.cx.add hb.cx, ha.cy.add hb.cy, ha.cz.add hb.cz⟩
theorem VC.mono {a : A3 Rt} {x y z : Rat} {L : Int} {m n : Nat} (h : VC a x y z L m) (hm : m ≤ n) : VC a x y z L n := ⟨h.hx, h.hy, h.hz, h.cx.mono hm, h.cy.mono hm, h.cz.mono hm⟩
theorem VC.zero {L : Int} {m : Nat} : VC (ao_ ⟨wl 0, wl 0, wl 0⟩) 0 0 0 L m := ⟨fk_, fk_, fk_, .zero, .zero, .zero⟩
theorem VC.times {k : Rt} {e : A3 Rt} {q x y z : Rat} {L M : Int} {m p c d : Nat} (hk : k.At q) (ck : Cm q L m) (he : VC e x y z M p) (hL : 0 < L) (hM : 0 < M) (bL : L.natAbs < 2 ^ c) (bM : M.natAbs < 2 ^ d) (h1 : m + p ≤ 512) (h2 : c + d ≤ 512) : VC (aw_ k e) (q * x) (q * y) (q * z) (L * M) (m + p) :=
  ⟨eO_ hk he.hx (ck.az hL bL) (he.cx.az hM bM) h1 h2, eO_ hk he.hy (ck.az hL bL) (he.cy.az hM bM) h1 h2, eO_ hk he.hz (ck.az hL bL) (he.cz.az hM bM) h1 h2, ck.mul he.cx, ck.mul he.cy, ck.mul he.cz⟩
theorem lR_ {t : A3 W} {x y z : Rat} (h : 0 < nrm t) : al t x y z * (nrm t : Rat) = (t.x.1 : Rat) * x + (t.y.1 : Rat) * y + (t.z.1 : Rat) * z := by
  unfold al
  have h0 : ((nrm t : Int) : Rat) ≠ 0 := fun e => by have := Rat.intCast_eq_zero_iff.1 e; omega
  rw [Rat.div_def, Rat.mul_assoc, Rat.inv_mul_cancel _ h0, Rat.mul_one]
theorem kE_ {n t u : A3 W} (tg : Tg n t u) (pn : 0 < nrm n) (x y z : Rat) : x = al n x y z * n.x.1 + al t x y z * t.x.1 + al u x y z * u.x.1 ∧ y = al n x y z * n.y.1 + al t x y z * t.y.1 + al u x y z * u.y.1 ∧ z = al n x y z * n.z.1 + al t x y z * t.z.1 + al u x y z * u.z.1 := by
  have pt := dT_ tg.t0
  have pu := dT_ tg.u0
  have h := tg.full x y z
  simp only at h
  have an := lR_ (x := x) (y := y) (z := z) pn
  have at' := lR_ (x := x) (y := y) (z := z) pt
  have au := lR_ (x := x) (y := y) (z := z) pu
  have nrmR : ∀ a : A3 W, ((nrm a : Int) : Rat) = (a.x.1 : Rat) * a.x.1 + a.y.1 * a.y.1 + a.z.1 * a.z.1 := fun a => by unfold nrm; rw [Rat.intCast_add, Rat.intCast_add, Rat.intCast_mul, Rat.intCast_mul, Rat.intCast_mul]
  rw [← nrmR, ← nrmR, ← nrmR, ← an, ← at', ← au] at h
  have n0 : ((nrm n : Int) : Rat) ≠ 0 := fun e => by have := Rat.intCast_eq_zero_iff.1 e; omega
  have t0 : ((nrm t : Int) : Rat) ≠ 0 := fun e => by have := Rat.intCast_eq_zero_iff.1 e; omega
  have u0 : ((nrm u : Int) : Rat) ≠ 0 := fun e => by have := Rat.intCast_eq_zero_iff.1 e; omega
  have d0 := kN_ (kN_ n0 t0) u0
  obtain ⟨h1, h2, h3⟩ := h
  refine ⟨iI_ d0 ?_, iI_ d0 ?_, iI_ d0 ?_⟩
  · grind
  · grind
  · grind
theorem Comb4 (a b c d : A3 Rt) (p q r s : Rt) : aq_ [a, b, c, d] [p, q, r, s] = aH_ (aH_ (aH_ (aH_ (ao_ ⟨wl 0, wl 0, wl 0⟩) (aw_ p a)) (aw_ q b)) (aw_ r c)) (aw_ s d) := rfl
theorem Comb1 (a : A3 Rt) (p : Rt) : aq_ [a] [p] = aH_ (ao_ ⟨wl 0, wl 0, wl 0⟩) (aw_ p a) := rfl
theorem ke_ {a : Rt} {X Y : Bool} (h : (!(ae_ a) || (X || Y)) = false) : ae_ a = true := by
  simp only [Bool.or_eq_false_iff, Bool.not_eq_false'] at h; exact h.1
theorem l4_ {f : A3 Rt} (h : bc_ f = true) : ae_ f.x = true ∧ ae_ f.y = true ∧ ae_ f.z = true := by
  unfold bc_ at h
  cases h1 : (!(ae_ f.x) || (decide (48 < (Z.bitsW f.x.n.dec).1) || decide (17 < (Z.bitsW f.x.d.dec).1)))
  · cases h2 : (!(ae_ f.y) || (decide (48 < (Z.bitsW f.y.n.dec).1) || decide (17 < (Z.bitsW f.y.d.dec).1)))
    · cases h3 : (!(ae_ f.z) || (decide (48 < (Z.bitsW f.z.n.dec).1) || decide (17 < (Z.bitsW f.z.d.dec).1)))
      · exact ⟨ke_ h1, ke_ h2, ke_ h3⟩
      · rw [h1, h2, h3] at h; simp at h
    · rw [h1, h2] at h; simp at h
  · rw [h1] at h; simp at h
theorem ox_ {n : A3 W} {f : A3 Rt} (hF : bc_ f = true) (h : bt_ n f = true) : n.x.1.natAbs < 2 ^ 11 ∧ n.y.1.natAbs < 2 ^ 11 ∧ n.z.1.natAbs < 2 ^ 11 ∧ n.x.1.natAbs ≤ 1024 ∧ n.y.1.natAbs ≤ 1024 ∧ n.z.1.natAbs ≤ 1024 ∧ ∃ x y z, V3 f x y z 20 8 := by
  obtain ⟨g1, g2, g3⟩ := l4_ hF
  have e : (2 : Nat) ^ 11 = 2048 := rfl
  unfold bt_ at h
  cases h1 : (decide (1024 < n.x.1) || (decide (n.x.1 < (-1024)) || (decide (20 < (Z.bitsW f.x.n.dec).1) || decide (8 < (Z.bitsW f.x.d.dec).1))))
  · cases h2 : (decide (1024 < n.y.1) || (decide (n.y.1 < (-1024)) || (decide (20 < (Z.bitsW f.y.n.dec).1) || decide (8 < (Z.bitsW f.y.d.dec).1))))
    · cases h3 : (decide (1024 < n.z.1) || (decide (n.z.1 < (-1024)) || (decide (20 < (Z.bitsW f.z.n.dec).1) || decide (8 < (Z.bitsW f.z.d.dec).1))))
      · simp only [Bool.or_eq_false_iff, decide_eq_false_iff_not] at h1 h2 h3
        obtain ⟨x, x1, x2⟩ := kr_ g1 (i := 20) (j := 8) (by omega) (by omega)
        obtain ⟨y, y1, y2⟩ := kr_ g2 (i := 20) (j := 8) (by omega) (by omega)
        obtain ⟨z, z1, z2⟩ := kr_ g3 (i := 20) (j := 8) (by omega) (by omega)
        exact ⟨by omega, by omega, by omega, by omega, by omega, by omega, x, y, z, x1, y1, z1, x2, y2, z2⟩
      · rw [h1, h2, h3] at h; simp at h
    · rw [h1, h2] at h; simp at h
  · rw [h1] at h; simp at h
theorem gz_ {n t : A3 W} {b : W} (h : b.1 = 0) : slS n t b.1 = 0 := by
  rw [h]
  have : slQ n t 0 = 0 := by unfold slQ; simp
  unfold slS
  rw [this, show isqrt (0 : Int).toNat = 0 by kernel_rfl]
  rfl
/-- What is in the pyramid is in the cone. -/
theorem qE_ {n t u : A3 W} {b : Int} {x y z s1 s2 : Rat} (tg : Tg n t u) (pn : 0 < nrm n) (hs1 : s1 * s1 * (1000000 * (nrm t : Rat)) ≤ ((b * b : Int) : Rat) * (nrm n : Rat)) (hs2 : s2 * s2 * (1000000 * (nrm u : Rat)) ≤ ((b * b : Int) : Rat) * (nrm n : Rat)) {p q : Rat} (hp : 0 ≤ p) (hq : 0 ≤ q) (ep : p * s1 = ab (al t x y z)) (eq : q * s2 = ab (al u x y z)) (h : p + q ≤ al n x y z) (bb : 0 ≤ b * b) :
    0 ≤ (n.x.1 : Rat) * x + (n.y.1 : Rat) * y + (n.z.1 : Rat) * z ∧ (1000000 : Rat) * ((y * n.z.1 - z * n.y.1) * (y * n.z.1 - z * n.y.1) + (z * n.x.1 - x * n.z.1) * (z * n.x.1 - x * n.z.1) + (x * n.y.1 - y * n.x.1) * (x * n.y.1 - y * n.x.1)) ≤ ((b * b : Int) : Rat) * (((n.x.1 : Rat) * x + (n.y.1 : Rat) * y + (n.z.1 : Rat) * z) * ((n.x.1 : Rat) * x + (n.y.1 : Rat) * y + (n.z.1 : Rat) * z)) := by
  have hn : (0 : Rat) < (nrm n : Rat) := Rat.intCast_pos.2 pn
  have an := lR_ (x := x) (y := y) (z := z) pn
  obtain ⟨fx, fy, fz⟩ := kE_ tg pn x y z
  have nrmR : ∀ a : A3 W, ((nrm a : Int) : Rat) = (a.x.1 : Rat) * a.x.1 + a.y.1 * a.y.1 + a.z.1 * a.z.1 := fun a => by unfold nrm; rw [Rat.intCast_add, Rat.intCast_add, Rat.intCast_mul, Rat.intCast_mul, Rat.intCast_mul]
  have dR : ∀ a c : A3 W, a.x.1 * c.x.1 + a.y.1 * c.y.1 + a.z.1 * c.z.1 = 0 → (a.x.1 : Rat) * c.x.1 + (a.y.1 : Rat) * c.y.1 + (a.z.1 : Rat) * c.z.1 = 0 := fun a c h => by rw [← Rat.intCast_mul, ← Rat.intCast_mul, ← Rat.intCast_mul, ← Rat.intCast_add, ← Rat.intCast_add, h]; rfl
  have o1 := dR _ _ tg.o1
  have o2 := dR _ _ tg.o2
  have o3 := dR _ _ tg.o3
  have tt := nrmR t
  have uu := nrmR u
  have nn := nrmR n
  have sq : ∀ r : Rat, ab r * ab r = r * r := fun r => by unfold ab; split <;> grind
  have X2 := sq (al t x y z)
  have Y2 := sq (al u x y z)
  rw [← ep] at X2
  rw [← eq] at Y2
  rw [← an]
  generalize hX : al t x y z = X at *
  generalize hY : al u x y z = Y at *
  generalize hZ : al n x y z = Z at *
  have Z0 : 0 ≤ Z := Rat.le_trans (Rat.add_nonneg hp hq) h
  refine ⟨Rat.mul_nonneg Z0 (Rat.le_of_lt hn), ?_⟩
  have lag : (y * n.z.1 - z * n.y.1) * (y * n.z.1 - z * n.y.1) + (z * n.x.1 - x * n.z.1) * (z * n.x.1 - x * n.z.1) + (x * n.y.1 - y * n.x.1) * (x * n.y.1 - y * n.x.1) = (X * X * (nrm t : Rat) + Y * Y * (nrm u : Rat)) * (nrm n : Rat) := by
    rw [tt, uu, nn]
    clear hX hY hZ an tt uu nn X2 Y2 ep eq h hs1 hs2
    generalize (n.x.1 : Rat) = n1 at *
    generalize (n.y.1 : Rat) = n2 at *
    generalize (n.z.1 : Rat) = n3 at *
    generalize (t.x.1 : Rat) = t1 at *
    generalize (t.y.1 : Rat) = t2 at *
    generalize (t.z.1 : Rat) = t3 at *
    generalize (u.x.1 : Rat) = u1 at *
    generalize (u.y.1 : Rat) = u2 at *
    generalize (u.z.1 : Rat) = u3 at *
    subst fx fy fz
    have e : ((Z * n2 + X * t2 + Y * u2) * n3 - (Z * n3 + X * t3 + Y * u3) * n2) * ((Z * n2 + X * t2 + Y * u2) * n3 - (Z * n3 + X * t3 + Y * u3) * n2) + ((Z * n3 + X * t3 + Y * u3) * n1 - (Z * n1 + X * t1 + Y * u1) * n3) * ((Z * n3 + X * t3 + Y * u3) * n1 - (Z * n1 + X * t1 + Y * u1) * n3) + ((Z * n1 + X * t1 + Y * u1) * n2 - (Z * n2 + X * t2 + Y * u2) * n1) * ((Z * n1 + X * t1 + Y * u1) * n2 - (Z * n2 + X * t2 + Y * u2) * n1)
      = (X * X * (t1 * t1 + t2 * t2 + t3 * t3) + Y * Y * (u1 * u1 + u2 * u2 + u3 * u3)) * (n1 * n1 + n2 * n2 + n3 * n3) + (2 * X * Y * (t1 * u1 + t2 * u2 + t3 * u3)) * (n1 * n1 + n2 * n2 + n3 * n3) - (X * (n1 * t1 + n2 * t2 + n3 * t3) + Y * (n1 * u1 + n2 * u2 + n3 * u3)) * (X * (n1 * t1 + n2 * t2 + n3 * t3) + Y * (n1 * u1 + n2 * u2 + n3 * u3)) := by grind
    rw [e, o1, o2, o3]; grind
  rw [lag]
  have B0 : (0 : Rat) ≤ ((b * b : Int) : Rat) := Rat.intCast_nonneg.2 bb
  have k1 : 1000000 * (X * X * (nrm t : Rat)) ≤ p * p * (((b * b : Int) : Rat) * (nrm n : Rat)) := by
    have := Rat.mul_le_mul_of_nonneg_left hs1 (Rat.mul_nonneg hp hp)
    have e : p * p * (s1 * s1 * (1000000 * (nrm t : Rat))) = 1000000 * (X * X * (nrm t : Rat)) := by rw [← X2]; grind
    rw [e] at this; exact this
  have k2 : 1000000 * (Y * Y * (nrm u : Rat)) ≤ q * q * (((b * b : Int) : Rat) * (nrm n : Rat)) := by
    have := Rat.mul_le_mul_of_nonneg_left hs2 (Rat.mul_nonneg hq hq)
    have e : q * q * (s2 * s2 * (1000000 * (nrm u : Rat))) = 1000000 * (Y * Y * (nrm u : Rat)) := by rw [← Y2]; grind
    rw [e] at this; exact this
  have C0 : (0 : Rat) ≤ ((b * b : Int) : Rat) * (nrm n : Rat) := Rat.mul_nonneg B0 (Rat.le_of_lt hn)
  have k3 : p * p + q * q ≤ Z * Z := by
    have h1 : (p + q) * (p + q) ≤ Z * Z := by
      have a1 := Rat.mul_le_mul_of_nonneg_left h (Rat.add_nonneg hp hq)
      have a2 := Rat.mul_le_mul_of_nonneg_right h Z0
      exact Rat.le_trans a1 a2
    have h2 := Rat.mul_nonneg hp hq
    grind
  have k4 := Rat.mul_le_mul_of_nonneg_right k3 C0
  have k5 : 1000000 * (X * X * (nrm t : Rat)) + 1000000 * (Y * Y * (nrm u : Rat)) ≤ Z * Z * (((b * b : Int) : Rat) * (nrm n : Rat)) := by
    generalize ((b * b : Int) : Rat) * (nrm n : Rat) = D at *
    grind
  have k6 := Rat.mul_le_mul_of_nonneg_right k5 (Rat.le_of_lt hn)
  have e1 : (1000000 : Rat) * ((X * X * (nrm t : Rat) + Y * Y * (nrm u : Rat)) * (nrm n : Rat)) = (1000000 * (X * X * (nrm t : Rat)) + 1000000 * (Y * Y * (nrm u : Rat))) * (nrm n : Rat) := by grind
  have e2 : ((b * b : Int) : Rat) * (Z * (nrm n : Rat) * (Z * (nrm n : Rat))) = Z * Z * (((b * b : Int) : Rat) * (nrm n : Rat)) * (nrm n : Rat) := by grind
  rw [e1, e2]; exact k6
theorem oI_ {n : A3 W} {b : W} {f : A3 Rt} {x y z : Rat} (hc : Ct n b) (hcc : aJ_ n b = true) (nx : n.x.1.natAbs < 2 ^ 11) (ny : n.y.1.natAbs < 2 ^ 11) (nz : n.z.1.natAbs < 2 ^ 11) (hf : V3 f x y z 20 8) (hb : b.1 = 0)
    (X0 : al (tang n).1 x y z = 0) (Y0 : al (tang n).2 x y z = 0) (Z0 : 0 ≤ al n x y z) :
    ∃ k, (a9_ n b f).l = [k] ∧ k.At (al n x y z) ∧ Az (al n x y z) 52 51 := by
  have tg := jf_ hc.x hc.y hc.z hc.n0
  obtain ⟨tx, ty, tz⟩ := tg.tb 11 (by decide) nx ny nz
  obtain ⟨ux, uy, uz⟩ := tg.ub 11 (by decide) nx ny nz
  have pn := dT_ hc.n0
  have pt := dT_ tg.t0
  have pu := dT_ tg.u0
  have z1 := gz_ (n := n) (t := (tang n).1) hb
  have z2 := gz_ (n := n) (t := (tang n).2) hb
  obtain ⟨a1, s1⟩ := eC_ tx ty tz pt hf (by decide) (by decide)
  obtain ⟨a2, s2⟩ := eC_ ux uy uz pu hf (by decide) (by decide)
  obtain ⟨a3, s3⟩ := eC_ nx ny nz pn hf (by decide) (by decide)
  obtain ⟨b1, r1⟩ := fi_ (K := 1) hc.b0 hc.b1 (Int.le_of_lt pn) pt (by rw [z1]; decide) (by decide)
  obtain ⟨b2, r2⟩ := fi_ (K := 1) hc.b0 hc.b1 (Int.le_of_lt pn) pu (by rw [z2]; decide) (by decide)
  obtain ⟨c1, d1⟩ := gC_ a1 b1 s1 r1 (by decide) (by decide)
  obtain ⟨c2, d2⟩ := gC_ a2 b2 s2 r2 (by decide) (by decide)
  obtain ⟨p1, q1⟩ := d1 (.inl X0)
  obtain ⟨p2, q2⟩ := d2 (.inl Y0)
  have m1 := gH_ a3 p1 s3 q1 (by decide) (by decide) (by decide)
  have w1 := s3.sub (c := 126) q1 (by decide) (by decide)
  have m2 := gH_ m1 p2 w1 q2 (by decide) (by decide) (by decide)
  have e : al n x y z - ab (al (tang n).1 x y z) / ((slS n (tang n).1 b.1 : Rat) / 256) - ab (al (tang n).2 x y z) / ((slS n (tang n).2 b.1 : Rat) / 256) = al n x y z := by
    rw [ab_0 X0, ab_0 Y0, zdiv, zdiv]; grind
  rw [e] at m2
  have e1 : (aN_ (an_ (tang n).1 f) (ap_ n b (tang n).1)).2 = true := by rw [c1, decide_eq_true X0]; rfl
  have e2 : (aN_ (an_ (tang n).2 f) (ap_ n b (tang n).2)).2 = true := by rw [c2, decide_eq_true Y0]; rfl
  have n3 : decide ((aI_ (aZ_ (aZ_ (an_ n f) (aN_ (an_ (tang n).1 f) (ap_ n b (tang n).1)).1) (aN_ (an_ (tang n).2 f) (ap_ n b (tang n).2)).1)).1 < 0) = false := by
    rw [fM_ m2]
    exact decide_eq_false fun hx => by have := Int.sign_neg_iff.1 hx; have := Rat.num_nonneg.2 Z0; omega
  unfold a9_
  rw [hcc, cond_true, g3_]
  simp only
  rw [e1, e2, n3, hb]
  exact ⟨_, rfl, m2, s3⟩
theorem nu_ (q0 q1 : Rat) (a S c : Int) : q0 * ed a S c + q1 * ed a (-S) c = (q0 + q1) * (a : Rat) + (q0 - q1) * ((S : Rat) / 256) * (c : Rat) := by
  unfold ed
  rw [Rat.intCast_neg, Rat.div_def, Rat.div_def]; grind
theorem VC.v3 {a : A3 Rt} {x y z : Rat} {L : Int} {m c : Nat} (h : VC a x y z L m) (h0 : 0 < L) (hL : L.natAbs < 2 ^ c) : V3 a x y z m c := ⟨h.hx, h.hy, h.hz, h.cx.az h0 hL, h.cy.az h0 hL, h.cz.az h0 hL⟩
theorem V3.vc {a : A3 Rt} {x y z : Rat} {A B : Nat} {L : Int} {m : Nat} (h : V3 a x y z A B) (c1 : Cm x L m) (c2 : Cm y L m) (c3 : Cm z L m) : VC a x y z L m := ⟨h.hx, h.hy, h.hz, c1, c2, c3⟩
/-- Combine of the edges returns the force. -/
theorem o3_ {n t u : A3 W} {b : W} {x y z : Rat} {L : Int} (h1 : Sl n t b 11 11 22) (h2 : Sl n u b 11 23 22) (tg : Tg n t u) (hL : 0 < L) (bL : L.natAbs < 2 ^ 222) {k0 k1 k2 k3 : Rt} {q0 q1 q2 q3 : Rat} (a0 : k0.At q0) (a1 : k1.At q1) (a2 : k2.At q2) (a3 : k3.At q3) (m0 : Cm q0 L 224) (m1 : Cm q1 L 224) (m2 : Cm q2 L 224) (m3 : Cm q3 L 224)
    (hz : q0 + q1 + (q2 + q3) = al n x y z) (hx : (q0 - q1) * ((slS n t b.1 : Rat) / 256) = al t x y z) (hy : (q2 - q3) * ((slS n u b.1 : Rat) / 256) = al u x y z) :
    ∃ A B, V3 (aH_ (aH_ (aH_ (aH_ (ao_ ⟨wl 0, wl 0, wl 0⟩) (aw_ k0 (aH_ (ao_ n) (aw_ (ap_ n b t) (ao_ t))))) (aw_ k1 (bC_ (ao_ n) (aw_ (ap_ n b t) (ao_ t))))) (aw_ k2 (aH_ (ao_ n) (aw_ (ap_ n b u) (ao_ u))))) (aw_ k3 (bC_ (ao_ n) (aw_ (ap_ n b u) (ao_ u))))) x y z A B := by
  have c256 : (256 : Int).natAbs < 2 ^ 9 := by decide
  have p256 : (0 : Int) < 256 := by decide
  have v0 : VC _ _ _ _ 256 46 := ((o5_ h1 (by decide)).vc (ed_Cm h1.nx h1.S.1 h1.tx h1.h) (ed_Cm h1.ny h1.S.1 h1.ty h1.h) (ed_Cm h1.nz h1.S.1 h1.tz h1.h)).mono (by decide)
  have v1 : VC _ _ _ _ 256 46 := ((pR_ h1 (by decide)).vc (ed_Cm h1.nx h1.S.2.1 h1.tx h1.h) (ed_Cm h1.ny h1.S.2.1 h1.ty h1.h) (ed_Cm h1.nz h1.S.2.1 h1.tz h1.h)).mono (by decide)
  have v2 : VC _ _ _ _ 256 46 := (o5_ h2 (by decide)).vc (ed_Cm h2.nx h2.S.1 h2.tx h2.h) (ed_Cm h2.ny h2.S.1 h2.ty h2.h) (ed_Cm h2.nz h2.S.1 h2.tz h2.h)
  have v3 : VC _ _ _ _ 256 46 := (pR_ h2 (by decide)).vc (ed_Cm h2.nx h2.S.2.1 h2.tx h2.h) (ed_Cm h2.ny h2.S.2.1 h2.ty h2.h) (ed_Cm h2.nz h2.S.2.1 h2.tz h2.h)
  have w0 := VC.times a0 m0 v0 hL p256 bL c256 (by decide) (by decide)
  have w1 := VC.times a1 m1 v1 hL p256 bL c256 (by decide) (by decide)
  have w2 := VC.times a2 m2 v2 hL p256 bL c256 (by decide) (by decide)
  have w3 := VC.times a3 m3 v3 hL p256 bL c256 (by decide) (by decide)
  have hL2 : 0 < L * 256 := by omega
  have bL2 : (L * 256).natAbs < 2 ^ 231 := by
    have := mbits bL c256
    exact Nat.lt_of_lt_of_le this (dS_ (by decide))
  have s1 := VC.plus (VC.zero (L := L * 256) (m := 270)) w0 hL2 bL2 (by decide) (by decide)
  have s2 := s1.plus (w1.mono (show 224 + 46 ≤ 271 by decide)) hL2 bL2 (by decide) (by decide)
  have s3 := s2.plus (w2.mono (show 224 + 46 ≤ 272 by decide)) hL2 bL2 (by decide) (by decide)
  have s4 := s3.plus (w3.mono (show 224 + 46 ≤ 273 by decide)) hL2 bL2 (by decide) (by decide)
  have r := s4.v3 hL2 bL2
  have pn := dT_ h1.c.n0
  obtain ⟨fx, fy, fz⟩ := kE_ tg pn x y z
  have g : ∀ (F : Rat) (a c d : Int), F = al n x y z * a + al t x y z * c + al u x y z * d → 0 + q0 * ed a (slS n t b.1) c + q1 * ed a (-slS n t b.1) c + q2 * ed a (slS n u b.1) d + q3 * ed a (-slS n u b.1) d = F := fun F a c d hF => by
    have e1 := nu_ q0 q1 a (slS n t b.1) c
    have e2 := nu_ q2 q3 a (slS n u b.1) d
    rw [hx] at e1
    rw [hy] at e2
    rw [hF, ← hz]
    grind
  rw [g x _ _ _ fx, g y _ _ _ fy, g z _ _ _ fz] at r
  exact ⟨_, _, r⟩
theorem km_ (n : A3 W) (b : W) (f : A3 Rt) : ∀ (l : List Rt) (qs : List Rat) (s : Rt), l.length = qs.length → (∀ i, i < l.length → (l.getD i Rt0).At (qs.getD i 0) ∧ 0 ≤ qs.getD i 0) → bg_ n b f l s = .inl (l.foldl (fun s x => ak_ s x) s)
  | [], _, s, _, _ => rfl
  | k :: l, [], s, h, _ => absurd h (by simp)
  | k :: l, q :: qs, s, h, hk => by
    unfold bg_
    obtain ⟨h1, h2⟩ := hk 0 (by simp)
    simp only [List.getD_cons_zero] at h1 h2
    rw [fM_ h1, decide_eq_false (by have := Int.sign_nonneg_iff.2 (Rat.num_nonneg.2 h2); omega), cond_false]
    exact km_ n b f l qs _ (by simpa using h) fun i hi => by
      have := hk (i + 1) (by simpa using hi)
      simpa using this
theorem l7_ (n : A3 W) (b : W) (f : A3 Rt) : be_ n b f = true := by
  unfold be_
  rw [ov_, ld_, rZ_, mt_, mj_]
  cases hF : bc_ f
  · rfl
  cases h1 : aJ_ n b
  · rfl
  cases h2 : bt_ n f
  · rfl
  simp only [Bool.not_true, Bool.or_false, cond_false, bne_self_eq_false, Bool.false_or]
  have c := me_ h1
  obtain ⟨nx, ny, nz, nx', ny', nz', x, y, z, hf⟩ := ox_ hF h2
  have tg := jf_ c.x c.y c.z c.n0
  have pn := dT_ c.n0
  have pt := dT_ tg.t0
  have pu := dT_ tg.u0
  have nb : 1048576 * nrm n < 2 ^ 21 * 2 ^ 21 := by
    have a1 : n.x.1 * n.x.1 ≤ 1048576 := by
      have := Nat.mul_le_mul nx' nx'
      rw [← Int.natAbs_mul] at this
      have := msn n.x.1
      omega
    have a2 : n.y.1 * n.y.1 ≤ 1048576 := by
      have := Nat.mul_le_mul ny' ny'
      rw [← Int.natAbs_mul] at this
      have := msn n.y.1
      omega
    have a3 : n.z.1 * n.z.1 ≤ 1048576 := by
      have := Nat.mul_le_mul nz' nz'
      rw [← Int.natAbs_mul] at this
      have := msn n.z.1
      omega
    unfold nrm; omega
  have j1 := o4_ (t := (tang n).1) c.b0 c.b1 pt (Int.le_of_lt pn) nb
  have j2 := o4_ (t := (tang n).2) c.b0 c.b1 pu (Int.le_of_lt pn) nb
  have e22 : (2 : Int) ^ 22 = 2 ^ 21 + 2 ^ 21 := rfl
  have k1 : slS n (tang n).1 b.1 < 2 ^ 22 := by omega
  have k2 : slS n (tang n).2 b.1 < 2 ^ 22 := by omega
  cases hs : (a9_ n b f).is
  · -- outside
    have hl : (a9_ n b f).l = [] := by
      revert hs
      unfold a9_
      rw [h1, cond_true]
      simp only
      cases (!(aN_ (an_ (aB_ n).1 f) (ap_ n b (aB_ n).1)).2 || (!(aN_ (an_ (aB_ n).2 f) (ap_ n b (aB_ n).2)).2 || decide ((aI_ (aZ_ (aZ_ (an_ n f) (aN_ (an_ (aB_ n).1 f) (ap_ n b (aB_ n).1)).1) (aN_ (an_ (aB_ n).2 f) (ap_ n b (aB_ n).2)).1)).1 < 0)))
      · simp only [cond_false]
        cases (b.1 == 0)
        · simp only [cond_false]
          cases decide ((aI_ (an_ (aB_ n).1 f)).1 < 0) <;> cases decide ((aI_ (an_ (aB_ n).2 f)).1 < 0) <;> intro h <;> cases h
        · intro h; cases h
      · intro _; rfl
    rw [hl]; rfl
  · have his := hs
    rw [lo_ (N := 11) (K := 22) c h1 (by decide) nx ny nz hf k1 k2 (by decide) (by decide)] at his
    simp only [Bool.and_eq_true, Bool.or_eq_true, Bool.not_eq_true', decide_eq_true_eq, decide_eq_false_iff_not] at his
    obtain ⟨g1, g2, g3⟩ := his
    have sg1 : 0 ≤ (slS n (tang n).1 b.1 : Rat) / 256 := by rw [Rat.div_def]; exact Rat.mul_nonneg (Rat.intCast_nonneg.2 ii_) i256
    have sg2 : 0 ≤ (slS n (tang n).2 b.1 : Rat) / 256 := by rw [Rat.div_def]; exact Rat.mul_nonneg (Rat.intCast_nonneg.2 ii_) i256
    have dv : ∀ (q s : Rat), (q = 0 ∨ ¬ s = 0) → 0 ≤ s → ab q / s * s = ab q ∧ 0 ≤ ab q / s := fun q s h hs => by
      constructor
      · rcases h with h | h
        · rw [ab_0 h, Rat.div_def, Rat.zero_mul, Rat.zero_mul]
        · rw [Rat.div_def, Rat.mul_assoc, Rat.inv_mul_cancel _ h, Rat.mul_one]
      · rw [Rat.div_def]; exact Rat.mul_nonneg (ab_nn q) (j4_ hs)
    obtain ⟨m1, P0⟩ := dv _ _ g1 sg1
    obtain ⟨m2, Q0⟩ := dv _ _ g2 sg2
    have bb : 0 ≤ b.1 * b.1 := Int.mul_nonneg c.b0 c.b0
    have slq : ∀ t : A3 W, 0 < nrm t → (slS n t b.1 : Rat) / 256 * ((slS n t b.1 : Rat) / 256) * (1000000 * (nrm t : Rat)) ≤ ((b.1 * b.1 : Int) : Rat) * (nrm n : Rat) := fun t ht => by
      have h3 := (rJ_ c.b0 ht (Int.le_of_lt pn) (slQ_B c.b0 c.b1 ht (Int.le_of_lt pn))).1
      have h4 := Rat.intCast_le_intCast.2 h3
      have hi := Rat.mul_inv_cancel (256 : Rat) (by decide)
      have e1 : ((slS n t b.1 * slS n t b.1 * (1000000 * nrm t) : Int) : Rat) = 65536 * ((slS n t b.1 : Rat) / 256 * ((slS n t b.1 : Rat) / 256) * (1000000 * (nrm t : Rat))) := by
        rw [Rat.intCast_mul, Rat.intCast_mul, Rat.intCast_mul, Rat.div_def]
        have h6 : ((1000000 : Int) : Rat) = 1000000 := rfl
        rw [h6]; grind
      have e2 : ((b.1 * b.1 * nrm n * 65536 : Int) : Rat) = 65536 * (((b.1 * b.1 : Int) : Rat) * (nrm n : Rat)) := by
        rw [Rat.intCast_mul _ 65536, Rat.intCast_mul _ (nrm n)]
        have h6 : ((65536 : Int) : Rat) = 65536 := rfl
        rw [h6]; grind
      rw [e1, e2] at h4
      exact Rat.le_of_mul_le_mul_left h4 (by decide)
    have cs := qE_ (x := x) (y := y) (z := z) tg pn (slq _ pt) (slq _ pu) P0 Q0 m1 m2 (by grind) bb
    have hw : cU_ n b f = true := by
      rw [lZ_ c h1 nx ny nz hf (by decide) (by decide), decide_eq_true cs.1, decide_eq_true cs.2]; rfl
    rw [hw]
    simp only [Bool.not_true, Bool.and_false, cond_false, cond_true]
    obtain ⟨a3, s3⟩ := eC_ nx ny nz pn hf (by decide) (by decide)
    have r44 : a8_ (bn_ n f) (bO_ (bS_ n n)) = an_ n f := rfl
    obtain ⟨fx, fy, fz⟩ := kE_ tg pn x y z
    by_cases hb : b.1 = 0
    · -- no roughness: a multiple of the normal
      have z1 := gz_ (n := n) (t := (tang n).1) hb
      have z2 := gz_ (n := n) (t := (tang n).2) hb
      have d0 : ((0 : Int) : Rat) / 256 = 0 := zdiv 256
      rw [z1, d0] at g1 m1 g3
      rw [z2, d0] at g2 m2 g3
      have X0 : al (tang n).1 x y z = 0 := g1.resolve_right fun h => h rfl
      have Y0 : al (tang n).2 x y z = 0 := g2.resolve_right fun h => h rfl
      have Z0 : 0 ≤ al n x y z := by
        rw [ab_0 X0, ab_0 Y0] at g3
        simp only [zdiv] at g3
        grind
      obtain ⟨k, hl, hk, sk⟩ := oI_ c h1 nx ny nz hf hb X0 Y0 Z0
      have hP : b7_ n b = ⟨[ao_ n], wl 0⟩ := by
        unfold b7_
        rw [h1, cond_true, hb]; rfl
      have zA : Az (0 : Rat) 1 1 := ⟨by decide, by decide⟩
      have hsum := fa_ fk_ hk zA sk (by decide) (by decide) (by decide)
      rw [Rat.zero_add] at hsum
      have v := mC_ hk sk (of3 nx ny nz) (by decide) (by decide)
      have v0 : V3 (ao_ ⟨wl 0, wl 0, wl 0⟩) 0 0 0 1 1 := ⟨fk_, fk_, fk_, zA, zA, zA⟩
      have w := plus3 (E := 70) v0 v (by decide) (by decide) (by decide) (by decide)
      have g : ∀ (F : Rat) (a c d : Int), F = al n x y z * a + al (tang n).1 x y z * c + al (tang n).2 x y z * d → 0 + al n x y z * (a : Rat) = F := fun F a c d hF => by rw [hF, X0, Y0]; grind
      rw [g x _ _ _ fx, g y _ _ _ fy, g z _ _ _ fz] at w
      have hlo := km_ n b f [k] [al n x y z] (ag_ (wl 0)) rfl (fun i hi => by
        have : i = 0 := by simpa using hi
        subst this
        exact ⟨hk, Z0⟩)
      have hfo : List.foldl (fun s x => ak_ s x) (ag_ (wl 0)) [k] = an_ n f := kb_ hsum a3
      rw [hP, hl, hlo, hfo]
      simp only [sm]
      rw [Comb1, pi_ w hf, r44]
      simp
    · obtain ⟨tx, ty, tz⟩ := tg.tb 11 (by decide) nx ny nz
      obtain ⟨ux, uy, uz⟩ := tg.ub 11 (by decide) nx ny nz
      have S1 : Sl n (tang n).1 b 11 11 22 := ⟨c, nx, ny, nz, tx, ty, tz, pt, tg.o1, by omega, by decide⟩
      have S2 : Sl n (tang n).2 b 11 23 22 := ⟨c, nx, ny, nz, ux, uy, uz, pu, tg.o2, by omega, by decide⟩
      obtain ⟨L, hL, bL, hM⟩ := qo_ c h1 nx ny nz hf hb k1 k2 hs
      obtain ⟨k0, p1, p2, p3, q0, q1, q2, q3, hl, a0, a1, a2, a3', m0, m1', m2', m3, y0, y1, y2, y3, hz, hx, hy⟩ := hM.ex
      obtain ⟨A, B, w⟩ := o3_ S1 S2 tg hL bL a0 a1 a2 a3' m0 m1' m2' m3 hz hx hy
      have z0 : Cm (0 : Rat) L 224 := .zero
      have t1 := fa_ fk_ a0 (z0.az hL bL) (m0.az hL bL) (by decide) (by decide) (by decide)
      have c1 := z0.add m0
      have t2 := fa_ t1 a1 (c1.az hL bL) (m1'.az hL bL) (by decide) (by decide) (by decide)
      have c2 := c1.add (m1'.mono (show 224 ≤ 225 by decide))
      have t3 := fa_ t2 a2 (c2.az hL bL) (m2'.az hL bL) (by decide) (by decide) (by decide)
      have c3 := c2.add (m2'.mono (show 224 ≤ 226 by decide))
      have t4 := fa_ t3 a3' (c3.az hL bL) (m3.az hL bL) (by decide) (by decide) (by decide)
      rw [show 0 + q0 + q1 + q2 + q3 = al n x y z by rw [← hz]; grind] at t4
      have hlo := km_ n b f [k0, p1, p2, p3] [q0, q1, q2, q3] (ag_ (wl 0)) rfl (fun i hi => by
        match i, hi with
        | 0, _ => exact ⟨a0, y0⟩
        | 1, _ => exact ⟨a1, y1⟩
        | 2, _ => exact ⟨a2, y2⟩
        | 3, _ => exact ⟨a3', y3⟩)
      have hfo : List.foldl (fun s x => ak_ s x) (ag_ (wl 0)) [k0, p1, p2, p3] = an_ n f := kb_ t4 a3
      rw [qX_ h1 hb, hl, hlo, hfo]
      simp only [sm]
      rw [Comb4, pi_ w hf, r44]
      simp
end Go.Num

