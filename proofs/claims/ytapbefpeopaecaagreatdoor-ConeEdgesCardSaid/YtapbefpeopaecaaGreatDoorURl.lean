/- law21: ConeGrows, ConeSlopes. No program stands in it. law21: ConeIsInside. No program stands in it. -/
import Derived.Test.YtapbefpeopaecaaGreatDoorUPV
import Derived.KernelRfl

set_option linter.unusedVariables false
set_option linter.unusedSimpArgs false
namespace Go.Num
open Go Go.Kn
theorem m3_ (t : A3 W) : c1_ t t = E (Z.of (nrm t)) := by rw [← jB_]; exact (dotW t t).1
theorem nrm_B (t : A3 W) : (nrm t).natAbs < 2 ^ 130 := (dotW t t).2.lt
structure Ct (n : A3 W) (b : W) : Prop where
  x : n.x.1.natAbs < 2 ^ 29
  y : n.y.1.natAbs < 2 ^ 29
  z : n.z.1.natAbs < 2 ^ 29
  n0 : ¬ (n.x.1 = 0 ∧ n.y.1 = 0 ∧ n.z.1 = 0)
  b0 : 0 ≤ b.1
  b1 : b.1 ≤ 4000
theorem lE_ {n : A3 W} {b : W} (h : au_ n b = true) : Ct n b := by
  unfold au_ at h
  have e : (2 : Nat) ^ 29 = 536870912 := rfl
  cases h1 : (decide (536870912 ≤ n.x.1) || decide (n.x.1 ≤ (-536870912)))
  · cases h2 : (decide (536870912 ≤ n.y.1) || decide (n.y.1 ≤ (-536870912)))
    · cases h3 : (decide (536870912 ≤ n.z.1) || decide (n.z.1 ≤ (-536870912)))
      · rw [h1, h2, h3] at h
        simp only [cond_false, Bool.and_eq_true, Bool.not_eq_true', Bool.and_eq_false_iff, decide_eq_true_eq, decide_eq_false_iff_not, Bool.or_eq_false_iff] at h h1 h2 h3
        obtain ⟨k1, k2, k3⟩ := h
        exact ⟨by omega, by omega, by omega, by omega, k2, k3⟩
      · rw [h1, h2, h3] at h; simp at h
    · rw [h1, h2] at h; simp at h
  · rw [h1] at h; simp at h
theorem Wsq {b : W} (h0 : 0 ≤ b.1) (h1 : b.1 ≤ 4000) : (W.mul b b).1 = b.1 * b.1 := by
  have h2 : b.1 * b.1 ≤ 4000 * 4000 := Int.mul_le_mul h1 h1 h0 (by decide)
  have h3 : 0 ≤ b.1 * b.1 := Int.mul_nonneg h0 h0
  show IntKind.i64.wrap (b.1 * b.1) = _
  exact wi (by omega)
theorem hn_ {n t : A3 W} {b : W} {K : Nat} (hb : 0 ≤ b.1) (hb1 : b.1 ≤ 4000) (hn : 0 ≤ nrm n) (ht : 0 < nrm t) (hK : slS n t b.1 < 2 ^ K) (hK2 : K ≤ 500) : (aF_ n b t).At ((slS n t b.1 : Rat) / 256) ∧ Az ((slS n t b.1 : Rat) / 256) K 9 := by
  have bn := nrm_B n
  have bt := nrm_B t
  have h2 : b.1 * b.1 ≤ 4000 * 4000 := Int.mul_le_mul hb1 hb1 hb (by decide)
  have h3 : 0 ≤ b.1 * b.1 := Int.mul_nonneg hb hb
  have bb : (b.1 * b.1).natAbs < 2 ^ 24 := by have : (2 : Nat) ^ 24 = 16777216 := rfl; omega
  have B1 := mbits bb bn
  have B2 := mbits B1 (show (65536 : Int).natAbs < 2 ^ 17 by decide)
  have B3 := mbits (show (1000000 : Int).natAbs < 2 ^ 20 by decide) bt
  have hq : 0 ≤ slQ n t b.1 := pv_ hb ht hn
  have hqB : (slQ n t b.1).natAbs < 2 ^ 171 := Nat.lt_of_le_of_lt (Int.natAbs_ediv_le_natAbs _ _) B2
  have e : aF_ n b t = ae_ (E (Z.of (slS n t b.1))) (E (Z.of 256)) := by
    unfold aF_
    simp only [m3_, E_dec, Wsq hb hb1]
    rw [e4_ (B_pow bb (by decide)) (B_pow bn (by decide)), e4_ (B_pow B1 (by decide)) (by decide), e4_ (by decide) (B_pow bt (by decide)), g0_ (B_pow B2 (by decide)) (B_pow B3 (by decide)) (by omega)]
    rw [show b.1 * b.1 * nrm n * 65536 / (1000000 * nrm t) = slQ n t b.1 from rfl]
    have : Z.sqrt (Z.of (slQ n t b.1)) = Z.of (slS n t b.1) := by
      unfold Z.sqrt
      rw [b9_ (Z.of_some (B_pow hqB (by decide))), decide_eq_false (by omega), cond_false]; rfl
    rw [this]
  have s0 : 0 ≤ slS n t b.1 := jV_
  have sK : (slS n t b.1).natAbs < 2 ^ K := by
    have : ((slS n t b.1).natAbs : Int) < ((2 ^ K : Nat) : Int) := by rw [Int.natCast_pow]; show _ < (2 : Int) ^ K; omega
    exact Int.ofNat_lt.1 this
  have q0 : ((slS n t b.1 : Int) : Rat) = ((256 : Int) : Rat) * ((slS n t b.1 : Rat) / 256) := by
    rw [Rat.div_def, Rat.mul_comm, Rat.mul_assoc]
    show _ = _ * ((256 : Rat)⁻¹ * 256)
    rw [Rat.inv_mul_cancel _ (by decide), Rat.mul_one]
  rw [e]
  exact ⟨gn_ (B_pow sK (by omega)) (by decide) (by decide) (mv_ q0), Az_of q0 (by decide) sK (by decide)⟩
theorem rp_ (a : Rat) : 0 ≤ a * a := by
  rcases (Rat.le_total : (0 : Rat) ≤ a ∨ a ≤ 0) with h | h
  · exact Rat.mul_nonneg h h
  · have e : a * a = (-a) * (-a) := by grind
    rw [e]
    exact Rat.mul_nonneg (by grind) (by grind)
theorem oX_ {s : Rat} (h : 0 ≤ s) : 0 ≤ s⁻¹ := by
  by_cases h0 : s = 0
  · rw [h0, Rat.inv_zero]; exact Rat.le_refl
  · have e : s⁻¹ = s * (s⁻¹ * s⁻¹) := by rw [← Rat.mul_assoc, Rat.mul_inv_cancel _ h0, Rat.one_mul]
    rw [e]
    exact Rat.mul_nonneg h (rp_ _)
theorem i256 : (0 : Rat) ≤ (256 : Rat)⁻¹ := oX_ (by decide)
theorem i4_ : (af_ (wl 0)).At 0 := by
  have h := Of_At (wl 0)
  rw [show (((wl 0).1 : Int) : Rat) = 0 from rfl] at h
  exact h
theorem zdiv (r : Rat) : (0 : Rat) / r = 0 := by rw [Rat.div_def, Rat.zero_mul]
def ab (q : Rat) : Rat := if 0 ≤ q then q else -q
theorem ab_nn (q : Rat) : 0 ≤ ab q := by unfold ab; split <;> grind
theorem ab_0 {q : Rat} (h : q = 0) : ab q = 0 := by subst h; rfl
theorem Az.ab {q : Rat} {A B : Nat} (h : Az q A B) : Az (ab q) A B := by
  unfold Go.Num.ab
  split
  · exact h
  · exact h.neg
theorem rB_ {a : Rt} {q : Rat} (h : a.At q) : (bV_ a).At (ab q) := by
  have h1 := ml_ (At.is h)
  unfold ab
  split
  · next h0 =>
    have : 0 ≤ q.num := Rat.num_nonneg.2 h0
    rw [show (q.num.natAbs : Int) = q.num by omega] at h1
    exact h1
  · next h0 =>
    have : ¬ 0 ≤ q.num := fun h => h0 (Rat.num_nonneg.1 h)
    rw [show (q.num.natAbs : Int) = -q.num by omega] at h1
    show Rt.Is _ (-q).num ((-q).den : Int)
    rw [Rat.neg_num]
    exact h1
theorem kG_ {q : Rat} : (q.num.sign == 0) = decide (q = 0) := by
  by_cases h : q = 0
  · rw [decide_eq_true h, h]; rfl
  · rw [decide_eq_false h]
    exact beq_eq_false_iff_ne.2 fun e => h (Rat.num_eq_zero.1 (Int.sign_eq_zero_iff_zero.1 e))
theorem kR_ {x a : Rt} {q s : Rat} {A B C D : Nat} (hx : x.At q) (ha : a.At s) (sx : Az q A B) (sa : Az s C D) (h1 : A + D ≤ 512) (h2 : B + C ≤ 512) :
    (bQ_ x a).2 = (decide (q = 0) || !decide (s = 0)) ∧ ((q = 0 ∨ s ≠ 0) → (bQ_ x a).1.At (ab q / s) ∧ Az (ab q / s) (A + D) (B + C)) := by
  unfold bQ_
  rw [iS_ hx, iS_ ha, kG_, kG_]
  by_cases hq : q = 0
  · rw [decide_eq_true hq, cond_true]
    refine ⟨(Bool.true_or _).symm, fun _ => ?_⟩
    have e : ab q / s = 0 := by rw [ab_0 hq, Rat.div_def, Rat.zero_mul]
    rw [e]
    have b1 : 1 < 2 ^ B := by have := sx.d; have := q.den_pos; omega
    refine ⟨i4_, Nat.pow_pos (by decide), ?_⟩
    show 1 < 2 ^ (B + C)
    exact Nat.lt_of_lt_of_le b1 (e0_ (by omega))
  · rw [decide_eq_false hq, cond_false]
    by_cases hs : s = 0
    · rw [decide_eq_true hs, cond_true]
      exact ⟨by rw [Bool.false_or]; rfl, fun h => by rcases h with h | h; exact absurd h hq; exact absurd hs h⟩
    · rw [decide_eq_false hs, cond_false]
      exact ⟨by rw [Bool.false_or]; rfl, fun _ => ⟨o3_ (rB_ hx) ha hs sx.ab sa h1 h2, sx.ab.div sa hs⟩⟩
theorem oz_ {v : Int} (h : B512 v) : (db_ (E (Z.of v))).At (v : Rat) := by
  unfold db_
  rw [one4]
  exact gn_ h B1 (by decide) (by simp)
/-- The part of a force along a vector, in multiples of it. -/
def al (t : A3 W) (x y z : Rat) : Rat := ((t.x.1 : Rat) * x + (t.y.1 : Rat) * y + (t.z.1 : Rat) * z) / (nrm t : Rat)
theorem je_ {t : A3 W} {f : A3 Rt} {x y z : Rat} {N A B : Nat} (tx : t.x.1.natAbs < 2 ^ N) (ty : t.y.1.natAbs < 2 ^ N) (tz : t.z.1.natAbs < 2 ^ N) (ht : 0 < nrm t) (hf : V3 f x y z A B) (h1 : N + A + 2 * B + 5 ≤ 512) (h2 : 3 * B + 2 * N + 5 ≤ 512) :
    (aW_ t f).At (al t x y z) ∧ Az (al t x y z) (N + A + 2 * B + 5) (3 * B + 2 * N + 5) := by
  obtain ⟨p, q⟩ := mp_ (of3 tx ty tz) hf (by omega) (by omega)
  have hb := rJ_ tx ty tz
  have hw := oz_ (v := nrm t) (B_pow hb (by omega))
  have h0 : ((nrm t : Int) : Rat) ≠ 0 := fun e => by have := Rat.intCast_eq_zero_iff.1 e; omega
  have d := o3_ p hw h0 q (.int hb) (by omega) (by omega)
  unfold aW_
  rw [m3_]
  exact ⟨d, (q.div (.int hb) h0).mono (by omega) (by omega)⟩
theorem Az.d1 {q : Rat} {A B : Nat} (h : Az q A B) : 1 ≤ B := by
  rcases Nat.eq_zero_or_pos B with e | e
  · subst e
    have := h.d
    have := q.den_pos
    omega
  · exact e
/-- What Split finds. -/
theorem kD_ {n : A3 W} {b : W} {f : A3 Rt} {x y z : Rat} {N A B K : Nat} (hc : Ct n b) (hcc : au_ n b = true) (hN : 1 ≤ N) (nx : n.x.1.natAbs < 2 ^ N) (ny : n.y.1.natAbs < 2 ^ N) (nz : n.z.1.natAbs < 2 ^ N) (hf : V3 f x y z A B)
    (k1 : slS n (tang n).1 b.1 < 2 ^ K) (k2 : slS n (tang n).2 b.1 < 2 ^ K) (h1 : 7 * N + A + 8 * B + 2 * K + 28 ≤ 512) (h2 : 9 * B + 8 * N + 17 + 2 * K ≤ 512) :
    (cw_ n b f).is = ((decide (al (tang n).1 x y z = 0) || !decide ((slS n (tang n).1 b.1 : Rat) / 256 = 0)) && ((decide (al (tang n).2 x y z = 0) || !decide ((slS n (tang n).2 b.1 : Rat) / 256 = 0)) && decide (0 ≤ al n x y z - ab (al (tang n).1 x y z) / ((slS n (tang n).1 b.1 : Rat) / 256) - ab (al (tang n).2 x y z) / ((slS n (tang n).2 b.1 : Rat) / 256)))) := by
  have tg := iE_ hc.x hc.y hc.z hc.n0
  obtain ⟨tx, ty, tz⟩ := tg.tb N hN nx ny nz
  obtain ⟨ux, uy, uz⟩ := tg.ub N hN nx ny nz
  have pn := d1_ hc.n0
  have pt := d1_ tg.t0
  have pu := d1_ tg.u0
  have hB := hf.sx.d1
  obtain ⟨a1, s1⟩ := je_ tx ty tz pt hf (by omega) (by omega)
  obtain ⟨a2, s2⟩ := je_ ux uy uz pu hf (by omega) (by omega)
  obtain ⟨a3, s3⟩ := je_ nx ny nz pn hf (by omega) (by omega)
  obtain ⟨b1, r1⟩ := hn_ hc.b0 hc.b1 (Int.le_of_lt pn) pt k1 (by omega)
  obtain ⟨b2, r2⟩ := hn_ hc.b0 hc.b1 (Int.le_of_lt pn) pu k2 (by omega)
  obtain ⟨c1, d1⟩ := kR_ a1 b1 s1 r1 (by omega) (by omega)
  obtain ⟨c2, d2⟩ := kR_ a2 b2 s2 r2 (by omega) (by omega)
  unfold cw_
  rw [hcc, cond_true, iW_]
  simp only
  rw [c1, c2]
  by_cases g1 : al (tang n).1 x y z = 0 ∨ (slS n (tang n).1 b.1 : Rat) / 256 ≠ 0
  · have e1 : (decide (al (tang n).1 x y z = 0) || !decide ((slS n (tang n).1 b.1 : Rat) / 256 = 0)) = true := by simpa using g1
    by_cases g2 : al (tang n).2 x y z = 0 ∨ (slS n (tang n).2 b.1 : Rat) / 256 ≠ 0
    · have e2 : (decide (al (tang n).2 x y z = 0) || !decide ((slS n (tang n).2 b.1 : Rat) / 256 = 0)) = true := by simpa using g2
      obtain ⟨p1, q1⟩ := d1 g1
      obtain ⟨p2, q2⟩ := d2 g2
      have m1 := it_ a3 p1 s3 q1 (by omega) (by omega) (by omega)
      have w1 := s3.sub (c := 3 * N + A + 5 * B + K + 20) q1 (by omega) (by omega)
      have m2 := it_ m1 p2 w1 q2 (by omega) (by omega) (by omega)
      rw [e1, e2, iS_ m2]
      simp only [Bool.not_true, Bool.false_or, Bool.true_and]
      have e3 : decide ((al n x y z - ab (al (tang n).1 x y z) / ((slS n (tang n).1 b.1 : Rat) / 256) - ab (al (tang n).2 x y z) / ((slS n (tang n).2 b.1 : Rat) / 256)).num.sign < 0) = !decide (0 ≤ al n x y z - ab (al (tang n).1 x y z) / ((slS n (tang n).1 b.1 : Rat) / 256) - ab (al (tang n).2 x y z) / ((slS n (tang n).2 b.1 : Rat) / 256)) := by
        rw [← decide_not]
        exact decide_eq_decide.2 (by rw [Int.sign_neg_iff, ← Rat.num_nonneg]; omega)
      rw [e3]
      cases decide (0 ≤ al n x y z - ab (al (tang n).1 x y z) / ((slS n (tang n).1 b.1 : Rat) / 256) - ab (al (tang n).2 x y z) / ((slS n (tang n).2 b.1 : Rat) / 256))
      · rfl
      · rw [Bool.not_true, cond_false]
        cases (b.1 == 0)
        · rw [cond_false]
          cases decide ((aX_ (aW_ (tang n).1 f)).1 < 0) <;> cases decide ((aX_ (aW_ (tang n).2 f)).1 < 0) <;> rfl
        · rfl
    · have e2 : (decide (al (tang n).2 x y z = 0) || !decide ((slS n (tang n).2 b.1 : Rat) / 256 = 0)) = false := by simpa using g2
      rw [e1, e2]; rfl
  · have e1 : (decide (al (tang n).1 x y z = 0) || !decide ((slS n (tang n).1 b.1 : Rat) / 256 = 0)) = false := by simpa using g1
    rw [e1]; rfl
theorem iD_ {n : A3 W} {b : W} {f : A3 Rt} {x y z : Rat} {N A B : Nat} (hc : Ct n b) (hcc : au_ n b = true) (nx : n.x.1.natAbs < 2 ^ N) (ny : n.y.1.natAbs < 2 ^ N) (nz : n.z.1.natAbs < 2 ^ N) (hf : V3 f x y z A B) (h1 : 2 * A + 2 * N + 10 * B + 34 ≤ 512) (h2 : 12 * B + 13 ≤ 512) :
    c7_ n b f = (decide (0 ≤ (n.x.1 : Rat) * x + (n.y.1 : Rat) * y + (n.z.1 : Rat) * z) && decide ((1000000 : Rat) * ((y * n.z.1 - z * n.y.1) * (y * n.z.1 - z * n.y.1) + (z * n.x.1 - x * n.z.1) * (z * n.x.1 - x * n.z.1) + (x * n.y.1 - y * n.x.1) * (x * n.y.1 - y * n.x.1)) ≤ ((b.1 * b.1 : Int) : Rat) * (((n.x.1 : Rat) * x + (n.y.1 : Rat) * y + (n.z.1 : Rat) * z) * ((n.x.1 : Rat) * x + (n.y.1 : Rat) * y + (n.z.1 : Rat) * z)))) := by
  have hn := of3 nx ny nz
  have o := rN_ hf hn (by omega) (by omega)
  obtain ⟨p, q⟩ := mp_ o o (by omega) (by omega)
  obtain ⟨p2, q2⟩ := mp_ hn hf (by omega) (by omega)
  have l := eY_ (Of_At (wl 1000000)) p (Az.int (a := 20) (by decide)) q (by omega) (by omega)
  have r := eY_ p2 p2 q2 q2 (by omega) (by omega)
  have hbb := Of_At (W.mul b b)
  rw [Wsq hc.b0 hc.b1] at hbb
  have h2 : b.1 * b.1 ≤ 4000 * 4000 := Int.mul_le_mul hc.b1 hc.b1 hc.b0 (by decide)
  have h3 : 0 ≤ b.1 * b.1 := Int.mul_nonneg hc.b0 hc.b0
  have r2 := eY_ hbb r (Az.int (a := 24) (by have : (2 : Nat) ^ 24 = 16777216 := rfl; omega)) (q2.mul q2) (by omega) (by omega)
  unfold c7_
  rw [hcc]
  show (bif (!true || decide ((aX_ (by_ (aj_ n) f)).1 < 0)) then false else decide ((cL_ _ _).1 ≤ 0)) = _
  rw [iS_ p2, ← pS_]
  have e1 : decide ((cc_ (ag_ (af_ (wl 1000000)) (by_ (ct_ f (aj_ n)) (ct_ f (aj_ n)))) (ag_ (af_ (W.mul b b)) (ag_ (by_ (aj_ n) f) (by_ (aj_ n) f)))).1 ≤ 0) = decide ((1000000 : Rat) * ((y * n.z.1 - z * n.y.1) * (y * n.z.1 - z * n.y.1) + (z * n.x.1 - x * n.z.1) * (z * n.x.1 - x * n.z.1) + (x * n.y.1 - y * n.x.1) * (x * n.y.1 - y * n.x.1)) ≤ ((b.1 * b.1 : Int) : Rat) * (((n.x.1 : Rat) * x + (n.y.1 : Rat) * y + (n.z.1 : Rat) * z) * ((n.x.1 : Rat) * x + (n.y.1 : Rat) * y + (n.z.1 : Rat) * z))) := decide_eq_decide.2 (rW_ l r2)
  have e2 : decide (((n.x.1 : Rat) * x + (n.y.1 : Rat) * y + (n.z.1 : Rat) * z).num.sign < 0) = !decide (0 ≤ (n.x.1 : Rat) * x + (n.y.1 : Rat) * y + (n.z.1 : Rat) * z) := by
    rw [← decide_not]
    exact decide_eq_decide.2 (by rw [Int.sign_neg_iff, ← Rat.num_nonneg]; omega)
  rw [e2, Bool.not_true, Bool.false_or]
  cases decide (0 ≤ (n.x.1 : Rat) * x + (n.y.1 : Rat) * y + (n.z.1 : Rat) * z)
  · rfl
  · rw [Bool.not_true, cond_false, Bool.true_and]
    exact e1
theorem px_ {n t : A3 W} {b : Int} {K : Nat} (hb : 0 ≤ b) (hb1 : b ≤ 4000) (ht : 0 < nrm t) (hn : 0 ≤ nrm n) (hk : 1048576 * nrm n < 2 ^ K * 2 ^ K) : slS n t b < 2 ^ K := by
  have h1 := pp_ (t := t) hb hb1 ht hn (Int.le_refl _)
  have hB : (slQ n t b).toNat < 4294967296 ^ 16 := by
    have := nrm_B n
    have e : (2 : Nat) ^ 130 * 1048576 < 4294967296 ^ 16 := by decide
    omega
  obtain ⟨h2, _⟩ := pB_ hb ht hn hB
  apply Classical.byContradiction
  intro hc
  have : (2 : Int) ^ K * 2 ^ K ≤ slS n t b * slS n t b := Int.mul_le_mul (by omega) (by omega) (Int.le_of_lt (Int.pow_pos (by decide))) jV_
  omega
theorem slQ_B {n t : A3 W} {b : Int} (hb : 0 ≤ b) (hb1 : b ≤ 4000) (ht : 0 < nrm t) (hn : 0 ≤ nrm n) : (slQ n t b).toNat < 4294967296 ^ 16 := by
  have h1 := pp_ (t := t) hb hb1 ht hn (Int.le_refl _)
  have := nrm_B n
  have e : (2 : Nat) ^ 130 * 1048576 < 4294967296 ^ 16 := by decide
  omega
structure Cm (q : Rat) (L : Int) (a : Nat) : Prop where
  h : ∃ U : Int, (U : Rat) = (L : Rat) * q ∧ U.natAbs < 2 ^ a
theorem Cm.mono {q : Rat} {L : Int} {a b : Nat} (h : Cm q L a) (hb : a ≤ b) : Cm q L b := by
  obtain ⟨U, h1, h2⟩ := h.h
  exact ⟨U, h1, Nat.lt_of_lt_of_le h2 (e0_ hb)⟩
theorem Cm.add {q r : Rat} {L : Int} {a : Nat} (h : Cm q L a) (g : Cm r L a) : Cm (q + r) L (a + 1) := by
  obtain ⟨U, h1, h2⟩ := h.h
  obtain ⟨V, g1, g2⟩ := g.h
  refine ⟨U + V, by rw [Rat.intCast_add, h1, g1, Rat.mul_add], ?_⟩
  rw [Nat.pow_succ]; omega
theorem Cm.mul {q r : Rat} {L M : Int} {a b : Nat} (h : Cm q L a) (g : Cm r M b) : Cm (q * r) (L * M) (a + b) := by
  obtain ⟨U, h1, h2⟩ := h.h
  obtain ⟨V, g1, g2⟩ := g.h
  exact ⟨U * V, by rw [Rat.intCast_mul, Rat.intCast_mul, h1, g1]; grind, mbits h2 g2⟩
theorem Cm.zero {L : Int} {a : Nat} : Cm 0 L a := ⟨0, by rw [Rat.mul_zero]; rfl, Nat.pow_pos (by decide)⟩
theorem Cm.az {q : Rat} {L : Int} {a b : Nat} (h : Cm q L a) (hL : 0 < L) (hb : L.natAbs < 2 ^ b) : Az q a b := by
  obtain ⟨U, h1, h2⟩ := h.h
  exact Az_of h1 hL h2 hb
/-- n + S / 256 t. -/
def ed (a S c : Int) : Rat := (a : Rat) + (S : Rat) / 256 * (c : Rat)
theorem ed_eq (a S c : Int) : ((256 * a + S * c : Int) : Rat) = ((256 : Int) : Rat) * ed a S c := by
  unfold ed
  have h : (256 : Rat) ≠ 0 := by decide
  have h2 : ((256 : Int) : Rat) = 256 := rfl
  rw [Rat.intCast_add, Rat.intCast_mul, Rat.intCast_mul, h2, Rat.div_def]
  have := Rat.mul_inv_cancel (256 : Rat) h
  grind
theorem ed_Cm {a S c : Int} {N K M : Nat} (ha : a.natAbs < 2 ^ N) (hS : S.natAbs < 2 ^ K) (hc : c.natAbs < 2 ^ M) (h : N + 8 ≤ K + M) : Cm (ed a S c) 256 (K + M + 1) := by
  refine ⟨256 * a + S * c, ed_eq a S c, ?_⟩
  have h1 := mbits hS hc
  have h2 := mbits (show (256 : Int).natAbs < 2 ^ 9 by decide) ha
  have h3 : (256 * a).natAbs < 2 ^ (K + M) := by
    rw [Int.natAbs_mul]
    have e : (2 : Nat) ^ (N + 8) = 256 * 2 ^ N := by rw [Nat.pow_add, Nat.mul_comm]
    have := e0_ h
    show 256 * a.natAbs < _
    omega
  rw [Nat.pow_succ]; omega
structure Sl (n t : A3 W) (b : W) (N M K : Nat) : Prop where
  c : Ct n b
  nx : n.x.1.natAbs < 2 ^ N
  ny : n.y.1.natAbs < 2 ^ N
  nz : n.z.1.natAbs < 2 ^ N
  tx : t.x.1.natAbs < 2 ^ M
  ty : t.y.1.natAbs < 2 ^ M
  tz : t.z.1.natAbs < 2 ^ M
  t0 : 0 < nrm t
  o : n.x.1 * t.x.1 + n.y.1 * t.y.1 + n.z.1 * t.z.1 = 0
  k : slS n t b.1 + 1 < 2 ^ K
  h : N + 8 ≤ K + M
section
variable {n t : A3 W} {b : W} {N M K : Nat}
theorem Sl.S (h : Sl n t b N M K) : (slS n t b.1).natAbs < 2 ^ K ∧ (-(slS n t b.1)).natAbs < 2 ^ K ∧ (slS n t b.1 + 1).natAbs < 2 ^ K := by
  have h0 : 0 ≤ slS n t b.1 := jV_
  have h1 := h.k
  have h2 : ((2 ^ K : Nat) : Int) = (2 : Int) ^ K := Int.natCast_pow ..
  omega
/-- The edges along a tangent, and a point farther out. -/
theorem oG_ (h : Sl n t b N M K) (hk : K + M + 20 ≤ 512) : V3 (aQ_ (aj_ n) (aG_ (aF_ n b t) (aj_ t))) (ed n.x.1 (slS n t b.1) t.x.1) (ed n.y.1 (slS n t b.1) t.y.1) (ed n.z.1 (slS n t b.1) t.z.1) (K + M + 1) 9 := by
  obtain ⟨p, q⟩ := hn_ (K := K) h.c.b0 h.c.b1 (Int.le_of_lt (d1_ h.c.n0)) h.t0 (by have := h.k; omega) (by omega)
  have v := py_ p q (of3 h.tx h.ty h.tz) (by omega) (by omega)
  have hh := h.h
  have w := plus3 (E := K + M + 3) (of3 h.nx h.ny h.nz) v (by omega) (by omega) (by omega) (by omega)
  exact ⟨w.hx, w.hy, w.hz, (ed_Cm h.nx h.S.1 h.tx h.h).az (by decide) (by decide), (ed_Cm h.ny h.S.1 h.ty h.h).az (by decide) (by decide), (ed_Cm h.nz h.S.1 h.tz h.h).az (by decide) (by decide)⟩
theorem pH_ (a S c : Int) : (a : Rat) - (S : Rat) / 256 * (c : Rat) = ed a (-S) c := by
  unfold ed
  rw [Rat.intCast_neg, Rat.div_def, Rat.div_def]; grind
theorem pG_ (h : Sl n t b N M K) (hk : K + M + 20 ≤ 512) : V3 (aP_ (aj_ n) (aG_ (aF_ n b t) (aj_ t))) (ed n.x.1 (-(slS n t b.1)) t.x.1) (ed n.y.1 (-(slS n t b.1)) t.y.1) (ed n.z.1 (-(slS n t b.1)) t.z.1) (K + M + 1) 9 := by
  obtain ⟨p, q⟩ := hn_ (K := K) h.c.b0 h.c.b1 (Int.le_of_lt (d1_ h.c.n0)) h.t0 (by have := h.k; omega) (by omega)
  have v := py_ p q (of3 h.tx h.ty h.tz) (by omega) (by omega)
  have hh := h.h
  have w := oC_ (E := K + M + 3) (of3 h.nx h.ny h.nz) v (by omega) (by omega) (by omega) (by omega)
  have e := w.hx
  have e2 := w.hy
  have e3 := w.hz
  rw [pH_] at e e2 e3
  exact ⟨e, e2, e3, (ed_Cm h.nx h.S.2.1 h.tx h.h).az (by decide) (by decide), (ed_Cm h.ny h.S.2.1 h.ty h.h).az (by decide) (by decide), (ed_Cm h.nz h.S.2.1 h.tz h.h).az (by decide) (by decide)⟩
end
theorem pg_ (n : A3 W) (b : W) (f : A3 Rt) : bn_ n b f = (cw_ n b f).is := by unfold bn_; rw [ot_]
theorem qu_ {n : A3 W} {b : W} (hcc : au_ n b = true) (hb : b.1 ≠ 0) : bU_ n b = ⟨[aQ_ (aj_ n) (aG_ (aF_ n b (tang n).1) (aj_ (tang n).1)), aP_ (aj_ n) (aG_ (aF_ n b (tang n).1) (aj_ (tang n).1)), aQ_ (aj_ n) (aG_ (aF_ n b (tang n).2) (aj_ (tang n).2)), aP_ (aj_ n) (aG_ (aF_ n b (tang n).2) (aj_ (tang n).2))], wl 0⟩ := by
  unfold bU_
  rw [hcc, cond_true, beq_eq_false_iff_ne.2 hb, cond_false, iW_]
end Go.Num


set_option linter.unusedVariables false
set_option linter.unusedSimpArgs false
namespace Go.Num
open Go Go.Kn
theorem nA_ (q : Rat) : q * ((q.den : Int) : Rat) = ((q.num : Int) : Rat) := by
  have h := Rat.num_divInt_den q
  rw [Rat.divInt_eq_div, Rat.div_def] at h
  have h0 : (((q.den : Nat) : Int) : Rat) ≠ 0 := fun h => q.den_nz (by have := Rat.intCast_eq_zero_iff.1 h; omega)
  have e : (((q.num : Int) : Rat) * (((q.den : Nat) : Int) : Rat)⁻¹) * (((q.den : Nat) : Int) : Rat) = ((q.num : Int) : Rat) := by rw [Rat.mul_assoc, Rat.inv_mul_cancel _ h0, Rat.mul_one]
  rw [h] at e; exact e
theorem r1_ (q : Rat) : (((q.den : Int) : Rat)) * q = ((q.num : Int) : Rat) := by rw [Rat.mul_comm]; exact nA_ q
/-- The multipliers of Split. -/
structure Ml (l : List Rt) (L : Int) (x y z s1 s2 : Rat) : Prop where
  ex : ∃ (k0 k1 k2 k3 : Rt) (q0 q1 q2 q3 : Rat), l = [k0, k1, k2, k3] ∧ k0.At q0 ∧ k1.At q1 ∧ k2.At q2 ∧ k3.At q3 ∧ Cm q0 L 224 ∧ Cm q1 L 224 ∧ Cm q2 L 224 ∧ Cm q3 L 224 ∧ 0 ≤ q0 ∧ 0 ≤ q1 ∧ 0 ≤ q2 ∧ 0 ≤ q3 ∧ q0 + q1 + (q2 + q3) = z ∧ (q0 - q1) * s1 = x ∧ (q2 - q3) * s2 = y
structure VC (a : A3 Rt) (x y z : Rat) (L : Int) (m : Nat) : Prop where
  hx : a.x.At x
  hy : a.y.At y
  hz : a.z.At z
  cx : Cm x L m
  cy : Cm y L m
  cz : Cm z L m
theorem VC.plus {a b : A3 Rt} {x y z u v w : Rat} {L : Int} {m c : Nat} (ha : VC a x y z L m) (hb : VC b u v w L m) (h0 : 0 < L) (hL : L.natAbs < 2 ^ c) (h : m + c < 512) (h2 : 2 * c ≤ 512) : VC (aQ_ a b) (x + u) (y + v) (z + w) L (m + 1) :=
  ⟨gw_ ha.hx hb.hx (ha.cx.az h0 hL) (hb.cx.az h0 hL) h h (by omega), gw_ ha.hy hb.hy (ha.cy.az h0 hL) (hb.cy.az h0 hL) h h (by omega), gw_ ha.hz hb.hz (ha.cz.az h0 hL) (hb.cz.az h0 hL) h h (by omega), ha.cx.add hb.cx, ha.cy.add hb.cy, ha.cz.add hb.cz⟩
theorem VC.mono {a : A3 Rt} {x y z : Rat} {L : Int} {m n : Nat} (h : VC a x y z L m) (hm : m ≤ n) : VC a x y z L n := ⟨h.hx, h.hy, h.hz, h.cx.mono hm, h.cy.mono hm, h.cz.mono hm⟩
theorem VC.zero {L : Int} {m : Nat} : VC (aj_ ⟨wl 0, wl 0, wl 0⟩) 0 0 0 L m := ⟨i4_, i4_, i4_, .zero, .zero, .zero⟩
theorem VC.times {k : Rt} {e : A3 Rt} {q x y z : Rat} {L M : Int} {m p c d : Nat} (hk : k.At q) (ck : Cm q L m) (he : VC e x y z M p) (hL : 0 < L) (hM : 0 < M) (bL : L.natAbs < 2 ^ c) (bM : M.natAbs < 2 ^ d) (h1 : m + p ≤ 512) (h2 : c + d ≤ 512) : VC (aG_ k e) (q * x) (q * y) (q * z) (L * M) (m + p) :=
  ⟨eY_ hk he.hx (ck.az hL bL) (he.cx.az hM bM) h1 h2, eY_ hk he.hy (ck.az hL bL) (he.cy.az hM bM) h1 h2, eY_ hk he.hz (ck.az hL bL) (he.cz.az hM bM) h1 h2, ck.mul he.cx, ck.mul he.cy, ck.mul he.cz⟩
theorem jC_ {t : A3 W} {x y z : Rat} (h : 0 < nrm t) : al t x y z * (nrm t : Rat) = (t.x.1 : Rat) * x + (t.y.1 : Rat) * y + (t.z.1 : Rat) * z := by
  unfold al
  have h0 : ((nrm t : Int) : Rat) ≠ 0 := fun e => by have := Rat.intCast_eq_zero_iff.1 e; omega
  rw [Rat.div_def, Rat.mul_assoc, Rat.inv_mul_cancel _ h0, Rat.mul_one]
theorem qz_ {n t u : A3 W} (tg : Tg n t u) (pn : 0 < nrm n) (x y z : Rat) : x = al n x y z * n.x.1 + al t x y z * t.x.1 + al u x y z * u.x.1 ∧ y = al n x y z * n.y.1 + al t x y z * t.y.1 + al u x y z * u.y.1 ∧ z = al n x y z * n.z.1 + al t x y z * t.z.1 + al u x y z * u.z.1 := by
  have pt := d1_ tg.t0
  have pu := d1_ tg.u0
  have h := tg.full x y z
  simp only at h
  have an := jC_ (x := x) (y := y) (z := z) pn
  have at' := jC_ (x := x) (y := y) (z := z) pt
  have au := jC_ (x := x) (y := y) (z := z) pu
  have nrmR : ∀ a : A3 W, ((nrm a : Int) : Rat) = (a.x.1 : Rat) * a.x.1 + a.y.1 * a.y.1 + a.z.1 * a.z.1 := fun a => by unfold nrm; rw [Rat.intCast_add, Rat.intCast_add, Rat.intCast_mul, Rat.intCast_mul, Rat.intCast_mul]
  rw [← nrmR, ← nrmR, ← nrmR, ← an, ← at', ← au] at h
  have n0 : ((nrm n : Int) : Rat) ≠ 0 := fun e => by have := Rat.intCast_eq_zero_iff.1 e; omega
  have t0 : ((nrm t : Int) : Rat) ≠ 0 := fun e => by have := Rat.intCast_eq_zero_iff.1 e; omega
  have u0 : ((nrm u : Int) : Rat) ≠ 0 := fun e => by have := Rat.intCast_eq_zero_iff.1 e; omega
  have d0 := ko_ (ko_ n0 t0) u0
  obtain ⟨h1, h2, h3⟩ := h
  refine ⟨iq_ d0 ?_, iq_ d0 ?_, iq_ d0 ?_⟩
  · grind
  · grind
  · grind
/-- What is in the pyramid is in the cone. -/
theorem p0_ {n t u : A3 W} {b : Int} {x y z s1 s2 : Rat} (tg : Tg n t u) (pn : 0 < nrm n) (hs1 : s1 * s1 * (1000000 * (nrm t : Rat)) ≤ ((b * b : Int) : Rat) * (nrm n : Rat)) (hs2 : s2 * s2 * (1000000 * (nrm u : Rat)) ≤ ((b * b : Int) : Rat) * (nrm n : Rat)) {p q : Rat} (hp : 0 ≤ p) (hq : 0 ≤ q) (ep : p * s1 = ab (al t x y z)) (eq : q * s2 = ab (al u x y z)) (h : p + q ≤ al n x y z) (bb : 0 ≤ b * b) :
    0 ≤ (n.x.1 : Rat) * x + (n.y.1 : Rat) * y + (n.z.1 : Rat) * z ∧ (1000000 : Rat) * ((y * n.z.1 - z * n.y.1) * (y * n.z.1 - z * n.y.1) + (z * n.x.1 - x * n.z.1) * (z * n.x.1 - x * n.z.1) + (x * n.y.1 - y * n.x.1) * (x * n.y.1 - y * n.x.1)) ≤ ((b * b : Int) : Rat) * (((n.x.1 : Rat) * x + (n.y.1 : Rat) * y + (n.z.1 : Rat) * z) * ((n.x.1 : Rat) * x + (n.y.1 : Rat) * y + (n.z.1 : Rat) * z)) := by
  have hn : (0 : Rat) < (nrm n : Rat) := Rat.intCast_pos.2 pn
  have an := jC_ (x := x) (y := y) (z := z) pn
  obtain ⟨fx, fy, fz⟩ := qz_ tg pn x y z
  have nrmR : ∀ a : A3 W, ((nrm a : Int) : Rat) = (a.x.1 : Rat) * a.x.1 + a.y.1 * a.y.1 + a.z.1 * a.z.1 := fun a => by unfold nrm; rw [Rat.intCast_add, Rat.intCast_add, Rat.intCast_mul, Rat.intCast_mul, Rat.intCast_mul]
  have dR : ∀ a c : A3 W, a.x.1 * c.x.1 + a.y.1 * c.y.1 + a.z.1 * c.z.1 = 0 → (a.x.1 : Rat) * c.x.1 + (a.y.1 : Rat) * c.y.1 + (a.z.1 : Rat) * c.z.1 = 0 := fun a c h => by rw [← Rat.intCast_mul, ← Rat.intCast_mul, ← Rat.intCast_mul, ← Rat.intCast_add, ← Rat.intCast_add, h]; rfl
  have o1 := dR _ _ tg.o1
  have o2 := dR _ _ tg.o2
  have o3 := dR _ _ tg.o3
  have tt := nrmR t
  have uu := nrmR u
  have nn := nrmR n
  have sq : ∀ r : Rat, ab r * ab r = r * r := fun r => by unfold ab; split <;> grind
  have X2 := sq (al t x y z)
  have Y2 := sq (al u x y z)
  rw [← ep] at X2
  rw [← eq] at Y2
  rw [← an]
  generalize hX : al t x y z = X at *
  generalize hY : al u x y z = Y at *
  generalize hZ : al n x y z = Z at *
  have Z0 : 0 ≤ Z := Rat.le_trans (Rat.add_nonneg hp hq) h
  refine ⟨Rat.mul_nonneg Z0 (Rat.le_of_lt hn), ?_⟩
  have lag : (y * n.z.1 - z * n.y.1) * (y * n.z.1 - z * n.y.1) + (z * n.x.1 - x * n.z.1) * (z * n.x.1 - x * n.z.1) + (x * n.y.1 - y * n.x.1) * (x * n.y.1 - y * n.x.1) = (X * X * (nrm t : Rat) + Y * Y * (nrm u : Rat)) * (nrm n : Rat) := by
    rw [tt, uu, nn]
    clear hX hY hZ an tt uu nn X2 Y2 ep eq h hs1 hs2
    generalize (n.x.1 : Rat) = n1 at *
    generalize (n.y.1 : Rat) = n2 at *
    generalize (n.z.1 : Rat) = n3 at *
    generalize (t.x.1 : Rat) = t1 at *
    generalize (t.y.1 : Rat) = t2 at *
    generalize (t.z.1 : Rat) = t3 at *
    generalize (u.x.1 : Rat) = u1 at *
    generalize (u.y.1 : Rat) = u2 at *
    generalize (u.z.1 : Rat) = u3 at *
    subst fx fy fz
    have e : ((Z * n2 + X * t2 + Y * u2) * n3 - (Z * n3 + X * t3 + Y * u3) * n2) * ((Z * n2 + X * t2 + Y * u2) * n3 - (Z * n3 + X * t3 + Y * u3) * n2) + ((Z * n3 + X * t3 + Y * u3) * n1 - (Z * n1 + X * t1 + Y * u1) * n3) * ((Z * n3 + X * t3 + Y * u3) * n1 - (Z * n1 + X * t1 + Y * u1) * n3) + ((Z * n1 + X * t1 + Y * u1) * n2 - (Z * n2 + X * t2 + Y * u2) * n1) * ((Z * n1 + X * t1 + Y * u1) * n2 - (Z * n2 + X * t2 + Y * u2) * n1)
      = (X * X * (t1 * t1 + t2 * t2 + t3 * t3) + Y * Y * (u1 * u1 + u2 * u2 + u3 * u3)) * (n1 * n1 + n2 * n2 + n3 * n3) + (2 * X * Y * (t1 * u1 + t2 * u2 + t3 * u3)) * (n1 * n1 + n2 * n2 + n3 * n3) - (X * (n1 * t1 + n2 * t2 + n3 * t3) + Y * (n1 * u1 + n2 * u2 + n3 * u3)) * (X * (n1 * t1 + n2 * t2 + n3 * t3) + Y * (n1 * u1 + n2 * u2 + n3 * u3)) := by grind
    rw [e, o1, o2, o3]; grind
  rw [lag]
  have B0 : (0 : Rat) ≤ ((b * b : Int) : Rat) := Rat.intCast_nonneg.2 bb
  have k1 : 1000000 * (X * X * (nrm t : Rat)) ≤ p * p * (((b * b : Int) : Rat) * (nrm n : Rat)) := by
    have := Rat.mul_le_mul_of_nonneg_left hs1 (Rat.mul_nonneg hp hp)
    have e : p * p * (s1 * s1 * (1000000 * (nrm t : Rat))) = 1000000 * (X * X * (nrm t : Rat)) := by rw [← X2]; grind
    rw [e] at this; exact this
  have k2 : 1000000 * (Y * Y * (nrm u : Rat)) ≤ q * q * (((b * b : Int) : Rat) * (nrm n : Rat)) := by
    have := Rat.mul_le_mul_of_nonneg_left hs2 (Rat.mul_nonneg hq hq)
    have e : q * q * (s2 * s2 * (1000000 * (nrm u : Rat))) = 1000000 * (Y * Y * (nrm u : Rat)) := by rw [← Y2]; grind
    rw [e] at this; exact this
  have C0 : (0 : Rat) ≤ ((b * b : Int) : Rat) * (nrm n : Rat) := Rat.mul_nonneg B0 (Rat.le_of_lt hn)
  have k3 : p * p + q * q ≤ Z * Z := by
    have h1 : (p + q) * (p + q) ≤ Z * Z := by
      have a1 := Rat.mul_le_mul_of_nonneg_left h (Rat.add_nonneg hp hq)
      have a2 := Rat.mul_le_mul_of_nonneg_right h Z0
      exact Rat.le_trans a1 a2
    have h2 := Rat.mul_nonneg hp hq
    grind
  have k4 := Rat.mul_le_mul_of_nonneg_right k3 C0
  have k5 : 1000000 * (X * X * (nrm t : Rat)) + 1000000 * (Y * Y * (nrm u : Rat)) ≤ Z * Z * (((b * b : Int) : Rat) * (nrm n : Rat)) := by
    generalize ((b * b : Int) : Rat) * (nrm n : Rat) = D at *
    grind
  have k6 := Rat.mul_le_mul_of_nonneg_right k5 (Rat.le_of_lt hn)
  have e1 : (1000000 : Rat) * ((X * X * (nrm t : Rat) + Y * Y * (nrm u : Rat)) * (nrm n : Rat)) = (1000000 * (X * X * (nrm t : Rat)) + 1000000 * (Y * Y * (nrm u : Rat))) * (nrm n : Rat) := by grind
  have e2 : ((b * b : Int) : Rat) * (Z * (nrm n : Rat) * (Z * (nrm n : Rat))) = Z * Z * (((b * b : Int) : Rat) * (nrm n : Rat)) * (nrm n : Rat) := by grind
  rw [e1, e2]; exact k6
theorem mj_ (q0 q1 : Rat) (a S c : Int) : q0 * ed a S c + q1 * ed a (-S) c = (q0 + q1) * (a : Rat) + (q0 - q1) * ((S : Rat) / 256) * (c : Rat) := by
  unfold ed
  rw [Rat.intCast_neg, Rat.div_def, Rat.div_def]; grind
theorem VC.v3 {a : A3 Rt} {x y z : Rat} {L : Int} {m c : Nat} (h : VC a x y z L m) (h0 : 0 < L) (hL : L.natAbs < 2 ^ c) : V3 a x y z m c := ⟨h.hx, h.hy, h.hz, h.cx.az h0 hL, h.cy.az h0 hL, h.cz.az h0 hL⟩
theorem V3.vc {a : A3 Rt} {x y z : Rat} {A B : Nat} {L : Int} {m : Nat} (h : V3 a x y z A B) (c1 : Cm x L m) (c2 : Cm y L m) (c3 : Cm z L m) : VC a x y z L m := ⟨h.hx, h.hy, h.hz, c1, c2, c3⟩
end Go.Num

