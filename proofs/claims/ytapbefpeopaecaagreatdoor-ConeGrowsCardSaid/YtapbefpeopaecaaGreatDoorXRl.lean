/- law21: ConeGrows, ConeSlopes. No program stands in it. -/
import Derived.Test.YtapbefpeopaecaaGreatDoorXPV
import Derived.KernelRfl

set_option linter.unusedVariables false
set_option linter.unusedSimpArgs false
namespace Go.Num
open Go Go.Kn
theorem lI_ (t : A3 W) : cO_ t t = E (Z.of (nrm t)) := by rw [← i6_]; exact (dotW t t).1
theorem nrm_B (t : A3 W) : (nrm t).natAbs < 2 ^ 130 := (dotW t t).2.lt
structure Ct (n : A3 W) (b : W) : Prop where
  x : n.x.1.natAbs < 2 ^ 29
  y : n.y.1.natAbs < 2 ^ 29
  z : n.z.1.natAbs < 2 ^ 29
  n0 : ¬ (n.x.1 = 0 ∧ n.y.1 = 0 ∧ n.z.1 = 0)
  b0 : 0 ≤ b.1
  b1 : b.1 ≤ 4000
theorem ib_ {n : A3 W} {b : W} (h : as_ n b = true) : Ct n b := by
  unfold as_ at h
  have e : (2 : Nat) ^ 29 = 536870912 := rfl
  cases h1 : (decide (536870912 ≤ n.x.1) || decide (n.x.1 ≤ (-536870912)))
  · cases h2 : (decide (536870912 ≤ n.y.1) || decide (n.y.1 ≤ (-536870912)))
    · cases h3 : (decide (536870912 ≤ n.z.1) || decide (n.z.1 ≤ (-536870912)))
      · rw [h1, h2, h3] at h
        simp only [cond_false, Bool.and_eq_true, Bool.not_eq_true', Bool.and_eq_false_iff, decide_eq_true_eq, decide_eq_false_iff_not, Bool.or_eq_false_iff] at h h1 h2 h3
        obtain ⟨k1, k2, k3⟩ := h
        exact ⟨by omega, by omega, by omega, by omega, k2, k3⟩
      · rw [h1, h2, h3] at h; simp at h
    · rw [h1, h2] at h; simp at h
  · rw [h1] at h; simp at h
theorem Wsq {b : W} (h0 : 0 ≤ b.1) (h1 : b.1 ≤ 4000) : (W.mul b b).1 = b.1 * b.1 := by
  have h2 : b.1 * b.1 ≤ 4000 * 4000 := Int.mul_le_mul h1 h1 h0 (by decide)
  have h3 : 0 ≤ b.1 * b.1 := Int.mul_nonneg h0 h0
  show IntKind.i64.wrap (b.1 * b.1) = _
  exact wi (by omega)
theorem kW_ {n t : A3 W} {b : W} {K : Nat} (hb : 0 ≤ b.1) (hb1 : b.1 ≤ 4000) (hn : 0 ≤ nrm n) (ht : 0 < nrm t) (hK : slS n t b.1 < 2 ^ K) (hK2 : K ≤ 500) : (aZ_ n b t).At ((slS n t b.1 : Rat) / 256) ∧ Az ((slS n t b.1 : Rat) / 256) K 9 := by
  have bn := nrm_B n
  have bt := nrm_B t
  have h2 : b.1 * b.1 ≤ 4000 * 4000 := Int.mul_le_mul hb1 hb1 hb (by decide)
  have h3 : 0 ≤ b.1 * b.1 := Int.mul_nonneg hb hb
  have bb : (b.1 * b.1).natAbs < 2 ^ 24 := by have : (2 : Nat) ^ 24 = 16777216 := rfl; omega
  have B1 := mbits bb bn
  have B2 := mbits B1 (show (65536 : Int).natAbs < 2 ^ 17 by decide)
  have B3 := mbits (show (1000000 : Int).natAbs < 2 ^ 20 by decide) bt
  have hq : 0 ≤ slQ n t b.1 := oQ_ hb ht hn
  have hqB : (slQ n t b.1).natAbs < 2 ^ 171 := Nat.lt_of_le_of_lt (Int.natAbs_ediv_le_natAbs _ _) B2
  have e : aZ_ n b t = ak_ (E (Z.of (slS n t b.1))) (E (Z.of 256)) := by
    unfold aZ_
    simp only [lI_, E_dec, Wsq hb hb1]
    rw [eH_ (B_pow bb (by decide)) (B_pow bn (by decide)), eH_ (B_pow B1 (by decide)) (by decide), eH_ (by decide) (B_pow bt (by decide)), gF_ (B_pow B2 (by decide)) (B_pow B3 (by decide)) (by omega)]
    rw [show b.1 * b.1 * nrm n * 65536 / (1000000 * nrm t) = slQ n t b.1 from rfl]
    have : Z.sqrt (Z.of (slQ n t b.1)) = Z.of (slS n t b.1) := by
      unfold Z.sqrt
      rw [bZ_ (Z.of_some (B_pow hqB (by decide))), decide_eq_false (by omega), cond_false]; rfl
    rw [this]
  have s0 : 0 ≤ slS n t b.1 := kO_
  have sK : (slS n t b.1).natAbs < 2 ^ K := by
    have : ((slS n t b.1).natAbs : Int) < ((2 ^ K : Nat) : Int) := by rw [Int.natCast_pow]; show _ < (2 : Int) ^ K; omega
    exact Int.ofNat_lt.1 this
  have q0 : ((slS n t b.1 : Int) : Rat) = ((256 : Int) : Rat) * ((slS n t b.1 : Rat) / 256) := by
    rw [Rat.div_def, Rat.mul_comm, Rat.mul_assoc]
    show _ = _ * ((256 : Rat)⁻¹ * 256)
    rw [Rat.inv_mul_cancel _ (by decide), Rat.mul_one]
  rw [e]
  exact ⟨f9_ (B_pow sK (by omega)) (by decide) (by decide) (lE_ q0), Az_of q0 (by decide) sK (by decide)⟩
theorem qu_ (a : Rat) : 0 ≤ a * a := by
  rcases (Rat.le_total : (0 : Rat) ≤ a ∨ a ≤ 0) with h | h
  · exact Rat.mul_nonneg h h
  · have e : a * a = (-a) * (-a) := by grind
    rw [e]
    exact Rat.mul_nonneg (by grind) (by grind)
theorem qM_ {s : Rat} (h : 0 ≤ s) : 0 ≤ s⁻¹ := by
  by_cases h0 : s = 0
  · rw [h0, Rat.inv_zero]; exact Rat.le_refl
  · have e : s⁻¹ = s * (s⁻¹ * s⁻¹) := by rw [← Rat.mul_assoc, Rat.mul_inv_cancel _ h0, Rat.one_mul]
    rw [e]
    exact Rat.mul_nonneg h (qu_ _)
theorem i256 : (0 : Rat) ≤ (256 : Rat)⁻¹ := qM_ (by decide)
theorem p9_ : (ap_ (wl 0)).At 0 := by
  have h := Of_At (wl 0)
  rw [show (((wl 0).1 : Int) : Rat) = 0 from rfl] at h
  exact h
theorem zdiv (r : Rat) : (0 : Rat) / r = 0 := by rw [Rat.div_def, Rat.zero_mul]
def ab (q : Rat) : Rat := if 0 ≤ q then q else -q
theorem ab_nn (q : Rat) : 0 ≤ ab q := by unfold ab; split <;> grind
theorem ab_0 {q : Rat} (h : q = 0) : ab q = 0 := by subst h; rfl
theorem Az.ab {q : Rat} {A B : Nat} (h : Az q A B) : Az (ab q) A B := by
  unfold Go.Num.ab
  split
  · exact h
  · exact h.neg
theorem q9_ {a : Rt} {q : Rat} (h : a.At q) : (bJ_ a).At (ab q) := by
  have h1 := mj_ (At.is h)
  unfold ab
  split
  · next h0 =>
    have : 0 ≤ q.num := Rat.num_nonneg.2 h0
    rw [show (q.num.natAbs : Int) = q.num by omega] at h1
    exact h1
  · next h0 =>
    have : ¬ 0 ≤ q.num := fun h => h0 (Rat.num_nonneg.1 h)
    rw [show (q.num.natAbs : Int) = -q.num by omega] at h1
    show Rt.Is _ (-q).num ((-q).den : Int)
    rw [Rat.neg_num]
    exact h1
theorem k4_ {q : Rat} : (q.num.sign == 0) = decide (q = 0) := by
  by_cases h : q = 0
  · rw [decide_eq_true h, h]; rfl
  · rw [decide_eq_false h]
    exact beq_eq_false_iff_ne.2 fun e => h (Rat.num_eq_zero.1 (Int.sign_eq_zero_iff_zero.1 e))
theorem kE_ {x a : Rt} {q s : Rat} {A B C D : Nat} (hx : x.At q) (ha : a.At s) (sx : Az q A B) (sa : Az s C D) (h1 : A + D ≤ 512) (h2 : B + C ≤ 512) :
    (bI_ x a).2 = (decide (q = 0) || !decide (s = 0)) ∧ ((q = 0 ∨ s ≠ 0) → (bI_ x a).1.At (ab q / s) ∧ Az (ab q / s) (A + D) (B + C)) := by
  unfold bI_
  rw [ii_ hx, ii_ ha, k4_, k4_]
  by_cases hq : q = 0
  · rw [decide_eq_true hq, cond_true]
    refine ⟨(Bool.true_or _).symm, fun _ => ?_⟩
    have e : ab q / s = 0 := by rw [ab_0 hq, Rat.div_def, Rat.zero_mul]
    rw [e]
    have b1 : 1 < 2 ^ B := by have := sx.d; have := q.den_pos; omega
    refine ⟨p9_, Nat.pow_pos (by decide), ?_⟩
    show 1 < 2 ^ (B + C)
    exact Nat.lt_of_lt_of_le b1 (er_ (by omega))
  · rw [decide_eq_false hq, cond_false]
    by_cases hs : s = 0
    · rw [decide_eq_true hs, cond_true]
      exact ⟨by rw [Bool.false_or]; rfl, fun h => by rcases h with h | h; exact absurd h hq; exact absurd hs h⟩
    · rw [decide_eq_false hs, cond_false]
      exact ⟨by rw [Bool.false_or]; rfl, fun _ => ⟨oD_ (q9_ hx) ha hs sx.ab sa h1 h2, sx.ab.div sa hs⟩⟩
theorem n8_ {v : Int} (h : B512 v) : (c0_ (E (Z.of v))).At (v : Rat) := by
  unfold c0_
  rw [one4]
  exact f9_ h B1 (by decide) (by simp)
/-- The part of a force along a vector, in multiples of it. -/
def al (t : A3 W) (x y z : Rat) : Rat := ((t.x.1 : Rat) * x + (t.y.1 : Rat) * y + (t.z.1 : Rat) * z) / (nrm t : Rat)
theorem ie_ {t : A3 W} {f : A3 Rt} {x y z : Rat} {N A B : Nat} (tx : t.x.1.natAbs < 2 ^ N) (ty : t.y.1.natAbs < 2 ^ N) (tz : t.z.1.natAbs < 2 ^ N) (ht : 0 < nrm t) (hf : V3 f x y z A B) (h1 : N + A + 2 * B + 5 ≤ 512) (h2 : 3 * B + 2 * N + 5 ≤ 512) :
    (aL_ t f).At (al t x y z) ∧ Az (al t x y z) (N + A + 2 * B + 5) (3 * B + 2 * N + 5) := by
  obtain ⟨p, q⟩ := mG_ (of3 tx ty tz) hf (by omega) (by omega)
  have hb := ox_ tx ty tz
  have hw := n8_ (v := nrm t) (B_pow hb (by omega))
  have h0 : ((nrm t : Int) : Rat) ≠ 0 := fun e => by have := Rat.intCast_eq_zero_iff.1 e; omega
  have d := oD_ p hw h0 q (.int hb) (by omega) (by omega)
  unfold aL_
  rw [lI_]
  exact ⟨d, (q.div (.int hb) h0).mono (by omega) (by omega)⟩
theorem Az.d1 {q : Rat} {A B : Nat} (h : Az q A B) : 1 ≤ B := by
  rcases Nat.eq_zero_or_pos B with e | e
  · subst e
    have := h.d
    have := q.den_pos
    omega
  · exact e
/-- What Split finds. -/
theorem j3_ {n : A3 W} {b : W} {f : A3 Rt} {x y z : Rat} {N A B K : Nat} (hc : Ct n b) (hcc : as_ n b = true) (hN : 1 ≤ N) (nx : n.x.1.natAbs < 2 ^ N) (ny : n.y.1.natAbs < 2 ^ N) (nz : n.z.1.natAbs < 2 ^ N) (hf : V3 f x y z A B)
    (k1 : slS n (tang n).1 b.1 < 2 ^ K) (k2 : slS n (tang n).2 b.1 < 2 ^ K) (h1 : 7 * N + A + 8 * B + 2 * K + 28 ≤ 512) (h2 : 9 * B + 8 * N + 17 + 2 * K ≤ 512) :
    (bj_ n b f).is = ((decide (al (tang n).1 x y z = 0) || !decide ((slS n (tang n).1 b.1 : Rat) / 256 = 0)) && ((decide (al (tang n).2 x y z = 0) || !decide ((slS n (tang n).2 b.1 : Rat) / 256 = 0)) && decide (0 ≤ al n x y z - ab (al (tang n).1 x y z) / ((slS n (tang n).1 b.1 : Rat) / 256) - ab (al (tang n).2 x y z) / ((slS n (tang n).2 b.1 : Rat) / 256)))) := by
  have tg := mD_ hc.x hc.y hc.z hc.n0
  obtain ⟨tx, ty, tz⟩ := tg.tb N hN nx ny nz
  obtain ⟨ux, uy, uz⟩ := tg.ub N hN nx ny nz
  have pn := gM_ hc.n0
  have pt := gM_ tg.t0
  have pu := gM_ tg.u0
  have hB := hf.sx.d1
  obtain ⟨a1, s1⟩ := ie_ tx ty tz pt hf (by omega) (by omega)
  obtain ⟨a2, s2⟩ := ie_ ux uy uz pu hf (by omega) (by omega)
  obtain ⟨a3, s3⟩ := ie_ nx ny nz pn hf (by omega) (by omega)
  obtain ⟨b1, r1⟩ := kW_ hc.b0 hc.b1 (Int.le_of_lt pn) pt k1 (by omega)
  obtain ⟨b2, r2⟩ := kW_ hc.b0 hc.b1 (Int.le_of_lt pn) pu k2 (by omega)
  obtain ⟨c1, d1⟩ := kE_ a1 b1 s1 r1 (by omega) (by omega)
  obtain ⟨c2, d2⟩ := kE_ a2 b2 s2 r2 (by omega) (by omega)
  unfold bj_
  rw [hcc, cond_true, kz_]
  simp only
  rw [c1, c2]
  by_cases g1 : al (tang n).1 x y z = 0 ∨ (slS n (tang n).1 b.1 : Rat) / 256 ≠ 0
  · have e1 : (decide (al (tang n).1 x y z = 0) || !decide ((slS n (tang n).1 b.1 : Rat) / 256 = 0)) = true := by simpa using g1
    by_cases g2 : al (tang n).2 x y z = 0 ∨ (slS n (tang n).2 b.1 : Rat) / 256 ≠ 0
    · have e2 : (decide (al (tang n).2 x y z = 0) || !decide ((slS n (tang n).2 b.1 : Rat) / 256 = 0)) = true := by simpa using g2
      obtain ⟨p1, q1⟩ := d1 g1
      obtain ⟨p2, q2⟩ := d2 g2
      have m1 := lO_ a3 p1 s3 q1 (by omega) (by omega) (by omega)
      have w1 := s3.sub (c := 3 * N + A + 5 * B + K + 20) q1 (by omega) (by omega)
      have m2 := lO_ m1 p2 w1 q2 (by omega) (by omega) (by omega)
      rw [e1, e2, ii_ m2]
      simp only [Bool.not_true, Bool.false_or, Bool.true_and]
      have e3 : decide ((al n x y z - ab (al (tang n).1 x y z) / ((slS n (tang n).1 b.1 : Rat) / 256) - ab (al (tang n).2 x y z) / ((slS n (tang n).2 b.1 : Rat) / 256)).num.sign < 0) = !decide (0 ≤ al n x y z - ab (al (tang n).1 x y z) / ((slS n (tang n).1 b.1 : Rat) / 256) - ab (al (tang n).2 x y z) / ((slS n (tang n).2 b.1 : Rat) / 256)) := by
        rw [← decide_not]
        exact decide_eq_decide.2 (by rw [Int.sign_neg_iff, ← Rat.num_nonneg]; omega)
      rw [e3]
      cases decide (0 ≤ al n x y z - ab (al (tang n).1 x y z) / ((slS n (tang n).1 b.1 : Rat) / 256) - ab (al (tang n).2 x y z) / ((slS n (tang n).2 b.1 : Rat) / 256))
      · rfl
      · rw [Bool.not_true, cond_false]
        cases (b.1 == 0)
        · rw [cond_false]
          cases decide ((aM_ (aL_ (tang n).1 f)).1 < 0) <;> cases decide ((aM_ (aL_ (tang n).2 f)).1 < 0) <;> rfl
        · rfl
    · have e2 : (decide (al (tang n).2 x y z = 0) || !decide ((slS n (tang n).2 b.1 : Rat) / 256 = 0)) = false := by simpa using g2
      rw [e1, e2]; rfl
  · have e1 : (decide (al (tang n).1 x y z = 0) || !decide ((slS n (tang n).1 b.1 : Rat) / 256 = 0)) = false := by simpa using g1
    rw [e1]; rfl
theorem hZ_ {n : A3 W} {b : W} {f : A3 Rt} {x y z : Rat} {N A B : Nat} (hc : Ct n b) (hcc : as_ n b = true) (nx : n.x.1.natAbs < 2 ^ N) (ny : n.y.1.natAbs < 2 ^ N) (nz : n.z.1.natAbs < 2 ^ N) (hf : V3 f x y z A B) (h1 : 2 * A + 2 * N + 10 * B + 34 ≤ 512) (h2 : 12 * B + 13 ≤ 512) :
    bB_ n b f = (decide (0 ≤ (n.x.1 : Rat) * x + (n.y.1 : Rat) * y + (n.z.1 : Rat) * z) && decide ((1000000 : Rat) * ((y * n.z.1 - z * n.y.1) * (y * n.z.1 - z * n.y.1) + (z * n.x.1 - x * n.z.1) * (z * n.x.1 - x * n.z.1) + (x * n.y.1 - y * n.x.1) * (x * n.y.1 - y * n.x.1)) ≤ ((b.1 * b.1 : Int) : Rat) * (((n.x.1 : Rat) * x + (n.y.1 : Rat) * y + (n.z.1 : Rat) * z) * ((n.x.1 : Rat) * x + (n.y.1 : Rat) * y + (n.z.1 : Rat) * z)))) := by
  have hn := of3 nx ny nz
  have o := qS_ hf hn (by omega) (by omega)
  obtain ⟨p, q⟩ := mG_ o o (by omega) (by omega)
  obtain ⟨p2, q2⟩ := mG_ hn hf (by omega) (by omega)
  have l := gd_ (Of_At (wl 1000000)) p (Az.int (a := 20) (by decide)) q (by omega) (by omega)
  have r := gd_ p2 p2 q2 q2 (by omega) (by omega)
  have hbb := Of_At (W.mul b b)
  rw [Wsq hc.b0 hc.b1] at hbb
  have h2 : b.1 * b.1 ≤ 4000 * 4000 := Int.mul_le_mul hc.b1 hc.b1 hc.b0 (by decide)
  have h3 : 0 ≤ b.1 * b.1 := Int.mul_nonneg hc.b0 hc.b0
  have r2 := gd_ hbb r (Az.int (a := 24) (by have : (2 : Nat) ^ 24 = 16777216 := rfl; omega)) (q2.mul q2) (by omega) (by omega)
  unfold bB_
  rw [hcc]
  show (bif (!true || decide ((aM_ (bt_ (bW_ n) f)).1 < 0)) then false else decide ((cB_ _ _).1 ≤ 0)) = _
  rw [ii_ p2, ← pl_]
  have e1 : decide ((b0_ (aA_ (ap_ (wl 1000000)) (bt_ (cn_ f (bW_ n)) (cn_ f (bW_ n)))) (aA_ (ap_ (W.mul b b)) (aA_ (bt_ (bW_ n) f) (bt_ (bW_ n) f)))).1 ≤ 0) = decide ((1000000 : Rat) * ((y * n.z.1 - z * n.y.1) * (y * n.z.1 - z * n.y.1) + (z * n.x.1 - x * n.z.1) * (z * n.x.1 - x * n.z.1) + (x * n.y.1 - y * n.x.1) * (x * n.y.1 - y * n.x.1)) ≤ ((b.1 * b.1 : Int) : Rat) * (((n.x.1 : Rat) * x + (n.y.1 : Rat) * y + (n.z.1 : Rat) * z) * ((n.x.1 : Rat) * x + (n.y.1 : Rat) * y + (n.z.1 : Rat) * z))) := decide_eq_decide.2 (qh_ l r2)
  have e2 : decide (((n.x.1 : Rat) * x + (n.y.1 : Rat) * y + (n.z.1 : Rat) * z).num.sign < 0) = !decide (0 ≤ (n.x.1 : Rat) * x + (n.y.1 : Rat) * y + (n.z.1 : Rat) * z) := by
    rw [← decide_not]
    exact decide_eq_decide.2 (by rw [Int.sign_neg_iff, ← Rat.num_nonneg]; omega)
  rw [e2, Bool.not_true, Bool.false_or]
  cases decide (0 ≤ (n.x.1 : Rat) * x + (n.y.1 : Rat) * y + (n.z.1 : Rat) * z)
  · rfl
  · rw [Bool.not_true, cond_false, Bool.true_and]
    exact e1
theorem pi_ {a : Rt} {i j : Int} (g : ae_ a = true) (h1 : (Z.bitsW a.n.dec).1 ≤ i) (h2 : (Z.bitsW a.d.dec).1 ≤ j) : ∃ p, a.At p ∧ Az p i.toNat j.toNat := by
  obtain ⟨p, hp⟩ := pG_ g
  refine ⟨p, hp, ?_⟩
  rw [(At.is hp).en] at h1
  rw [(At.is hp).ed] at h2
  rw [E_dec] at h1 h2
  have e1 : (Z.bitsW (Z.of p.num)).1 = ((bl p.num.natAbs : Nat) : Int) := congrArg Int.ofNat (mM_ (At.is hp).hn)
  have e2 : (Z.bitsW (Z.of (p.den : Int))).1 = ((bl p.den : Nat) : Int) := congrArg Int.ofNat (mM_ (At.is hp).hd)
  rw [e1] at h1
  rw [e2] at h2
  exact ⟨Nat.lt_of_lt_of_le (bl_lt _) (er_ (by omega)), Nat.lt_of_lt_of_le (bl_lt _) (er_ (by omega))⟩
theorem fpart {a : Rt} (h : (!(ae_ a) || (decide (48 < (Z.bitsW a.n.dec).1) || decide (17 < (Z.bitsW a.d.dec).1))) = false) : ∃ p, a.At p ∧ Az p 48 17 := by
  simp only [Bool.or_eq_false_iff, Bool.not_eq_false', decide_eq_false_iff_not] at h
  exact pi_ h.1 (i := 48) (j := 17) (by omega) (by omega)
theorem n0_ {f : A3 Rt} (h : a1_ f = true) : ∃ x y z, V3 f x y z 48 17 := by
  unfold a1_ at h
  cases h1 : (!(ae_ f.x) || (decide (48 < (Z.bitsW f.x.n.dec).1) || decide (17 < (Z.bitsW f.x.d.dec).1)))
  · cases h2 : (!(ae_ f.y) || (decide (48 < (Z.bitsW f.y.n.dec).1) || decide (17 < (Z.bitsW f.y.d.dec).1)))
    · cases h3 : (!(ae_ f.z) || (decide (48 < (Z.bitsW f.z.n.dec).1) || decide (17 < (Z.bitsW f.z.d.dec).1)))
      · obtain ⟨x, x1, x2⟩ := fpart h1
        obtain ⟨y, y1, y2⟩ := fpart h2
        obtain ⟨z, z1, z2⟩ := fpart h3
        exact ⟨x, y, z, x1, y1, z1, x2, y2, z2⟩
      · rw [h1, h2, h3] at h; simp at h
    · rw [h1, h2] at h; simp at h
  · rw [h1] at h; simp at h
theorem k3_ {n t : A3 W} {b : Int} {K : Nat} (hb : 0 ≤ b) (hb1 : b ≤ 4000) (ht : 0 < nrm t) (hn : 0 ≤ nrm n) (hk : 1048576 * nrm n < 2 ^ K * 2 ^ K) : slS n t b < 2 ^ K := by
  have h1 := oO_ (t := t) hb hb1 ht hn (Int.le_refl _)
  have hB : (slQ n t b).toNat < 4294967296 ^ 16 := by
    have := nrm_B n
    have e : (2 : Nat) ^ 130 * 1048576 < 4294967296 ^ 16 := by decide
    omega
  obtain ⟨h2, _⟩ := qw_ hb ht hn hB
  apply Classical.byContradiction
  intro hc
  have : (2 : Int) ^ K * 2 ^ K ≤ slS n t b * slS n t b := Int.mul_le_mul (by omega) (by omega) (Int.le_of_lt (Int.pow_pos (by decide))) kO_
  omega
theorem slQ_B {n t : A3 W} {b : Int} (hb : 0 ≤ b) (hb1 : b ≤ 4000) (ht : 0 < nrm t) (hn : 0 ≤ nrm n) : (slQ n t b).toNat < 4294967296 ^ 16 := by
  have h1 := oO_ (t := t) hb hb1 ht hn (Int.le_refl _)
  have := nrm_B n
  have e : (2 : Nat) ^ 130 * 1048576 < 4294967296 ^ 16 := by decide
  omega
theorem np_ {p s r : Rat} (hp : 0 ≤ p) (hs : 0 < s) (h : s ≤ r) : p / r ≤ p / s := by
  have hr : 0 < r := by grind
  have e1 : p / r * r = p := by rw [Rat.div_def, Rat.mul_assoc, Rat.inv_mul_cancel _ (by grind), Rat.mul_one]
  have e2 : p / s * s = p := by rw [Rat.div_def, Rat.mul_assoc, Rat.inv_mul_cancel _ (by grind), Rat.mul_one]
  refine Rat.le_of_mul_le_mul_right (c := r) ?_ hr
  rw [e1]
  have h0 : 0 ≤ p / s := by
    refine Rat.le_of_mul_le_mul_right (c := s) ?_ hs
    rw [e2, Rat.zero_mul]; exact hp
  have := Rat.mul_le_mul_of_nonneg_left h h0
  rw [e2] at this
  exact this
structure Cm (q : Rat) (L : Int) (a : Nat) : Prop where
  h : ∃ U : Int, (U : Rat) = (L : Rat) * q ∧ U.natAbs < 2 ^ a
theorem Cm.mono {q : Rat} {L : Int} {a b : Nat} (h : Cm q L a) (hb : a ≤ b) : Cm q L b := by
  obtain ⟨U, h1, h2⟩ := h.h
  exact ⟨U, h1, Nat.lt_of_lt_of_le h2 (er_ hb)⟩
theorem Cm.add {q r : Rat} {L : Int} {a : Nat} (h : Cm q L a) (g : Cm r L a) : Cm (q + r) L (a + 1) := by
  obtain ⟨U, h1, h2⟩ := h.h
  obtain ⟨V, g1, g2⟩ := g.h
  refine ⟨U + V, by rw [Rat.intCast_add, h1, g1, Rat.mul_add], ?_⟩
  rw [Nat.pow_succ]; omega
theorem Cm.mul {q r : Rat} {L M : Int} {a b : Nat} (h : Cm q L a) (g : Cm r M b) : Cm (q * r) (L * M) (a + b) := by
  obtain ⟨U, h1, h2⟩ := h.h
  obtain ⟨V, g1, g2⟩ := g.h
  exact ⟨U * V, by rw [Rat.intCast_mul, Rat.intCast_mul, h1, g1]; grind, mbits h2 g2⟩
theorem Cm.zero {L : Int} {a : Nat} : Cm 0 L a := ⟨0, by rw [Rat.mul_zero]; rfl, Nat.pow_pos (by decide)⟩
theorem Cm.az {q : Rat} {L : Int} {a b : Nat} (h : Cm q L a) (hL : 0 < L) (hb : L.natAbs < 2 ^ b) : Az q a b := by
  obtain ⟨U, h1, h2⟩ := h.h
  exact Az_of h1 hL h2 hb
/-- n + S / 256 t. -/
def ed (a S c : Int) : Rat := (a : Rat) + (S : Rat) / 256 * (c : Rat)
structure Sl (n t : A3 W) (b : W) (N M K : Nat) : Prop where
  c : Ct n b
  nx : n.x.1.natAbs < 2 ^ N
  ny : n.y.1.natAbs < 2 ^ N
  nz : n.z.1.natAbs < 2 ^ N
  tx : t.x.1.natAbs < 2 ^ M
  ty : t.y.1.natAbs < 2 ^ M
  tz : t.z.1.natAbs < 2 ^ M
  t0 : 0 < nrm t
  o : n.x.1 * t.x.1 + n.y.1 * t.y.1 + n.z.1 * t.z.1 = 0
  k : slS n t b.1 + 1 < 2 ^ K
  h : N + 8 ≤ K + M
section
variable {n t : A3 W} {b : W} {N M K : Nat}
theorem Sl.S (h : Sl n t b N M K) : (slS n t b.1).natAbs < 2 ^ K ∧ (-(slS n t b.1)).natAbs < 2 ^ K ∧ (slS n t b.1 + 1).natAbs < 2 ^ K := by
  have h0 : 0 ≤ slS n t b.1 := kO_
  have h1 := h.k
  have h2 : ((2 ^ K : Nat) : Int) = (2 : Int) ^ K := Int.natCast_pow ..
  omega
end
theorem lu_ {n : A3 W} {b c : W} {f : A3 Rt} (hF : a1_ f = true) (h1 : as_ n b = true) (h2 : as_ n c = true) (h : b.1 ≤ c.1) : ((bB_ n b f = true → bB_ n c f = true)) ∧ ((bj_ n b f).is = true → (bj_ n c f).is = true) := by
  obtain ⟨x, y, z, hf⟩ := n0_ hF
  have c1 := ib_ h1
  have c2 := ib_ h2
  have tg := mD_ c1.x c1.y c1.z c1.n0
  have pn := gM_ c1.n0
  have pt := gM_ tg.t0
  have pu := gM_ tg.u0
  have nb : 1048576 * nrm n < 2 ^ 40 * 2 ^ 40 := by
    have := ox_ c1.x c1.y c1.z
    have e : (2 : Nat) ^ (2 * 29 + 2) = 1152921504606846976 := rfl
    omega
  constructor
  · rw [hZ_ c1 h1 c1.x c1.y c1.z hf (by decide) (by decide), hZ_ c2 h2 c1.x c1.y c1.z hf (by decide) (by decide)]
    simp only [Bool.and_eq_true, decide_eq_true_eq]
    rintro ⟨k1, k2⟩
    refine ⟨k1, Rat.le_trans k2 (Rat.mul_le_mul_of_nonneg_right (Rat.intCast_le_intCast.2 (Int.mul_le_mul h h c1.b0 (Int.le_trans c1.b0 h))) (Rat.mul_nonneg k1 k1))⟩
  · rw [j3_ (N := 29) (K := 40) c1 h1 (by decide) c1.x c1.y c1.z hf (k3_ c1.b0 c1.b1 pt (Int.le_of_lt pn) nb) (k3_ c1.b0 c1.b1 pu (Int.le_of_lt pn) nb) (by decide) (by decide),
      j3_ (N := 29) (K := 40) c2 h2 (by decide) c1.x c1.y c1.z hf (k3_ c2.b0 c2.b1 pt (Int.le_of_lt pn) nb) (k3_ c2.b0 c2.b1 pu (Int.le_of_lt pn) nb) (by decide) (by decide)]
    simp only [Bool.and_eq_true, Bool.or_eq_true, Bool.not_eq_true', decide_eq_true_eq, decide_eq_false_iff_not]
    have key : ∀ (t : A3 W) (q : Rat), 0 < nrm t → (q = 0 ∨ ¬ (slS n t b.1 : Rat) / 256 = 0) → (q = 0 ∨ ¬ (slS n t c.1 : Rat) / 256 = 0) ∧ ab q / ((slS n t c.1 : Rat) / 256) ≤ ab q / ((slS n t b.1 : Rat) / 256) := fun t q ht hq => by
      have m := nk_ c1.b0 h ht (Int.le_of_lt pn) (slQ_B c2.b0 c2.b1 ht (Int.le_of_lt pn))
      have s0 : 0 ≤ slS n t b.1 := kO_
      have m2 : (slS n t b.1 : Rat) / 256 ≤ (slS n t c.1 : Rat) / 256 := by
        rw [Rat.div_def, Rat.div_def]
        exact Rat.mul_le_mul_of_nonneg_right (Rat.intCast_le_intCast.2 m) i256
      have s1 : 0 ≤ (slS n t b.1 : Rat) / 256 := by
        rw [Rat.div_def]
        exact Rat.mul_nonneg (Rat.intCast_nonneg.2 s0) i256
      by_cases h0 : q = 0
      · rw [ab_0 h0, zdiv, zdiv]
        exact ⟨.inl h0, Rat.le_refl⟩
      · have hs := hq.resolve_left h0
        have hp : 0 < (slS n t b.1 : Rat) / 256 := Rat.lt_of_le_of_ne s1 (fun e => hs e.symm)
        exact ⟨.inr (fun e => by rw [e] at m2; grind), np_ (ab_nn q) hp m2⟩
    rintro ⟨k1, k2, k3⟩
    obtain ⟨j1, j2⟩ := key _ _ pt k1
    obtain ⟨j3, j4⟩ := key _ _ pu k2
    exact ⟨j1, j3, by grind⟩
theorem qq_ (n : A3 W) (b : W) (f : A3 Rt) : b5_ n b f = (bj_ n b f).is := by unfold b5_; rw [nP_]
theorem m7_ (n : A3 W) (b c : W) (f : A3 Rt) : cg_ n b c f = true := by
  unfold cg_
  rw [nH_]
  cases hF : a1_ f
  · rfl
  cases h1 : as_ n b
  · rfl
  cases h2 : as_ n c
  · rfl
  by_cases h3 : c.1 < b.1
  · rw [decide_eq_true h3]; rfl
  obtain ⟨g1, g2⟩ := lu_ hF h1 h2 (by omega)
  rw [decide_eq_false h3]
  simp only [ly_, qq_]
  revert g1 g2
  cases bB_ n b f <;> cases bB_ n c f <;> cases (bj_ n b f).is <;> cases (bj_ n c f).is <;> simp
end Go.Num

