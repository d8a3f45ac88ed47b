/- law21: ConeGrows, ConeSlopes. No program stands in it. -/
import Derived.Test.YtapbefpeopaecaaGreatDoorYRs
import Derived.KernelRfl

set_option linter.unusedVariables false
set_option linter.unusedSimpArgs false
namespace Go.Num
open Go Go.Kn
theorem mZ_ (t : A3 W) : an_ t t = E (Z.of (nrm t)) := by rw [← kT_]; exact (dotW t t).1
theorem nrm_B (t : A3 W) : (nrm t).natAbs < 2 ^ 130 := (dotW t t).2.lt
structure Ct (n : A3 W) (b : W) : Prop where
  x : n.x.1.natAbs < 2 ^ 29
  y : n.y.1.natAbs < 2 ^ 29
  z : n.z.1.natAbs < 2 ^ 29
  n0 : ¬ (n.x.1 = 0 ∧ n.y.1 = 0 ∧ n.z.1 = 0)
  b0 : 0 ≤ b.1
  b1 : b.1 ≤ 4000
theorem mb_ {n : A3 W} {b : W} (h : aK_ n b = true) : Ct n b := by
  unfold aK_ at h
  have e : (2 : Nat) ^ 29 = 536870912 := rfl
  cases h1 : (decide (536870912 ≤ n.x.1) || decide (n.x.1 ≤ (-536870912)))
  · cases h2 : (decide (536870912 ≤ n.y.1) || decide (n.y.1 ≤ (-536870912)))
    · cases h3 : (decide (536870912 ≤ n.z.1) || decide (n.z.1 ≤ (-536870912)))
      · rw [h1, h2, h3] at h
        simp only [cond_false, Bool.and_eq_true, Bool.not_eq_true', Bool.and_eq_false_iff, decide_eq_true_eq, decide_eq_false_iff_not, Bool.or_eq_false_iff] at h h1 h2 h3
        obtain ⟨k1, k2, k3⟩ := h
        exact ⟨by omega, by omega, by omega, by omega, k2, k3⟩
      · rw [h1, h2, h3] at h; simp at h
    · rw [h1, h2] at h; simp at h
  · rw [h1] at h; simp at h
theorem Wsq {b : W} (h0 : 0 ≤ b.1) (h1 : b.1 ≤ 4000) : (W.mul b b).1 = b.1 * b.1 := by
  have h2 : b.1 * b.1 ≤ 4000 * 4000 := Int.mul_le_mul h1 h1 h0 (by decide)
  have h3 : 0 ≤ b.1 * b.1 := Int.mul_nonneg h0 h0
  show IntKind.i64.wrap (b.1 * b.1) = _
  exact wi (by omega)
theorem kU_ {n t : A3 W} {b : W} {K : Nat} (hb : 0 ≤ b.1) (hb1 : b.1 ≤ 4000) (hn : 0 ≤ nrm n) (ht : 0 < nrm t) (hK : slS n t b.1 < 2 ^ K) (hK2 : K ≤ 500) : (aY_ n b t).At ((slS n t b.1 : Rat) / 256) ∧ Az ((slS n t b.1 : Rat) / 256) K 9 := by
  have bn := nrm_B n
  have bt := nrm_B t
  have h2 : b.1 * b.1 ≤ 4000 * 4000 := Int.mul_le_mul hb1 hb1 hb (by decide)
  have h3 : 0 ≤ b.1 * b.1 := Int.mul_nonneg hb hb
  have bb : (b.1 * b.1).natAbs < 2 ^ 24 := by have : (2 : Nat) ^ 24 = 16777216 := rfl; omega
  have B1 := mbits bb bn
  have B2 := mbits B1 (show (65536 : Int).natAbs < 2 ^ 17 by decide)
  have B3 := mbits (show (1000000 : Int).natAbs < 2 ^ 20 by decide) bt
  have hq : 0 ≤ slQ n t b.1 := pf_ hb ht hn
  have hqB : (slQ n t b.1).natAbs < 2 ^ 171 := Nat.lt_of_le_of_lt (Int.natAbs_ediv_le_natAbs _ _) B2
  have e : aY_ n b t = am_ (E (Z.of (slS n t b.1))) (E (Z.of 256)) := by
    unfold aY_
    simp only [mZ_, E_dec, Wsq hb hb1]
    rw [gG_ (B_pow bb (by decide)) (B_pow bn (by decide)), gG_ (B_pow B1 (by decide)) (by decide), gG_ (by decide) (B_pow bt (by decide)), hs_ (B_pow B2 (by decide)) (B_pow B3 (by decide)) (by omega)]
    rw [show b.1 * b.1 * nrm n * 65536 / (1000000 * nrm t) = slQ n t b.1 from rfl]
    have : Z.sqrt (Z.of (slQ n t b.1)) = Z.of (slS n t b.1) := by
      unfold Z.sqrt
      rw [cx_ (Z.of_some (B_pow hqB (by decide))), decide_eq_false (by omega), cond_false]; rfl
    rw [this]
  have s0 : 0 ≤ slS n t b.1 := m3_
  have sK : (slS n t b.1).natAbs < 2 ^ K := by
    have : ((slS n t b.1).natAbs : Int) < ((2 ^ K : Nat) : Int) := by rw [Int.natCast_pow]; show _ < (2 : Int) ^ K; omega
    exact Int.ofNat_lt.1 this
  have q0 : ((slS n t b.1 : Int) : Rat) = ((256 : Int) : Rat) * ((slS n t b.1 : Rat) / 256) := by
    rw [Rat.div_def, Rat.mul_comm, Rat.mul_assoc]
    show _ = _ * ((256 : Rat)⁻¹ * 256)
    rw [Rat.inv_mul_cancel _ (by decide), Rat.mul_one]
  rw [e]
  exact ⟨h8_ (B_pow sK (by omega)) (by decide) (by decide) (kr_ q0), Az_of q0 (by decide) sK (by decide)⟩
theorem Az.d1 {q : Rat} {A B : Nat} (h : Az q A B) : 1 ≤ B := by
  rcases Nat.eq_zero_or_pos B with e | e
  · subst e
    have := h.d
    have := q.den_pos
    omega
  · exact e
theorem lO_ {n : A3 W} {b : W} {f : A3 Rt} {x y z : Rat} {N A B : Nat} (hc : Ct n b) (hcc : aK_ n b = true) (nx : n.x.1.natAbs < 2 ^ N) (ny : n.y.1.natAbs < 2 ^ N) (nz : n.z.1.natAbs < 2 ^ N) (hf : V3 f x y z A B) (h1 : 2 * A + 2 * N + 10 * B + 34 ≤ 512) (h2 : 12 * B + 13 ≤ 512) :
    aC_ n b f = (decide (0 ≤ (n.x.1 : Rat) * x + (n.y.1 : Rat) * y + (n.z.1 : Rat) * z) && decide ((1000000 : Rat) * ((y * n.z.1 - z * n.y.1) * (y * n.z.1 - z * n.y.1) + (z * n.x.1 - x * n.z.1) * (z * n.x.1 - x * n.z.1) + (x * n.y.1 - y * n.x.1) * (x * n.y.1 - y * n.x.1)) ≤ ((b.1 * b.1 : Int) : Rat) * (((n.x.1 : Rat) * x + (n.y.1 : Rat) * y + (n.z.1 : Rat) * z) * ((n.x.1 : Rat) * x + (n.y.1 : Rat) * y + (n.z.1 : Rat) * z)))) := by
  have hn := of3 nx ny nz
  have o := rz_ hf hn (by omega) (by omega)
  obtain ⟨p, q⟩ := mH_ o o (by omega) (by omega)
  obtain ⟨p2, q2⟩ := mH_ hn hf (by omega) (by omega)
  have l := fO_ (Of_At (wl 1000000)) p (Az.int (a := 20) (by decide)) q (by omega) (by omega)
  have r := fO_ p2 p2 q2 q2 (by omega) (by omega)
  have hbb := Of_At (W.mul b b)
  rw [Wsq hc.b0 hc.b1] at hbb
  have h2 : b.1 * b.1 ≤ 4000 * 4000 := Int.mul_le_mul hc.b1 hc.b1 hc.b0 (by decide)
  have h3 : 0 ≤ b.1 * b.1 := Int.mul_nonneg hc.b0 hc.b0
  have r2 := fO_ hbb r (Az.int (a := 24) (by have : (2 : Nat) ^ 24 = 16777216 := rfl; omega)) (q2.mul q2) (by omega) (by omega)
  unfold aC_
  rw [hcc]
  show (bif (!true || decide ((b2_ (aR_ (ad_ n) f)).1 < 0)) then false else decide ((cr_ _ _).1 ≤ 0)) = _
  rw [qf_ p2, ← qN_]
  have e1 : decide ((cK_ (aj_ (ac_ (wl 1000000)) (aR_ (bD_ f (ad_ n)) (bD_ f (ad_ n)))) (aj_ (ac_ (W.mul b b)) (aj_ (aR_ (ad_ n) f) (aR_ (ad_ n) f)))).1 ≤ 0) = decide ((1000000 : Rat) * ((y * n.z.1 - z * n.y.1) * (y * n.z.1 - z * n.y.1) + (z * n.x.1 - x * n.z.1) * (z * n.x.1 - x * n.z.1) + (x * n.y.1 - y * n.x.1) * (x * n.y.1 - y * n.x.1)) ≤ ((b.1 * b.1 : Int) : Rat) * (((n.x.1 : Rat) * x + (n.y.1 : Rat) * y + (n.z.1 : Rat) * z) * ((n.x.1 : Rat) * x + (n.y.1 : Rat) * y + (n.z.1 : Rat) * z))) := decide_eq_decide.2 (rQ_ l r2)
  have e2 : decide (((n.x.1 : Rat) * x + (n.y.1 : Rat) * y + (n.z.1 : Rat) * z).num.sign < 0) = !decide (0 ≤ (n.x.1 : Rat) * x + (n.y.1 : Rat) * y + (n.z.1 : Rat) * z) := by
    rw [← decide_not]
    exact decide_eq_decide.2 (by rw [Int.sign_neg_iff, ← Rat.num_nonneg]; omega)
  rw [e2, Bool.not_true, Bool.false_or]
  cases decide (0 ≤ (n.x.1 : Rat) * x + (n.y.1 : Rat) * y + (n.z.1 : Rat) * z)
  · rfl
  · rw [Bool.not_true, cond_false, Bool.true_and]
    exact e1
theorem pa_ {n t : A3 W} {b : Int} {K : Nat} (hb : 0 ≤ b) (hb1 : b ≤ 4000) (ht : 0 < nrm t) (hn : 0 ≤ nrm n) (hk : 1048576 * nrm n < 2 ^ K * 2 ^ K) : slS n t b < 2 ^ K := by
  have h1 := pl_ (t := t) hb hb1 ht hn (Int.le_refl _)
  have hB : (slQ n t b).toNat < 4294967296 ^ 16 := by
    have := nrm_B n
    have e : (2 : Nat) ^ 130 * 1048576 < 4294967296 ^ 16 := by decide
    omega
  obtain ⟨h2, _⟩ := pE_ hb ht hn hB
  apply Classical.byContradiction
  intro hc
  have : (2 : Int) ^ K * 2 ^ K ≤ slS n t b * slS n t b := Int.mul_le_mul (by omega) (by omega) (Int.le_of_lt (Int.pow_pos (by decide))) m3_
  omega
theorem slQ_B {n t : A3 W} {b : Int} (hb : 0 ≤ b) (hb1 : b ≤ 4000) (ht : 0 < nrm t) (hn : 0 ≤ nrm n) : (slQ n t b).toNat < 4294967296 ^ 16 := by
  have h1 := pl_ (t := t) hb hb1 ht hn (Int.le_refl _)
  have := nrm_B n
  have e : (2 : Nat) ^ 130 * 1048576 < 4294967296 ^ 16 := by decide
  omega
structure Cm (q : Rat) (L : Int) (a : Nat) : Prop where
  h : ∃ U : Int, (U : Rat) = (L : Rat) * q ∧ U.natAbs < 2 ^ a
theorem Cm.mono {q : Rat} {L : Int} {a b : Nat} (h : Cm q L a) (hb : a ≤ b) : Cm q L b := by
  obtain ⟨U, h1, h2⟩ := h.h
  exact ⟨U, h1, Nat.lt_of_lt_of_le h2 (fk_ hb)⟩
theorem Cm.add {q r : Rat} {L : Int} {a : Nat} (h : Cm q L a) (g : Cm r L a) : Cm (q + r) L (a + 1) := by
  obtain ⟨U, h1, h2⟩ := h.h
  obtain ⟨V, g1, g2⟩ := g.h
  refine ⟨U + V, by rw [Rat.intCast_add, h1, g1, Rat.mul_add], ?_⟩
  rw [Nat.pow_succ]; omega
theorem Cm.mul {q r : Rat} {L M : Int} {a b : Nat} (h : Cm q L a) (g : Cm r M b) : Cm (q * r) (L * M) (a + b) := by
  obtain ⟨U, h1, h2⟩ := h.h
  obtain ⟨V, g1, g2⟩ := g.h
  exact ⟨U * V, by rw [Rat.intCast_mul, Rat.intCast_mul, h1, g1]; grind, mbits h2 g2⟩
theorem Cm.zero {L : Int} {a : Nat} : Cm 0 L a := ⟨0, by rw [Rat.mul_zero]; rfl, Nat.pow_pos (by decide)⟩
theorem Cm.az {q : Rat} {L : Int} {a b : Nat} (h : Cm q L a) (hL : 0 < L) (hb : L.natAbs < 2 ^ b) : Az q a b := by
  obtain ⟨U, h1, h2⟩ := h.h
  exact Az_of h1 hL h2 hb
theorem rw_ {a b : A3 Rt} {x y z : Rat} {A B C D : Nat} (ha : V3 a x y z A B) (hb : V3 b x y z C D) : a = b := by
  obtain ⟨a1, a2, a3⟩ := a
  obtain ⟨b1, b2, b3⟩ := b
  have e1 := m1_ ha.hx hb.hx
  have e2 := m1_ ha.hy hb.hy
  have e3 := m1_ ha.hz hb.hz
  simp only at e1 e2 e3
  rw [e1, e2, e3]
/-- n + S / 256 t. -/
def ed (a S c : Int) : Rat := (a : Rat) + (S : Rat) / 256 * (c : Rat)
theorem ed_eq (a S c : Int) : ((256 * a + S * c : Int) : Rat) = ((256 : Int) : Rat) * ed a S c := by
  unfold ed
  have h : (256 : Rat) ≠ 0 := by decide
  have h2 : ((256 : Int) : Rat) = 256 := rfl
  rw [Rat.intCast_add, Rat.intCast_mul, Rat.intCast_mul, h2, Rat.div_def]
  have := Rat.mul_inv_cancel (256 : Rat) h
  grind
theorem ed_Cm {a S c : Int} {N K M : Nat} (ha : a.natAbs < 2 ^ N) (hS : S.natAbs < 2 ^ K) (hc : c.natAbs < 2 ^ M) (h : N + 8 ≤ K + M) : Cm (ed a S c) 256 (K + M + 1) := by
  refine ⟨256 * a + S * c, ed_eq a S c, ?_⟩
  have h1 := mbits hS hc
  have h2 := mbits (show (256 : Int).natAbs < 2 ^ 9 by decide) ha
  have h3 : (256 * a).natAbs < 2 ^ (K + M) := by
    rw [Int.natAbs_mul]
    have e : (2 : Nat) ^ (N + 8) = 256 * 2 ^ N := by rw [Nat.pow_add, Nat.mul_comm]
    have := fk_ h
    show 256 * a.natAbs < _
    omega
  rw [Nat.pow_succ]; omega
structure Sl (n t : A3 W) (b : W) (N M K : Nat) : Prop where
  c : Ct n b
  nx : n.x.1.natAbs < 2 ^ N
  ny : n.y.1.natAbs < 2 ^ N
  nz : n.z.1.natAbs < 2 ^ N
  tx : t.x.1.natAbs < 2 ^ M
  ty : t.y.1.natAbs < 2 ^ M
  tz : t.z.1.natAbs < 2 ^ M
  t0 : 0 < nrm t
  o : n.x.1 * t.x.1 + n.y.1 * t.y.1 + n.z.1 * t.z.1 = 0
  k : slS n t b.1 + 1 < 2 ^ K
  h : N + 8 ≤ K + M
section
variable {n t : A3 W} {b : W} {N M K : Nat}
theorem Sl.S (h : Sl n t b N M K) : (slS n t b.1).natAbs < 2 ^ K ∧ (-(slS n t b.1)).natAbs < 2 ^ K ∧ (slS n t b.1 + 1).natAbs < 2 ^ K := by
  have h0 : 0 ≤ slS n t b.1 := m3_
  have h1 := h.k
  have h2 : ((2 ^ K : Nat) : Int) = (2 : Int) ^ K := Int.natCast_pow ..
  omega
/-- The edges along a tangent, and a point farther out. -/
theorem rH_ (h : Sl n t b N M K) (hk : K + M + 20 ≤ 512) : V3 (aD_ (ad_ n) (ae_ (aY_ n b t) (ad_ t))) (ed n.x.1 (slS n t b.1) t.x.1) (ed n.y.1 (slS n t b.1) t.y.1) (ed n.z.1 (slS n t b.1) t.z.1) (K + M + 1) 9 := by
  obtain ⟨p, q⟩ := kU_ (K := K) h.c.b0 h.c.b1 (Int.le_of_lt (gN_ h.c.n0)) h.t0 (by have := h.k; omega) (by omega)
  have v := lA_ p q (of3 h.tx h.ty h.tz) (by omega) (by omega)
  have hh := h.h
  have w := plus3 (E := K + M + 3) (of3 h.nx h.ny h.nz) v (by omega) (by omega) (by omega) (by omega)
  exact ⟨w.hx, w.hy, w.hz, (ed_Cm h.nx h.S.1 h.tx h.h).az (by decide) (by decide), (ed_Cm h.ny h.S.1 h.ty h.h).az (by decide) (by decide), (ed_Cm h.nz h.S.1 h.tz h.h).az (by decide) (by decide)⟩
theorem rj_ (a S c : Int) : (a : Rat) - (S : Rat) / 256 * (c : Rat) = ed a (-S) c := by
  unfold ed
  rw [Rat.intCast_neg, Rat.div_def, Rat.div_def]; grind
theorem rc_ (h : Sl n t b N M K) (hk : K + M + 20 ≤ 512) : V3 (aU_ (ad_ n) (ae_ (aY_ n b t) (ad_ t))) (ed n.x.1 (-(slS n t b.1)) t.x.1) (ed n.y.1 (-(slS n t b.1)) t.y.1) (ed n.z.1 (-(slS n t b.1)) t.z.1) (K + M + 1) 9 := by
  obtain ⟨p, q⟩ := kU_ (K := K) h.c.b0 h.c.b1 (Int.le_of_lt (gN_ h.c.n0)) h.t0 (by have := h.k; omega) (by omega)
  have v := lA_ p q (of3 h.tx h.ty h.tz) (by omega) (by omega)
  have hh := h.h
  have w := pq_ (E := K + M + 3) (of3 h.nx h.ny h.nz) v (by omega) (by omega) (by omega) (by omega)
  have e := w.hx
  have e2 := w.hy
  have e3 := w.hz
  rw [rj_] at e e2 e3
  exact ⟨e, e2, e3, (ed_Cm h.nx h.S.2.1 h.tx h.h).az (by decide) (by decide), (ed_Cm h.ny h.S.2.1 h.ty h.h).az (by decide) (by decide), (ed_Cm h.nz h.S.2.1 h.tz h.h).az (by decide) (by decide)⟩
/-- A point n + S / 256 t is in the cone exactly if S is small enough. -/
theorem jB_ (h : Sl n t b N M K) (hcc : aK_ n b = true) {f : A3 Rt} {S : Int} (hf : V3 f (ed n.x.1 S t.x.1) (ed n.y.1 S t.y.1) (ed n.z.1 S t.z.1) (K + M + 1) 9) (hk : 2 * (K + M + 1) + 2 * N + 124 ≤ 512) :
    aC_ n b f = decide (S * S * (1000000 * nrm t) ≤ b.1 * b.1 * nrm n * 65536) := by
  rw [lO_ h.c hcc h.nx h.ny h.nz hf (by omega) (by omega)]
  have pn := gN_ h.c.n0
  have o : (n.x.1 : Rat) * t.x.1 + (n.y.1 : Rat) * t.y.1 + (n.z.1 : Rat) * t.z.1 = 0 := by
    rw [← Rat.intCast_mul, ← Rat.intCast_mul, ← Rat.intCast_mul, ← Rat.intCast_add, ← Rat.intCast_add, h.o]; rfl
  have nn : ((nrm n : Int) : Rat) = (n.x.1 : Rat) * n.x.1 + n.y.1 * n.y.1 + n.z.1 * n.z.1 := by unfold nrm; rw [Rat.intCast_add, Rat.intCast_add, Rat.intCast_mul, Rat.intCast_mul, Rat.intCast_mul]
  have tt : ((nrm t : Int) : Rat) = (t.x.1 : Rat) * t.x.1 + t.y.1 * t.y.1 + t.z.1 * t.z.1 := by unfold nrm; rw [Rat.intCast_add, Rat.intCast_add, Rat.intCast_mul, Rat.intCast_mul, Rat.intCast_mul]
  have hn : (0 : Rat) < (nrm n : Rat) := Rat.intCast_pos.2 pn
  have up : (n.x.1 : Rat) * ed n.x.1 S t.x.1 + (n.y.1 : Rat) * ed n.y.1 S t.y.1 + (n.z.1 : Rat) * ed n.z.1 S t.z.1 = (nrm n : Rat) := by
    rw [nn]; unfold ed
    have : (n.x.1 : Rat) * ((n.x.1 : Rat) + (S : Rat) / 256 * t.x.1) + (n.y.1 : Rat) * ((n.y.1 : Rat) + (S : Rat) / 256 * t.y.1) + (n.z.1 : Rat) * ((n.z.1 : Rat) + (S : Rat) / 256 * t.z.1) = ((n.x.1 : Rat) * n.x.1 + n.y.1 * n.y.1 + n.z.1 * n.z.1) + (S : Rat) / 256 * ((n.x.1 : Rat) * t.x.1 + (n.y.1 : Rat) * t.y.1 + (n.z.1 : Rat) * t.z.1) := by grind
    rw [this, o]; grind
  rw [up, decide_eq_true (Rat.le_of_lt hn), Bool.true_and]
  refine decide_eq_decide.2 ?_
  have lag : (ed n.y.1 S t.y.1 * n.z.1 - ed n.z.1 S t.z.1 * n.y.1) * (ed n.y.1 S t.y.1 * n.z.1 - ed n.z.1 S t.z.1 * n.y.1) + (ed n.z.1 S t.z.1 * n.x.1 - ed n.x.1 S t.x.1 * n.z.1) * (ed n.z.1 S t.z.1 * n.x.1 - ed n.x.1 S t.x.1 * n.z.1) + (ed n.x.1 S t.x.1 * n.y.1 - ed n.y.1 S t.y.1 * n.x.1) * (ed n.x.1 S t.x.1 * n.y.1 - ed n.y.1 S t.y.1 * n.x.1) = (S : Rat) / 256 * ((S : Rat) / 256) * ((nrm t : Rat) * (nrm n : Rat)) := by
    rw [nn, tt]; unfold ed
    generalize (S : Rat) / 256 = s
    generalize (n.x.1 : Rat) = n1 at *
    generalize (n.y.1 : Rat) = n2 at *
    generalize (n.z.1 : Rat) = n3 at *
    generalize (t.x.1 : Rat) = t1 at *
    generalize (t.y.1 : Rat) = t2 at *
    generalize (t.z.1 : Rat) = t3 at *
    have : ((n2 + s * t2) * n3 - (n3 + s * t3) * n2) * ((n2 + s * t2) * n3 - (n3 + s * t3) * n2) + ((n3 + s * t3) * n1 - (n1 + s * t1) * n3) * ((n3 + s * t3) * n1 - (n1 + s * t1) * n3) + ((n1 + s * t1) * n2 - (n2 + s * t2) * n1) * ((n1 + s * t1) * n2 - (n2 + s * t2) * n1) = s * s * ((t1 * t1 + t2 * t2 + t3 * t3) * (n1 * n1 + n2 * n2 + n3 * n3)) - s * s * ((n1 * t1 + n2 * t2 + n3 * t3) * (n1 * t1 + n2 * t2 + n3 * t3)) := by grind
    rw [this, o]; grind
  rw [lag]
  have e1 : (65536 : Rat) * (1000000 * ((S : Rat) / 256 * ((S : Rat) / 256) * ((nrm t : Rat) * (nrm n : Rat)))) = ((S * S * (1000000 * nrm t) : Int) : Rat) * (nrm n : Rat) := by
    rw [Rat.intCast_mul, Rat.intCast_mul, Rat.intCast_mul, Rat.div_def]
    have := Rat.mul_inv_cancel (256 : Rat) (by decide)
    have h6 : ((1000000 : Int) : Rat) = 1000000 := rfl
    rw [h6]; grind
  have e2 : (65536 : Rat) * (((b.1 * b.1 : Int) : Rat) * ((nrm n : Rat) * (nrm n : Rat))) = ((b.1 * b.1 * nrm n * 65536 : Int) : Rat) * (nrm n : Rat) := by
    rw [Rat.intCast_mul _ 65536, Rat.intCast_mul _ (nrm n)]
    have h6 : ((65536 : Int) : Rat) = 65536 := rfl
    rw [h6]; grind
  constructor
  · intro hx
    have h1 := Rat.mul_le_mul_of_nonneg_left hx (show (0 : Rat) ≤ 65536 by decide)
    rw [e1, e2] at h1
    exact Rat.intCast_le_intCast.1 (Rat.le_of_mul_le_mul_right h1 hn)
  · intro hx
    have h1 := Rat.mul_le_mul_of_nonneg_right (Rat.intCast_le_intCast.2 hx) (Rat.le_of_lt hn)
    rw [← e1, ← e2] at h1
    exact Rat.le_of_mul_le_mul_left h1 (by decide)
end
theorem rt_ {f : A3 Rt} {n : A3 W} {x y z : Rat} {A B : Nat} (h : V3 f x y z A B) (hn : V3 (ae_ (ac_ (wl 2)) (ad_ n)) (2 * (n.x.1 : Rat)) (2 * (n.y.1 : Rat)) (2 * (n.z.1 : Rat)) 31 3) (e1 : x = 2 * (n.x.1 : Rat)) (e2 : y = 2 * (n.y.1 : Rat)) (e3 : z = 2 * (n.z.1 : Rat)) : f = ae_ (ac_ (wl 2)) (ad_ n) := by
  subst e1 e2 e3
  exact rw_ h hn
theorem nl_ (a S c : Int) : ed a S c + ed a (-S) c = 2 * (a : Rat) := by
  unfold ed
  rw [Rat.intCast_neg, Rat.div_def, Rat.div_def]; grind
theorem rr_ (a S c : Int) : ed a S c + (1 : Rat) / 256 * (c : Rat) = ed a (S + 1) c := by
  unfold ed
  have : ((1 : Int) : Rat) = 1 := rfl
  rw [Rat.intCast_add, this, Rat.div_def, Rat.div_def, Rat.div_def]; grind
theorem fr256 : ((1 : Int) : Rat) = ((256 : Int) : Rat) * ((1 : Rat) / 256) := by
  show (1 : Rat) = 256 * (1 / 256)
  rw [Rat.div_def, Rat.one_mul, Rat.mul_inv_cancel _ (by decide)]
theorem oS_ : (ay_ (wl 1) (wl 256)).At ((1 : Rat) / 256) := h8_ (n := 1) (d := 256) B1 (by decide) (by decide) (kr_ fr256)
theorem oL_ : Az ((1 : Rat) / 256) 1 9 := Az_of fr256 (by decide) (by decide) (by decide)
theorem iA_ {n t : A3 W} {b : W} {M : Nat} (h : Sl n t b 29 M 41) (hcc : aK_ n b = true) (hM : M ≤ 59) :
    aD_ (aD_ (ad_ n) (ae_ (aY_ n b t) (ad_ t))) (aU_ (ad_ n) (ae_ (aY_ n b t) (ad_ t))) = ae_ (ac_ (wl 2)) (ad_ n) ∧
    aC_ n b (aD_ (ad_ n) (ae_ (aY_ n b t) (ad_ t))) = true ∧
    aC_ n b (aD_ (aD_ (ad_ n) (ae_ (aY_ n b t) (ad_ t))) (ae_ (ay_ (wl 1) (wl 256)) (ad_ t))) = false ∧
    (Z.signW (Z.rem (aj_ (aR_ (aU_ (aD_ (ad_ n) (ae_ (aY_ n b t) (ad_ t))) (ad_ n)) (ad_ t)) (ac_ (wl 256))).n.dec (an_ t t).dec)).1 = 0 := by
  have hp := rH_ h (by omega)
  have hm := rc_ h (by omega)
  have pn := gN_ h.c.n0
  have hin := qY_ h.c.b0 h.t0 (Int.le_of_lt pn) (slQ_B h.c.b0 h.c.b1 h.t0 (Int.le_of_lt pn))
  have hn := of3 h.nx h.ny h.nz
  have ht := of3 h.tx h.ty h.tz
  refine ⟨?_, ?_, ?_, ?_⟩
  · have w := plus3 (E := 41 + M + 11) hp hm (by omega) (by omega) (by omega) (by omega)
    have h2 := (lA_ (Of_At (wl 2)) (Az.int (a := 2) (by decide)) hn (by decide) (by decide)).mono (show 2 + 29 ≤ 31 by decide) (show 1 + 1 ≤ 3 by decide)
    rw [show (((wl 2).1 : Int) : Rat) = 2 from rfl] at h2
    exact rt_ w h2 (nl_ ..) (nl_ ..) (nl_ ..)
  · rw [jB_ h hcc hp (by omega)]
    exact decide_eq_true hin.1
  · have w := plus3 (E := 41 + M + 12) hp (lA_ oS_ oL_ ht (by omega) (by omega)) (by omega) (by omega) (by omega) (by omega)
    have e := w.hx
    have e2 := w.hy
    have e3 := w.hz
    rw [rr_] at e e2 e3
    have v : V3 _ _ _ _ (41 + M + 1) 9 := ⟨e, e2, e3, (ed_Cm h.nx h.S.2.2 h.tx h.h).az (by decide) (by decide), (ed_Cm h.ny h.S.2.2 h.ty h.h).az (by decide) (by decide), (ed_Cm h.nz h.S.2.2 h.tz h.h).az (by decide) (by decide)⟩
    rw [jB_ h hcc v (by omega)]
    exact decide_eq_false (by have := hin.2; omega)
  · have w := pq_ (E := 41 + M + 11) hp hn (by omega) (by omega) (by omega) (by omega)
    obtain ⟨p, q⟩ := mH_ w ht (by omega) (by omega)
    have m := fO_ p (Of_At (wl 256)) q (Az.int (a := 9) (by decide)) (by omega) (by omega)
    have c256 : (((wl 256).1 : Int) : Rat) = 256 := rfl
    have hi := Rat.mul_inv_cancel (256 : Rat) (by decide)
    have key : ((ed n.x.1 (slS n t b.1) t.x.1 - n.x.1) * t.x.1 + (ed n.y.1 (slS n t b.1) t.y.1 - n.y.1) * t.y.1 + (ed n.z.1 (slS n t b.1) t.z.1 - n.z.1) * t.z.1) * (((wl 256).1 : Int) : Rat) = ((slS n t b.1 * nrm t : Int) : Rat) := by
      rw [c256]; unfold ed nrm
      rw [Rat.intCast_mul, Rat.intCast_add, Rat.intCast_add, Rat.intCast_mul, Rat.intCast_mul, Rat.intCast_mul, Rat.div_def]
      grind
    rw [key] at m
    have en := (At.is m).en
    have bn := (At.is m).hn
    rw [show (((slS n t b.1 * nrm t : Int) : Rat)).num = slS n t b.1 * nrm t from rfl] at en bn
    rw [en, E_dec, mZ_, E_dec]
    have t0 := h.t0
    rw [Z.rem, a4_ (Z.of_some bn) (Z.of_some (B_pow (nrm_B t) (by decide))), if_neg (by omega), Int.mul_fmod_left]
    exact (ee_ B0)
theorem qC_ {n : A3 W} {b : W} (hcc : aK_ n b = true) (hb : b.1 ≠ 0) : cU_ n b = ⟨[aD_ (ad_ n) (ae_ (aY_ n b (tang n).1) (ad_ (tang n).1)), aU_ (ad_ n) (ae_ (aY_ n b (tang n).1) (ad_ (tang n).1)), aD_ (ad_ n) (ae_ (aY_ n b (tang n).2) (ad_ (tang n).2)), aU_ (ad_ n) (ae_ (aY_ n b (tang n).2) (ad_ (tang n).2))], wl 0⟩ := by
  unfold cU_
  rw [hcc, cond_true, beq_eq_false_iff_ne.2 hb, cond_false, iW_]
theorem mL_ (n : A3 W) (b : W) : aO_ n b = true := by
  unfold aO_
  rw [oP_]
  cases h1 : aK_ n b
  · rfl
  by_cases h2 : b.1 = 0
  · rw [h2]; rfl
  rw [beq_eq_false_iff_ne.2 h2]
  have c := mb_ h1
  have tg := qe_ c.x c.y c.z c.n0
  have pn := gN_ c.n0
  have pt := gN_ tg.t0
  have pu := gN_ tg.u0
  have nb : 1048576 * nrm n < 2 ^ 40 * 2 ^ 40 := by
    have := rM_ c.x c.y c.z
    have e : (2 : Nat) ^ (2 * 29 + 2) = 1152921504606846976 := rfl
    omega
  have k1 := pa_ (t := (tang n).1) c.b0 c.b1 pt (Int.le_of_lt pn) nb
  have k2 := pa_ (t := (tang n).2) c.b0 c.b1 pu (Int.le_of_lt pn) nb
  obtain ⟨tx, ty, tz⟩ := tg.tb 29 (by decide) c.x c.y c.z
  obtain ⟨ux, uy, uz⟩ := tg.ub 29 (by decide) c.x c.y c.z
  have S1 : Sl n (tang n).1 b 29 29 41 := ⟨c, c.x, c.y, c.z, tx, ty, tz, pt, tg.o1, by omega, by decide⟩
  have S2 : Sl n (tang n).2 b 29 59 41 := ⟨c, c.x, c.y, c.z, ux, uy, uz, pu, tg.o2, by omega, by decide⟩
  obtain ⟨a1, a2, a3, a4⟩ := iA_ S1 h1 (by decide)
  obtain ⟨b1, b2, b3, b4⟩ := iA_ S2 h1 (by decide)
  rw [lS_, qC_ h1 h2, iW_]
  simp only [List.getD_cons_zero, List.getD_cons_succ]
  rw [a1, a2, a3, a4, b1, b2, b3, b4]
  simp
end Go.Num

