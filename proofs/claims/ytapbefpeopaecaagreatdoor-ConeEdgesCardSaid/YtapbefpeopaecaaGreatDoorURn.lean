/- law21: ConeEdges. No program stands in it. -/
import Derived.Test.YtapbefpeopaecaaGreatDoorURl
import Derived.Test.YtapbefpeopaecaaGreatDoorURa
import Derived.KernelRfl

set_option linter.unusedVariables false
set_option linter.unusedSimpArgs false
namespace Go.Num
open Go Go.Kn
theorem V3.of_eq {a : A3 Rt} {x y z x' y' z' : Rat} {A B : Nat} (h : V3 a x y z A B) (ex : x = x') (ey : y = y') (ez : z = z') : V3 a x' y' z' A B := by subst ex ey ez; exact h
theorem al_of {t : A3 W} {x y z v : Rat} (h : 0 < nrm t) (e : (t.x.1 : Rat) * x + (t.y.1 : Rat) * y + (t.z.1 : Rat) * z = v * (nrm t : Rat)) : al t x y z = v := by
  unfold al
  have h0 : ((nrm t : Int) : Rat) ≠ 0 := fun e => by have := Rat.intCast_eq_zero_iff.1 e; omega
  rw [e, Rat.div_def, Rat.mul_assoc, Rat.mul_inv_cancel _ h0, Rat.mul_one]
theorem al_pt {n t u : A3 W} (tg : Tg n t u) (pn : 0 < nrm n) {s p q x y z : Rat} (hx : x = s * n.x.1 + p * t.x.1 + q * u.x.1) (hy : y = s * n.y.1 + p * t.y.1 + q * u.y.1) (hz : z = s * n.z.1 + p * t.z.1 + q * u.z.1) : al n x y z = s ∧ al t x y z = p ∧ al u x y z = q := by
  have pt := d1_ tg.t0
  have pu := d1_ tg.u0
  have nrmR : ∀ a : A3 W, ((nrm a : Int) : Rat) = (a.x.1 : Rat) * a.x.1 + a.y.1 * a.y.1 + a.z.1 * a.z.1 := fun a => by unfold nrm; rw [Rat.intCast_add, Rat.intCast_add, Rat.intCast_mul, Rat.intCast_mul, Rat.intCast_mul]
  have dR : ∀ a c : A3 W, a.x.1 * c.x.1 + a.y.1 * c.y.1 + a.z.1 * c.z.1 = 0 → (a.x.1 : Rat) * c.x.1 + (a.y.1 : Rat) * c.y.1 + (a.z.1 : Rat) * c.z.1 = 0 := fun a c h => by rw [← Rat.intCast_mul, ← Rat.intCast_mul, ← Rat.intCast_mul, ← Rat.intCast_add, ← Rat.intCast_add, h]; rfl
  have o1 := dR _ _ tg.o1
  have o2 := dR _ _ tg.o2
  have o3 := dR _ _ tg.o3
  refine ⟨al_of pn ?_, al_of pt ?_, al_of pu ?_⟩
  all_goals rw [nrmR, hx, hy, hz]
  all_goals
    generalize (n.x.1 : Rat) = n1 at *
    generalize (n.y.1 : Rat) = n2 at *
    generalize (n.z.1 : Rat) = n3 at *
    generalize (t.x.1 : Rat) = t1 at *
    generalize (t.y.1 : Rat) = t2 at *
    generalize (t.z.1 : Rat) = t3 at *
    generalize (u.x.1 : Rat) = u1 at *
    generalize (u.y.1 : Rat) = u2 at *
    generalize (u.z.1 : Rat) = u3 at *
    clear nrmR dR hx hy hz pt pu pn tg
  · have e : n1 * (s * n1 + p * t1 + q * u1) + n2 * (s * n2 + p * t2 + q * u2) + n3 * (s * n3 + p * t3 + q * u3) = s * (n1 * n1 + n2 * n2 + n3 * n3) + p * (n1 * t1 + n2 * t2 + n3 * t3) + q * (n1 * u1 + n2 * u2 + n3 * u3) := by grind
    rw [e, o1, o2]; grind
  · have e : t1 * (s * n1 + p * t1 + q * u1) + t2 * (s * n2 + p * t2 + q * u2) + t3 * (s * n3 + p * t3 + q * u3) = s * (n1 * t1 + n2 * t2 + n3 * t3) + p * (t1 * t1 + t2 * t2 + t3 * t3) + q * (t1 * u1 + t2 * u2 + t3 * u3) := by grind
    rw [e, o1, o3]; grind
  · have e : u1 * (s * n1 + p * t1 + q * u1) + u2 * (s * n2 + p * t2 + q * u2) + u3 * (s * n3 + p * t3 + q * u3) = s * (n1 * u1 + n2 * u2 + n3 * u3) + p * (t1 * u1 + t2 * u2 + t3 * u3) + q * (u1 * u1 + u2 * u2 + u3 * u3) := by grind
    rw [e, o2, o3]; grind
theorem jz_ {g σ : Rat} (h : 0 ≤ σ) : ab (g * σ) / σ ≤ ab g := by
  by_cases h0 : σ = 0
  · rw [h0, Rat.mul_zero, ab_0 rfl, zdiv]; exact ab_nn g
  · have hp : 0 < σ := Rat.lt_of_le_of_ne h fun e => h0 e.symm
    have e : ab (g * σ) = ab g * σ := by
      unfold ab
      by_cases hg : 0 ≤ g
      · rw [if_pos hg, if_pos (Rat.mul_nonneg hg h)]
      · rw [if_neg hg]
        have h1 : 0 < (-g) * σ := Rat.mul_pos (by grind) hp
        rw [if_neg (by grind)]; grind
    rw [e, Rat.div_def, Rat.mul_assoc, Rat.mul_inv_cancel _ h0, Rat.mul_one]
    exact Rat.le_refl
theorem nk_ {n : A3 W} (hx : n.x.1.natAbs ≤ 1024) (hy : n.y.1.natAbs ≤ 1024) (hz : n.z.1.natAbs ≤ 1024) : 1048576 * nrm n < 2 ^ 21 * 2 ^ 21 := by
  have a1 : n.x.1 * n.x.1 ≤ 1048576 := by
    have := Nat.mul_le_mul hx hx
    rw [← Int.natAbs_mul] at this
    have := msn n.x.1
    omega
  have a2 : n.y.1 * n.y.1 ≤ 1048576 := by
    have := Nat.mul_le_mul hy hy
    rw [← Int.natAbs_mul] at this
    have := msn n.y.1
    omega
  have a3 : n.z.1 * n.z.1 ≤ 1048576 := by
    have := Nat.mul_le_mul hz hz
    rw [← Int.natAbs_mul] at this
    have := msn n.z.1
    omega
  unfold nrm; omega
section
variable {n : A3 W} {b : W} {f : A3 Rt} {s g1 g2 r1 r2 : Rat}
/-- A point of the pyramid is found in it, and is in the cone. -/
theorem h7_ (c : Ct n b) (h1 : au_ n b = true) (nx : n.x.1.natAbs < 2 ^ 11) (ny : n.y.1.natAbs < 2 ^ 11) (nz : n.z.1.natAbs < 2 ^ 11) (k1 : slS n (tang n).1 b.1 < 2 ^ 22) (k2 : slS n (tang n).2 b.1 < 2 ^ 22)
    (hf : V3 f (s * n.x.1 + g1 * ((slS n (tang n).1 b.1 : Rat) / 256) * (tang n).1.x.1 + g2 * ((slS n (tang n).2 b.1 : Rat) / 256) * (tang n).2.x.1) (s * n.y.1 + g1 * ((slS n (tang n).1 b.1 : Rat) / 256) * (tang n).1.y.1 + g2 * ((slS n (tang n).2 b.1 : Rat) / 256) * (tang n).2.y.1) (s * n.z.1 + g1 * ((slS n (tang n).1 b.1 : Rat) / 256) * (tang n).1.z.1 + g2 * ((slS n (tang n).2 b.1 : Rat) / 256) * (tang n).2.z.1) 66 10)
    (b1 : ab g1 ≤ r1) (b2 : ab g2 ≤ r2) (hs : r1 + r2 ≤ s) : bn_ n b f = true ∧ a4_ n b f = true := by
  have tg := iE_ c.x c.y c.z c.n0
  have pn := d1_ c.n0
  have pt := d1_ tg.t0
  have pu := d1_ tg.u0
  obtain ⟨e1, e2, e3⟩ := al_pt (s := s) (p := g1 * ((slS n (tang n).1 b.1 : Rat) / 256)) (q := g2 * ((slS n (tang n).2 b.1 : Rat) / 256)) tg pn rfl rfl rfl
  have sg1 : 0 ≤ (slS n (tang n).1 b.1 : Rat) / 256 := by rw [Rat.div_def]; exact Rat.mul_nonneg (Rat.intCast_nonneg.2 jV_) i256
  have sg2 : 0 ≤ (slS n (tang n).2 b.1 : Rat) / 256 := by rw [Rat.div_def]; exact Rat.mul_nonneg (Rat.intCast_nonneg.2 jV_) i256
  have i1 : g1 * ((slS n (tang n).1 b.1 : Rat) / 256) = 0 ∨ ¬ (slS n (tang n).1 b.1 : Rat) / 256 = 0 := by
    by_cases h : (slS n (tang n).1 b.1 : Rat) / 256 = 0
    · left; rw [h, Rat.mul_zero]
    · exact .inr h
  have i2 : g2 * ((slS n (tang n).2 b.1 : Rat) / 256) = 0 ∨ ¬ (slS n (tang n).2 b.1 : Rat) / 256 = 0 := by
    by_cases h : (slS n (tang n).2 b.1 : Rat) / 256 = 0
    · left; rw [h, Rat.mul_zero]
    · exact .inr h
  have j1 := Rat.le_trans (jz_ (g := g1) sg1) b1
  have j2 := Rat.le_trans (jz_ (g := g2) sg2) b2
  have i3 : ab (g1 * ((slS n (tang n).1 b.1 : Rat) / 256)) / ((slS n (tang n).1 b.1 : Rat) / 256) + ab (g2 * ((slS n (tang n).2 b.1 : Rat) / 256)) / ((slS n (tang n).2 b.1 : Rat) / 256) ≤ s := by grind
  rw [pg_, jO_]
  constructor
  · rw [kD_ (N := 11) (K := 22) c h1 (by decide) nx ny nz hf k1 k2 (by decide) (by decide), e1, e2, e3]
    simp only [Bool.and_eq_true, Bool.or_eq_true, Bool.not_eq_true', decide_eq_true_eq, decide_eq_false_iff_not]
    exact ⟨i1, i2, by grind⟩
  · have dv : ∀ (q s : Rat), (q = 0 ∨ ¬ s = 0) → 0 ≤ s → ab q / s * s = ab q ∧ 0 ≤ ab q / s := fun q s h hs => by
      constructor
      · rcases h with h | h
        · rw [ab_0 h, Rat.div_def, Rat.zero_mul, Rat.zero_mul]
        · rw [Rat.div_def, Rat.mul_assoc, Rat.inv_mul_cancel _ h, Rat.mul_one]
      · rw [Rat.div_def]; exact Rat.mul_nonneg (ab_nn q) (oX_ hs)
    obtain ⟨m1, P0⟩ := dv _ _ i1 sg1
    obtain ⟨m2, Q0⟩ := dv _ _ i2 sg2
    have bb : 0 ≤ b.1 * b.1 := Int.mul_nonneg c.b0 c.b0
    have slq : ∀ t : A3 W, 0 < nrm t → (slS n t b.1 : Rat) / 256 * ((slS n t b.1 : Rat) / 256) * (1000000 * (nrm t : Rat)) ≤ ((b.1 * b.1 : Int) : Rat) * (nrm n : Rat) := fun t ht => by
      have h3 := (qZ_ c.b0 ht (Int.le_of_lt pn) (slQ_B c.b0 c.b1 ht (Int.le_of_lt pn))).1
      have h4 := Rat.intCast_le_intCast.2 h3
      have hi := Rat.mul_inv_cancel (256 : Rat) (by decide)
      have e1 : ((slS n t b.1 * slS n t b.1 * (1000000 * nrm t) : Int) : Rat) = 65536 * ((slS n t b.1 : Rat) / 256 * ((slS n t b.1 : Rat) / 256) * (1000000 * (nrm t : Rat))) := by
        rw [Rat.intCast_mul, Rat.intCast_mul, Rat.intCast_mul, Rat.div_def]
        have h6 : ((1000000 : Int) : Rat) = 1000000 := rfl
        rw [h6]; grind
      have e2 : ((b.1 * b.1 * nrm n * 65536 : Int) : Rat) = 65536 * (((b.1 * b.1 : Int) : Rat) * (nrm n : Rat)) := by
        rw [Rat.intCast_mul _ 65536, Rat.intCast_mul _ (nrm n)]
        have h6 : ((65536 : Int) : Rat) = 65536 := rfl
        rw [h6]; grind
      rw [e1, e2] at h4
      exact Rat.le_of_mul_le_mul_left h4 (by decide)
    have cs := p0_ tg pn (slq _ pt) (slq _ pu) P0 Q0 (by rw [e2]; exact m1) (by rw [e3]; exact m2) (by rw [e1]; exact i3) bb
    rw [iD_ c h1 nx ny nz hf (by decide) (by decide), decide_eq_true cs.1, decide_eq_true cs.2]; rfl
/-- What points the other way is not in it. -/
theorem nJ_ (c : Ct n b) (h1 : au_ n b = true) (nx : n.x.1.natAbs < 2 ^ 11) (ny : n.y.1.natAbs < 2 ^ 11) (nz : n.z.1.natAbs < 2 ^ 11) (k1 : slS n (tang n).1 b.1 < 2 ^ 22) (k2 : slS n (tang n).2 b.1 < 2 ^ 22)
    (hf : V3 f (0 - (n.x.1 : Rat)) (0 - (n.y.1 : Rat)) (0 - (n.z.1 : Rat)) 66 10) : bn_ n b f = false ∧ a4_ n b f = false := by
  have tg := iE_ c.x c.y c.z c.n0
  have pn := d1_ c.n0
  obtain ⟨e1, e2, e3⟩ := al_pt (s := -1) (p := 0) (q := 0) (x := 0 - (n.x.1 : Rat)) (y := 0 - (n.y.1 : Rat)) (z := 0 - (n.z.1 : Rat)) tg pn (by grind) (by grind) (by grind)
  rw [pg_, jO_]
  constructor
  · rw [kD_ (N := 11) (K := 22) c h1 (by decide) nx ny nz hf k1 k2 (by decide) (by decide), e1, e2, e3, ab_0 rfl, zdiv, zdiv]
    rw [decide_eq_false (p := (0 : Rat) ≤ -1 - 0 - 0) (by grind), Bool.and_false, Bool.and_false]
  · rw [iD_ c h1 nx ny nz hf (by decide) (by decide)]
    have hn : (0 : Rat) < (nrm n : Rat) := Rat.intCast_pos.2 pn
    have e := jC_ (x := 0 - (n.x.1 : Rat)) (y := 0 - (n.y.1 : Rat)) (z := 0 - (n.z.1 : Rat)) pn
    rw [e1] at e
    rw [← e, decide_eq_false (by grind), Bool.false_and]
end
section
variable {a : A3 W} {b : W} {c : A4 U16} {r : A3 Rt} {l : List (A3 Rt)} {e : W}
theorem hD_ (hP : an_ a b = (l, e)) {k i : Nat} {m : A3 Rt} (hi : i < l.length) (hh : bn_ a b (l.getD i V0) = true) (hw : a4_ a b (l.getD i V0) = true) :
    a0_ a b c r (k + 1) i m = a0_ a b c r k (i + 1) (aQ_ m (aG_ (af_ (W.cv (([c.x, c.y, c.z, c.t].getD (i % 4) u160).1))) (l.getD i V0))) := by
  rw [a0_]
  simp only [hP]
  rw [decide_eq_true (by omega), cond_true, hh, hw]; rfl
theorem nb_ (hP : an_ a b = (l, e)) {k i : Nat} {m : A3 Rt} (hi : i = l.length) : a0_ a b c r (k + 1) i m = .inl (i, m) := by
  rw [a0_]
  simp only [hP]
  rw [decide_eq_false (by omega), cond_false]
end
theorem k16 (k : U16) : (af_ (W.cv k.1)).At ((k.1 : Int) : Rat) ∧ Cm ((k.1 : Int) : Rat) 1 16 ∧ 0 ≤ ((k.1 : Int) : Rat) := by
  obtain ⟨v, h0, h1⟩ := k
  have h := Of_At (W.cv v)
  have e : (W.cv v).1 = v := wi (by omega)
  rw [e] at h
  exact ⟨h, ⟨v, by rw [show ((1 : Int) : Rat) = 1 from rfl, Rat.one_mul], by have : (2 : Nat) ^ 16 = 65536 := rfl; omega⟩, Rat.intCast_nonneg.2 h0⟩
theorem ab_le {q r : Rat} (h1 : q ≤ r) (h2 : -r ≤ q) : ab q ≤ r := by unfold ab; split <;> grind
theorem n1024 {x : W} (h : (decide (x.1 ≤ 1024) && decide ((-1024) ≤ x.1)) = true) : x.1.natAbs ≤ 1024 := by
  simp only [Bool.and_eq_true, decide_eq_true_eq] at h; omega
theorem nz_ (n : A3 W) (b : W) (c : A4 U16) : bE_ n b c = true := by
  unfold bE_
  rw [on_]
  cases h1 : au_ n b
  · rfl
  cases h2 : (decide (n.x.1 ≤ 1024) && decide ((-1024) ≤ n.x.1))
  · rfl
  cases h3 : (decide (n.y.1 ≤ 1024) && decide ((-1024) ≤ n.y.1))
  · rfl
  cases h4 : (decide (n.z.1 ≤ 1024) && decide ((-1024) ≤ n.z.1))
  · rfl
  simp only [Bool.and_true, cond_true, Bool.true_and]
  have ct := lE_ h1
  have nx' := n1024 h2
  have ny' := n1024 h3
  have nz' := n1024 h4
  have p11 : (2 : Nat) ^ 11 = 2048 := rfl
  have nx : n.x.1.natAbs < 2 ^ 11 := by omega
  have ny : n.y.1.natAbs < 2 ^ 11 := by omega
  have nz : n.z.1.natAbs < 2 ^ 11 := by omega
  have tg := iE_ ct.x ct.y ct.z ct.n0
  have pn := d1_ ct.n0
  have pt := d1_ tg.t0
  have pu := d1_ tg.u0
  have nb := nk_ nx' ny' nz'
  have j1 := px_ (t := (tang n).1) ct.b0 ct.b1 pt (Int.le_of_lt pn) nb
  have j2 := px_ (t := (tang n).2) ct.b0 ct.b1 pu (Int.le_of_lt pn) nb
  have e22 : (2 : Int) ^ 22 = 2 ^ 21 + 2 ^ 21 := rfl
  have k1 : slS n (tang n).1 b.1 < 2 ^ 22 := by omega
  have k2 : slS n (tang n).2 b.1 < 2 ^ 22 := by omega
  have a01 : ab (0 : Rat) ≤ 0 := by rw [ab_0 rfl]; exact Rat.le_refl
  have up := h7_ (f := aj_ n) (s := 1) (g1 := 0) (g2 := 0) ct h1 nx ny nz k1 k2 (((of3 nx ny nz).mono (by decide) (by decide)).of_eq (by grind) (by grind) (by grind)) a01 a01 (by grind)
  have z3 : V3 (aj_ ⟨wl 0, wl 0, wl 0⟩) 0 0 0 11 1 := of3 (n := ⟨wl 0, wl 0, wl 0⟩) (by decide) (by decide) (by decide)
  have dn := nJ_ (f := aP_ (aj_ ⟨wl 0, wl 0, wl 0⟩) (aj_ n)) ct h1 nx ny nz k1 k2 ((oC_ (E := 66) z3 (of3 nx ny nz) (by decide) (by decide) (by decide) (by decide)).mono (by decide) (by decide))
  rw [up.1, up.2, dn.1, dn.2]
  simp only [Bool.not_false, Bool.and_true, Bool.true_and]
  by_cases hb : b.1 = 0
  · have hP : bU_ n b = ⟨[aj_ n], wl 0⟩ := by
      unfold bU_
      rw [h1, cond_true, hb]; rfl
    have hP2 : an_ n b = ([aj_ n], wl 0) := by rw [il_, hP]
    obtain ⟨a0, m0, y0⟩ := k16 c.x
    have v : VC _ _ _ _ 1 11 := (of3 nx ny nz).vc ⟨n.x.1, by rw [show ((1 : Int) : Rat) = 1 from rfl, Rat.one_mul], nx⟩ ⟨n.y.1, by rw [show ((1 : Int) : Rat) = 1 from rfl, Rat.one_mul], ny⟩ ⟨n.z.1, by rw [show ((1 : Int) : Rat) = 1 from rfl, Rat.one_mul], nz⟩
    have w0 := VC.times (c := 1) (d := 1) a0 m0 v (by decide) (by decide) (by decide) (by decide) (by decide) (by decide)
    have s1 := VC.plus (c := 1) (VC.zero (L := 1 * 1) (m := 27)) w0 (by decide) (by decide) (by decide) (by decide)
    have hv := (s1.v3 (by decide) (show (1 * 1 : Int).natAbs < 2 ^ 1 by decide)).mono (show 28 ≤ 66 by decide) (show 1 ≤ 10 by decide)
    have r := h7_ (s := ((c.x.1 : Int) : Rat)) (g1 := 0) (g2 := 0) ct h1 nx ny nz k1 k2 (hv.of_eq (by grind) (by grind) (by grind)) a01 a01 (by grind)
    simp only [hP2]
    rw [show ((wl 0).1 != 0 || (((([aj_ n] : List (A3 Rt)).length : Nat) : Int) == 0)) = false from rfl, cond_false]
    rw [show ([aj_ n] : List (A3 Rt)).length + 1 = 1 + 1 from rfl, hD_ (k := 1) hP2 (i := 0) (Nat.zero_lt_one) up.1 up.2, nb_ (i := 0 + 1) (k := 0) hP2 rfl]
    simp only [sm]
    rw [show ∀ X Y : Bool, (X && Y) = true ↔ X = true ∧ Y = true from fun X Y => by simp]
    exact ⟨r.1, r.2⟩
  · obtain ⟨tx, ty, tz⟩ := tg.tb 11 (by decide) nx ny nz
    obtain ⟨ux, uy, uz⟩ := tg.ub 11 (by decide) nx ny nz
    have S1 : Sl n (tang n).1 b 11 11 22 := ⟨ct, nx, ny, nz, tx, ty, tz, pt, tg.o1, by omega, by decide⟩
    have S2 : Sl n (tang n).2 b 11 23 22 := ⟨ct, nx, ny, nz, ux, uy, uz, pu, tg.o2, by omega, by decide⟩
    have c256 : (256 : Int).natAbs < 2 ^ 9 := by decide
    have p256 : (0 : Int) < 256 := by decide
    have f0 := oG_ S1 (by decide)
    have f1 := pG_ S1 (by decide)
    have f2 := oG_ S2 (by decide)
    have f3 := pG_ S2 (by decide)
    have edx : ∀ a S c : Int, ed a S c = (a : Rat) + (S : Rat) / 256 * (c : Rat) := fun _ _ _ => rfl
    have edn : ∀ a S c : Int, ed a (-S) c = (a : Rat) - (S : Rat) / 256 * (c : Rat) := fun a S c => (pH_ a S c).symm
    have b1 : ab (1 : Rat) ≤ 1 := by decide
    have bm : ab (-1 : Rat) ≤ 1 := by decide
    have q0 := h7_ (s := 1) (g1 := 1) (g2 := 0) ct h1 nx ny nz k1 k2 ((f0.mono (by decide) (by decide)).of_eq (by rw [edx]; grind) (by rw [edx]; grind) (by rw [edx]; grind)) b1 a01 (by grind)
    have q1 := h7_ (s := 1) (g1 := -1) (g2 := 0) ct h1 nx ny nz k1 k2 ((f1.mono (by decide) (by decide)).of_eq (by rw [edn]; grind) (by rw [edn]; grind) (by rw [edn]; grind)) bm a01 (by grind)
    have q2 := h7_ (s := 1) (g1 := 0) (g2 := 1) ct h1 nx ny nz k1 k2 ((f2.mono (by decide) (by decide)).of_eq (by rw [edx]; grind) (by rw [edx]; grind) (by rw [edx]; grind)) a01 b1 (by grind)
    have q3 := h7_ (s := 1) (g1 := 0) (g2 := -1) ct h1 nx ny nz k1 k2 ((f3.mono (by decide) (by decide)).of_eq (by rw [edn]; grind) (by rw [edn]; grind) (by rw [edn]; grind)) a01 bm (by grind)
    obtain ⟨a0, m0, y0⟩ := k16 c.x
    obtain ⟨a1, m1, y1⟩ := k16 c.y
    obtain ⟨a2, m2, y2⟩ := k16 c.z
    obtain ⟨a3, m3, y3⟩ := k16 c.t
    have v0 : VC _ _ _ _ 256 46 := (f0.vc (ed_Cm S1.nx S1.S.1 S1.tx S1.h) (ed_Cm S1.ny S1.S.1 S1.ty S1.h) (ed_Cm S1.nz S1.S.1 S1.tz S1.h)).mono (by decide)
    have v1 : VC _ _ _ _ 256 46 := (f1.vc (ed_Cm S1.nx S1.S.2.1 S1.tx S1.h) (ed_Cm S1.ny S1.S.2.1 S1.ty S1.h) (ed_Cm S1.nz S1.S.2.1 S1.tz S1.h)).mono (by decide)
    have v2 : VC _ _ _ _ 256 46 := f2.vc (ed_Cm S2.nx S2.S.1 S2.tx S2.h) (ed_Cm S2.ny S2.S.1 S2.ty S2.h) (ed_Cm S2.nz S2.S.1 S2.tz S2.h)
    have v3 : VC _ _ _ _ 256 46 := f3.vc (ed_Cm S2.nx S2.S.2.1 S2.tx S2.h) (ed_Cm S2.ny S2.S.2.1 S2.ty S2.h) (ed_Cm S2.nz S2.S.2.1 S2.tz S2.h)
    have one : (1 : Int).natAbs < 2 ^ 1 := by decide
    have w0 := VC.times a0 m0 v0 (by decide) p256 one c256 (by decide) (by decide)
    have w1 := VC.times a1 m1 v1 (by decide) p256 one c256 (by decide) (by decide)
    have w2 := VC.times a2 m2 v2 (by decide) p256 one c256 (by decide) (by decide)
    have w3 := VC.times a3 m3 v3 (by decide) p256 one c256 (by decide) (by decide)
    have hL2 : (0 : Int) < 1 * 256 := by decide
    have bL2 : (1 * 256 : Int).natAbs < 2 ^ 9 := by decide
    have s1 := VC.plus (VC.zero (L := 1 * 256) (m := 62)) w0 hL2 bL2 (by decide) (by decide)
    have s2 := s1.plus (w1.mono (show 62 ≤ 63 by decide)) hL2 bL2 (by decide) (by decide)
    have s3 := s2.plus (w2.mono (show 62 ≤ 64 by decide)) hL2 bL2 (by decide) (by decide)
    have s4 := s3.plus (w3.mono (show 62 ≤ 65 by decide)) hL2 bL2 (by decide) (by decide)
    have hv := (s4.v3 hL2 bL2).mono (show 66 ≤ 66 by decide) (show 9 ≤ 10 by decide)
    have g : ∀ (k0 k1 k2 k3 : Rat) (a c d S T : Int), 0 + k0 * ed a S c + k1 * ed a (-S) c + k2 * ed a T d + k3 * ed a (-T) d = (k0 + k1 + (k2 + k3)) * a + (k0 - k1) * ((S : Rat) / 256) * c + (k2 - k3) * ((T : Rat) / 256) * d := fun k0 k1 k2 k3 a c d S T => by
      have e1 := mj_ k0 k1 a S c
      have e2 := mj_ k2 k3 a T d
      grind
    have r := h7_ ct h1 nx ny nz k1 k2 (hv.of_eq (g ..) (g ..) (g ..)) (r1 := ((c.x.1 : Int) : Rat) + ((c.y.1 : Int) : Rat)) (r2 := ((c.z.1 : Int) : Rat) + ((c.t.1 : Int) : Rat)) (ab_le (by grind) (by grind)) (ab_le (by grind) (by grind)) Rat.le_refl
    have hP2 := il_ n b
    rw [qu_ h1 hb] at hP2
    simp only at hP2
    generalize aQ_ (aj_ n) (aG_ (aF_ n b (tang n).1) (aj_ (tang n).1)) = E0 at hP2 q0 r
    generalize aP_ (aj_ n) (aG_ (aF_ n b (tang n).1) (aj_ (tang n).1)) = E1 at hP2 q1 r
    generalize aQ_ (aj_ n) (aG_ (aF_ n b (tang n).2) (aj_ (tang n).2)) = E2 at hP2 q2 r
    generalize aP_ (aj_ n) (aG_ (aF_ n b (tang n).2) (aj_ (tang n).2)) = E3 at hP2 q3 r
    simp only [hP2]
    rw [show ((wl 0).1 != 0 || (((([E0, E1, E2, E3] : List (A3 Rt)).length : Nat) : Int) == 0)) = false from rfl, cond_false]
    rw [show ([E0, E1, E2, E3] : List (A3 Rt)).length + 1 = 4 + 1 from rfl]
    rw [hD_ (k := 4) hP2 (i := 0) (by simp) q0.1 q0.2, hD_ (k := 3) hP2 (i := 0 + 1) (by simp) q1.1 q1.2, hD_ (k := 2) hP2 (i := 0 + 1 + 1) (by simp) q2.1 q2.2, hD_ (k := 1) hP2 (i := 0 + 1 + 1 + 1) (by simp) q3.1 q3.2, nb_ (i := 0 + 1 + 1 + 1 + 1) (k := 0) hP2 rfl]
    simp only [sm]
    have r2 := r.2
    have r1 := r.1
    rw [show ∀ X Y : Bool, (X && Y) = true ↔ X = true ∧ Y = true from fun X Y => by simp]
    exact ⟨r1, r2⟩
end Go.Num

