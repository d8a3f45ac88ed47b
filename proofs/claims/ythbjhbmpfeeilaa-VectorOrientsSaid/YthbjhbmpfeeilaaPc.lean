/- The statements about vectors, second part: tangents, orientation, sums. No program stands in it. -/
import Derived.Test.YthbjhbmpfeeilaaPb
set_option linter.unusedVariables false
set_option linter.unusedSimpArgs false
namespace Go.Num
open Go Go.Kn
def tang (a : A3 W) : A3 W × A3 W :=
  if a.x.1 = 0 ∧ a.y.1 = 0 then (⟨wl 1, wl 0, wl 0⟩, ⟨wl 0, wl 1, wl 0⟩)
  else if (prim ⟨E (Z.neg (Z.of a.y.1)), E (Z.of a.x.1), E (Z.of 0)⟩).2.1 ≠ 0 ∨ (prim (F_skewbackref06_CrossOf (F_skewbackref06_Wide a) (F_skewbackref06_Wide (prim ⟨E (Z.neg (Z.of a.y.1)), E (Z.of a.x.1), E (Z.of 0)⟩).1))).2.1 ≠ 0 then (V0, V0)
  else ((prim ⟨E (Z.neg (Z.of a.y.1)), E (Z.of a.x.1), E (Z.of 0)⟩).1, (prim (F_skewbackref06_CrossOf (F_skewbackref06_Wide a) (F_skewbackref06_Wide (prim ⟨E (Z.neg (Z.of a.y.1)), E (Z.of a.x.1), E (Z.of 0)⟩).1))).1)
theorem bif_if {α : Type} {c : Bool} {p : Prop} [Decidable p] (h : c = true ↔ p) (x y : α) : (bif c then x else y) = if p then x else y := by
  cases c
  · rw [if_neg (fun hp => by have := h.2 hp; cases this)]; rfl
  · rw [if_pos (h.1 rfl)]; rfl
theorem or_ne (a b : W) : ((a.1 != 0) || (b.1 != 0)) = true ↔ (a.1 ≠ 0 ∨ b.1 ≠ 0) := by simp
theorem prog_tang (a : A3 W) : F_vector_Tangents a = tang a := by
  unfold F_vector_Tangents tang
  simp only [prog_prim, numbers_eq, cross_eq]
  have e1 : (F_skewbackref06_Wide a).y.dec = Z.of a.y.1 := E_dec _
  simp only [e1]
  rw [bif_if (p := a.x.1 = 0 ∧ a.y.1 = 0) (by simp)]
  congr 1
  exact bif_if (or_ne _ _) _ _
theorem ref_tang (a : A3 W) : F_skewbackref06_Tangents a = tang a := by
  unfold F_skewbackref06_Tangents tang
  simp only [ref_prim, mkDir]
  have e1 : (F_skewbackref06_Wide a).y.dec = Z.of a.y.1 := E_dec _
  simp only [e1]
  rw [bif_if (p := a.x.1 = 0 ∧ a.y.1 = 0) (by simp)]
  congr 1
  exact bif_if (or_ne _ _) _ _
theorem dotW (a b : A3 W) : F_vector_Dot a b = E (Z.of (a.x.1 * b.x.1 + a.y.1 * b.y.1 + a.z.1 * b.z.1)) ∧ Fit (Z.of (a.x.1 * b.x.1 + a.y.1 * b.y.1 + a.z.1 * b.z.1)) (a.x.1 * b.x.1 + a.y.1 * b.y.1 + a.z.1 * b.z.1) 130 := by
  have h := ((fitW a.x).mul (fitW b.x) (by decide)).add ((fitW a.y).mul (fitW b.y) (by decide)) (by decide)
  have h2 := h.add ((fitW a.z).mul (fitW b.z) (by decide)) (by decide)
  rw [Dot_eq]
  show F_skewbackref06_DotOf (F_skewbackref06_Wide a) (F_skewbackref06_Wide b) = _ ∧ _
  rw [dotof_dec]
  show E (Z.add (Z.add (Z.mul (E _).dec (E _).dec) (Z.mul (E _).dec (E _).dec)) (Z.mul (E _).dec (E _).dec)) = _ ∧ _
  simp only [E_dec]
  exact ⟨congrArg E h2.eq, ⟨rfl, h2.lt⟩⟩
theorem dot0 {a b : A3 W} (h : a.x.1 * b.x.1 + a.y.1 * b.y.1 + a.z.1 * b.z.1 = 0) : decide (F_vector_Dot a b = E (Z.of 0)) = true := by
  rw [(dotW a b).1, h]; simp
theorem VectorTangents_true (a : A3 W) : F_skewbacklaw06_VectorTangentsMatchSpec a = true := by
  unfold F_skewbacklaw06_VectorTangentsMatchSpec
  simp only [prog_tang, ref_tang, sanity06]
  simp only [decide_true, Bool.and_self, Bool.not_true, Bool.or_self, cond_false, Bool.true_and]
  have key : ((tang a).1.x.1 * (tang a).2.x.1 + (tang a).1.y.1 * (tang a).2.y.1 + (tang a).1.z.1 * (tang a).2.z.1 = 0 ∧ a.x.1 * (tang a).1.x.1 + a.y.1 * (tang a).1.y.1 + a.z.1 * (tang a).1.z.1 = 0 ∧
      a.x.1 * (tang a).2.x.1 + a.y.1 * (tang a).2.y.1 + a.z.1 * (tang a).2.z.1 = 0) ∧ (((tang a).1.x.1 = 0 ∧ (tang a).1.y.1 = 0 ∧ (tang a).1.z.1 = 0) ↔ ((tang a).2.x.1 = 0 ∧ (tang a).2.y.1 = 0 ∧ (tang a).2.z.1 = 0)) := by
    unfold tang
    split
    · rename_i h
      rw [h.1, h.2]
      exact ⟨⟨by simp, by simp, by simp⟩, by simp⟩
    · split
      · exact ⟨⟨by simp [V0], by simp [V0], by simp [V0]⟩, Iff.rfl⟩
      · rename_i h1 h2
        have h2a := Classical.not_not.1 (fun h => h2 (.inl h))
        have h2b := Classical.not_not.1 (fun h => h2 (.inr h))
        obtain ⟨x, y, z, g, H⟩ := prim_ok h2a
        obtain ⟨x', y', z', g', K⟩ := prim_ok h2b
        have n1 := prim_ne H; have n2 := prim_ne K
        generalize (prim (F_skewbackref06_CrossOf (F_skewbackref06_Wide a) (F_skewbackref06_Wide (prim ⟨E (Z.neg (Z.of a.y.1)), E (Z.of a.x.1), E (Z.of 0)⟩).1))).1 = t at K n2 ⊢
        generalize (prim ⟨E (Z.neg (Z.of a.y.1)), E (Z.of a.x.1), E (Z.of 0)⟩).1 = s at H K n1 ⊢
        have ex : x = -a.y.1 := by
          have := H.ax; rw [show (E (Z.neg (Z.of a.y.1))).dec = Z.neg (Z.of a.y.1) from E_dec _, ((fitW a.y).neg (by decide)).o (by decide)] at this; exact (Option.some.inj this).symm
        have ey : y = a.x.1 := by
          have := H.ay; rw [show (E (Z.of a.x.1)).dec = Z.of a.x.1 from E_dec _, (fitW a.x).o (by decide)] at this; exact (Option.some.inj this).symm
        have ez : z = 0 := by
          have := H.az; rw [show (E (Z.of 0)).dec = Z.of 0 from E_dec _, fit0.o (by decide)] at this; exact (Option.some.inj this).symm
        have cr : ∀ (p q r t : W) (v : Int), (F_skewbackref06_minor (E (Z.of p.1)) (E (Z.of q.1)) (E (Z.of r.1)) (E (Z.of t.1))).dec.o = some v → v = p.1 * q.1 - r.1 * t.1 := fun p q r t v hv => by
          rw [minor_dec, E_dec, E_dec, E_dec, E_dec, (((fitW p).mul (fitW q) (by decide)).sub ((fitW r).mul (fitW t) (by decide)) (by decide)).o (by decide)] at hv
          exact (Option.some.inj hv).symm
        have ex' : x' = a.y.1 * s.z.1 - a.z.1 * s.y.1 := cr a.y s.z a.z s.y x' K.ax
        have ey' : y' = a.z.1 * s.x.1 - a.x.1 * s.z.1 := cr a.z s.x a.x s.z y' K.ay
        have ez' : z' = a.x.1 * s.y.1 - a.y.1 * s.x.1 := cr a.x s.y a.y s.x z' K.az
        have hx := H.px; have hy := H.py; have hz := H.pz
        have kx := K.px; have ky := K.py; have kz := K.pz
        rw [ex] at hx; rw [ey] at hy; rw [ez] at hz
        rw [ex'] at kx; rw [ey'] at ky; rw [ez'] at kz
        have g0 := H.g0; have g0' := K.g0
        have cancel : ∀ {G v : Int}, 0 < G → G * v = 0 → v = 0 := fun {G v} hG h => by rcases Int.mul_eq_zero.1 h with h | h; omega; exact h
        refine ⟨⟨cancel g0' ?_, cancel g0 ?_, cancel g0' ?_⟩, iff_of_false n1 n2⟩
        · have : g' * (s.x.1 * t.x.1 + s.y.1 * t.y.1 + s.z.1 * t.z.1) = s.x.1 * (g' * t.x.1) + s.y.1 * (g' * t.y.1) + s.z.1 * (g' * t.z.1) := by grind
          rw [this, kx, ky, kz]; grind
        · have : g * (a.x.1 * s.x.1 + a.y.1 * s.y.1 + a.z.1 * s.z.1) = a.x.1 * (g * s.x.1) + a.y.1 * (g * s.y.1) + a.z.1 * (g * s.z.1) := by grind
          rw [this, hx, hy, hz]; grind
        · have : g' * (a.x.1 * t.x.1 + a.y.1 * t.y.1 + a.z.1 * t.z.1) = a.x.1 * (g' * t.x.1) + a.y.1 * (g' * t.y.1) + a.z.1 * (g' * t.z.1) := by grind
          rw [this, kx, ky, kz]; grind
  rw [dot0 key.1.1, dot0 key.1.2.1, dot0 key.1.2.2]
  simp only [Bool.true_and, beq_iff_eq]
  rw [Bool.eq_iff_iff]
  simpa using key.2
/-! orientation -/
def det3 (x1 x2 x3 y1 y2 y3 z1 z2 z3 : Int) : Int := (x2 * y3 - x3 * y2) * z1 + (x3 * y1 - x1 * y3) * z2 + (x1 * y2 - x2 * y1) * z3
def orI (a b c d : A3 W) : Int := det3 (b.x.1 - a.x.1) (b.y.1 - a.y.1) (b.z.1 - a.z.1) (c.x.1 - a.x.1) (c.y.1 - a.y.1) (c.z.1 - a.z.1) (d.x.1 - a.x.1) (d.y.1 - a.y.1) (d.z.1 - a.z.1)
theorem det_fit {x1 x2 x3 y1 y2 y3 z1 z2 z3 : Int} {X1 X2 X3 Y1 Y2 Y3 Z1 Z2 Z3 : Z} (h1 : Fit X1 x1 65) (h2 : Fit X2 x2 65) (h3 : Fit X3 x3 65) (k1 : Fit Y1 y1 65) (k2 : Fit Y2 y2 65) (k3 : Fit Y3 y3 65)
    (l1 : Fit Z1 z1 65) (l2 : Fit Z2 z2 65) (l3 : Fit Z3 z3 65) :
    (F_skewbackref06_DotOf (F_skewbackref06_CrossOf ⟨E X1, E X2, E X3⟩ ⟨E Y1, E Y2, E Y3⟩) ⟨E Z1, E Z2, E Z3⟩).dec.sign = (det3 x1 x2 x3 y1 y2 y3 z1 z2 z3).sign := by
  rw [dotof_dec, E_dec]
  show (Z.add (Z.add (Z.mul (F_skewbackref06_minor (E X2) (E Y3) (E X3) (E Y2)).dec (E Z1).dec) (Z.mul (F_skewbackref06_minor (E X3) (E Y1) (E X1) (E Y3)).dec (E Z2).dec)) (Z.mul (F_skewbackref06_minor (E X1) (E Y2) (E X2) (E Y1)).dec (E Z3).dec)).sign = _
  simp only [minor_dec, E_dec]
  have m1 := (h2.mul k3 (by decide)).sub (h3.mul k2 (by decide)) (by decide)
  have m2 := (h3.mul k1 (by decide)).sub (h1.mul k3 (by decide)) (by decide)
  have m3 := (h1.mul k2 (by decide)).sub (h2.mul k1 (by decide)) (by decide)
  exact (((m1.mul l1 (by decide)).add (m2.mul l2 (by decide)) (by decide)).add (m3.mul l3 (by decide)) (by decide)).sign (by decide)
theorem fitd (a b : W) : Fit (Z.sub (Z.of b.1) (Z.of a.1)) (b.1 - a.1) 65 := (fitW b).sub (fitW a) (by decide)
theorem prog_orient (a b c d : A3 W) : (F_vector_Orient a b c d).1 = (orI a b c d).sign := by
  unfold F_vector_Orient
  show (F_vector_dot _ _).dec.sign = _
  rw [dot_eq, cross_eq]
  exact det_fit (fitd a.x b.x) (fitd a.y b.y) (fitd a.z b.z) (fitd a.x c.x) (fitd a.y c.y) (fitd a.z c.z) (fitd a.x d.x) (fitd a.y d.y) (fitd a.z d.z)
theorem ref_orient (a b c d : A3 W) : (F_skewbackref06_Orient a b c d).1 = (orI a b c d).sign := by
  unfold F_skewbackref06_Orient
  have e : ∀ p q : A3 W, F_skewbackref06_from p q = ⟨E (Z.sub (Z.of q.x.1) (Z.of p.x.1)), E (Z.sub (Z.of q.y.1) (Z.of p.y.1)), E (Z.sub (Z.of q.z.1) (Z.of p.z.1))⟩ := fun p q => by
    unfold F_skewbackref06_from F_skewbackref06_Wide; simp only [E_dec]
  simp only [e]
  exact det_fit (fitd a.x b.x) (fitd a.y b.y) (fitd a.z b.z) (fitd a.x c.x) (fitd a.y c.y) (fitd a.z c.z) (fitd a.x d.x) (fitd a.y d.y) (fitd a.z d.z)
theorem wneg_sign (v : Int) (w : W) (h : w.1 = v.sign) : (W.neg w).1 = (-v).sign := by
  show IntKind.i64.wrap (0 - w.1) = _
  rw [h, Int.sign_neg, wrap_i64_id (by rcases Int.lt_trichotomy v 0 with h | h | h <;> (first | rw [Int.sign_eq_neg_one_of_neg h] | rw [Int.sign_eq_one_of_pos h] | rw [h]) <;> decide)]
  omega
theorem smallOf {a : A3 W} (h : F_skewbackref06_Small a = true) : (-2305843009213693952 < a.x.1 ∧ a.x.1 < 2305843009213693952) ∧ (-2305843009213693952 < a.y.1 ∧ a.y.1 < 2305843009213693952) ∧ (-2305843009213693952 < a.z.1 ∧ a.z.1 < 2305843009213693952) := by
  rw [small06] at h
  simp only [Bool.and_eq_true, Bool.not_eq_true', Bool.or_eq_false_iff, decide_eq_false_iff_not] at h
  omega
theorem wadd_small {a b : W} (h : -2305843009213693952 < a.1 ∧ a.1 < 2305843009213693952) (k : -2305843009213693952 < b.1 ∧ b.1 < 2305843009213693952) : (W.add a b).1 = a.1 + b.1 := wrap_i64_id (by unfold I64; omega)
theorem VectorOrients_true (a b c d e : A3 W) : F_skewbacklaw06_VectorOrients a b c d e = true := by
  unfold F_skewbacklaw06_VectorOrients
  have p := prog_orient
  have q : ∀ {u v : W} {x y : Int}, u.1 = x.sign → v.1 = y.sign → x = y → (u.1 != v.1) = false := fun h k e => by rw [h, k, e]; simp
  rw [q (p a b c d) (ref_orient a b c d) rfl, q (p b a c d) (wneg_sign _ _ (p a b c d)) (by unfold orI det3; grind), q (p a c b d) (wneg_sign _ _ (p a b c d)) (by unfold orI det3; grind),
    q (p a b d c) (wneg_sign _ _ (p a b c d)) (by unfold orI det3; grind), q (p b c a d) (p a b c d) (by unfold orI det3; grind)]
  have h0 : ((F_vector_Orient a a c d).1 != 0) = false := by
    rw [p a a c d, show orI a a c d = 0 by unfold orI det3; grind]; rfl
  rw [h0, sanity06]
  simp only [Bool.or_self, cond_false, Bool.true_and]
  cases hs : (!F_skewbackref06_Small a || (!F_skewbackref06_Small b || (!F_skewbackref06_Small c || (!F_skewbackref06_Small d || !F_skewbackref06_Small e))))
  · simp only [Bool.or_eq_false_iff, Bool.not_eq_false'] at hs
    obtain ⟨sa, sb, sc, sd, se⟩ := hs
    have sa := smallOf sa; have sb := smallOf sb; have sc := smallOf sc; have sd := smallOf sd; have se := smallOf se
    rw [cond_false, p, p, beq_iff_eq]
    congr 1
    unfold orI F_vector_Add
    simp only [wadd_small sa.1 se.1, wadd_small sa.2.1 se.2.1, wadd_small sa.2.2 se.2.2, wadd_small sb.1 se.1, wadd_small sb.2.1 se.2.1, wadd_small sb.2.2 se.2.2, wadd_small sc.1 se.1, wadd_small sc.2.1 se.2.1, wadd_small sc.2.2 se.2.2,
      wadd_small sd.1 se.1, wadd_small sd.2.1 se.2.1, wadd_small sd.2.2 se.2.2, Int.add_sub_add_right]
  · rfl
/-! sums -/
theorem wrap_sub (a b : Int) : IntKind.i64.wrap (a + IntKind.i64.wrap (0 - b)) = IntKind.i64.wrap (a - b) := by
  rw [wrap_i64, wrap_i64, wrap_i64]; split <;> split <;> split <;> omega
theorem sub_eq06 (a b : A3 W) : F_vector_Sub a b = F_skewbackref06_Sub a b := by
  have e : ∀ x y : W, W.add x (W.neg y) = W.sub x y := fun x y => W.ext (wrap_sub x.1 y.1)
  show (⟨W.add a.x (W.neg b.x), W.add a.y (W.neg b.y), W.add a.z (W.neg b.z)⟩ : A3 W) = ⟨W.sub a.x b.x, W.sub a.y b.y, W.sub a.z b.z⟩
  rw [e, e, e]
theorem sub_eq06_neg (a : A3 W) : F_vector_Neg a = F_skewbackref06_Sub (⟨wl 0, wl 0, wl 0⟩ : A3 W) a := rfl
theorem less_eq06 (a b : A3 W) : F_vector_Less a b = F_skewbackref06_Less a b := by
  unfold F_vector_Less F_skewbackref06_Less
  cases a.x.1 != b.x.1
  · simp only [cond_false]
    cases a.y.1 != b.y.1
    · simp only [cond_false]
      cases h : a.z.1 != b.z.1
      · have : a.z.1 = b.z.1 := by simpa using h
        simp [this]
      · rfl
    · rfl
  · rfl
theorem less_iff (a b : A3 W) : F_vector_Less a b = true ↔ (a.x.1 < b.x.1 ∨ (a.x.1 = b.x.1 ∧ (a.y.1 < b.y.1 ∨ (a.y.1 = b.y.1 ∧ a.z.1 < b.z.1)))) := by
  unfold F_vector_Less
  by_cases h1 : a.x.1 = b.x.1
  · have e1 : (a.x.1 != b.x.1) = false := by simp [h1]
    rw [e1, cond_false]
    by_cases h2 : a.y.1 = b.y.1
    · have e2 : (a.y.1 != b.y.1) = false := by simp [h2]
      rw [e2, cond_false]
      by_cases h3 : a.z.1 = b.z.1
      · have e3 : (a.z.1 != b.z.1) = false := by simp [h3]
        rw [e3, cond_false]; simp [h1, h2, h3]
      · have e3 : (a.z.1 != b.z.1) = true := by simp [h3]
        rw [e3, cond_true]; simp [h1, h2]
    · have e2 : (a.y.1 != b.y.1) = true := by simp [h2]
      rw [e2, cond_true]; simp [h1, h2]
  · have e1 : (a.x.1 != b.x.1) = true := by simp [h1]
    rw [e1, cond_true]; simp [h1]
theorem VectorSums_true (a b : A3 W) : F_skewbacklaw06_VectorSumsMatchSpec a b = true := by
  unfold F_skewbacklaw06_VectorSumsMatchSpec
  rw [less_eq06 a b, ← less_eq06 a b, sub_eq06, sub_eq06_neg a]
  simp only [bne_self_eq_false, Bool.false_or, sanity06]
  have hl : (bif F_vector_Less a b then F_vector_Less b a else !F_vector_Less b a && !(decide (a.x.1 = b.x.1) && (decide (a.y.1 = b.y.1) && decide (a.z.1 = b.z.1)))) = false := by
    cases h1 : F_vector_Less a b
    · rw [cond_false]
      cases h2 : F_vector_Less b a
      · have n1 : ¬ F_vector_Less a b = true := by rw [h1]; decide
        have n2 : ¬ F_vector_Less b a = true := by rw [h2]; decide
        rw [less_iff] at n1 n2
        have : a.x.1 = b.x.1 ∧ a.y.1 = b.y.1 ∧ a.z.1 = b.z.1 := by omega
        simp [this]
      · rfl
    · rw [cond_true]
      have n1 := (less_iff a b).1 h1
      cases h2 : F_vector_Less b a
      · rfl
      · have n2 := (less_iff b a).1 h2
        omega
  rw [hl, cond_false]
  cases (!F_skewbackref06_Small a || !F_skewbackref06_Small b)
  · rw [cond_false]
    show (true && ((decide (_ = _) && (decide (_ = _) && decide (_ = _))) && _)) = true
    simp [F_vector_Add, F_skewbackref06_Add]
  · rfl
end Go.Num
