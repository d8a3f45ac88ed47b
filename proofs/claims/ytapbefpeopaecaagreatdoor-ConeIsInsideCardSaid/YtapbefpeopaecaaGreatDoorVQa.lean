/- Cones: the program returns what the specification defines; three statements. No program stands in it. law21: ConeGrows, ConeSlopes. No program stands in it. -/
import Derived.Test.YtapbefpeopaecaaGreatDoorVPQ
import Derived.KernelRfl
import Derived.Test.YtapbefpeopaecaaGreatDoorVPV

set_option linter.unusedVariables false
set_option linter.unusedSimpArgs false
namespace Go.Num
open Go Go.Kn
theorem ov_ : bG_ = true := by kernel_rfl
theorem hu_ (a : A3 W) (b : W) : b0_ a b = aJ_ a b := rfl
theorem rb_ (a : A3 W) : am_ a = aB_ a := (ne_ a).trans (g3_ a).symm
theorem shl16 (z : Z) : Z.shl z 16 = Z.mul z (Z.of 65536) := by
  rcases Z.cases z with rfl | ⟨v, h, rfl, ho⟩
  · rfl
  · unfold Z.shl Z.mul
    rw [cn_ ho, a3_ ho (Z.of_some (by decide))]; rfl
theorem lr_ (a : A3 W) (b : W) (t : A3 W) : ar_ (cG_ (E (Z.quo (Z.shl (Z.mul (Z.of (W.mul b b).1) (a5_ a a).dec) 16) (E (Z.mul (Z.of 1000000) (a5_ t t).dec)).dec))) (E (Z.of 256)) = ap_ a b t := by
  unfold ap_
  rw [qr_, in_, shl16, j0_, j0_, E_dec]
  simp only [E_dec]
theorem mS_ (a : A3 W) (b : W) : bZ_ a b = (⟨(aB_ a).1, (aB_ a).2⟩, ⟨ap_ a b (aB_ a).1, ap_ a b (aB_ a).2⟩) := by
  unfold bZ_
  dsimp only
  rw [lr_, lr_, rb_]
theorem mj_ (a : A3 W) (b : W) : av_ a b = ((b7_ a b).l, (b7_ a b).e) := by
  unfold av_ b7_
  rw [hu_, mS_]
  simp only [m0_, oZ_, q7_, oM_]
  cases aJ_ a b with
  | false => rfl
  | true => cases (b.1 == 0) <;> rfl
theorem n8_ (t : A3 W) (f : A3 Rt) : as_ t f = an_ t f := by
  unfold as_ an_ bO_
  dsimp only
  rw [in_, pd_, nE_, j0_]; rfl
theorem mt_ (a : A3 W) (b : W) (c : A3 Rt) : cj_ a b c = cU_ a b c := by
  unfold cj_ cU_ d3_
  simp only [hu_, kB_, nE_, m0_, ot_, lp_, is_, Of_eq, r1_]
theorem qf_ {a : Rt} {n d : Int} (h : a.Is n d) : (aI_ a).1 = n.sign := by
  unfold aI_
  rw [hv_ h, h.en, E_dec]
  exact dM_ h.hn
theorem nF_ {a : Rt} {n d : Int} (h : a.Is n d) : Rt.Is (b8_ a) (n.natAbs : Int) d := by
  have e : b8_ a = ⟨E (Z.of (n.natAbs : Int)), E (Z.of d)⟩ := by
    unfold b8_
    rw [hv_ h, h.en, h.ed, E_dec, Z.abs, cn_ (Z.of_some h.hn)]; rfl
  rw [e]
  have := h.hn
  exact ⟨rfl, rfl, by unfold B512 at *; simpa using this, h.hd, h.pos, h.cop⟩
theorem pF_ {a b : Rt} {n d m e : Int} (ha : a.Is n d) (hb : b.Is m e) (h : n = m) (k : d = e) : a = b := by
  subst h k
  exact Rt.ext (ha.en.trans hb.en.symm) (ha.ed.trans hb.ed.symm)
theorem r2_ (a : Rt) : cP_ a = b8_ a := by
  unfold cP_
  simp only [kB_, py_]
  cases hg : ae_ a with
  | false =>
    have e : b8_ a = bm_ := by unfold b8_; rw [hg]; rfl
    rw [e, lz_ hg, lz_ qn_]
    cases decide ((aI_ a).1 < 0) <;> rfl
  | true =>
    obtain ⟨n, d, h⟩ := Is_of hg
    rw [qf_ h]
    by_cases hn : n < 0
    · rw [decide_eq_true (Int.sign_neg_iff.2 hn)]
      exact pF_ (ll_ h) (nF_ h) (by omega) rfl
    · rw [decide_eq_false (fun hh => hn (Int.sign_neg_iff.1 hh)), cond_false]
      rw [qs_ h]
      exact pF_ h (nF_ h) (by omega) rfl
theorem qd_ (r : Rt) : a8_ r (ag_ (wl 2)) = af_ r (au_ (wl 1) (wl 2)) := by
  unfold a8_
  have h : ae_ (ag_ (wl 2)) = true := by decide +kernel
  rw [h]
  have e : ah_ (ag_ (wl 2)).d (ag_ (wl 2)).n = au_ (wl 1) (wl 2) := by decide +kernel
  rw [e]; rfl
theorem jS_ (s : Int) : (s = 0 ∧ (s == 0) = true ∧ (s != 0) = false ∧ decide (0 ≤ s) = true ∧ decide (s < 0) = false) ∨ (0 < s ∧ (s == 0) = false ∧ (s != 0) = true ∧ decide (0 ≤ s) = true ∧ decide (s < 0) = false) ∨ (s < 0 ∧ (s == 0) = false ∧ (s != 0) = true ∧ decide (0 ≤ s) = false ∧ decide (s < 0) = true) := by
  rcases Int.lt_trichotomy s 0 with h | h | h
  · exact .inr (.inr ⟨h, beq_eq_false_iff_ne.2 (by omega), bne_iff_ne.2 (by omega), decide_eq_false (by omega), decide_eq_true h⟩)
  · subst h; exact .inl ⟨rfl, rfl, rfl, rfl, rfl⟩
  · exact .inr (.inl ⟨h, beq_eq_false_iff_ne.2 (by omega), bne_iff_ne.2 (by omega), decide_eq_true (by omega), decide_eq_false (by omega)⟩)
theorem ld_ (a : A3 W) (b : W) (c : A3 Rt) : ai_ a b c = ((a9_ a b c).l, (a9_ a b c).is) := by
  unfold ai_ a9_ aN_
  rw [hu_, mS_]
  simp only [kB_, n8_, r2_, jz_, pd_, iK_, Of_eq, qd_]
  cases aJ_ a b with
  | false => rfl
  | true =>
  have hz : ∀ r : Rt, ak_ (ag_ (wl 0)) (af_ r (au_ (wl 1) (wl 2))) = af_ r (au_ (wl 1) (wl 2)) := fun r => jF_ (mK_ _ _)
  generalize an_ (aB_ a).1 c = x
  generalize an_ (aB_ a).2 c = y
  generalize an_ a c = z
  generalize ap_ a b (aB_ a).1 = s
  generalize ap_ a b (aB_ a).2 = t
  generalize ag_ (wl 0) = o at hz ⊢
  generalize au_ (wl 1) (wl 2) = hf at hz ⊢
  generalize af_ = mul at hz ⊢
  generalize ak_ = add at hz ⊢
  generalize aZ_ = sub
  generalize a8_ = div
  generalize b8_ = ab
  generalize aI_ = sg
  generalize (b.1 == 0) = b0
  have hx := jS_ (sg x).1
  have hy := jS_ (sg y).1
  generalize ((sg x).1 == 0) = xa at hx ⊢
  generalize ((sg x).1 != 0) = xb at hx ⊢
  generalize decide (0 ≤ (sg x).1) = xc at hx ⊢
  generalize decide ((sg x).1 < 0) = xd at hx ⊢
  generalize ((sg y).1 == 0) = ya at hy ⊢
  generalize ((sg y).1 != 0) = yb at hy ⊢
  generalize decide (0 ≤ (sg y).1) = yc at hy ⊢
  generalize decide ((sg y).1 < 0) = yd at hy ⊢
  generalize ((sg s).1 == 0) = sa
  generalize ((sg t).1 == 0) = ta
  rcases hx with ⟨_, rfl, rfl, rfl, rfl⟩ | ⟨_, rfl, rfl, rfl, rfl⟩ | ⟨_, rfl, rfl, rfl, rfl⟩ <;>
  rcases hy with ⟨_, rfl, rfl, rfl, rfl⟩ | ⟨_, rfl, rfl, rfl, rfl⟩ | ⟨_, rfl, rfl, rfl, rfl⟩ <;>
  dsimp only [cond_true, cond_false, Bool.not_true, Bool.not_false] <;>
  cases sa <;> cases ta <;>
  (try dsimp only [cond_true, cond_false, Bool.not_true, Bool.not_false, Bool.true_or, Bool.false_or, Bool.or_true, Bool.or_false]) <;>
  (try (generalize decide (_ < (0 : Int)) = w; cases w)) <;> cases b0 <;>
  (try dsimp only [cond_true, cond_false, List.nil_append, List.cons_append, List.getD_cons_zero, List.getD_cons_succ, List.set_cons_zero, List.set_cons_succ]) <;>
  first
  | rfl
  | simp [hz]
end Go.Num


set_option linter.unusedVariables false
set_option linter.unusedSimpArgs false
namespace Go.Num
open Go Go.Kn
theorem no_ (t : A3 W) : bS_ t t = E (Z.of (nrm t)) := by rw [← j0_]; exact (dotW t t).1
theorem nrm_B (t : A3 W) : (nrm t).natAbs < 2 ^ 130 := (dotW t t).2.lt
structure Ct (n : A3 W) (b : W) : Prop where
  x : n.x.1.natAbs < 2 ^ 29
  y : n.y.1.natAbs < 2 ^ 29
  z : n.z.1.natAbs < 2 ^ 29
  n0 : ¬ (n.x.1 = 0 ∧ n.y.1 = 0 ∧ n.z.1 = 0)
  b0 : 0 ≤ b.1
  b1 : b.1 ≤ 4000
theorem me_ {n : A3 W} {b : W} (h : aJ_ n b = true) : Ct n b := by
  unfold aJ_ at h
  have e : (2 : Nat) ^ 29 = 536870912 := rfl
  cases h1 : (decide (536870912 ≤ n.x.1) || decide (n.x.1 ≤ (-536870912)))
  · cases h2 : (decide (536870912 ≤ n.y.1) || decide (n.y.1 ≤ (-536870912)))
    · cases h3 : (decide (536870912 ≤ n.z.1) || decide (n.z.1 ≤ (-536870912)))
      · rw [h1, h2, h3] at h
        simp only [cond_false, Bool.and_eq_true, Bool.not_eq_true', Bool.and_eq_false_iff, decide_eq_true_eq, decide_eq_false_iff_not, Bool.or_eq_false_iff] at h h1 h2 h3
        obtain ⟨k1, k2, k3⟩ := h
        exact ⟨by omega, by omega, by omega, by omega, k2, k3⟩
      · rw [h1, h2, h3] at h; simp at h
    · rw [h1, h2] at h; simp at h
  · rw [h1] at h; simp at h
theorem Wsq {b : W} (h0 : 0 ≤ b.1) (h1 : b.1 ≤ 4000) : (W.mul b b).1 = b.1 * b.1 := by
  have h2 : b.1 * b.1 ≤ 4000 * 4000 := Int.mul_le_mul h1 h1 h0 (by decide)
  have h3 : 0 ≤ b.1 * b.1 := Int.mul_nonneg h0 h0
  show IntKind.i64.wrap (b.1 * b.1) = _
  exact wi (by omega)
theorem fi_ {n t : A3 W} {b : W} {K : Nat} (hb : 0 ≤ b.1) (hb1 : b.1 ≤ 4000) (hn : 0 ≤ nrm n) (ht : 0 < nrm t) (hK : slS n t b.1 < 2 ^ K) (hK2 : K ≤ 500) : (ap_ n b t).At ((slS n t b.1 : Rat) / 256) ∧ Az ((slS n t b.1 : Rat) / 256) K 9 := by
  have bn := nrm_B n
  have bt := nrm_B t
  have h2 : b.1 * b.1 ≤ 4000 * 4000 := Int.mul_le_mul hb1 hb1 hb (by decide)
  have h3 : 0 ≤ b.1 * b.1 := Int.mul_nonneg hb hb
  have bb : (b.1 * b.1).natAbs < 2 ^ 24 := by have : (2 : Nat) ^ 24 = 16777216 := rfl; omega
  have B1 := mbits bb bn
  have B2 := mbits B1 (show (65536 : Int).natAbs < 2 ^ 17 by decide)
  have B3 := mbits (show (1000000 : Int).natAbs < 2 ^ 20 by decide) bt
  have hq : 0 ≤ slQ n t b.1 := pD_ hb ht hn
  have hqB : (slQ n t b.1).natAbs < 2 ^ 171 := Nat.lt_of_le_of_lt (Int.natAbs_ediv_le_natAbs _ _) B2
  have e : ap_ n b t = ah_ (E (Z.of (slS n t b.1))) (E (Z.of 256)) := by
    unfold ap_
    simp only [no_, E_dec, Wsq hb hb1]
    rw [fb_ (B_pow bb (by decide)) (B_pow bn (by decide)), fb_ (B_pow B1 (by decide)) (by decide), fb_ (by decide) (B_pow bt (by decide)), hA_ (B_pow B2 (by decide)) (B_pow B3 (by decide)) (by omega)]
    rw [show b.1 * b.1 * nrm n * 65536 / (1000000 * nrm t) = slQ n t b.1 from rfl]
    have : Z.sqrt (Z.of (slQ n t b.1)) = Z.of (slS n t b.1) := by
      unfold Z.sqrt
      rw [cn_ (Z.of_some (B_pow hqB (by decide))), decide_eq_false (by omega), cond_false]; rfl
    rw [this]
  have s0 : 0 ≤ slS n t b.1 := ii_
  have sK : (slS n t b.1).natAbs < 2 ^ K := by
    have : ((slS n t b.1).natAbs : Int) < ((2 ^ K : Nat) : Int) := by rw [Int.natCast_pow]; show _ < (2 : Int) ^ K; omega
    exact Int.ofNat_lt.1 this
  have q0 : ((slS n t b.1 : Int) : Rat) = ((256 : Int) : Rat) * ((slS n t b.1 : Rat) / 256) := by
    rw [Rat.div_def, Rat.mul_comm, Rat.mul_assoc]
    show _ = _ * ((256 : Rat)⁻¹ * 256)
    rw [Rat.inv_mul_cancel _ (by decide), Rat.mul_one]
  rw [e]
  exact ⟨gt_ (B_pow sK (by omega)) (by decide) (by decide) (kM_ q0), Az_of q0 (by decide) sK (by decide)⟩
theorem rj_ (a : Rat) : 0 ≤ a * a := by
  rcases (Rat.le_total : (0 : Rat) ≤ a ∨ a ≤ 0) with h | h
  · exact Rat.mul_nonneg h h
  · have e : a * a = (-a) * (-a) := by grind
    rw [e]
    exact Rat.mul_nonneg (by grind) (by grind)
theorem j4_ {s : Rat} (h : 0 ≤ s) : 0 ≤ s⁻¹ := by
  by_cases h0 : s = 0
  · rw [h0, Rat.inv_zero]; exact Rat.le_refl
  · have e : s⁻¹ = s * (s⁻¹ * s⁻¹) := by rw [← Rat.mul_assoc, Rat.mul_inv_cancel _ h0, Rat.one_mul]
    rw [e]
    exact Rat.mul_nonneg h (rj_ _)
theorem i256 : (0 : Rat) ≤ (256 : Rat)⁻¹ := j4_ (by decide)
theorem fk_ : (ag_ (wl 0)).At 0 := by
  have h := Of_At (wl 0)
  rw [show (((wl 0).1 : Int) : Rat) = 0 from rfl] at h
  exact h
theorem zdiv (r : Rat) : (0 : Rat) / r = 0 := by rw [Rat.div_def, Rat.zero_mul]
def ab (q : Rat) : Rat := if 0 ≤ q then q else -q
theorem ab_nn (q : Rat) : 0 ≤ ab q := by unfold ab; split <;> grind
theorem ab_0 {q : Rat} (h : q = 0) : ab q = 0 := by subst h; rfl
theorem Az.ab {q : Rat} {A B : Nat} (h : Az q A B) : Az (ab q) A B := by
  unfold Go.Num.ab
  split
  · exact h
  · exact h.neg
theorem rq_ {a : Rt} {q : Rat} (h : a.At q) : (b8_ a).At (ab q) := by
  have h1 := nF_ (At.is h)
  unfold ab
  split
  · next h0 =>
    have : 0 ≤ q.num := Rat.num_nonneg.2 h0
    rw [show (q.num.natAbs : Int) = q.num by omega] at h1
    exact h1
  · next h0 =>
    have : ¬ 0 ≤ q.num := fun h => h0 (Rat.num_nonneg.1 h)
    rw [show (q.num.natAbs : Int) = -q.num by omega] at h1
    show Rt.Is _ (-q).num ((-q).den : Int)
    rw [Rat.neg_num]
    exact h1
theorem lC_ {q : Rat} : (q.num.sign == 0) = decide (q = 0) := by
  by_cases h : q = 0
  · rw [decide_eq_true h, h]; rfl
  · rw [decide_eq_false h]
    exact beq_eq_false_iff_ne.2 fun e => h (Rat.num_eq_zero.1 (Int.sign_eq_zero_iff_zero.1 e))
theorem gC_ {x a : Rt} {q s : Rat} {A B C D : Nat} (hx : x.At q) (ha : a.At s) (sx : Az q A B) (sa : Az s C D) (h1 : A + D ≤ 512) (h2 : B + C ≤ 512) :
    (aN_ x a).2 = (decide (q = 0) || !decide (s = 0)) ∧ ((q = 0 ∨ s ≠ 0) → (aN_ x a).1.At (ab q / s) ∧ Az (ab q / s) (A + D) (B + C)) := by
  unfold aN_
  rw [fM_ hx, fM_ ha, lC_, lC_]
  by_cases hq : q = 0
  · rw [decide_eq_true hq, cond_true]
    refine ⟨(Bool.true_or _).symm, fun _ => ?_⟩
    have e : ab q / s = 0 := by rw [ab_0 hq, Rat.div_def, Rat.zero_mul]
    rw [e]
    have b1 : 1 < 2 ^ B := by have := sx.d; have := q.den_pos; omega
    refine ⟨fk_, Nat.pow_pos (by decide), ?_⟩
    show 1 < 2 ^ (B + C)
    exact Nat.lt_of_lt_of_le b1 (dS_ (by omega))
  · rw [decide_eq_false hq, cond_false]
    by_cases hs : s = 0
    · rw [decide_eq_true hs, cond_true]
      exact ⟨by rw [Bool.false_or]; rfl, fun h => by rcases h with h | h; exact absurd h hq; exact absurd hs h⟩
    · rw [decide_eq_false hs, cond_false]
      exact ⟨by rw [Bool.false_or]; rfl, fun _ => ⟨p3_ (rq_ hx) ha hs sx.ab sa h1 h2, sx.ab.div sa hs⟩⟩
theorem oh_ {v : Int} (h : B512 v) : (bO_ (E (Z.of v))).At (v : Rat) := by
  unfold bO_
  rw [one4]
  exact gt_ h B1 (by decide) (by simp)
/-- The part of a force along a vector, in multiples of it. -/
def al (t : A3 W) (x y z : Rat) : Rat := ((t.x.1 : Rat) * x + (t.y.1 : Rat) * y + (t.z.1 : Rat) * z) / (nrm t : Rat)
theorem eC_ {t : A3 W} {f : A3 Rt} {x y z : Rat} {N A B : Nat} (tx : t.x.1.natAbs < 2 ^ N) (ty : t.y.1.natAbs < 2 ^ N) (tz : t.z.1.natAbs < 2 ^ N) (ht : 0 < nrm t) (hf : V3 f x y z A B) (h1 : N + A + 2 * B + 5 ≤ 512) (h2 : 3 * B + 2 * N + 5 ≤ 512) :
    (an_ t f).At (al t x y z) ∧ Az (al t x y z) (N + A + 2 * B + 5) (3 * B + 2 * N + 5) := by
  obtain ⟨p, q⟩ := mD_ (of3 tx ty tz) hf (by omega) (by omega)
  have hb := ri_ tx ty tz
  have hw := oh_ (v := nrm t) (B_pow hb (by omega))
  have h0 : ((nrm t : Int) : Rat) ≠ 0 := fun e => by have := Rat.intCast_eq_zero_iff.1 e; omega
  have d := p3_ p hw h0 q (.int hb) (by omega) (by omega)
  unfold an_
  rw [no_]
  exact ⟨d, (q.div (.int hb) h0).mono (by omega) (by omega)⟩
theorem Az.d1 {q : Rat} {A B : Nat} (h : Az q A B) : 1 ≤ B := by
  rcases Nat.eq_zero_or_pos B with e | e
  · subst e
    have := h.d
    have := q.den_pos
    omega
  · exact e
/-- What Split finds. -/
theorem lo_ {n : A3 W} {b : W} {f : A3 Rt} {x y z : Rat} {N A B K : Nat} (hc : Ct n b) (hcc : aJ_ n b = true) (hN : 1 ≤ N) (nx : n.x.1.natAbs < 2 ^ N) (ny : n.y.1.natAbs < 2 ^ N) (nz : n.z.1.natAbs < 2 ^ N) (hf : V3 f x y z A B)
    (k1 : slS n (tang n).1 b.1 < 2 ^ K) (k2 : slS n (tang n).2 b.1 < 2 ^ K) (h1 : 7 * N + A + 8 * B + 2 * K + 28 ≤ 512) (h2 : 9 * B + 8 * N + 17 + 2 * K ≤ 512) :
    (a9_ n b f).is = ((decide (al (tang n).1 x y z = 0) || !decide ((slS n (tang n).1 b.1 : Rat) / 256 = 0)) && ((decide (al (tang n).2 x y z = 0) || !decide ((slS n (tang n).2 b.1 : Rat) / 256 = 0)) && decide (0 ≤ al n x y z - ab (al (tang n).1 x y z) / ((slS n (tang n).1 b.1 : Rat) / 256) - ab (al (tang n).2 x y z) / ((slS n (tang n).2 b.1 : Rat) / 256)))) := by
  have tg := jf_ hc.x hc.y hc.z hc.n0
  obtain ⟨tx, ty, tz⟩ := tg.tb N hN nx ny nz
  obtain ⟨ux, uy, uz⟩ := tg.ub N hN nx ny nz
  have pn := dT_ hc.n0
  have pt := dT_ tg.t0
  have pu := dT_ tg.u0
  have hB := hf.sx.d1
  obtain ⟨a1, s1⟩ := eC_ tx ty tz pt hf (by omega) (by omega)
  obtain ⟨a2, s2⟩ := eC_ ux uy uz pu hf (by omega) (by omega)
  obtain ⟨a3, s3⟩ := eC_ nx ny nz pn hf (by omega) (by omega)
  obtain ⟨b1, r1⟩ := fi_ hc.b0 hc.b1 (Int.le_of_lt pn) pt k1 (by omega)
  obtain ⟨b2, r2⟩ := fi_ hc.b0 hc.b1 (Int.le_of_lt pn) pu k2 (by omega)
  obtain ⟨c1, d1⟩ := gC_ a1 b1 s1 r1 (by omega) (by omega)
  obtain ⟨c2, d2⟩ := gC_ a2 b2 s2 r2 (by omega) (by omega)
  unfold a9_
  rw [hcc, cond_true, g3_]
  simp only
  rw [c1, c2]
  by_cases g1 : al (tang n).1 x y z = 0 ∨ (slS n (tang n).1 b.1 : Rat) / 256 ≠ 0
  · have e1 : (decide (al (tang n).1 x y z = 0) || !decide ((slS n (tang n).1 b.1 : Rat) / 256 = 0)) = true := by simpa using g1
    by_cases g2 : al (tang n).2 x y z = 0 ∨ (slS n (tang n).2 b.1 : Rat) / 256 ≠ 0
    · have e2 : (decide (al (tang n).2 x y z = 0) || !decide ((slS n (tang n).2 b.1 : Rat) / 256 = 0)) = true := by simpa using g2
      obtain ⟨p1, q1⟩ := d1 g1
      obtain ⟨p2, q2⟩ := d2 g2
      have m1 := gH_ a3 p1 s3 q1 (by omega) (by omega) (by omega)
      have w1 := s3.sub (c := 3 * N + A + 5 * B + K + 20) q1 (by omega) (by omega)
      have m2 := gH_ m1 p2 w1 q2 (by omega) (by omega) (by omega)
      rw [e1, e2, fM_ m2]
      simp only [Bool.not_true, Bool.false_or, Bool.true_and]
      have e3 : decide ((al n x y z - ab (al (tang n).1 x y z) / ((slS n (tang n).1 b.1 : Rat) / 256) - ab (al (tang n).2 x y z) / ((slS n (tang n).2 b.1 : Rat) / 256)).num.sign < 0) = !decide (0 ≤ al n x y z - ab (al (tang n).1 x y z) / ((slS n (tang n).1 b.1 : Rat) / 256) - ab (al (tang n).2 x y z) / ((slS n (tang n).2 b.1 : Rat) / 256)) := by
        rw [← decide_not]
        exact decide_eq_decide.2 (by rw [Int.sign_neg_iff, ← Rat.num_nonneg]; omega)
      rw [e3]
      cases decide (0 ≤ al n x y z - ab (al (tang n).1 x y z) / ((slS n (tang n).1 b.1 : Rat) / 256) - ab (al (tang n).2 x y z) / ((slS n (tang n).2 b.1 : Rat) / 256))
      · rfl
      · rw [Bool.not_true, cond_false]
        cases (b.1 == 0)
        · rw [cond_false]
          cases decide ((aI_ (an_ (tang n).1 f)).1 < 0) <;> cases decide ((aI_ (an_ (tang n).2 f)).1 < 0) <;> rfl
        · rfl
    · have e2 : (decide (al (tang n).2 x y z = 0) || !decide ((slS n (tang n).2 b.1 : Rat) / 256 = 0)) = false := by simpa using g2
      rw [e1, e2]; rfl
  · have e1 : (decide (al (tang n).1 x y z = 0) || !decide ((slS n (tang n).1 b.1 : Rat) / 256 = 0)) = false := by simpa using g1
    rw [e1]; rfl
theorem lZ_ {n : A3 W} {b : W} {f : A3 Rt} {x y z : Rat} {N A B : Nat} (hc : Ct n b) (hcc : aJ_ n b = true) (nx : n.x.1.natAbs < 2 ^ N) (ny : n.y.1.natAbs < 2 ^ N) (nz : n.z.1.natAbs < 2 ^ N) (hf : V3 f x y z A B) (h1 : 2 * A + 2 * N + 10 * B + 34 ≤ 512) (h2 : 12 * B + 13 ≤ 512) :
    cU_ n b f = (decide (0 ≤ (n.x.1 : Rat) * x + (n.y.1 : Rat) * y + (n.z.1 : Rat) * z) && decide ((1000000 : Rat) * ((y * n.z.1 - z * n.y.1) * (y * n.z.1 - z * n.y.1) + (z * n.x.1 - x * n.z.1) * (z * n.x.1 - x * n.z.1) + (x * n.y.1 - y * n.x.1) * (x * n.y.1 - y * n.x.1)) ≤ ((b.1 * b.1 : Int) : Rat) * (((n.x.1 : Rat) * x + (n.y.1 : Rat) * y + (n.z.1 : Rat) * z) * ((n.x.1 : Rat) * x + (n.y.1 : Rat) * y + (n.z.1 : Rat) * z)))) := by
  have hn := of3 nx ny nz
  have o := sn_ hf hn (by omega) (by omega)
  obtain ⟨p, q⟩ := mD_ o o (by omega) (by omega)
  obtain ⟨p2, q2⟩ := mD_ hn hf (by omega) (by omega)
  have l := eO_ (Of_At (wl 1000000)) p (Az.int (a := 20) (by decide)) q (by omega) (by omega)
  have r := eO_ p2 p2 q2 q2 (by omega) (by omega)
  have hbb := Of_At (W.mul b b)
  rw [Wsq hc.b0 hc.b1] at hbb
  have h2 : b.1 * b.1 ≤ 4000 * 4000 := Int.mul_le_mul hc.b1 hc.b1 hc.b0 (by decide)
  have h3 : 0 ≤ b.1 * b.1 := Int.mul_nonneg hc.b0 hc.b0
  have r2 := eO_ hbb r (Az.int (a := 24) (by have : (2 : Nat) ^ 24 = 16777216 := rfl; omega)) (q2.mul q2) (by omega) (by omega)
  unfold cU_
  rw [hcc]
  show (bif (!true || decide ((aI_ (bd_ (ao_ n) f)).1 < 0)) then false else decide ((cX_ _ _).1 ≤ 0)) = _
  rw [fM_ p2, ← qv_]
  have e1 : decide ((cv_ (af_ (ag_ (wl 1000000)) (bd_ (cK_ f (ao_ n)) (cK_ f (ao_ n)))) (af_ (ag_ (W.mul b b)) (af_ (bd_ (ao_ n) f) (bd_ (ao_ n) f)))).1 ≤ 0) = decide ((1000000 : Rat) * ((y * n.z.1 - z * n.y.1) * (y * n.z.1 - z * n.y.1) + (z * n.x.1 - x * n.z.1) * (z * n.x.1 - x * n.z.1) + (x * n.y.1 - y * n.x.1) * (x * n.y.1 - y * n.x.1)) ≤ ((b.1 * b.1 : Int) : Rat) * (((n.x.1 : Rat) * x + (n.y.1 : Rat) * y + (n.z.1 : Rat) * z) * ((n.x.1 : Rat) * x + (n.y.1 : Rat) * y + (n.z.1 : Rat) * z))) := decide_eq_decide.2 (rB_ l r2)
  have e2 : decide (((n.x.1 : Rat) * x + (n.y.1 : Rat) * y + (n.z.1 : Rat) * z).num.sign < 0) = !decide (0 ≤ (n.x.1 : Rat) * x + (n.y.1 : Rat) * y + (n.z.1 : Rat) * z) := by
    rw [← decide_not]
    exact decide_eq_decide.2 (by rw [Int.sign_neg_iff, ← Rat.num_nonneg]; omega)
  rw [e2, Bool.not_true, Bool.false_or]
  cases decide (0 ≤ (n.x.1 : Rat) * x + (n.y.1 : Rat) * y + (n.z.1 : Rat) * z)
  · rfl
  · rw [Bool.not_true, cond_false, Bool.true_and]
    exact e1
theorem kr_ {a : Rt} {i j : Int} (g : ae_ a = true) (h1 : (Z.bitsW a.n.dec).1 ≤ i) (h2 : (Z.bitsW a.d.dec).1 ≤ j) : ∃ p, a.At p ∧ Az p i.toNat j.toNat := by
  obtain ⟨p, hp⟩ := qP_ g
  refine ⟨p, hp, ?_⟩
  rw [(At.is hp).en] at h1
  rw [(At.is hp).ed] at h2
  rw [E_dec] at h1 h2
  have e1 : (Z.bitsW (Z.of p.num)).1 = ((bl p.num.natAbs : Nat) : Int) := congrArg Int.ofNat (m6_ (At.is hp).hn)
  have e2 : (Z.bitsW (Z.of (p.den : Int))).1 = ((bl p.den : Nat) : Int) := congrArg Int.ofNat (m6_ (At.is hp).hd)
  rw [e1] at h1
  rw [e2] at h2
  exact ⟨Nat.lt_of_lt_of_le (bl_lt _) (dS_ (by omega)), Nat.lt_of_lt_of_le (bl_lt _) (dS_ (by omega))⟩
theorem o4_ {n t : A3 W} {b : Int} {K : Nat} (hb : 0 ≤ b) (hb1 : b ≤ 4000) (ht : 0 < nrm t) (hn : 0 ≤ nrm n) (hk : 1048576 * nrm n < 2 ^ K * 2 ^ K) : slS n t b < 2 ^ K := by
  have h1 := pE_ (t := t) hb hb1 ht hn (Int.le_refl _)
  have hB : (slQ n t b).toNat < 4294967296 ^ 16 := by
    have := nrm_B n
    have e : (2 : Nat) ^ 130 * 1048576 < 4294967296 ^ 16 := by decide
    omega
  obtain ⟨h2, _⟩ := pS_ hb ht hn hB
  apply Classical.byContradiction
  intro hc
  have : (2 : Int) ^ K * 2 ^ K ≤ slS n t b * slS n t b := Int.mul_le_mul (by omega) (by omega) (Int.le_of_lt (Int.pow_pos (by decide))) ii_
  omega
theorem slQ_B {n t : A3 W} {b : Int} (hb : 0 ≤ b) (hb1 : b ≤ 4000) (ht : 0 < nrm t) (hn : 0 ≤ nrm n) : (slQ n t b).toNat < 4294967296 ^ 16 := by
  have h1 := pE_ (t := t) hb hb1 ht hn (Int.le_refl _)
  have := nrm_B n
  have e : (2 : Nat) ^ 130 * 1048576 < 4294967296 ^ 16 := by decide
  omega
structure Cm (q : Rat) (L : Int) (a : Nat) : Prop where
  h : ∃ U : Int, (U : Rat) = (L : Rat) * q ∧ U.natAbs < 2 ^ a
theorem Cm.mono {q : Rat} {L : Int} {a b : Nat} (h : Cm q L a) (hb : a ≤ b) : Cm q L b := by
  obtain ⟨U, h1, h2⟩ := h.h
  exact ⟨U, h1, Nat.lt_of_lt_of_le h2 (dS_ hb)⟩
theorem Cm.add {q r : Rat} {L : Int} {a : Nat} (h : Cm q L a) (g : Cm r L a) : Cm (q + r) L (a + 1) := by
  obtain ⟨U, h1, h2⟩ := h.h
  obtain ⟨V, g1, g2⟩ := g.h
  refine ⟨U + V, by rw [Rat.intCast_add, h1, g1, Rat.mul_add], ?_⟩
  rw [Nat.pow_succ]; omega
theorem Cm.mul {q r : Rat} {L M : Int} {a b : Nat} (h : Cm q L a) (g : Cm r M b) : Cm (q * r) (L * M) (a + b) := by
  obtain ⟨U, h1, h2⟩ := h.h
  obtain ⟨V, g1, g2⟩ := g.h
  exact ⟨U * V, by rw [Rat.intCast_mul, Rat.intCast_mul, h1, g1]; grind, mbits h2 g2⟩
theorem Cm.zero {L : Int} {a : Nat} : Cm 0 L a := ⟨0, by rw [Rat.mul_zero]; rfl, Nat.pow_pos (by decide)⟩
theorem Cm.az {q : Rat} {L : Int} {a b : Nat} (h : Cm q L a) (hL : 0 < L) (hb : L.natAbs < 2 ^ b) : Az q a b := by
  obtain ⟨U, h1, h2⟩ := h.h
  exact Az_of h1 hL h2 hb
theorem pi_ {a b : A3 Rt} {x y z : Rat} {A B C D : Nat} (ha : V3 a x y z A B) (hb : V3 b x y z C D) : a = b := by
  obtain ⟨a1, a2, a3⟩ := a
  obtain ⟨b1, b2, b3⟩ := b
  have e1 := kb_ ha.hx hb.hx
  have e2 := kb_ ha.hy hb.hy
  have e3 := kb_ ha.hz hb.hz
  simp only at e1 e2 e3
  rw [e1, e2, e3]
/-- n + S / 256 t. -/
def ed (a S c : Int) : Rat := (a : Rat) + (S : Rat) / 256 * (c : Rat)
theorem ed_eq (a S c : Int) : ((256 * a + S * c : Int) : Rat) = ((256 : Int) : Rat) * ed a S c := by
  unfold ed
  have h : (256 : Rat) ≠ 0 := by decide
  have h2 : ((256 : Int) : Rat) = 256 := rfl
  rw [Rat.intCast_add, Rat.intCast_mul, Rat.intCast_mul, h2, Rat.div_def]
  have := Rat.mul_inv_cancel (256 : Rat) h
  grind
theorem ed_Cm {a S c : Int} {N K M : Nat} (ha : a.natAbs < 2 ^ N) (hS : S.natAbs < 2 ^ K) (hc : c.natAbs < 2 ^ M) (h : N + 8 ≤ K + M) : Cm (ed a S c) 256 (K + M + 1) := by
  refine ⟨256 * a + S * c, ed_eq a S c, ?_⟩
  have h1 := mbits hS hc
  have h2 := mbits (show (256 : Int).natAbs < 2 ^ 9 by decide) ha
  have h3 : (256 * a).natAbs < 2 ^ (K + M) := by
    rw [Int.natAbs_mul]
    have e : (2 : Nat) ^ (N + 8) = 256 * 2 ^ N := by rw [Nat.pow_add, Nat.mul_comm]
    have := dS_ h
    show 256 * a.natAbs < _
    omega
  rw [Nat.pow_succ]; omega
structure Sl (n t : A3 W) (b : W) (N M K : Nat) : Prop where
  c : Ct n b
  nx : n.x.1.natAbs < 2 ^ N
  ny : n.y.1.natAbs < 2 ^ N
  nz : n.z.1.natAbs < 2 ^ N
  tx : t.x.1.natAbs < 2 ^ M
  ty : t.y.1.natAbs < 2 ^ M
  tz : t.z.1.natAbs < 2 ^ M
  t0 : 0 < nrm t
  o : n.x.1 * t.x.1 + n.y.1 * t.y.1 + n.z.1 * t.z.1 = 0
  k : slS n t b.1 + 1 < 2 ^ K
  h : N + 8 ≤ K + M
section
variable {n t : A3 W} {b : W} {N M K : Nat}
theorem Sl.S (h : Sl n t b N M K) : (slS n t b.1).natAbs < 2 ^ K ∧ (-(slS n t b.1)).natAbs < 2 ^ K ∧ (slS n t b.1 + 1).natAbs < 2 ^ K := by
  have h0 : 0 ≤ slS n t b.1 := ii_
  have h1 := h.k
  have h2 : ((2 ^ K : Nat) : Int) = (2 : Int) ^ K := Int.natCast_pow ..
  omega
/-- The edges along a tangent, and a point farther out. -/
theorem o5_ (h : Sl n t b N M K) (hk : K + M + 20 ≤ 512) : V3 (aH_ (ao_ n) (aw_ (ap_ n b t) (ao_ t))) (ed n.x.1 (slS n t b.1) t.x.1) (ed n.y.1 (slS n t b.1) t.y.1) (ed n.z.1 (slS n t b.1) t.z.1) (K + M + 1) 9 := by
  obtain ⟨p, q⟩ := fi_ (K := K) h.c.b0 h.c.b1 (Int.le_of_lt (dT_ h.c.n0)) h.t0 (by have := h.k; omega) (by omega)
  have v := mC_ p q (of3 h.tx h.ty h.tz) (by omega) (by omega)
  have hh := h.h
  have w := plus3 (E := K + M + 3) (of3 h.nx h.ny h.nz) v (by omega) (by omega) (by omega) (by omega)
  exact ⟨w.hx, w.hy, w.hz, (ed_Cm h.nx h.S.1 h.tx h.h).az (by decide) (by decide), (ed_Cm h.ny h.S.1 h.ty h.h).az (by decide) (by decide), (ed_Cm h.nz h.S.1 h.tz h.h).az (by decide) (by decide)⟩
theorem sr_ (a S c : Int) : (a : Rat) - (S : Rat) / 256 * (c : Rat) = ed a (-S) c := by
  unfold ed
  rw [Rat.intCast_neg, Rat.div_def, Rat.div_def]; grind
theorem pR_ (h : Sl n t b N M K) (hk : K + M + 20 ≤ 512) : V3 (bC_ (ao_ n) (aw_ (ap_ n b t) (ao_ t))) (ed n.x.1 (-(slS n t b.1)) t.x.1) (ed n.y.1 (-(slS n t b.1)) t.y.1) (ed n.z.1 (-(slS n t b.1)) t.z.1) (K + M + 1) 9 := by
  obtain ⟨p, q⟩ := fi_ (K := K) h.c.b0 h.c.b1 (Int.le_of_lt (dT_ h.c.n0)) h.t0 (by have := h.k; omega) (by omega)
  have v := mC_ p q (of3 h.tx h.ty h.tz) (by omega) (by omega)
  have hh := h.h
  have w := rl_ (E := K + M + 3) (of3 h.nx h.ny h.nz) v (by omega) (by omega) (by omega) (by omega)
  have e := w.hx
  have e2 := w.hy
  have e3 := w.hz
  rw [sr_] at e e2 e3
  exact ⟨e, e2, e3, (ed_Cm h.nx h.S.2.1 h.tx h.h).az (by decide) (by decide), (ed_Cm h.ny h.S.2.1 h.ty h.h).az (by decide) (by decide), (ed_Cm h.nz h.S.2.1 h.tz h.h).az (by decide) (by decide)⟩
end
theorem rZ_ (n : A3 W) (b : W) (f : A3 Rt) : c3_ n b f = (a9_ n b f).is := by unfold c3_; rw [ld_]
theorem qX_ {n : A3 W} {b : W} (hcc : aJ_ n b = true) (hb : b.1 ≠ 0) : b7_ n b = ⟨[aH_ (ao_ n) (aw_ (ap_ n b (tang n).1) (ao_ (tang n).1)), bC_ (ao_ n) (aw_ (ap_ n b (tang n).1) (ao_ (tang n).1)), aH_ (ao_ n) (aw_ (ap_ n b (tang n).2) (ao_ (tang n).2)), bC_ (ao_ n) (aw_ (ap_ n b (tang n).2) (ao_ (tang n).2))], wl 0⟩ := by
  unfold b7_
  rw [hcc, cond_true, beq_eq_false_iff_ne.2 hb, cond_false, g3_]
end Go.Num

