/- Rational arithmetic at numbers, with the sizes above and below apart. No program stands in it. Cones: tangents, slopes and vectors at numbers. No program stands in it. Cones: the program returns what the specification defines; three statements. No program stands in it. -/
import Derived.Test.YtapbefpeopaecaaGreatDoorYPQ
import Derived.KernelRfl

set_option linter.unusedVariables false
set_option linter.unusedSimpArgs false
namespace Go.Num
open Go Go.Kn
/-- Above of less than a bits, below of less than b bits. -/
structure Az (q : Rat) (a b : Nat) : Prop where
  n : q.num.natAbs < 2 ^ a
  d : q.den < 2 ^ b
theorem Sz.az {q : Rat} {k : Nat} (h : Sz q k) : Az q k k := ⟨h.n, h.d⟩
theorem Az.sz {q : Rat} {a b k : Nat} (h : Az q a b) (h1 : a ≤ k) (h2 : b ≤ k) : Sz q k := ⟨Nat.lt_of_lt_of_le h.n (fk_ h1), Nat.lt_of_lt_of_le h.d (fk_ h2)⟩
section
variable {p q : Rat} {a b a' b' : Nat}
theorem Az.mono (h : Az q a b) (h1 : a ≤ a') (h2 : b ≤ b') : Az q a' b' := ⟨Nat.lt_of_lt_of_le h.n (fk_ h1), Nat.lt_of_lt_of_le h.d (fk_ h2)⟩
theorem Az.bn (h : Az q a b) (hk : a ≤ 512) : B512 q.num := B_pow h.n hk
theorem Az.bd (h : Az q a b) (hk : b ≤ 512) : B512 (q.den : Int) := B_pow (by simpa using h.d) hk
theorem kr_ {q : Rat} {n d : Int} (h : (n : Rat) = (d : Rat) * q) : q.num * d = n * q.den := by
  have h1 := Rat.num_divInt_den q
  have hd := @iR_ q
  by_cases h0 : d = 0
  · subst h0
    have : n = 0 := Rat.intCast_eq_zero_iff.1 (by rw [h]; exact Rat.zero_mul _)
    rw [this]; omega
  · have e : q = Rat.divInt n d := by
      rw [Rat.divInt_eq_div, h, Rat.div_def, Rat.mul_comm, ← Rat.mul_assoc, Rat.inv_mul_cancel _ (fun e => h0 (Rat.intCast_eq_zero_iff.1 e)), Rat.one_mul]
    rw [e] at h1
    conv at h1 => lhs; rw [← e]
    exact (Rat.divInt_eq_divInt_iff (by omega) h0).1 h1
theorem Az_of {n d : Int} (h : (n : Rat) = (d : Rat) * q) (h0 : 0 < d) (hn : n.natAbs < 2 ^ a) (hd : d.natAbs < 2 ^ b) : Az q a b := by
  have e := congrArg Int.natAbs (kr_ h)
  rw [Int.natAbs_mul, Int.natAbs_mul, Int.natAbs_natCast] at e
  have hr := q.reduced
  have k1 : q.den ∣ d.natAbs := (Nat.Coprime.symm hr).dvd_of_dvd_mul_left (by rw [e]; exact Nat.dvd_mul_left ..)
  have k2 : q.num.natAbs ∣ n.natAbs := Nat.Coprime.dvd_of_dvd_mul_right hr (by rw [← e]; exact Nat.dvd_mul_right ..)
  refine ⟨?_, Nat.lt_of_le_of_lt (Nat.le_of_dvd (by omega) k1) hd⟩
  by_cases hz : n.natAbs = 0
  · rw [hz, Nat.zero_mul] at e
    rcases Nat.mul_eq_zero.1 e with h1 | h1
    · rw [h1]; exact Nat.pow_pos (by decide)
    · omega
  · exact Nat.lt_of_le_of_lt (Nat.le_of_dvd (by omega) k2) hn
theorem Az.mul (h : Az p a b) (g : Az q a' b') : Az (p * q) (a + a') (b + b') := by
  constructor
  · rw [Rat.num_mul]
    refine Nat.lt_of_le_of_lt (Int.natAbs_ediv_le_natAbs _ _) ?_
    rw [Int.natAbs_mul]; exact dG_ h.n g.n
  · rw [Rat.den_mul]
    exact Nat.lt_of_le_of_lt (Nat.div_le_self _ _) (dG_ h.d g.d)
theorem Az.neg (h : Az p a b) : Az (-p) a b := ⟨by rw [Rat.neg_num, Int.natAbs_neg]; exact h.n, h.d⟩
theorem kq_ {n m : Int} {d e c : Nat} (h1 : n.natAbs < 2 ^ a) (h2 : e < 2 ^ b') (h3 : m.natAbs < 2 ^ a') (h4 : d < 2 ^ b) (k1 : a + b' < c) (k2 : a' + b < c) : (n * e + m * d).natAbs < 2 ^ c := by
  obtain ⟨c, rfl⟩ : ∃ k, c = k + 1 := ⟨c - 1, by omega⟩
  have x := Nat.lt_of_lt_of_le (dG_ h1 h2) (fk_ (show a + b' ≤ c by omega))
  have y := Nat.lt_of_lt_of_le (dG_ h3 h4) (fk_ (show a' + b ≤ c by omega))
  have z := Int.natAbs_add_le (n * e) (m * d)
  rw [Int.natAbs_mul, Int.natAbs_mul, Int.natAbs_natCast, Int.natAbs_natCast] at z
  rw [Nat.pow_succ]
  omega
theorem Az.add {c : Nat} (h : Az p a b) (g : Az q a' b') (k1 : a + b' < c) (k2 : a' + b < c) : Az (p + q) c (b + b') := by
  constructor
  · rw [Rat.num_add]
    exact Nat.lt_of_le_of_lt (Int.natAbs_ediv_le_natAbs _ _) (kq_ h.n g.d g.n h.d k1 k2)
  · rw [Rat.den_add]
    exact Nat.lt_of_le_of_lt (Nat.div_le_self _ _) (dG_ h.d g.d)
theorem Az.sub {c : Nat} (h : Az p a b) (g : Az q a' b') (k1 : a + b' < c) (k2 : a' + b < c) : Az (p - q) c (b + b') := by rw [Rat.sub_eq_add_neg]; exact h.add g.neg k1 k2
theorem Az.int {n : Int} (h : n.natAbs < 2 ^ a) : Az (n : Rat) a 1 := ⟨h, (by show 1 < 2 ^ 1; decide)⟩
theorem fO_ {x y : Rt} (hx : x.At p) (hy : y.At q) (hp : Az p a b) (hq : Az q a' b') (h : a + a' ≤ 512) (h' : b + b' ≤ 512) : (aj_ x y).At (p * q) :=
  r7_ hx hy ((hp.mul hq).bn h) ((hp.mul hq).bd h')
theorem iG_ {x' y' : Rt} (ha : x'.At p) (hb : y'.At q) (hp : Az p a b) (hq : Az q a' b') (h1 : a + b' < 512) (h2 : a' + b < 512) (h3 : b + b' ≤ 512) : (aq_ x' y').At (p + q) := by
  unfold aq_
  rw [iq_ ha, iq_ hb]
  simp only [Bool.not_true, Bool.or_false, cond_false]
  have ia := At.is ha
  have ib := At.is hb
  rw [ia.en, ia.ed, ib.en, ib.ed]
  simp only [E_dec]
  have hdp := @iR_ p
  have hdq := @iR_ q
  have hg : 0 < ((Int.gcd (p.den : Int) (q.den : Int) : Nat) : Int) := by
    have := Int.gcd_pos_of_ne_zero_right (p.den : Int) (show (q.den : Int) ≠ 0 by omega)
    omega
  have hbg := gcd_B (u := (p.den : Int)) ib.hd (by omega)
  have g1 : ((Int.gcd (p.den : Int) (q.den : Int) : Nat) : Int) ∣ (p.den : Int) := Int.gcd_dvd_left ..
  have g2 : ((Int.gcd (p.den : Int) (q.den : Int) : Nat) : Int) ∣ (q.den : Int) := Int.gcd_dvd_right ..
  rw [hy_ ia.hd ib.hd, hs_ ib.hd hbg hg, hs_ ia.hd hbg hg]
  generalize ((Int.gcd (p.den : Int) (q.den : Int) : Nat) : Int) = G at *
  obtain ⟨x, hx⟩ := g1
  obtain ⟨y, hy⟩ := g2
  have q1 : (p.den : Int) / G = x := by rw [hx]; exact Int.mul_ediv_cancel_left _ (by omega)
  have q2 : (q.den : Int) / G = y := by rw [hy]; exact Int.mul_ediv_cancel_left _ (by omega)
  rw [q1, q2]
  have x0 : 0 < x := by rw [hx] at hdp; exact Int.pos_of_mul_pos_right hdp hg
  have y0 : 0 < y := by rw [hy] at hdq; exact Int.pos_of_mul_pos_right hdq hg
  have xl : x ≤ p.den := by rw [hx]; have := Int.mul_le_mul_of_nonneg_right (show (1 : Int) ≤ G by omega) (Int.le_of_lt x0); omega
  have yl : y ≤ q.den := by rw [hy]; have := Int.mul_le_mul_of_nonneg_right (show (1 : Int) ≤ G by omega) (Int.le_of_lt y0); omega
  have x1 : x.toNat < 2 ^ b := Nat.lt_of_le_of_lt (by omega) hp.d
  have y1 : y.toNat < 2 ^ b' := Nat.lt_of_le_of_lt (by omega) hq.d
  have xe : x = (x.toNat : Int) := by omega
  have ye : y = (y.toNat : Int) := by omega
  have bx : B512 x := B_pow (k := b) (by rw [xe, Int.natAbs_natCast]; exact x1) (by omega)
  have by' : B512 y := B_pow (k := b') (by rw [ye, Int.natAbs_natCast]; exact y1) (by omega)
  rw [gG_ ia.hn by', gG_ ib.hn bx, gG_ bx ib.hd]
  have t1 : (p.num * y).natAbs < 2 ^ (a + b') := by rw [Int.natAbs_mul]; exact dG_ hp.n (by omega)
  have t2 : (q.num * x).natAbs < 2 ^ (a' + b) := by rw [Int.natAbs_mul]; exact dG_ hq.n (by omega)
  have t3 : (x * (q.den : Int)).natAbs < 2 ^ (b + b') := by rw [Int.natAbs_mul]; exact dG_ (by omega) (by simpa using hq.d)
  rw [rk_ (B_pow t1 (by omega)) (B_pow t2 (by omega))]
  have t4 : (p.num * y + q.num * x).natAbs < 2 ^ (max (a + b') (a' + b) + 1) := by
    have u1 := Nat.lt_of_lt_of_le t1 (fk_ (show a + b' ≤ max (a + b') (a' + b) by omega))
    have u2 := Nat.lt_of_lt_of_le t2 (fk_ (show a' + b ≤ max (a + b') (a' + b) by omega))
    rw [Nat.pow_succ]; omega
  refine h8_ (B_pow t4 (by omega)) (B_pow t3 h3) (Int.mul_pos x0 hdq) ?_
  have key : p + q = Rat.divInt (p.num * y + q.num * x) (x * q.den) := by
    conv => lhs; rw [← Rat.num_divInt_den p, ← Rat.num_divInt_den q, Rat.divInt_add_divInt _ _ (by omega) (by omega)]
    refine (Rat.divInt_eq_divInt_iff (Int.mul_ne_zero (by omega) (by omega)) (Int.mul_ne_zero (by omega) (by omega))).2 ?_
    rw [hx, hy]; grind
  have h3 := Rat.num_divInt_den (p + q)
  rw [key] at h3 ⊢
  have h4 := (Rat.divInt_eq_divInt_iff (by have := @iR_ (Rat.divInt (p.num * y + q.num * x) (x * q.den)); omega) (Int.mul_ne_zero (by omega) (by omega))).1 h3
  exact h4
theorem kN_ {x y : Rt} (ha : x.At p) (hb : y.At q) (hp : Az p a b) (hq : Az q a' b') (h1 : a + b' < 512) (h2 : a' + b < 512) (h3 : b + b' ≤ 512) : (aw_ x y).At (p - q) := by
  unfold aw_
  rw [Rat.sub_eq_add_neg]
  exact iG_ ha (rq_ hb) hp hq.neg h1 h2 h3
end
end Go.Num


set_option linter.unusedVariables false
set_option linter.unusedSimpArgs false
namespace Go.Num
open Go Go.Kn
theorem okW_v {v : Int} (h : -2305843009213693952 < v ∧ v < 2305843009213693952) : okW (Z.of v) = true := by
  have hv : (W.cv v).1 = v := by
    show IntKind.i64.wrap v = v
    exact wi (by omega)
  exact (q4_ (w := W.cv v) (by rw [hv]) (by rw [hv]; exact h)).1
theorem msn (a : Int) : 0 ≤ a * a := by
  rcases Int.le_total 0 a with h | h
  · exact Int.mul_nonneg h h
  · exact Int.mul_nonneg_of_nonpos_of_nonpos h h
theorem msz {a : Int} (h : a * a = 0) : a = 0 := by rcases Int.mul_eq_zero.1 h with h | h <;> exact h
theorem iK_ {a : A3 I} {x y z : Int} (hx : a.x.dec = Z.of x) (hy : a.y.dec = Z.of y) (hz : a.z.dec = Z.of z) (bx : x.natAbs < 2 ^ 61) (bY : y.natAbs < 2 ^ 61) (bz : z.natAbs < 2 ^ 61) (h0 : ¬ (x = 0 ∧ y = 0 ∧ z = 0)) : (prim a).2.1 = 0 := by
  have e61 : (2 : Nat) ^ 61 = 2305843009213693952 := rfl
  have B : ∀ {v : Int}, v.natAbs < 2 ^ 61 → B512 v := fun h => B_pow h (by decide)
  have g1 : (Int.gcd 0 x : Nat) = x.natAbs := by simp
  have B1 : B512 ((Int.gcd 0 x : Nat) : Int) := B (by rw [Int.natAbs_natCast, g1]; exact bx)
  have le2 : ∀ (u v : Int), u.natAbs < 2 ^ 61 → v.natAbs < 2 ^ 61 → Int.gcd u v < 2 ^ 61 := fun u v hu hv => by
    by_cases h : u = 0
    · subst h; simpa using hv
    · exact Nat.lt_of_le_of_lt (Nat.le_of_dvd (by omega) (Nat.gcd_dvd_left _ _)) hu
  have b1 := le2 0 x (by decide) bx
  have b2 := le2 (Int.gcd 0 x : Nat) y (by rw [Int.natAbs_natCast]; exact b1) bY
  have b3 := le2 (Int.gcd (Int.gcd 0 x : Nat) y : Nat) z (by rw [Int.natAbs_natCast]; exact b2) bz
  have hg : gcd3 a = Z.of ((Int.gcd (Int.gcd (Int.gcd 0 x : Nat) y : Nat) z : Nat) : Int) := by
    unfold gcd3
    rw [hx, hy, hz, hy_ B0 (B bx), hy_ (B (by rw [Int.natAbs_natCast]; exact b1)) (B bY), hy_ (B (by rw [Int.natAbs_natCast]; exact b2)) (B bz)]
  have hpos : 0 < Int.gcd (Int.gcd (Int.gcd 0 x : Nat) y : Nat) z := by
    rcases Nat.eq_zero_or_pos (Int.gcd (Int.gcd (Int.gcd 0 x : Nat) y : Nat) z) with h | h
    · obtain ⟨h1, h2⟩ := Int.gcd_eq_zero_iff.1 h
      obtain ⟨h3, h4⟩ := Int.gcd_eq_zero_iff.1 (show Int.gcd (Int.gcd 0 x : Nat) y = 0 by omega)
      obtain ⟨_, h5⟩ := Int.gcd_eq_zero_iff.1 (show Int.gcd 0 x = 0 by omega)
      exact absurd ⟨h5, h4, h2⟩ h0
    · exact h
  generalize Int.gcd (Int.gcd (Int.gcd 0 x : Nat) y : Nat) z = G at *
  have BG : B512 (G : Int) := B (by rw [Int.natAbs_natCast]; exact b3)
  have hq : ∀ v : Int, v.natAbs < 2 ^ 61 → okW (Z.quo (Z.of v) (Z.of (G : Int))) = true := fun v hv => by
    rw [hs_ (B hv) BG (by omega)]
    have := Int.natAbs_ediv_le_natAbs v G
    exact okW_v (by omega)
  unfold prim
  rw [hg, Z.of_some BG, if_neg (by simp), hx, hy, hz, hq x bx, hq y bY, hq z bz]
  have hs : (Z.of (G : Int)).sign ≠ 0 := by
    have := mk_ BG
    rw [Int.sign_eq_one_of_pos (by omega)] at this
    omega
  rw [if_neg hs]; rfl
theorem mbits {u v : Int} {b c : Nat} (h : u.natAbs < 2 ^ b) (g : v.natAbs < 2 ^ c) : (u * v).natAbs < 2 ^ (b + c) := by rw [Int.natAbs_mul]; exact dG_ h g
/-- Two tangents of a normal. -/
structure Tg (n t u : A3 W) : Prop where
  o1 : n.x.1 * t.x.1 + n.y.1 * t.y.1 + n.z.1 * t.z.1 = 0
  o2 : n.x.1 * u.x.1 + n.y.1 * u.y.1 + n.z.1 * u.z.1 = 0
  o3 : t.x.1 * u.x.1 + t.y.1 * u.y.1 + t.z.1 * u.z.1 = 0
  t0 : ¬ (t.x.1 = 0 ∧ t.y.1 = 0 ∧ t.z.1 = 0)
  u0 : ¬ (u.x.1 = 0 ∧ u.y.1 = 0 ∧ u.z.1 = 0)
  tb : ∀ A : Nat, 1 ≤ A → n.x.1.natAbs < 2 ^ A → n.y.1.natAbs < 2 ^ A → n.z.1.natAbs < 2 ^ A → t.x.1.natAbs < 2 ^ A ∧ t.y.1.natAbs < 2 ^ A ∧ t.z.1.natAbs < 2 ^ A
  ub : ∀ A : Nat, 1 ≤ A → n.x.1.natAbs < 2 ^ A → n.y.1.natAbs < 2 ^ A → n.z.1.natAbs < 2 ^ A → u.x.1.natAbs < 2 ^ (2 * A + 1) ∧ u.y.1.natAbs < 2 ^ (2 * A + 1) ∧ u.z.1.natAbs < 2 ^ (2 * A + 1)
  full : ∀ f g h : Rat, let nn : Rat := (n.x.1 : Rat) * n.x.1 + n.y.1 * n.y.1 + n.z.1 * n.z.1
    let tt : Rat := (t.x.1 : Rat) * t.x.1 + t.y.1 * t.y.1 + t.z.1 * t.z.1
    let uu : Rat := (u.x.1 : Rat) * u.x.1 + u.y.1 * u.y.1 + u.z.1 * u.z.1
    let fn : Rat := (n.x.1 : Rat) * f + n.y.1 * g + n.z.1 * h
    let ft : Rat := (t.x.1 : Rat) * f + t.y.1 * g + t.z.1 * h
    let fu : Rat := (u.x.1 : Rat) * f + u.y.1 * g + u.z.1 * h
    f * (nn * tt * uu) = fn * n.x.1 * (tt * uu) + ft * t.x.1 * (nn * uu) + fu * u.x.1 * (nn * tt) ∧
    g * (nn * tt * uu) = fn * n.y.1 * (tt * uu) + ft * t.y.1 * (nn * uu) + fu * u.y.1 * (nn * tt) ∧
    h * (nn * tt * uu) = fn * n.z.1 * (tt * uu) + ft * t.z.1 * (nn * uu) + fu * u.z.1 * (nn * tt)
theorem in_ {G v : Int} (hG : 0 < G) (h : G * v = 0) : v = 0 := by rcases Int.mul_eq_zero.1 h with h | h; omega; exact h
theorem jv_ {g t v : Int} (hg : 0 < g) (h : g * t = v) {A : Nat} (hv : v.natAbs < A) : t.natAbs < A := by
  have e := congrArg Int.natAbs h
  rw [Int.natAbs_mul] at e
  have := Nat.le_mul_of_pos_left t.natAbs (show 0 < g.natAbs by omega)
  omega
theorem qG_ {a b : Rat} (ha : a ≠ 0) (hb : b ≠ 0) : a * b ≠ 0 := fun h => by
  rcases Rat.mul_eq_zero.1 h with h1 | h1
  · exact ha h1
  · exact hb h1
theorem md_ {F X : Rat} {H : Rat} (hH : H ≠ 0) (h : H * F = H * X) : F = X := by
  have := Rat.inv_mul_cancel H hH
  have e : H⁻¹ * (H * F) = H⁻¹ * (H * X) := by rw [h]
  rw [← Rat.mul_assoc, ← Rat.mul_assoc, this, Rat.one_mul, Rat.one_mul] at e
  exact e
theorem qe_ {n : A3 W} (bx : n.x.1.natAbs < 2 ^ 29) (bY : n.y.1.natAbs < 2 ^ 29) (bz : n.z.1.natAbs < 2 ^ 29) (h0 : ¬ (n.x.1 = 0 ∧ n.y.1 = 0 ∧ n.z.1 = 0)) : Tg n (tang n).1 (tang n).2 := by
  have pw1 : ∀ A : Nat, 1 ≤ A → 1 < 2 ^ A := fun A hA => Nat.one_lt_two_pow (by omega)
  unfold tang
  by_cases h : n.x.1 = 0 ∧ n.y.1 = 0
  · rw [if_pos h]
    obtain ⟨h1, h2⟩ := h
    have w1 : (wl 1).1 = 1 := rfl
    have w0 : (wl 0).1 = 0 := rfl
    refine ⟨?_, ?_, ?_, ?_, ?_, ?_, ?_, ?_⟩
    · show n.x.1 * 1 + n.y.1 * 0 + n.z.1 * 0 = 0
      rw [h1]; omega
    · show n.x.1 * 0 + n.y.1 * 1 + n.z.1 * 0 = 0
      rw [h2]; omega
    · rfl
    · exact fun h => absurd h.1 (by decide)
    · exact fun h => absurd h.2.1 (by decide)
    · exact fun A hA _ _ _ => ⟨pw1 A hA, Nat.pow_pos (by decide), Nat.pow_pos (by decide)⟩
    · exact fun A hA _ _ _ => ⟨Nat.pow_pos (by decide), pw1 _ (by omega), Nat.pow_pos (by decide)⟩
    · intro f g h
      simp only [h1, h2, w1, w0]
      have c0 : (((0 : Int)) : Rat) = 0 := rfl
      have c1 : (((1 : Int)) : Rat) = 1 := rfl
      rw [c0, c1]
      refine ⟨?_, ?_, ?_⟩ <;> grind
  · rw [if_neg h]
    have e29 : (2 : Nat) ^ 29 = 536870912 := rfl
    have p1 : (prim ⟨E (Z.neg (Z.of n.y.1)), E (Z.of n.x.1), E (Z.of 0)⟩).2.1 = 0 := by
      refine iK_ (x := -n.y.1) (y := n.x.1) (z := 0) ?_ (E_dec _) (E_dec _) (by rw [Int.natAbs_neg]; exact Nat.lt_trans bY (by decide)) (Nat.lt_trans bx (by decide)) (by decide) (fun hx => h ⟨by omega, by omega⟩)
      show (E (Z.neg (Z.of n.y.1))).dec = _
      rw [E_dec, ((fitW n.y).neg (by decide)).eq]
    obtain ⟨x, y, z, g, H⟩ := nj_ p1
    have n1 := mS_ H
    have ex : x = -n.y.1 := by
      have := H.ax; rw [show (E (Z.neg (Z.of n.y.1))).dec = Z.neg (Z.of n.y.1) from E_dec _, ((fitW n.y).neg (by decide)).o (by decide)] at this; exact (Option.some.inj this).symm
    have ey : y = n.x.1 := by
      have := H.ay; rw [show (E (Z.of n.x.1)).dec = Z.of n.x.1 from E_dec _, (fitW n.x).o (by decide)] at this; exact (Option.some.inj this).symm
    have ez : z = 0 := by
      have := H.az; rw [show (E (Z.of 0)).dec = Z.of 0 from E_dec _, fit0.o (by decide)] at this; exact (Option.some.inj this).symm
    generalize (prim ⟨E (Z.neg (Z.of n.y.1)), E (Z.of n.x.1), E (Z.of 0)⟩).1 = s at *
    have hx := H.px; have hy := H.py; have hz := H.pz; have g0 := H.g0
    rw [ex] at hx; rw [ey] at hy; rw [ez] at hz
    have sz : s.z.1 = 0 := in_ g0 hz
    have sb : ∀ A : Nat, 1 ≤ A → n.x.1.natAbs < 2 ^ A → n.y.1.natAbs < 2 ^ A → s.x.1.natAbs < 2 ^ A ∧ s.y.1.natAbs < 2 ^ A := fun A hA hx' hy' => ⟨jv_ g0 hx (by rw [Int.natAbs_neg]; exact hy'), jv_ g0 hy hx'⟩
    have cr : ∀ (p q r t : W), (a0_ (E (Z.of p.1)) (E (Z.of q.1)) (E (Z.of r.1)) (E (Z.of t.1))).dec = Z.of (p.1 * q.1 - r.1 * t.1) := fun p q r t => by
      rw [j4_, E_dec, E_dec, E_dec, E_dec, (((fitW p).mul (fitW q) (by decide)).sub ((fitW r).mul (fitW t) (by decide)) (by decide)).eq]
    have pm : ∀ (u v w k : Int) (A : Nat), u.natAbs < 2 ^ A → v.natAbs < 2 ^ A → w.natAbs < 2 ^ A → k.natAbs < 2 ^ A → (u * v - w * k).natAbs < 2 ^ (2 * A + 1) := fun u v w k A hu hv hw hk => by
      have h1 := dG_ hu hv
      have h2 := dG_ hw hk
      rw [← Int.natAbs_mul] at h1 h2
      rw [show 2 * A + 1 = A + A + 1 by omega, Nat.pow_succ]
      omega
    obtain ⟨sx29, sy29⟩ := sb 29 (by decide) bx bY
    have sz29 : s.z.1.natAbs < 2 ^ 29 := by rw [sz]; decide
    have p2 : (prim (bA_ (aP_ n) (aP_ s))).2.1 = 0 := by
      refine iK_ (cr n.y s.z n.z s.y) (cr n.z s.x n.x s.z) (cr n.x s.y n.y s.x) (Nat.lt_trans (pm _ _ _ _ 29 bY sz29 bz sy29) (by decide)) (Nat.lt_trans (pm _ _ _ _ 29 bz sx29 bx sz29) (by decide)) (Nat.lt_trans (pm _ _ _ _ 29 bx sy29 bY sx29) (by decide)) (fun ⟨_, _, h3⟩ => ?_)
      have h4 : g * (s.x.1 * s.x.1 + s.y.1 * s.y.1) = 0 := by
        have q1 : n.y.1 = -(g * s.x.1) := by omega
        have q2 : n.x.1 = g * s.y.1 := by omega
        rw [q1, q2] at h3
        grind
      have h5 := in_ g0 h4
      have q1 : 0 ≤ s.x.1 * s.x.1 := msn _
      have q2 : 0 ≤ s.y.1 * s.y.1 := msn _
      exact n1 ⟨msz (by omega), msz (by omega), sz⟩
    rw [if_neg (by rintro (h | h); exact h p1; exact h p2)]
    obtain ⟨x', y', z', g', K⟩ := nj_ p2
    have n2 := mS_ K
    generalize (prim (bA_ (aP_ n) (aP_ s))).1 = t at *
    have co : ∀ (p q r t : W) (v : Int), (a0_ (E (Z.of p.1)) (E (Z.of q.1)) (E (Z.of r.1)) (E (Z.of t.1))).dec.o = some v → v = p.1 * q.1 - r.1 * t.1 := fun p q r t v hv => by
      rw [j4_, E_dec, E_dec, E_dec, E_dec, (((fitW p).mul (fitW q) (by decide)).sub ((fitW r).mul (fitW t) (by decide)) (by decide)).o (by decide)] at hv
      exact (Option.some.inj hv).symm
    have ex' : x' = n.y.1 * s.z.1 - n.z.1 * s.y.1 := co n.y s.z n.z s.y x' K.ax
    have ey' : y' = n.z.1 * s.x.1 - n.x.1 * s.z.1 := co n.z s.x n.x s.z y' K.ay
    have ez' : z' = n.x.1 * s.y.1 - n.y.1 * s.x.1 := co n.x s.y n.y s.x z' K.az
    have kx := K.px; have ky := K.py; have kz := K.pz; have g0' := K.g0
    rw [ex'] at kx; rw [ey'] at ky; rw [ez'] at kz
    refine ⟨in_ g0 ?_, in_ g0' ?_, in_ g0' ?_, n1, n2, fun A hA b1 b2 b3 => ?_, fun A hA b1 b2 b3 => ?_, fun a b c => ?_⟩
    · have : g * (n.x.1 * s.x.1 + n.y.1 * s.y.1 + n.z.1 * s.z.1) = n.x.1 * (g * s.x.1) + n.y.1 * (g * s.y.1) + n.z.1 * (g * s.z.1) := by grind
      rw [this, hx, hy, hz]; grind
    · have : g' * (n.x.1 * t.x.1 + n.y.1 * t.y.1 + n.z.1 * t.z.1) = n.x.1 * (g' * t.x.1) + n.y.1 * (g' * t.y.1) + n.z.1 * (g' * t.z.1) := by grind
      rw [this, kx, ky, kz]; grind
    · have : g' * (s.x.1 * t.x.1 + s.y.1 * t.y.1 + s.z.1 * t.z.1) = s.x.1 * (g' * t.x.1) + s.y.1 * (g' * t.y.1) + s.z.1 * (g' * t.z.1) := by grind
      rw [this, kx, ky, kz]; grind
    · obtain ⟨k1, k2⟩ := sb A hA b1 b2
      exact ⟨k1, k2, by rw [sz]; exact Nat.pow_pos (by decide)⟩
    · obtain ⟨k1, k2⟩ := sb A hA b1 b2
      have k3 : s.z.1.natAbs < 2 ^ A := by rw [sz]; exact Nat.pow_pos (by decide)
      exact ⟨jv_ g0' kx (pm _ _ _ _ A b2 k3 b3 k2), jv_ g0' ky (pm _ _ _ _ A b3 k1 b1 k3), jv_ g0' kz (pm _ _ _ _ A b1 k2 b2 k1)⟩
    · rw [sz] at kx ky
      have hg' : ((g' : Int) : Rat) ≠ 0 := fun e => by have := Rat.intCast_eq_zero_iff.1 e; omega
      have r1 : ((n.y.1 : Int) : Rat) = -((g : Rat) * (s.x.1 : Rat)) := by rw [← Rat.intCast_mul, hx, Rat.intCast_neg, Rat.neg_neg]
      have r2 : ((n.x.1 : Int) : Rat) = (g : Rat) * (s.y.1 : Rat) := by rw [← Rat.intCast_mul, hy]
      have r3 : (g' : Rat) * (t.x.1 : Rat) = -((n.z.1 : Rat) * (s.y.1 : Rat)) := by rw [← Rat.intCast_mul, kx, ← Rat.intCast_mul, ← Rat.intCast_neg]; congr 1; omega
      have r4 : (g' : Rat) * (t.y.1 : Rat) = (n.z.1 : Rat) * (s.x.1 : Rat) := by rw [← Rat.intCast_mul, ky, ← Rat.intCast_mul]; congr 1; omega
      have r5 : (g' : Rat) * (t.z.1 : Rat) = (n.x.1 : Rat) * (s.y.1 : Rat) - (n.y.1 : Rat) * (s.x.1 : Rat) := by rw [← Rat.intCast_mul, kz, Rat.intCast_sub, Rat.intCast_mul, Rat.intCast_mul]
      have r6 : ((s.z.1 : Int) : Rat) = 0 := by rw [sz]; rfl
      rw [r1, r2] at r5
      simp only [r1, r2, r6]
      generalize (n.z.1 : Rat) = C at *
      generalize (g : Rat) = G at *
      generalize (s.x.1 : Rat) = S1 at *
      generalize (s.y.1 : Rat) = S2 at *
      generalize (t.x.1 : Rat) = T1 at *
      generalize (t.y.1 : Rat) = T2 at *
      generalize (t.z.1 : Rat) = T3 at *
      generalize (g' : Rat) = Q at *
      have hQ : Q * Q ≠ 0 := qG_ hg' hg'
      have u2 : Q * Q * (T1 * T1 + T2 * T2 + T3 * T3) = (Q * T1) * (Q * T1) + (Q * T2) * (Q * T2) + (Q * T3) * (Q * T3) := by grind
      have fz : ∀ F T : Rat, Q * Q * (F * T) = (Q * F) * (Q * T) := fun F T => by grind
      have q3 : Q * (T1 * a + T2 * b + T3 * c) = (Q * T1) * a + (Q * T2) * b + (Q * T3) * c := by grind
      rw [r3, r4, r5] at u2 q3
      have sp : ∀ F A N B S D T nn tt uu : Rat, Q * Q * (F * (nn * tt * uu)) = Q * Q * (A * N * (tt * uu) + B * S * (nn * uu) + D * T * (nn * tt)) ↔ F * (nn * tt * (Q * Q * uu)) = A * N * (tt * (Q * Q * uu)) + B * S * (nn * (Q * Q * uu)) + (Q * D) * (Q * T) * (nn * tt) := fun F A N B S D T nn tt uu => by
        constructor <;> intro h <;> grind
      refine ⟨md_ hQ ((sp _ _ _ _ _ _ _ _ _ _).2 ?_), md_ hQ ((sp _ _ _ _ _ _ _ _ _ _).2 ?_), md_ hQ ((sp _ _ _ _ _ _ _ _ _ _).2 ?_)⟩ <;> rw [u2, q3] <;> first | rw [r3] | rw [r4] | rw [r5]
      · grind
      · grind
      · grind
def nrm (a : A3 W) : Int := a.x.1 * a.x.1 + a.y.1 * a.y.1 + a.z.1 * a.z.1
theorem gN_ {a : A3 W} (h : ¬ (a.x.1 = 0 ∧ a.y.1 = 0 ∧ a.z.1 = 0)) : 0 < nrm a := by
  unfold nrm
  have q1 : 0 ≤ a.x.1 * a.x.1 := msn _
  have q2 : 0 ≤ a.y.1 * a.y.1 := msn _
  have q3 : 0 ≤ a.z.1 * a.z.1 := msn _
  refine Int.lt_iff_le_and_ne.2 ⟨by omega, fun e => h ⟨msz (by omega), msz (by omega), msz (by omega)⟩⟩
theorem rM_ {a : A3 W} {A : Nat} (hx : a.x.1.natAbs < 2 ^ A) (hy : a.y.1.natAbs < 2 ^ A) (hz : a.z.1.natAbs < 2 ^ A) : (nrm a).natAbs < 2 ^ (2 * A + 2) := by
  have h1 := dG_ hx hx
  have h2 := dG_ hy hy
  have h3 := dG_ hz hz
  rw [← Int.natAbs_mul] at h1 h2 h3
  unfold nrm
  rw [show 2 * A + 2 = A + A + 1 + 1 by omega, Nat.pow_succ, Nat.pow_succ]
  omega
/-- What the root is taken of. -/
def slQ (n t : A3 W) (b : Int) : Int := (b * b * nrm n * 65536) / (1000000 * nrm t)
def slS (n t : A3 W) (b : Int) : Int := (isqrt (slQ n t b).toNat : Nat)
section
variable {n t : A3 W} {b c : Int}
theorem pf_ (hb : 0 ≤ b) (ht : 0 < nrm t) (hn : 0 ≤ nrm n) : 0 ≤ slQ n t b := Int.ediv_nonneg (Int.mul_nonneg (Int.mul_nonneg (Int.mul_nonneg hb hb) hn) (by decide)) (by omega)
theorem pl_ {K : Int} (hb : 0 ≤ b) (hbk : b ≤ 4000) (ht : 0 < nrm t) (hn : 0 ≤ nrm n) (hk : nrm n ≤ K) : slQ n t b ≤ 1048576 * K := by
  unfold slQ
  have h1 : b * b ≤ 4000 * 4000 := Int.mul_le_mul hbk hbk hb (by decide)
  have h2 : b * b * nrm n ≤ 16000000 * nrm n := Int.mul_le_mul_of_nonneg_right h1 hn
  have hK : 0 ≤ K := Int.le_trans hn hk
  refine Int.ediv_le_of_le_mul (by omega) ?_
  have h3 : 1048576000000 * K * 1 ≤ 1048576000000 * K * nrm t := Int.mul_le_mul_of_nonneg_left (by omega) (by omega)
  have h4 : 1048576 * K * (1000000 * nrm t) = 1048576000000 * K * nrm t := by grind
  rw [h4]
  omega
theorem pE_ (hb : 0 ≤ b) (ht : 0 < nrm t) (hn : 0 ≤ nrm n) (hB : (slQ n t b).toNat < 4294967296 ^ 16) : slS n t b * slS n t b ≤ slQ n t b ∧ slQ n t b < (slS n t b + 1) * (slS n t b + 1) := by
  obtain ⟨h1, h2⟩ := ej_ hB
  have h0 := pf_ (t := t) hb ht hn
  unfold slS
  constructor
  · have : (((isqrt (slQ n t b).toNat * isqrt (slQ n t b).toNat : Nat)) : Int) ≤ (((slQ n t b).toNat : Nat) : Int) := Int.ofNat_le.2 h1
    rw [Int.natCast_mul] at this
    omega
  · have : ((((slQ n t b).toNat : Nat)) : Int) < (((isqrt (slQ n t b).toNat + 1) * (isqrt (slQ n t b).toNat + 1) : Nat) : Int) := Int.ofNat_lt.2 h2
    rw [Int.natCast_mul, Int.natCast_add, Int.toNat_of_nonneg h0] at this
    exact this
/-- The slope s = S / 256 is the greatest one in the cone. -/
theorem qY_ (hb : 0 ≤ b) (ht : 0 < nrm t) (hn : 0 ≤ nrm n) (hB : (slQ n t b).toNat < 4294967296 ^ 16) : slS n t b * slS n t b * (1000000 * nrm t) ≤ b * b * nrm n * 65536 ∧ b * b * nrm n * 65536 < (slS n t b + 1) * (slS n t b + 1) * (1000000 * nrm t) := by
  obtain ⟨h1, h2⟩ := pE_ hb ht hn hB
  have h3 : slQ n t b * (1000000 * nrm t) ≤ b * b * nrm n * 65536 := Int.ediv_mul_le _ (by omega)
  have h4 : b * b * nrm n * 65536 < (slQ n t b + 1) * (1000000 * nrm t) := Int.lt_ediv_add_one_mul_self _ (by omega)
  exact ⟨Int.le_trans (Int.mul_le_mul_of_nonneg_right h1 (by omega)) h3, Int.lt_of_lt_of_le h4 (Int.mul_le_mul_of_nonneg_right (by omega) (by omega))⟩
theorem m3_ : 0 ≤ slS n t b := by unfold slS; omega
end
structure V3 (a : A3 Rt) (x y z : Rat) (A B : Nat) : Prop where
  hx : a.x.At x
  hy : a.y.At y
  hz : a.z.At z
  sx : Az x A B
  sy : Az y A B
  sz : Az z A B
section
variable {a b : A3 Rt} {x y z u v w : Rat} {A B C D : Nat}
theorem V3.mono (h : V3 a x y z A B) {A' B' : Nat} (h1 : A ≤ A') (h2 : B ≤ B') : V3 a x y z A' B' := ⟨h.hx, h.hy, h.hz, h.sx.mono h1 h2, h.sy.mono h1 h2, h.sz.mono h1 h2⟩
theorem of3 {n : A3 W} (hx : n.x.1.natAbs < 2 ^ A) (hy : n.y.1.natAbs < 2 ^ A) (hz : n.z.1.natAbs < 2 ^ A) : V3 (ad_ n) n.x.1 n.y.1 n.z.1 A 1 := ⟨Of_At _, Of_At _, Of_At _, .int hx, .int hy, .int hz⟩
theorem mH_ (ha : V3 a x y z A B) (hb : V3 b u v w C D) (h1 : A + C + 2 * (B + D) + 2 ≤ 512) (h2 : 3 * (B + D) ≤ 512) : (aR_ a b).At (x * u + y * v + z * w) ∧ Az (x * u + y * v + z * w) (A + C + 2 * (B + D) + 2) (3 * (B + D)) := by
  have m1 := fO_ ha.hx hb.hx ha.sx hb.sx (by omega) (by omega)
  have m2 := fO_ ha.hy hb.hy ha.sy hb.sy (by omega) (by omega)
  have m3 := fO_ ha.hz hb.hz ha.sz hb.sz (by omega) (by omega)
  have s1 := ha.sx.mul hb.sx
  have s2 := ha.sy.mul hb.sy
  have s3 := ha.sz.mul hb.sz
  have p1 := iG_ m1 m2 s1 s2 (by omega) (by omega) (by omega)
  have q1 := s1.add (c := A + C + (B + D) + 1) s2 (by omega) (by omega)
  have p2 := iG_ p1 m3 q1 s3 (by omega) (by omega) (by omega)
  have q2 := q1.add (c := A + C + 2 * (B + D) + 2) s3 (by omega) (by omega)
  exact ⟨p2, q2.mono (Nat.le_refl _) (by omega)⟩
theorem j7_ {a b c d : Rt} {p q r s : Rat} {A B C D : Nat} (ha : a.At p) (hb : b.At q) (hc : c.At r) (hd : d.At s) (sa : Az p A B) (sb : Az q C D) (sc : Az r A B) (sd : Az s C D) (h1 : A + C + (B + D) + 1 ≤ 512) (h2 : 2 * (B + D) ≤ 512) : (aw_ (aj_ a b) (aj_ c d)).At (p * q - r * s) ∧ Az (p * q - r * s) (A + C + (B + D) + 1) (2 * (B + D)) := by
  have m1 := fO_ ha hb sa sb (by omega) (by omega)
  have m2 := fO_ hc hd sc sd (by omega) (by omega)
  have s1 := sa.mul sb
  have s2 := sc.mul sd
  exact ⟨kN_ m1 m2 s1 s2 (by omega) (by omega) (by omega), (s1.sub (c := A + C + (B + D) + 1) s2 (by omega) (by omega)).mono (Nat.le_refl _) (by omega)⟩
theorem rz_ (ha : V3 a x y z A B) (hb : V3 b u v w C D) (h1 : A + C + (B + D) + 1 ≤ 512) (h2 : 2 * (B + D) ≤ 512) : V3 (bD_ a b) (y * w - z * v) (z * u - x * w) (x * v - y * u) (A + C + (B + D) + 1) (2 * (B + D)) := by
  obtain ⟨p1, q1⟩ := j7_ ha.hy hb.hz ha.hz hb.hy ha.sy hb.sz ha.sz hb.sy h1 h2
  obtain ⟨p2, q2⟩ := j7_ ha.hz hb.hx ha.hx hb.hz ha.sz hb.sx ha.sx hb.sz h1 h2
  obtain ⟨p3, q3⟩ := j7_ ha.hx hb.hy ha.hy hb.hx ha.sx hb.sy ha.sy hb.sx h1 h2
  exact ⟨p1, p2, p3, q1, q2, q3⟩
theorem lA_ {k : Rt} {q : Rat} (hk : k.At q) (sk : Az q C D) (ha : V3 a x y z A B) (h1 : C + A ≤ 512) (h2 : D + B ≤ 512) : V3 (ae_ k a) (q * x) (q * y) (q * z) (C + A) (D + B) :=
  ⟨fO_ hk ha.hx sk ha.sx h1 h2, fO_ hk ha.hy sk ha.sy h1 h2, fO_ hk ha.hz sk ha.sz h1 h2, sk.mul ha.sx, sk.mul ha.sy, sk.mul ha.sz⟩
theorem plus3 {E : Nat} (ha : V3 a x y z A B) (hb : V3 b u v w C D) (h1 : A + D < E) (h2 : C + B < E) (hE : E ≤ 512) (h3 : B + D ≤ 512) : V3 (aD_ a b) (x + u) (y + v) (z + w) E (B + D) :=
  ⟨iG_ ha.hx hb.hx ha.sx hb.sx (by omega) (by omega) h3, iG_ ha.hy hb.hy ha.sy hb.sy (by omega) (by omega) h3, iG_ ha.hz hb.hz ha.sz hb.sz (by omega) (by omega) h3, ha.sx.add hb.sx h1 h2, ha.sy.add hb.sy h1 h2, ha.sz.add hb.sz h1 h2⟩
theorem pq_ {E : Nat} (ha : V3 a x y z A B) (hb : V3 b u v w C D) (h1 : A + D < E) (h2 : C + B < E) (hE : E ≤ 512) (h3 : B + D ≤ 512) : V3 (aU_ a b) (x - u) (y - v) (z - w) E (B + D) :=
  ⟨kN_ ha.hx hb.hx ha.sx hb.sx (by omega) (by omega) h3, kN_ ha.hy hb.hy ha.sy hb.sy (by omega) (by omega) h3, kN_ ha.hz hb.hz ha.sz hb.sz (by omega) (by omega) h3, ha.sx.sub hb.sx h1 h2, ha.sy.sub hb.sy h1 h2, ha.sz.sub hb.sz h1 h2⟩
end
end Go.Num


set_option linter.unusedVariables false
set_option linter.unusedSimpArgs false
namespace Go.Num
open Go Go.Kn
theorem oP_ : dn_ = true := by kernel_rfl
theorem lR_ (a : A3 W) (b : W) : b8_ a b = aK_ a b := rfl
theorem qQ_ (a : A3 W) : ao_ a = aJ_ a := (mi_ a).trans (iW_ a).symm
theorem shl16 (z : Z) : Z.shl z 16 = Z.mul z (Z.of 65536) := by
  rcases Z.cases z with rfl | ⟨v, h, rfl, ho⟩
  · rfl
  · unfold Z.shl Z.mul
    rw [cx_ ho, a4_ ho (Z.of_some (by decide))]; rfl
theorem lB_ (a : A3 W) (b : W) (t : A3 W) : ap_ (cQ_ (E (Z.quo (Z.shl (Z.mul (Z.of (W.mul b b).1) (bc_ a a).dec) 16) (E (Z.mul (Z.of 1000000) (bc_ t t).dec)).dec))) (E (Z.of 256)) = aY_ a b t := by
  unfold aY_
  rw [qg_, kx_, shl16, kT_, kT_, E_dec]
  simp only [E_dec]
theorem qd_ (a : A3 W) (b : W) : b5_ a b = (⟨(aJ_ a).1, (aJ_ a).2⟩, ⟨aY_ a b (aJ_ a).1, aY_ a b (aJ_ a).2⟩) := by
  unfold b5_
  dsimp only
  rw [lB_, lB_, qQ_]
theorem lS_ (a : A3 W) (b : W) : af_ a b = ((cU_ a b).l, (cU_ a b).e) := by
  unfold af_ cU_
  rw [lR_, qd_]
  simp only [qW_, oB_, qc_, ow_]
  cases aK_ a b with
  | false => rfl
  | true => cases (b.1 == 0) <;> rfl
end Go.Num

