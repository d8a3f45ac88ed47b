/- What Compose returns, and its law. No program stands in it. Coefficients of Bernstein, at numbers. No program stands in it. Polynomials over the rationals: divisors, Bezout, irreducible factors, square-free parts. No program stands in it. Polynomials over the integers: contents, Gauss. No program stands in it. Remainders of polynomials: common divisors, common factors, sizes; greatest common divisors that do not lack digits. No program stands in it. -/
import Derived.Test.YtjdfogfmeibkgaaGreatRQc
import Derived.KernelRfl
import Derived.Test.YtjdfogfmeibkgaaGreatRPV

set_option linter.unusedVariables false
set_option linter.unusedSimpArgs false
namespace Go.Num
open Go Go.Kn
theorem fine2 (x y : Rt) : bM_ [x, y] = (ap_ x && ap_ y) := by
  unfold bM_ dA_ dw_
  have e : cx_ [x, y] (fun y => cy_ y) ([x, y].length + 1) 0 = bif ap_ x then (bif ap_ y then .inl 2 else .inr (W.cv 1)) else .inr (W.cv 0) := by
    show (bif cy_ x then _ else (bif cy_ y then _ else _)) = _
    unfold cy_
    cases ap_ x <;> cases ap_ y <;> rfl
  rw [e]
  cases ap_ x <;> cases ap_ y <;> rfl
theorem rJ_ {c : Nat → Int} {W : Int} {b l t : Nat} {v : Int} (hc : v.natAbs < 2 ^ b) (hW : W.natAbs < 2 ^ l) : (v * W ^ t).natAbs < 2 ^ (b + l * t) := by
  rw [Int.natAbs_mul, Int.natAbs_pow, Nat.pow_add]
  have a1 : W.natAbs ^ t ≤ 2 ^ (l * t) := by rw [Nat.pow_mul]; exact Nat.pow_le_pow_left (Nat.le_of_lt hW) t
  have := Nat.mul_le_mul_left v.natAbs a1
  have := Nat.mul_lt_mul_of_pos_right hc (Nat.pow_pos (n := l * t) (show 0 < 2 by decide))
  omega
section
variable {p : List I} {c : Nat → Int} {a b : Rt} {N D M F : Int}
theorem qy_ {bc l e w n : Nat} (h : Po p c) (hb : Bd c n bc) (ia : a.Is N D) (ib : b.Is M F) (hu : (N * F).natAbs < 2 ^ l) (hv : (M * D).natAbs < 2 ^ l) (hW : (D * F).natAbs < 2 ^ l) (hn : n ≤ 2 ^ e) (h24 : n ≤ 24) (h1 : l + e + 1 ≤ w) (h2 : bc + 1 ≤ w) (hw : w * n ≤ 512) :
    ∀ (f t : Nat) (i : Int) (r : List I), t ≤ p.length → i = ((p.length : Nat) : Int) - 1 - t → p.length - t < f → Po r (sb c (N * F) (M * D) (D * F) p.length t) →
    Po (bs_ p a b f r i).1 (sb c (N * F) (M * D) (D * F) p.length p.length)
  | 0, t, i, r, _, _, hf, _ => absurd hf (Nat.not_lt_zero _)
  | f + 1, t, i, r, ht, hi, hf, hr => by
    have hl := h.len hb
    unfold bs_
    by_cases h0 : 0 ≤ i
    · rw [decide_eq_true h0, cond_true]
      have htl : t < p.length := by omega
      have e1 : i.toNat = p.length - 1 - t := by omega
      have e2 : p.length - 1 - i.toNat = t := by omega
      have wt : w * t + w ≤ w * n := by have := Nat.mul_le_mul_left w (show t + 1 ≤ n by omega); rw [Nat.mul_succ] at this; exact this
      have lt : l * t ≤ w * t := Nat.mul_le_mul_right t (by omega)
      have hp : ∀ j, j ≤ t → B512 ((D * F) ^ j) := fun j hj => by
        refine fM_ (k := l * j + 1) ?_ ?_
        · rw [Int.natAbs_pow]
          have a1 : (D * F).natAbs ^ j ≤ 2 ^ (l * j) := by rw [Nat.pow_mul]; exact Nat.pow_le_pow_left (Nat.le_of_lt hW) j
          have a2 : (2 : Nat) ^ (l * j) < 2 ^ (l * j + 1) := Nat.pow_lt_pow_right (by decide) (by omega)
          omega
        · have := Nat.mul_le_mul_left l hj
          omega
      have hc := rJ_ (c := c) (t := t) (hb.b (p.length - 1 - t)) hW
      have bc' : B512 (c (p.length - 1 - t) * (D * F) ^ t) := fM_ hc (by omega)
      have bu : B512 (N * F) := fM_ hu (by omega)
      have bv : B512 (M * D) := fM_ hv (by omega)
      have bW : B512 (D * F) := fM_ hW (by omega)
      have bt := sb_Bd (L := p.length) hb.b hu hv hW hn h1 h2 t (by omega)
      have bt1 := sb_Bd (L := p.length) hb.b hu hv hW hn h1 h2 (t + 1) (by omega)
      simp only
      rw [e2, hl_ _ _ (show t < max (((p.length : Nat) : Int)).toNat 1 by omega), ia.ed, ia.en, ib.ed, ib.en, E_dec, E_dec, E_dec, E_dec, ec_ ia.hd ib.hd, ec_ ia.hn ib.hd, ec_ ib.hn ia.hd, lp_ hp, e1, h.get, E_dec, E_dec, ec_ (h.B _) (hp t (Nat.le_refl _))]
      refine qy_ h hb ia ib hu hv hW hn h24 h1 h2 hw f (t + 1) _ _ (by omega) (by omega) (by omega) ?_
      have m1 := s3_ hr (tf_ bu bv) bt (ok_ hu hv) (e := e) (by omega) (by omega) (by omega)
      exact sF_ m1 (rU_ bc') fun k => bt1.B (by rw [Nat.mul_succ]; omega) k
    · rw [decide_eq_false h0, cond_false]
      have : t = p.length := by omega
      rw [← this]; rw [← this] at hr; exact hr
end
theorem mL_ {p : List I} {c : Nat → Int} {a b : Rt} {qa qb : Rat} {bc s e w n : Nat} (h : Po p c) (hb : Bd c n bc) (ha : a.At qa) (hq : b.At qb) (sa : Sz qa s) (sq : Sz qb s) (hn : n ≤ 2 ^ e) (h24 : n ≤ 24) (h1 : s + s + e + 1 ≤ w) (h2 : bc + 1 ≤ w) (hw : w * n ≤ 512) :
    ∃ (g : Int) (γ : Nat → Int) (W : Int), 0 < g ∧ 0 < W ∧ Po (aM_ p a b) γ ∧ Bd γ n (w * n) ∧ ab_ (aM_ p a b) = aM_ p a b ∧ (∀ k, p.length ≤ k → γ k = 0) ∧
      ∀ y : Rat, (g : Rat) * vl (cR γ) y 26 = ((W ^ (p.length - 1) : Int) : Rat) * vl (cR c) (qa + qb * y) n := by
  have ia := At.is ha
  have ib := At.is hq
  have hl := h.len hb
  have da : ((qa.den : Int)).natAbs < 2 ^ s := by rw [Int.natAbs_natCast]; exact sa.d
  have db : ((qb.den : Int)).natAbs < 2 ^ s := by rw [Int.natAbs_natCast]; exact sq.d
  have hu := es_ sa.n db
  have hv := es_ sq.n da
  have hW := es_ da db
  have hs : ∀ t, t ≤ p.length → ∀ k, t ≤ k → sb c (qa.num * qb.den) (qb.num * qa.den) (qa.den * qb.den) p.length t k = 0 := fun t ht => (sb_Bd (L := p.length) hb.b hu hv hW hn h1 h2 t (by omega)).z
  have hS : Po (aX_ p a b) (sb c (qa.num * qb.den) (qb.num * qa.den) (qa.den * qb.den) p.length p.length) := by
    unfold aX_
    rw [h.nb, fine2, en_, en_, eS_ ha, eS_ hq]
    exact qy_ h hb ia ib hu hv hW hn h24 h1 h2 hw (p.length + 1) 0 _ [] (Nat.zero_le _) (by omega) (by omega) px_
  have hP := jx_ hS
  have bS := sb_Bd (L := p.length) hb.b hu hv hW hn h1 h2 p.length hl
  have hWp : (0 : Int) < qa.den * qb.den := Int.mul_pos eg_ eg_
  have hval : ∀ y : Rat, vl (cR (sb c (qa.num * qb.den) (qb.num * qa.den) (qa.den * qb.den) p.length p.length)) y 26 = (((((qa.den : Int) * (qb.den : Int)) ^ (p.length - 1) : Int)) : Rat) * vl (cR c) (qa + qb * y) n := fun y => by
    have hz : (((qa.num * qb.den : Int)) : Rat) + ((qb.num * qa.den : Int) : Rat) * y = ((qa.den * qb.den : Int) : Rat) * (qa + qb * y) := by
      have k1 := @i0_ qa
      have k2 := @i0_ qb
      rw [Rat.intCast_mul, Rat.intCast_mul, Rat.intCast_mul, ← k1, ← k2]; grind
    have e1 := sp_ (c := c) hz hWp hs (by omega)
    rw [Rat.intCast_pow, e1, iG_ (n := p.length) (fun i hi => by unfold cR; rw [h.zero hi]; rfl) hl]
  have e0 : ∀ k, ((cN (aX_ p a b) : Nat) : Int) * ((sb c (qa.num * qb.den) (qb.num * qa.den) (qa.den * qb.den) p.length p.length) k).fdiv (cN (aX_ p a b)) = sb c (qa.num * qb.den) (qb.num * qa.den) (qa.den * qb.den) p.length p.length k := jX_ hS
  have id : ab_ (aM_ p a b) = aM_ p a b := by unfold aM_; exact nD_ hS
  have hbd := (ru_ hS bS).mono hl (Nat.mul_le_mul_left w hl)
  have hz : ∀ k, p.length ≤ k → (sb c (qa.num * qb.den) (qb.num * qa.den) (qa.den * qb.den) p.length p.length k).fdiv (cN (aX_ p a b)) = 0 := fun k hk => by rw [bS.z k hk, Int.zero_fdiv]
  by_cases he : aX_ p a b = []
  · refine ⟨1, _, _, by decide, hWp, hP, hbd, id, hz, fun y => ?_⟩
    rw [← hval y, show (((1 : Int)) : Rat) = 1 from rfl, Rat.one_mul]
    congr 1
    funext k
    have z0 := hS.zero (k := k) (by rw [he]; exact Nat.zero_le k)
    show (((sb c _ _ _ _ _ k).fdiv _ : Int) : Rat) = ((sb c _ _ _ _ _ k : Int) : Rat)
    rw [z0, Int.zero_fdiv]
  · refine ⟨((cN (aX_ p a b) : Nat) : Int), _, _, by have := hS.cpos he; omega, hWp, hP, hbd, id, hz, fun y => ?_⟩
    rw [← hval y, ← sI_]
    congr 1
    funext k
    show _ * _ = ((_ : Int) : Rat)
    rw [← e0 k, Rat.intCast_mul]; rfl
theorem lO_ {u v : Rat} {g W : Int} (hg : 0 < g) (hW : 0 < W) (h : (g : Rat) * u = (W : Rat) * v) : u.num.sign = v.num.sign := by
  have := congrArg (fun r : Rat => r.num.sign) h
  simp only [rW_, nV_] at this
  rwa [Int.sign_eq_one_of_pos hg, Int.sign_eq_one_of_pos hW, Int.one_mul, Int.one_mul] at this
end Go.Num


set_option linter.unusedVariables false
set_option linter.unusedSimpArgs false
namespace Go.Num
open Go Go.Kn
def ff (i : Int) : Nat → Int
  | 0 => 1
  | k + 1 => ff i k * (i - k)
def fac : Nat → Int
  | 0 => 1
  | n + 1 => fac n * ((n + 1 : Nat) : Int)
/-- What the coefficient k counts in the coefficient i of Bernstein. -/
def wt (n i k : Nat) : Int := ff i k * fac (n - k)
def bs (γ : Nat → Int) (n i : Nat) : Int := sumN (fun k => wt n i k * γ k) (i + 1)
def bin : Nat → Nat → Nat
  | _, 0 => 1
  | 0, _ + 1 => 0
  | n + 1, k + 1 => bin n k + bin n (k + 1)
theorem q4_ {n : Nat} (hn : n ≤ 6) (γ : Nat → Int) (t : Rat) : sumN (fun i => (bs γ n i : Rat) * ((bin n i : Nat) : Rat) * (t ^ i * (1 - t) ^ (n - i))) (n + 1) = ((fac n : Int) : Rat) * sumN (fun k => (γ k : Rat) * t ^ k) (n + 1) := by
  have e : ∀ i, (bs γ n i : Rat) = sumN (fun k => (wt n i k : Rat) * (γ k : Rat)) (i + 1) := fun i => by unfold bs; rw [jC_]; exact b7_ fun k _ => Rat.intCast_mul ..
  simp only [e]
  rcases (show n = 0 ∨ n = 1 ∨ n = 2 ∨ n = 3 ∨ n = 4 ∨ n = 5 ∨ n = 6 by omega) with rfl | rfl | rfl | rfl | rfl | rfl | rfl <;>
  · simp only [sumN]
    generalize (γ 0 : Rat) = g0
    try generalize (γ 1 : Rat) = g1
    try generalize (γ 2 : Rat) = g2
    try generalize (γ 3 : Rat) = g3
    try generalize (γ 4 : Rat) = g4
    try generalize (γ 5 : Rat) = g5
    try generalize (γ 6 : Rat) = g6
    simp [wt, ff, fac, bin]
    try grind
theorem wt_lt {n i k : Nat} (hn : n ≤ 6) (hi : i ≤ n) (hk : k ≤ i) : (wt n i k).natAbs < 2 ^ 10 := by
  have h : ∀ n, n < 7 → ∀ i, i < 7 → ∀ k, k < 7 → (wt n i k).natAbs < 2 ^ 10 := by decide
  exact h n (by omega) i (by omega) k (by omega)
theorem ix_ {n i : Nat} (hn : n ≤ 6) (hi : i ≤ n) : aS_ (n : Int) (i : Int) = (List.range (i + 1)).map fun k => E (Z.of (wt n i k)) := by
  rcases (show n = 0 ∨ n = 1 ∨ n = 2 ∨ n = 3 ∨ n = 4 ∨ n = 5 ∨ n = 6 by omega) with rfl | rfl | rfl | rfl | rfl | rfl | rfl
  · rcases (show i = 0 by omega) with rfl; kernel_rfl
  · rcases (show i = 0 ∨ i = 1 by omega) with rfl | rfl <;> kernel_rfl
  · rcases (show i = 0 ∨ i = 1 ∨ i = 2 by omega) with rfl | rfl | rfl <;> kernel_rfl
  · rcases (show i = 0 ∨ i = 1 ∨ i = 2 ∨ i = 3 by omega) with rfl | rfl | rfl | rfl <;> kernel_rfl
  · rcases (show i = 0 ∨ i = 1 ∨ i = 2 ∨ i = 3 ∨ i = 4 by omega) with rfl | rfl | rfl | rfl | rfl <;> kernel_rfl
  · rcases (show i = 0 ∨ i = 1 ∨ i = 2 ∨ i = 3 ∨ i = 4 ∨ i = 5 by omega) with rfl | rfl | rfl | rfl | rfl | rfl <;> kernel_rfl
  · rcases (show i = 0 ∨ i = 1 ∨ i = 2 ∨ i = 3 ∨ i = 4 ∨ i = 5 ∨ i = 6 by omega) with rfl | rfl | rfl | rfl | rfl | rfl | rfl <;> kernel_rfl
section
variable {p : List I} {a b : Rt} {γ : Nat → Int} {n B : Nat}
theorem ng_ (hn : n ≤ 6) {i : Nat} (hi : i ≤ n) (hB : ∀ k, (γ k).natAbs < 2 ^ B) : ∀ j, j ≤ i + 1 → (sumN (fun k => wt n i k * γ k) j).natAbs ≤ j * 2 ^ (10 + B)
  | 0, _ => Nat.zero_le _
  | j + 1, hj => by
    have h1 := ng_ hn hi hB j (by omega)
    have h2 := es_ (wt_lt hn hi (show j ≤ i by omega)) (hB j)
    simp only [sumN]
    rw [Nat.succ_mul]; omega
theorem bs_lt (hn : n ≤ 6) {i : Nat} (hi : i ≤ n) (hB : ∀ k, (γ k).natAbs < 2 ^ B) {j : Nat} (hj : j ≤ i + 1) : (sumN (fun k => wt n i k * γ k) j).natAbs < 2 ^ (B + 13) := by
  have h := ng_ hn hi hB j hj
  have e : (2 : Nat) ^ (B + 13) = 8 * 2 ^ (10 + B) := by rw [show B + 13 = 10 + B + 3 by omega, Nat.pow_add _ (10 + B) 3, Nat.mul_comm]
  have : j * 2 ^ (10 + B) ≤ 7 * 2 ^ (10 + B) := Nat.mul_le_mul_right _ (by omega)
  have : 0 < 2 ^ (10 + B) := Nat.pow_pos (by decide)
  omega
theorem bern1 (hp : p.length = n + 1) (hn : n ≤ 6) (hC : Po (aM_ p a (a5_ b a)) γ) (hB : ∀ k, (γ k).natAbs < 2 ^ B) (hk : B + 13 ≤ 512) (out : List I) {i : Nat} (hi : i ≤ n) : ∀ (f j : Nat), i + 1 - j < f → j ≤ i + 1 →
    (bJ_ p a b out i f j (E (Z.of (sumN (fun k => wt n i k * γ k) j)))).2 = E (Z.of (bs γ n i))
  | 0, j, h, _ => absurd h (Nat.not_lt_zero _)
  | f + 1, j, h, hj => by
    unfold bJ_
    rw [show ((p.length : Nat) : Int) - 1 = (n : Int) by omega, ix_ hn hi, List.length_map, List.length_range]
    rcases Nat.lt_or_eq_of_le hj with h1 | h1
    · rw [decide_eq_true (by omega), cond_true]
      have e1 : ((List.range (i + 1)).map fun k => E (Z.of (wt n i k))).getD j I0 = E (Z.of (wt n i j)) := by rw [hb_, if_pos h1]
      have b1 : B512 (wt n i j) := B_pow (k := 10) (wt_lt hn hi (by omega)) (by decide)
      have b2 : (wt n i j * γ j).natAbs < 2 ^ (10 + B) := es_ (wt_lt hn hi (by omega)) (hB j)
      simp only
      rw [e1, lK_, hC.get]
      simp only [E_dec]
      rw [ec_ b1 (hC.B j), ib_ (B_pow (bs_lt hn hi hB hj) hk) (B_pow b2 (by omega))]
      exact bern1 hp hn hC hB hk out hi f (j + 1) (by omega) h1
    · subst h1
      rw [decide_eq_false (by omega), cond_false]
      rfl
theorem td_ {v : Int} (h : B512 v) : (E (Z.of v)).1.bad = false := by
  have := gd_E h
  unfold gdI at this
  rw [Bool.and_eq_true] at this
  simpa using this.1
theorem bern0 (hp : p.length = n + 1) (hn : n ≤ 6) (hC : Po (aM_ p a (a5_ b a)) γ) (hB : ∀ k, (γ k).natAbs < 2 ^ B) (hk : B + 13 ≤ 512) : ∀ (f i : Nat), n + 1 - i < f → i ≤ n + 1 →
    bX_ p a b f ((List.range i).map fun i => E (Z.of (bs γ n i))) i = .inl ((List.range (n + 1)).map fun i => E (Z.of (bs γ n i)), n + 1)
  | 0, i, h, _ => absurd h (Nat.not_lt_zero _)
  | f + 1, i, h, hi => by
    unfold bX_
    rcases Nat.lt_or_eq_of_le hi with h1 | h1
    · rw [decide_eq_true (by omega), cond_true, show ((p.length : Nat) : Int) - 1 = (n : Int) by omega, ix_ hn (by omega), List.length_map, List.length_range]
      have e1 := bern1 hp hn hC hB hk ((List.range i).map fun i => E (Z.of (bs γ n i))) (show i ≤ n by omega) (i + 1 + 1) 0 (by omega) (Nat.zero_le _)
      rw [show E (Z.of (sumN (fun k => wt n i k * γ k) 0)) = I0 from I0_E.symm] at e1
      show (bif ((bJ_ p a b _ i (i + 1 + 1) 0 I0).2).1.bad then _ else _) = _
      rw [e1, td_ (v := bs γ n i) (B_pow (bs_lt hn (show i ≤ n by omega) hB (Nat.le_refl _)) hk), cond_false]
      have e2 : ((List.range i).map fun i => E (Z.of (bs γ n i))) ++ [E (Z.of (bs γ n i))] = (List.range (i + 1)).map fun i => E (Z.of (bs γ n i)) := by rw [List.range_succ, List.map_append]; rfl
      rw [e2]
      exact bern0 hp hn hC hB hk f (i + 1) (by omega) h1
    · subst h1
      rw [decide_eq_false (by omega), cond_false]
theorem n8_ {u v G : Int} (hu : B512 u) (hG : B512 G) (h0 : 0 < G) (h : G * v = u) : Z.quo (Z.of u) (Z.of G) = Z.of v := by
  rw [gK_ hu hG h0, ← h, Int.mul_ediv_cancel_left _ (by omega)]
theorem bern2 (out0 : List I) (i0 : Nat) {N : Nat} {G : Int} {v l : Nat → Int} (h0 : 0 < G) (hG : B512 G) (hv : ∀ k, k < N → B512 (v k)) (hl : ∀ k, k < N → G * l k = v k) (hlen : out0.length = N) (hc : aC_ out0 = E (Z.of G)) : ∀ (f k : Nat), N - k < f → k ≤ N →
    (bK_ p a b out0 i0 f k ((List.range N).map fun i => E (Z.of (if i < k then l i else v i)))).2 = (List.range N).map fun i => E (Z.of (l i))
  | 0, k, h, _ => absurd h (Nat.not_lt_zero _)
  | f + 1, k, h, hk => by
    unfold bK_
    rw [hlen]
    rcases Nat.lt_or_eq_of_le hk with h1 | h1
    · rw [decide_eq_true (by omega), cond_true, hc, hb_, if_pos h1, if_neg (Nat.lt_irrefl _), E_dec, E_dec, n8_ (hv k h1) hG h0 (hl k h1)]
      have e : ((List.range N).map fun i => E (Z.of (if i < k then l i else v i))).set k (E (Z.of (l k))) = (List.range N).map fun i => E (Z.of (if i < k + 1 then l i else v i)) := by
        apply List.ext_getElem
        · simp
        · intro j hj hj'
          simp only [List.length_set, List.length_map, List.length_range] at hj
          rw [List.getElem_set]
          simp only [List.getElem_map, List.getElem_range]
          by_cases hjk : k = j
          · subst hjk; rw [if_pos rfl, if_pos (by omega)]
          · rw [if_neg hjk]
            by_cases h2 : j < k
            · rw [if_pos h2, if_pos (by omega)]
            · rw [if_neg h2, if_neg (by omega)]
      rw [e]
      exact bern2 out0 i0 h0 hG hv hl hlen hc f (k + 1) (by omega) h1
    · subst h1
      rw [decide_eq_false (by omega), cond_false]
      exact List.map_congr_left fun i hi => by rw [if_pos (List.mem_range.1 hi)]
/-- What Bernstein returns. -/
theorem o6_ (hp : p.length = n + 1) (hn : n ≤ 6) (nb : ae_ p = false) (hf : bM_ [a, b] = true) (hC : Po (aM_ p a (a5_ b a)) γ) (hB : ∀ k, (γ k).natAbs < 2 ^ B) (hk : B + 13 ≤ 512) :
    ∃ (G : Int) (l : Nat → Int), 0 < G ∧ (∀ i, i ≤ n → G * l i = bs γ n i) ∧ (∀ i, i ≤ n → (l i).natAbs < 2 ^ (B + 13)) ∧ aa_ p a b = ((List.range (n + 1)).map (fun i => E (Z.of (l i))), true) := by
  have e0 := bern0 hp hn hC hB hk (p.length + 1) 0 (by omega) (Nat.zero_le _)
  rw [show ((List.range 0).map fun i => E (Z.of (bs γ n i))) = ([] : List I) from rfl] at e0
  have hv : ∀ i, i < n + 1 → B512 (bs γ n i) := fun i hi => B_pow (bs_lt hn (by omega) hB (Nat.le_refl _)) hk
  have hall : ((List.range (n + 1)).map fun i => E (Z.of (bs γ n i))).all gdI = true := by
    rw [List.all_eq_true]
    intro x hx
    obtain ⟨i, hi, rfl⟩ := List.mem_map.1 hx
    exact gd_E (hv i (List.mem_range.1 hi))
  obtain ⟨c1, c2⟩ := ia_ hall
  have cd : ∀ i, i < n + 1 → ((cN ((List.range (n + 1)).map fun i => E (Z.of (bs γ n i))) : Nat) : Int) ∣ bs γ n i := fun i hi => by
    have := j3_ (l := (List.range (n + 1)).map fun i => E (Z.of (bs γ n i))) (x := E (Z.of (bs γ n i))) (List.mem_map.2 ⟨i, List.mem_range.2 hi, rfl⟩)
    rwa [vI_E (hv i hi)] at this
  have blt : ∀ i, i ≤ n → (bs γ n i).natAbs < 2 ^ (B + 13) := fun i hi => bs_lt hn hi hB (Nat.le_refl _)
  unfold aa_
  rw [nb, hf, hC.nb, e0]
  simp only [sm, Bool.not_true, Bool.or_false, cond_false]
  rw [c1, E_dec, c3_ c2]
  generalize hout : ((List.range (n + 1)).map fun i => E (Z.of (bs γ n i))) = out at *
  have hlen : out.length = n + 1 := by rw [← hout, List.length_map, List.length_range]
  rcases Nat.eq_zero_or_pos (cN out) with h0 | h0
  · rw [h0]
    refine ⟨1, bs γ n, by decide, fun i _ => Int.one_mul _, blt, ?_⟩
    rw [show (((((0 : Nat) : Int)).sign) != 0) = false from rfl, cond_false, hout]
  · rw [Int.sign_eq_one_of_pos (by omega), show (((1 : Int)) != 0) = true from rfl, cond_true]
    have hl : ∀ k, k < n + 1 → ((cN out : Nat) : Int) * (bs γ n k / (cN out : Nat)) = bs γ n k := fun k hk => Int.mul_ediv_cancel' (cd k hk)
    refine ⟨(cN out : Nat), fun i => bs γ n i / (cN out : Nat), by omega, fun i hi => hl i (by omega), fun i hi => ?_, ?_⟩
    · have h1 := hl i (by omega)
      refine Nat.lt_of_le_of_lt ?_ (blt i hi)
      rw [← h1, Int.natAbs_mul]
      rw [Int.natAbs_natCast]
      exact Nat.le_mul_of_pos_left _ h0
    · have e2 := bern2 (p := p) (a := a) (b := b) out (n + 1) (v := bs γ n) (l := fun i => bs γ n i / (cN out : Nat)) (by omega) c2 hv hl hlen c1 (out.length + 1) 0 (by omega) (Nat.zero_le _)
      rw [show ((List.range (n + 1)).map fun i => E (Z.of (if i < 0 then bs γ n i / (cN out : Nat) else bs γ n i))) = out from by rw [← hout]; exact List.map_congr_left fun i _ => by rw [if_neg (Nat.not_lt_zero _)]] at e2
      show ((bK_ p a b out (n + 1) (out.length + 1) 0 out).2, true) = _
      rw [e2]
end
end Go.Num


set_option linter.unusedVariables false
set_option linter.unusedSimpArgs false
namespace Go.Num
/-- A polynomial with rational coefficients. -/
structure QP where
  c : Nat → Rat
  fs : ∃ n, ∀ i, n ≤ i → c i = 0
namespace QP
theorem ex {a b : QP} (h : ∀ k, a.c k = b.c k) : a = b := by
  obtain ⟨c, _⟩ := a
  obtain ⟨d, _⟩ := b
  have e : c = d := funext h
  subst e
  rfl
instance : Add QP := ⟨fun a b => ⟨fun k => a.c k + b.c k, by
  obtain ⟨n, h⟩ := a.fs
  obtain ⟨m, g⟩ := b.fs
  exact ⟨max n m, fun i hi => by show a.c i + b.c i = 0; rw [h i (by omega), g i (by omega), Rat.add_zero]⟩⟩⟩
instance : Mul QP := ⟨fun a b => ⟨conv a.c b.c, by
  obtain ⟨n, h⟩ := a.fs
  obtain ⟨m, g⟩ := b.fs
  exact ⟨n + m, fun i hi => gY_ h g i (by omega)⟩⟩⟩
/-- A constant times a power of the variable. -/
def M (t : Rat) (j : Nat) : QP := ⟨fun k => if k = j then t else 0, ⟨j + 1, fun i hi => if_neg (by omega)⟩⟩
def C (t : Rat) : QP := M t 0
theorem ry_ {a b : Rat} (ha : a ≠ 0) (hb : b ≠ 0) : a * b ≠ 0 := fun h => by
  rcases Rat.mul_eq_zero.1 h with h1 | h1
  · exact ha h1
  · exact hb h1
theorem mul_c (a b : QP) (k : Nat) : (a * b).c k = conv a.c b.c k := rfl
theorem M_mul (t : Rat) (j : Nat) (a : QP) (k : Nat) : (M t j * a).c k = if j ≤ k then t * a.c (k - j) else 0 := by
  rw [mul_c]; unfold conv
  by_cases h : j ≤ k
  · rw [if_pos h, jO_ (a := j) (fun i hi => by show (if i = j then t else 0) * _ = 0; rw [if_neg hi]; exact Rat.zero_mul _) (by omega)]
    show (if j = j then t else 0) * _ = _
    rw [if_pos rfl]
  · rw [if_neg h]
    exact dz_ fun i hi => by show (if i = j then t else 0) * _ = 0; rw [if_neg (by omega)]; exact Rat.zero_mul _
theorem C_mul (t : Rat) (a : QP) (k : Nat) : (C t * a).c k = t * a.c k := by unfold C; rw [M_mul, if_pos (Nat.zero_le _), Nat.sub_zero]
theorem C_c (t : Rat) (k : Nat) : (C t).c k = if k = 0 then t else 0 := rfl
theorem g2_ (a b : QP) : a * b = b * a := ex fun k => congrFun (m9_ a.c b.c) k
theorem gm_ (a b c : QP) : a * b * c = a * (b * c) := ex fun k => congrFun (my_ a.c b.c c.c) k
theorem pe_ (a b c : QP) : a * (b + c) = a * b + a * c := ex fun k => congrFun (oB_ a.c b.c c.c) k
theorem lc' (a b c : QP) : a * (b * c) = b * (a * c) := by rw [← gm_, g2_ a b, gm_]
theorem oA_ (a : QP) : C 1 * a = a := ex fun k => by rw [C_mul, Rat.one_mul]
theorem lo_ (a : QP) : a * C 1 = a := by rw [g2_, oA_]
theorem kE_ (a : QP) : C 0 * a = C 0 := ex fun k => by rw [C_mul, Rat.zero_mul, C_c]; split <;> rfl
theorem ip_ (a : QP) : a * C 0 = C 0 := by rw [g2_, kE_]
theorem C0_c (k : Nat) : (C 0).c k = 0 := by rw [C_c]; split <;> rfl
def Dg (a : QP) (n : Nat) : Prop := a.c n ≠ 0 ∧ ∀ i, n < i → a.c i = 0
theorem dg_or (a : QP) : ∀ N : Nat, (∀ i, N ≤ i → a.c i = 0) → a = C 0 ∨ ∃ n, n < N ∧ Dg a n
  | 0, h => .inl (ex fun k => by rw [h k (Nat.zero_le _), C0_c])
  | N + 1, h => by
    by_cases h0 : a.c N = 0
    · rcases dg_or a N (fun i hi => by rcases Nat.lt_or_eq_of_le hi with h1 | h1; exact h i h1; rw [← h1]; exact h0) with h1 | ⟨n, h1, h2⟩
      · exact .inl h1
      · exact .inr ⟨n, by omega, h2⟩
    · exact .inr ⟨N, by omega, h0, fun i hi => h i hi⟩
theorem ex_dg {a : QP} (h : a ≠ C 0) : ∃ n, Dg a n := by
  obtain ⟨N, hN⟩ := a.fs
  rcases dg_or a N hN with h1 | ⟨n, _, h2⟩
  · exact absurd h1 h
  · exact ⟨n, h2⟩
theorem Dg.ne {a : QP} {n : Nat} (h : Dg a n) : a ≠ C 0 := fun e => h.1 (by rw [e, C0_c])
theorem Dg.un {a : QP} {n m : Nat} (h : Dg a n) (g : Dg a m) : n = m := by
  rcases Nat.lt_trichotomy n m with h1 | h1 | h1
  · exact absurd (h.2 _ h1) g.1
  · exact h1
  · exact absurd (g.2 _ h1) h.1
theorem Dg.mul {a b : QP} {n m : Nat} (h : Dg a n) (g : Dg b m) : Dg (a * b) (n + m) := by
  refine ⟨?_, fun i hi => gY_ (n := n + 1) (m := m + 1) (fun j hj => h.2 j hj) (fun j hj => g.2 j hj) i (by omega)⟩
  rw [mul_c, pi_ h.2 g.2]
  exact ry_ h.1 g.1
theorem dg_C {a : QP} (h : Dg a 0) : a = C (a.c 0) := ex fun k => by
  rw [C_c]; split
  · next e => rw [e]
  · exact h.2 k (by omega)
def Dv (a b : QP) : Prop := ∃ h, b = a * h
theorem Dv.refl (a : QP) : Dv a a := ⟨C 1, (lo_ a).symm⟩
theorem Dv.trans {a b c : QP} (h : Dv a b) (g : Dv b c) : Dv a c := by
  obtain ⟨x, hx⟩ := h
  obtain ⟨y, hy⟩ := g
  exact ⟨x * y, by rw [hy, hx, gm_]⟩
theorem Dv.mul {a b : QP} (h : Dv a b) (c : QP) : Dv a (b * c) := h.trans ⟨c, rfl⟩
theorem Dv.add {a b c : QP} (h : Dv a b) (g : Dv a c) : Dv a (b + c) := by
  obtain ⟨x, hx⟩ := h
  obtain ⟨y, hy⟩ := g
  exact ⟨x + y, by rw [hx, hy, pe_]⟩
theorem Dv.zero (a : QP) : Dv a (C 0) := ⟨C 0, (ip_ a).symm⟩
theorem Dv.of_zero {a : QP} (h : Dv (C 0) a) : a = C 0 := by obtain ⟨x, hx⟩ := h; rw [hx, kE_]
theorem Dv.both {a b : QP} (c : QP) (h : Dv a b) : Dv (c * a) (c * b) := by obtain ⟨x, hx⟩ := h; exact ⟨x, by rw [hx, gm_]⟩
theorem Dv.ne {a b : QP} (h : Dv a b) (hb : b ≠ C 0) : a ≠ C 0 := fun e => hb (by rw [e] at h; exact h.of_zero)
theorem Dv.dg {a b : QP} {n m : Nat} (h : Dv a b) (ha : Dg a n) (hb : Dg b m) : n ≤ m := by
  obtain ⟨x, hx⟩ := h
  have h0 : x ≠ C 0 := fun e => hb.ne (by rw [hx, e, ip_])
  obtain ⟨l, hl⟩ := ex_dg h0
  have := (ha.mul hl).un (hx ▸ hb)
  omega
theorem Dv.same {a b : QP} {n : Nat} (h : Dv a b) (ha : Dg a n) (hb : Dg b n) : ∃ t, t ≠ 0 ∧ b = C t * a := by
  obtain ⟨x, hx⟩ := h
  have h0 : x ≠ C 0 := fun e => hb.ne (by rw [hx, e, ip_])
  obtain ⟨l, hl⟩ := ex_dg h0
  have := (ha.mul hl).un (hx ▸ hb)
  obtain rfl : l = 0 := by omega
  exact ⟨x.c 0, hl.1, by rw [hx, g2_, dg_C hl]; rfl⟩
def Irr (h : QP) : Prop := ∃ n, 1 ≤ n ∧ Dg h n ∧ ∀ d, Dv d h → Dg d 0 ∨ Dg d n
theorem Irr.ne {h : QP} (i : Irr h) : h ≠ C 0 := by obtain ⟨n, _, hd, _⟩ := i; exact hd.ne
def D (a : QP) : QP := ⟨fun k => ((k + 1 : Nat) : Rat) * a.c (k + 1), by
  obtain ⟨n, h⟩ := a.fs
  exact ⟨n, fun i hi => by show _ * a.c (i + 1) = 0; rw [h _ (by omega), Rat.mul_zero]⟩⟩
def pow (a : QP) : Nat → QP
  | 0 => C 1
  | n + 1 => a * pow a n
theorem qI_ (a : QP) (m : Nat) : ∀ n, pow a (m + n) = pow a m * pow a n
  | 0 => (lo_ _).symm
  | n + 1 => by show a * pow a (m + n) = pow a m * (a * pow a n); rw [qI_ a m n, lc']
end QP
end Go.Num


set_option linter.unusedVariables false
set_option linter.unusedSimpArgs false
namespace Go.Num
/-- No number but 1 and -1 divides all coefficients. -/
def Cop (c : Nat → Int) : Prop := ∀ u : Int, (∀ k, u ∣ c k) → u ∣ 1
theorem least {p : Nat → Prop} (h : ∃ k, p k) : ∃ k, p k ∧ ∀ j, j < k → ¬ p j := by
  obtain ⟨k, hk⟩ := h
  induction k using Nat.strongRecOn with
  | _ k ih =>
    by_cases hx : ∃ j, j < k ∧ p j
    · obtain ⟨j, h1, h2⟩ := hx
      exact ih j h1 h2
    · exact ⟨k, hk, fun j h1 h2 => hx ⟨j, h1, h2⟩⟩
def Ends (c : Nat → Int) : Prop := ∃ n, ∀ i, n ≤ i → c i = 0
end Go.Num


set_option linter.unusedVariables false
set_option linter.unusedSimpArgs false
namespace Go.Num
open Go Go.Kn
section
variable {a o : Int} {d : Nat → Int} {n : Nat}
end
/-- A polynomial of at most degree n and size M, primitive or zero. -/
structure Pr (c : Nat → Int) (n M : Nat) : Prop where
  z : ∀ i, n < i → c i = 0
  b : ∀ k, (c k).natAbs ≤ M
  p : Cop c ∨ ∀ k, c k = 0
theorem Pr.e {c : Nat → Int} {n M : Nat} (h : Pr c n M) : Ends c := ⟨n + 1, fun i hi => h.z i hi⟩
theorem Po.top {p : List I} {c : Nat → Int} (h : Po p c) (h0 : p ≠ []) : ∃ n, p.length = n + 1 ∧ c n ≠ 0 ∧ ∀ i, n < i → c i = 0 := by
  obtain ⟨n, hn⟩ : ∃ n, p.length = n + 1 := ⟨p.length - 1, by have := List.length_pos_iff.2 h0; omega⟩
  exact ⟨n, hn, h.last hn, fun i hi => h.zero (by omega)⟩
theorem Po.ends {p : List I} {c : Nat → Int} (h : Po p c) : Ends c := ⟨p.length, fun i hi => h.zero hi⟩
end Go.Num

