/- The statements about vectors, of the plain functions that the program and the reference compute. No program stands in it. Polynomials: the program's and the reference's sums, products, remainders; remainders get shorter. No program stands in it. Walks: what these functions return. -/
import Derived.Test.YtjdfogfmeibkgaaGreatZGE
import Derived.KernelRfl
import Derived.Test.YtjdfogfmeibkgaaGreatZFp
import Derived.Test.YtjdfogfmeibkgaaGreatZYl
import Derived.Test.YtjdfogfmeibkgaaGreatZSa

set_option linter.unusedVariables false
set_option linter.unusedSimpArgs false
namespace Go.Num
open Go Go.Kn
theorem Z.cases (z : Z) : z = Z.bad ∨ ∃ v : Int, v.natAbs < 4294967296 ^ 16 ∧ z = Z.of v ∧ z.o = some v := by
  cases h : z.o with
  | none => exact .inl (Z.eq_bad h)
  | some v => exact .inr ⟨v, z.h v h, Z.eq_of h, rfl⟩
theorem Z.zero_add (z : Z) : Z.add (Z.of 0) z = z := by
  rcases Z.cases z with rfl | ⟨v, _, rfl, hv⟩
  · rfl
  · rw [Z.add, a4_ (Z.of_some (by decide)) hv, Int.zero_add]
theorem W.ext {a b : W} (h : a.1 = b.1) : a = b := Subtype.ext h
theorem sign0 (z : Z) : ((Z.signW z).1 == 0) = decide (z.sign = 0) := by
  show (z.sign == 0) = _
  rfl
/-- What Primitive returns if all goes well. -/
structure PrimOk (a : A3 I) (p : A3 W) (x y z g : Int) : Prop where
  ax : a.x.dec.o = some x
  ay : a.y.dec.o = some y
  az : a.z.dec.o = some z
  gd : g = ((Int.gcd (Int.gcd (Int.gcd 0 x : Nat) y : Nat) z : Nat) : Int)
  g0 : 0 < g
  px : g * p.x.1 = x
  py : g * p.y.1 = y
  pz : g * p.z.1 = z
  bx : -2305843009213693952 < p.x.1 ∧ p.x.1 < 2305843009213693952
  bY : -2305843009213693952 < p.y.1 ∧ p.y.1 < 2305843009213693952
  bz : -2305843009213693952 < p.z.1 ∧ p.z.1 < 2305843009213693952
theorem jq_ {x g : Int} (h : g ∣ x) : g * x.fdiv g = x := Int.mul_fdiv_cancel' h
def Z.Is (z : Z) (v : Int) : Prop := z.o = none ∨ z.o = some v
theorem is_of (v : Int) : (Z.of v).Is v := by unfold Z.Is; rw [Z.of_o]; split <;> simp
theorem l5_ {f : Int → Int → Int} {a b : Z} {x y : Int} (ha : a.Is x) (hb : b.Is y) : (lift2 (fun x y => Z.of (f x y)) a b).Is (f x y) := by
  rcases ha with ha | ha
  · left; rw [c6_ (.inl ha)]; rfl
  · rcases hb with hb | hb
    · left; rw [c6_ (.inr hb)]; rfl
    · rw [a4_ ha hb]; exact is_of _
theorem qG_ {a b : Z} {x y : Int} (ha : a.Is x) (hb : b.Is y) : (Z.add a b).Is (x + y) := l5_ ha hb
theorem kv_ {a b : Z} {x y : Int} (ha : a.Is x) (hb : b.Is y) : (Z.mul a b).Is (x * y) := l5_ ha hb
theorem ru_ {a : Z} {x : Int} (ha : a.Is x) : (Z.neg a).Is (-x) := by
  rcases ha with ha | ha
  · left; rw [Z.neg, fs_ ha]; rfl
  · rw [Z.neg, dA_ ha]; exact is_of _
theorem pi_ {a b : Z} {x y : Int} (ha : a.Is x) (hb : b.Is y) : (Z.sub a b).Is (x - y) := by
  rw [Int.sub_eq_add_neg]; exact qG_ ha (ru_ hb)
theorem Z.Is.sign {z : Z} {v : Int} (h : z.Is v) : z.o = none ∨ z.sign = v.sign := by
  rcases h with h | h
  · exact .inl h
  · right; unfold Z.sign; rw [h]
theorem Z.Is.sign0 {z : Z} (h : z.Is 0) : z.sign = 0 := by
  unfold Z.sign; rcases h with h | h <;> rw [h] <;> rfl
/-- z is the number v, of less than 2^k in absolute value. -/
structure Fit (z : Z) (v : Int) (k : Nat) : Prop where
  eq : z = Z.of v
  lt : v.natAbs < 2 ^ k
theorem p512 {k : Nat} (hk : k ≤ 511) {n : Nat} (h : n < 2 ^ k) : n < 4294967296 ^ 16 := by
  have e : (2 : Nat) ^ (32 * 16) = (2 ^ 32) ^ 16 := Nat.pow_mul 2 32 16
  exact Nat.lt_of_lt_of_le h (Nat.le_trans (Nat.pow_le_pow_right (by decide) (show k ≤ 32 * 16 by omega)) (Nat.le_of_eq e))
theorem Fit.o {z : Z} {v : Int} {k : Nat} (h : Fit z v k) (hk : k ≤ 511) : z.o = some v := by rw [h.eq]; exact Z.of_some (p512 hk h.lt)
theorem Fit.mono {z : Z} {v : Int} {k k' : Nat} (h : Fit z v k) (hk : k ≤ k') : Fit z v k' := ⟨h.eq, Nat.lt_of_lt_of_le h.lt (Nat.pow_le_pow_right (by decide) hk)⟩
theorem Fit.mul {a b : Z} {x y : Int} {k l : Nat} (ha : Fit a x k) (hb : Fit b y l) (hk : k ≤ 511 ∧ l ≤ 511) : Fit (Z.mul a b) (x * y) (k + l) :=
  ⟨by rw [Z.mul, a4_ (ha.o hk.1) (hb.o hk.2)], by rw [Int.natAbs_mul, Nat.pow_add]; exact Nat.mul_lt_mul_of_lt_of_lt ha.lt hb.lt⟩
theorem Fit.add {a b : Z} {x y : Int} {k l : Nat} (ha : Fit a x k) (hb : Fit b y l) (hk : k ≤ 511 ∧ l ≤ 511) : Fit (Z.add a b) (x + y) (max k l + 1) := by
  refine ⟨by rw [Z.add, a4_ (ha.o hk.1) (hb.o hk.2)], ?_⟩
  have h1 := (ha.mono (Nat.le_max_left k l)).lt
  have h2 := (hb.mono (Nat.le_max_right k l)).lt
  rw [Nat.pow_succ]; omega
theorem Fit.neg {a : Z} {x : Int} {k : Nat} (ha : Fit a x k) (hk : k ≤ 511) : Fit (Z.neg a) (-x) k := ⟨by rw [Z.neg, dA_ (ha.o hk)], by rw [Int.natAbs_neg]; exact ha.lt⟩
theorem Fit.sub {a b : Z} {x y : Int} {k l : Nat} (ha : Fit a x k) (hb : Fit b y l) (hk : k ≤ 511 ∧ l ≤ 511) : Fit (Z.sub a b) (x - y) (max k l + 1) := by
  rw [Int.sub_eq_add_neg]; exact ha.add (hb.neg hk.2) hk
theorem Fit.sign {z : Z} {v : Int} {k : Nat} (h : Fit z v k) (hk : k ≤ 511) : z.sign = v.sign := by unfold Z.sign; rw [h.o hk]
end Go.Num


set_option linter.unusedVariables false
set_option linter.unusedSimpArgs false
namespace Go.Num
open Go Go.Kn
theorem g6_ {L : Nat → List I → Nat → List I × Nat} {n : Nat} {g : Nat → I} (h1 : ∀ k out i, i < n → L (k + 1) out i = L k (out ++ [g i]) (i + 1)) (h2 : ∀ k out i, ¬ i < n → L (k + 1) out i = (out, i)) :
    ∀ (k : Nat) (out : List I) (i : Nat), n - i < k → (L k out i).1 = out ++ (List.range' i (n - i)).map g
  | 0, out, i, h => absurd h (Nat.not_lt_zero _)
  | k + 1, out, i, h => by
    by_cases hi : i < n
    · obtain ⟨m, hm⟩ : ∃ m, n - i = m + 1 := ⟨n - i - 1, by omega⟩
      rw [h1 _ _ _ hi, g6_ h1 h2 k _ _ (by omega), hm, iL_, show n - (i + 1) = m by omega]
      simp
    · rw [h2 _ _ _ hi, show n - i = 0 by omega]; simp
theorem jh_ (l : List I) (f : I → Bool) : ∀ (k i : Nat), l.length - i < k → (∃ j : Nat, j < l.length ∧ cD_ l f k i = .inr (W.cv (j : Int)) ∧ (l.drop i).any f = true) ∨ (∃ j, cD_ l f k i = .inl j ∧ (l.drop i).any f = false)
  | 0, i, h => absurd h (Nat.not_lt_zero _)
  | k + 1, i, h => by
    unfold cD_
    by_cases hi : i < l.length
    · rw [decide_eq_true (by omega), cond_true, g4_ l hi, List.any_cons]
      cases hf : f (l.getD i I0)
      · simp only [cond_false, Bool.false_or]
        exact jh_ l f k (i + 1) (by omega)
      · exact .inl ⟨i, hi, rfl, rfl⟩
    · rw [decide_eq_false (by omega), cond_false, List.drop_of_length_le (by omega)]
      exact .inr ⟨i, rfl, rfl⟩
theorem k3_ (l : List I) (f : I → Bool) (hl : l.length ≤ 1000) : ei_ l f = l.any f := by
  unfold ei_ eK_
  rcases jh_ l f (l.length + 1) 0 (by omega) with ⟨j, hj, h1, h2⟩ | ⟨j, h1, h2⟩
  · rw [h1]
    show decide (0 ≤ (W.cv (j : Int)).1) = _
    rw [cvE (by omega), decide_eq_true (by omega)]
    rw [List.drop_zero] at h2; exact h2.symm
  · rw [h1]
    rw [List.drop_zero] at h2; rw [h2]; rfl
theorem p8_ (l : List I) : (l.any fun y => !gdI y) = !l.all gdI := by
  induction l with
  | nil => rfl
  | cons x l ih =>
    rw [List.any_cons, List.all_cons, ih]
    cases gdI x <;> rfl
theorem eI_ {p : List I} (h : p.length ≤ 1000) : ag_ p = !p.all gdI := by
  unfold ag_
  rw [k3_ _ _ h]; exact p8_ p
theorem jz_ (p : List I) : ∀ (k i : Nat), p.length - i < k → (∃ j, bl_ p k i = .inl j ∧ (p.drop i).all gdI = true) ∨ (bl_ p k i = .inr true ∧ (p.drop i).all gdI = false)
  | 0, i, h => absurd h (Nat.not_lt_zero _)
  | k + 1, i, h => by
    unfold bl_
    by_cases hi : i < p.length
    · rw [decide_eq_true (by omega), cond_true, g4_ p hi, List.all_cons]
      show (∃ j, (bif gdI (p.getD i I0) then _ else _) = _ ∧ _) ∨ ((bif gdI (p.getD i I0) then _ else _) = _ ∧ _)
      cases gdI (p.getD i I0)
      · exact .inr ⟨rfl, rfl⟩
      · simp only [cond_true, Bool.true_and]
        exact jz_ p k (i + 1) (by omega)
    · rw [decide_eq_false (by omega), cond_false, List.drop_of_length_le (by omega)]
      exact .inl ⟨i, rfl, rfl⟩
theorem eN_ (p : List I) : ab_ p = !p.all gdI := by
  unfold ab_
  rcases jz_ p (p.length + 1) 0 (by omega) with ⟨j, h1, h2⟩ | ⟨h1, h2⟩
  · rw [h1]; rw [List.drop_zero] at h2; rw [h2]; rfl
  · rw [h1]; rw [List.drop_zero] at h2; rw [h2]; rfl
theorem at_eq (p : List I) (k : Int) : ay_ p k = aZ_ p k := rfl
theorem j6_ {l : List I} {k : Nat} (h : l.length ≤ k) : l.getD k I0 = I0 := by simp [List.getD, List.getElem?_eq_none h]
theorem iI_ (p : List I) (k : Nat) : aZ_ p (k : Int) = p.getD k I0 := by
  unfold aZ_
  rw [decide_eq_false (by omega), Bool.false_or, Int.toNat_natCast]
  by_cases h : p.length ≤ k
  · rw [decide_eq_true (by omega), cond_true, j6_ h]
  · rw [decide_eq_false (by omega), cond_false]
theorem lP_ (n : Nat) : List.range n = List.range' 0 n := List.range_eq_range'
theorem gV_ {p q : List I} (f : I → I → I) (hp : p.length ≤ 1000) (hq : q.length ≤ 1000) : br_ p q f = bif (p.all gdI && q.all gdI) then mkP ((List.range (max p.length q.length)).map fun k => f (p.getD k I0) (q.getD k I0)) else badp := by
  unfold br_
  rw [eI_ hp, eI_ hq, fz_, Int.toNat_natCast]
  have e : ((List.range (max p.length q.length)).map fun j => b4_ (d8_ j f p q)) = (List.range (max p.length q.length)).map fun k => f (p.getD k I0) (q.getD k I0) := List.map_congr_left fun k _ => by
    show f (aZ_ p (k : Int)) (aZ_ q (k : Int)) = _
    rw [iI_, iI_]
  rw [e]
  cases p.all gdI <;> cases q.all gdI <;> rfl
theorem pZ_ {p q : List I} (hp : p.length ≤ 1000) (hq : q.length ≤ 1000) : cL_ p q = bb_ p q := by
  unfold cL_ bb_
  rw [gV_ _ hp hq, eN_, eN_]
  have e := g6_ (L := by_ p q) (n := max p.length q.length) (g := fun k => E (Z.add (p.getD k I0).dec (q.getD k I0).dec))
    (fun k out i h => by conv => lhs; unfold by_
                         rw [decide_eq_true (by omega), at_eq, at_eq, iI_, iI_]; rfl) (fun k out i h => by unfold by_; rw [decide_eq_false (by omega)]; rfl) (max p.length q.length + 1) [] 0 (by omega)
  rw [List.nil_append, Nat.sub_zero, ← lP_] at e
  simp only [ap, e, fS_]
  cases p.all gdI <;> cases q.all gdI <;> rfl
theorem qm_ {p q : List I} (hp : p.length ≤ 1000) (hq : q.length ≤ 1000) : dc_ p q = ba_ p q := by
  unfold dc_ ba_
  rw [gV_ _ hp hq, eN_, eN_]
  have e := g6_ (L := bz_ p q) (n := max p.length q.length) (g := fun k => E (Z.sub (p.getD k I0).dec (q.getD k I0).dec))
    (fun k out i h => by conv => lhs; unfold bz_
                         rw [decide_eq_true (by omega), at_eq, at_eq, iI_, iI_]; rfl) (fun k out i h => by unfold bz_; rw [decide_eq_false (by omega)]; rfl) (max p.length q.length + 1) [] 0 (by omega)
  rw [List.nil_append, Nat.sub_zero, ← lP_] at e
  simp only [ap, e, fS_]
  cases p.all gdI <;> cases q.all gdI <;> rfl
theorem mH_ {p : List I} (n : I) (hp : p.length ≤ 1000) : cC_ p n = a5_ p n := by
  unfold cC_ a5_
  rw [gV_ _ hp (by decide), eN_]
  have e := g6_ (L := bm_ p n) (n := p.length) (g := fun k => E (Z.mul (p.getD k I0).dec n.dec))
    (fun k out i h => by conv => lhs; unfold bm_
                         rw [decide_eq_true (by omega)]; rfl) (fun k out i h => by unfold bm_; rw [decide_eq_false (by omega)]; rfl) (p.length + 1) [] 0 (by omega)
  rw [List.nil_append, Nat.sub_zero, ← lP_] at e
  simp only [ap, e, fS_, List.length_nil, Nat.max_zero, List.all_nil, Bool.and_true]
  show (bif gdI n then _ else _) = (bif (_ || !gdI n) then _ else _)
  cases p.all gdI <;> cases gdI n <;> rfl
theorem mm_ {p : List I} (hp : p.length ≤ 1000) : ad_ p = aY_ p := by
  unfold ad_ aY_
  rw [eI_ hp, eN_, fz_]
  have e := g6_ (L := bg_ p) (n := p.length) (g := fun k : Nat => E (Z.mul (Z.of (k : Int)) (p.getD k I0).dec))
    (fun k out i h => by conv => lhs; unfold bg_
                         rw [decide_eq_true (by omega)]; rfl) (fun k out i h => by unfold bg_; rw [decide_eq_false (by omega)]; rfl) (p.length + 1) [] 1 (by omega)
  have e2 : (List.range' 1 (p.length - 1)).map (fun k : Nat => E (Z.mul (Z.of (k : Int)) (p.getD k I0).dec)) = (List.range ((p.length : Int) - 1).toNat).map fun j => b4_ (dE_ j p) := by
    rw [show ((p.length : Int) - 1).toNat = p.length - 1 by omega, List.range'_eq_map_range, List.map_map]
    refine List.map_congr_left fun k _ => ?_
    show E (Z.mul (Z.of ((1 + k : Nat) : Int)) (p.getD (1 + k) I0).dec) = E (Z.mul (Z.of ((k + 1 : Nat) : Int)) (p.getD (k + 1) I0).dec)
    rw [Nat.add_comm]
  rw [List.nil_append, e2] at e
  simp only [ap, e, fS_]
  rfl
theorem kx_ (p q out : List I) (k t i : Nat) (m : I) (hi : i ≤ k) (h : q.length ≤ k - i ∨ p.length ≤ i) : aw_ p q out k (t + 1) i m = aw_ p q out k t (i + 1) m := by
  conv => lhs; unfold aw_
  rw [decide_eq_true (by omega), cond_true]
  have e : (decide ((i : Int) < ((p.length : Nat) : Int)) && decide ((k : Int) - (i : Int) < ((q.length : Nat) : Int))) = false := by
    rcases h with h | h
    · rw [decide_eq_false (p := (k : Int) - (i : Int) < ((q.length : Nat) : Int)) (by omega), Bool.and_false]
    · rw [decide_eq_false (by omega), Bool.false_and]
  rw [e, cond_false]
theorem kC_ (p q out : List I) (k : Nat) : ∀ (t i : Nat) (m : I), p.length ≤ i → (aw_ p q out k t i m).2 = m
  | 0, i, m, h => rfl
  | t + 1, i, m, h => by
    by_cases hi : i ≤ k
    · rw [kx_ p q out k t i m hi (.inr h), kC_ p q out k t _ _ (by omega)]
    · unfold aw_
      rw [decide_eq_false (by omega), cond_false]
theorem kE_ (p q out : List I) (k : Nat) : ∀ (t t' i : Nat) (m : I), k + 1 - i < t → k + 1 - i < t' → k + 1 ≤ i + q.length → (cj_ k q p t i m).2 = (aw_ p q out k t' i m).2
  | 0, _, i, m, h, _, _ => absurd h (Nat.not_lt_zero _)
  | t + 1, 0, i, m, _, h, _ => absurd h (Nat.not_lt_zero _)
  | t + 1, t' + 1, i, m, h, h', hq => by
    by_cases hp : i < p.length
    · by_cases hi : i ≤ k
      · unfold cj_ aw_
        rw [decide_eq_true (p := (i : Int) ≤ min (k : Int) ((p.length : Nat) - 1)) (by omega), decide_eq_true (p := (i : Int) ≤ (k : Int)) (by omega), decide_eq_true (p := (i : Int) < ((p.length : Nat) : Int)) (by omega), decide_eq_true (p := (k : Int) - (i : Int) < ((q.length : Nat) : Int)) (by omega)]
        exact kE_ p q out k t t' _ _ (by omega) (by omega) (by omega)
      · unfold cj_ aw_
        rw [decide_eq_false (p := (i : Int) ≤ min (k : Int) ((p.length : Nat) - 1)) (by omega), decide_eq_false (p := (i : Int) ≤ (k : Int)) (by omega)]; rfl
    · rw [kC_ p q out k _ _ _ (by omega)]
      unfold cj_
      rw [decide_eq_false (by omega)]; rfl
theorem kr_ (p q out : List I) (k : Nat) (m : I) : ∀ (n t i : Nat), i + n = k + 1 - q.length → k + 1 - i < t → aw_ p q out k t i m = aw_ p q out k (t - n) (i + n) m
  | 0, t, i, _, _ => rfl
  | n + 1, t, i, h, ht => by
    obtain ⟨t, rfl⟩ : ∃ t', t = t' + 1 := ⟨t - 1, by omega⟩
    rw [kx_ p q out k t i m (by omega) (.inl (by omega)), kr_ p q out k m n t (i + 1) (by omega) (by omega)]
    rw [show t + 1 - (n + 1) = t - n by omega, show i + 1 + n = i + (n + 1) by omega]
theorem qj_ (p q out : List I) (k : Nat) : da_ k q p = (aw_ p q out k (k + 2) 0 I0).2 := by
  unfold da_
  simp only [ap]
  rw [kr_ p q out k I0 (k + 1 - q.length) (k + 2) 0 (by omega) (by omega), Nat.zero_add]
  rw [show ((k : Int) - ((q.length : Nat) : Int) + 1).toNat = k + 1 - q.length by omega]
  exact kE_ p q out k _ _ _ _ (by omega) (by omega) (by omega)
theorem qt_ {p q : List I} (hp : p.length ≤ 1000) (hq : q.length ≤ 1000) : bW_ p q = a9_ p q := by
  unfold bW_ a9_
  rw [eI_ hp, eI_ hq, eN_, eN_, fz_]
  cases h0 : (((p.length : Nat) : Int) == 0) || (((q.length : Nat) : Int) == 0)
  · have h1 : p.length ≠ 0 ∧ q.length ≠ 0 := by
      have := Bool.or_eq_false_iff.1 h0
      exact ⟨fun h => by rw [h] at this; exact absurd this.1 (by decide), fun h => by rw [h] at this; exact absurd this.2 (by decide)⟩
    have e := g6_ (L := bB_ p q) (n := p.length + q.length - 1) (g := fun k => da_ k q p)
      (fun k out i h => by conv => lhs; unfold bB_
                           rw [decide_eq_true (by omega)]; simp only [cond_true, ap]; rw [← qj_]) (fun k out i h => by unfold bB_; rw [decide_eq_false (by omega)]; rfl) (p.length + q.length) [] 0 (by omega)
    rw [List.nil_append, Nat.sub_zero, ← lP_] at e
    simp only [ap, e, fS_]
    rw [show (((p.length + q.length : Nat) : Int) - 1).toNat = p.length + q.length - 1 by omega]
    rfl
  · rfl
theorem kQ_ (t : List I) (k j : Nat) (x : I) (h : j ≠ k) : (t.set k x).getD j I0 = t.getD j I0 := by
  simp [List.getD, List.getElem?_set_ne (Ne.symm h)]
theorem le_ (t : List I) (k : Nat) (x : I) (h : k < t.length) : (t.set k x).getD k I0 = x := by
  simp [List.getD, List.getElem?_set_self h]
theorem zr_is {x : I} (h : x.dec.Is 0) : zrI x = true := by
  unfold zrI
  have := h.sign0
  show (x.dec.sign == 0) = true
  rw [this]; rfl
theorem is_zr {x : I} (h : zrI x = true) : x.dec.Is 0 := by
  have h1 : x.dec.sign = 0 := by unfold zrI at h; exact (by simpa using h : (Z.signW x.dec).1 = 0)
  cases ho : x.dec.o with
  | none => exact .inl ho
  | some v =>
    unfold Z.sign at h1
    rw [ho] at h1
    have : v = 0 := Int.sign_eq_zero_iff_zero.1 h1
    rw [this] at ho; exact .inr ho
theorem zr0 : zrI I0 = true := by decide +kernel
theorem mZ_ (z : Z) : ∃ v : Int, z.Is v := by
  cases h : z.o with
  | none => exact ⟨0, .inl h⟩
  | some v => exact ⟨v, .inr h⟩
theorem o4_ {z : Z} {v : Int} (h : z.Is v) : (Z.abs z).Is (v.natAbs : Int) := by
  rcases h with h | h
  · left; rw [Z.abs, fs_ h]; rfl
  · rw [Z.abs, dA_ h]; exact is_of _
/-- All elements from n on are zero. -/
def ZFrom (n : Nat) (r : List I) : Prop := ∀ j : Nat, n ≤ j → zrI (r.getD j I0) = true
theorem iO_ {n : Nat} : ∀ (m : Nat) (r : List I), r.length ≤ m → ZFrom n r → (strip r).length ≤ n
  | 0, r, h, _ => by
    have : r = [] := List.eq_nil_of_length_eq_zero (by omega)
    rw [this]; exact Nat.zero_le _
  | m + 1, r, h, hz => by
    by_cases hn : r.length ≤ n
    · exact Nat.le_trans (hz_ r) hn
    · rcases fh_ r with rfl | ⟨s, x, rfl⟩
      · exact Nat.zero_le _
      · simp only [List.length_append, List.length_cons, List.length_nil] at hn h
        have hx := hz s.length (by omega)
        rw [show (s ++ [x]).getD s.length I0 = x by simp] at hx
        rw [eO_, hx, cond_true]
        refine iO_ m s (by omega) (fun j hj => ?_)
        by_cases hjs : j < s.length
        · have := hz j hj
          rwa [show (s ++ [x]).getD j I0 = s.getD j I0 by simp [List.getD, List.getElem?_append_left hjs]] at this
        · rw [j6_ (by omega)]; exact zr0
theorem m4_ {n : Nat} {r : List I} (h : ZFrom n r) : mkP r = badp ∨ (mkP r).length ≤ n := by
  unfold mkP
  cases r.all gdI
  · exact .inl rfl
  · simp only [cond_true]
    split
    · exact .inr (iO_ _ r (Nat.le_refl _) h)
    · exact .inl rfl
/-- What a round makes of an element. -/
def remE (q : List I) (i : Int) (c : I) (k : Nat) (x : I) : I := E (Z.sub (Z.mul (Z.abs (q.getD (q.length - 1) I0).dec) x.dec) (Z.mul c.dec (aZ_ q ((k : Int) - i)).dec))
theorem og_ (q : List I) (i : Int) (c : I) (k : Nat) (x : I) : (remE q i c k x).dec = Z.sub (Z.mul (Z.abs (q.getD (q.length - 1) I0).dec) x.dec) (Z.mul c.dec (aZ_ q ((k : Int) - i)).dec) := by
  unfold remE; rw [E_dec]
theorem iu_ (p q r : List I) (i : Int) (c : I) : ∀ (f k : Nat) (t : List I), r.length - k < f → t.length = r.length →
    (∃ t' k', bQ_ p q i r c f k t = .inl (k', t') ∧ t'.length = r.length ∧ ∀ j, t'.getD j I0 = if k ≤ j ∧ j < r.length then remE q i c j (t.getD j I0) else t.getD j I0) ∨ bQ_ p q i r c f k t = .inr badp
  | 0, k, t, h, _ => absurd h (Nat.not_lt_zero _)
  | f + 1, k, t, h, hl => by
    unfold bQ_
    by_cases hk : k < r.length
    · rw [decide_eq_true (by omega), cond_true]
      show (∃ t' k', (bif ((t.set k (remE q i c k (t.getD k I0))).getD k I0).1.bad then _ else bQ_ p q i r c f (k + 1) (t.set k (remE q i c k (t.getD k I0)))) = _ ∧ _) ∨ (bif ((t.set k (remE q i c k (t.getD k I0))).getD k I0).1.bad then _ else bQ_ p q i r c f (k + 1) (t.set k (remE q i c k (t.getD k I0)))) = _
      cases ((t.set k (remE q i c k (t.getD k I0))).getD k I0).1.bad
      · simp only [cond_false]
        rcases iu_ p q r i c f (k + 1) (t.set k (remE q i c k (t.getD k I0))) (by omega) (by rw [List.length_set]; exact hl) with ⟨t', k', h1, h2, h3⟩ | h1
        · refine .inl ⟨t', k', h1, h2, fun j => ?_⟩
          rw [h3 j]
          by_cases hj : j = k
          · subst hj
            rw [if_neg (by omega), if_pos (by omega), le_ _ _ _ (by omega)]
          · rw [kQ_ _ _ _ _ hj]
            by_cases hj2 : k + 1 ≤ j ∧ j < r.length
            · rw [if_pos hj2, if_pos (by omega)]
            · rw [if_neg hj2, if_neg (by omega)]
        · exact .inr h1
      · exact .inr rfl
    · rw [decide_eq_false (by omega), cond_false]
      exact .inl ⟨t, k, rfl, hl, fun j => by rw [if_neg (by omega)]⟩
theorem n2_ {q r t : List I} {i n : Nat} {c : I} (hn : q.length = n + 1) (hc : c.dec = Z.mul (Z.of (Z.signW (q.getD n I0).dec).1) (r.getD (i + n) I0).dec) (hz : ∀ j, i + n < j → zrI (r.getD j I0) = true)
    (ht : ∀ j, t.getD j I0 = if 0 ≤ j ∧ j < r.length then remE q i c j (r.getD j I0) else r.getD j I0) (j : Nat) (hj : i + n ≤ j) : zrI (t.getD j I0) = true := by
  rw [ht j]
  by_cases hlt : j < r.length
  · rw [if_pos ⟨Nat.zero_le _, hlt⟩]
    refine zr_is ?_
    rw [og_, hn, Nat.add_sub_cancel]
    obtain ⟨a, ha⟩ := mZ_ (q.getD n I0).dec
    by_cases he : j = i + n
    · subst he
      have e1 : aZ_ q (((i + n : Nat) : Int) - (i : Int)) = q.getD n I0 := by
        rw [show (((i + n : Nat) : Int) - (i : Int)) = (n : Int) by omega, iI_]
      rw [e1, hc]
      obtain ⟨v, hv⟩ := mZ_ (r.getD (i + n) I0).dec
      have hs : (Z.of (Z.signW (q.getD n I0).dec).1).Is (a.sign) ∨ (q.getD n I0).dec.o = none := by
        rcases ha with h | h
        · exact .inr h
        · left
          have : (Z.signW (q.getD n I0).dec).1 = a.sign := by show (q.getD n I0).dec.sign = _; unfold Z.sign; rw [h]
          rw [this]; exact is_of _
      rcases hs with hs | hs
      · have h1 := pi_ (kv_ (o4_ ha) hv) (kv_ (kv_ hs hv) ha)
        have e2 : (a.natAbs : Int) * v - a.sign * v * a = 0 := by
          have h3 : a.sign * a = (a.natAbs : Int) := by rcases Int.lt_trichotomy a 0 with h | h | h <;> first | (rw [Int.sign_eq_neg_one_of_neg h]; omega) | (rw [Int.sign_eq_one_of_pos h]; omega) | (subst h; rfl)
          have h4 : a.sign * v * a = (a.sign * a) * v := by rw [Int.mul_assoc, Int.mul_comm v a, Int.mul_assoc]
          rw [h4, h3]; omega
        rw [e2] at h1; exact h1
      · left
        have hb : ∀ z : Z, (Z.mul z (q.getD n I0).dec).o = none := fun z => by rw [Z.mul, c6_ (.inr hs)]; rfl
        have h2 := hb (Z.mul (Z.of (Z.signW (q.getD n I0).dec).1) (r.getD (i + n) I0).dec)
        have h3 : (Z.neg (Z.mul (Z.mul (Z.of (Z.signW (q.getD n I0).dec).1) (r.getD (i + n) I0).dec) (q.getD n I0).dec)).o = none := by rw [Z.neg, fs_ h2]; rfl
        show (Z.add _ (Z.neg _)).o = none
        rw [Z.add, c6_ (.inr h3)]; rfl
    · have hzj := is_zr (hz j (by omega))
      have e1 : aZ_ q ((j : Int) - (i : Int)) = I0 := by
        unfold aZ_
        rw [decide_eq_true (p := ((q.length : Nat) : Int) ≤ (j : Int) - (i : Int)) (by omega), Bool.or_true, cond_true]
      obtain ⟨w, hw⟩ := mZ_ c.dec
      rw [e1]
      have h1 := pi_ (kv_ (o4_ ha) hzj) (kv_ hw (is_zr zr0))
      simpa using h1
  · rw [if_neg (by omega), j6_ (by omega)]; exact zr0
theorem lZ_ (p q : List I) {n : Nat} (hn : q.length = n + 1) : ∀ (f : Nat) (i : Int) (r : List I), (i + 1).toNat < f → (∀ j : Nat, n ≤ j → i + n < (j : Int) → zrI (r.getD j I0) = true) →
    (∃ i' r', bR_ p q f i r = .inl (i', r') ∧ ZFrom n r') ∨ bR_ p q f i r = .inr badp
  | 0, i, r, h, _ => absurd h (Nat.not_lt_zero _)
  | f + 1, i, r, h, hz => by
    unfold bR_
    by_cases hi : 0 ≤ i
    · obtain ⟨m, rfl⟩ : ∃ m : Nat, i = (m : Int) := ⟨i.toNat, by omega⟩
      rw [decide_eq_true hi, cond_true]
      simp only
      rcases iu_ p q r (m : Int) (E (Z.mul (Z.of (Z.signW (q.getD (q.length - 1) I0).dec).1) (r.getD ((m : Int).toNat + (q.length - 1)) I0).dec)) (r.length + 1) 0 r (by omega) rfl with ⟨t', k', h1, h2, h3⟩ | h1
      · rw [h1]
        refine lZ_ p q hn f ((m : Int) - 1) t' (by omega) (fun j hj1 hj2 => ?_)
        refine n2_ (i := m) hn ?_ (fun j' hj' => hz j' (by omega) (by omega)) h3 j (by omega)
        rw [E_dec, hn, Nat.add_sub_cancel, Int.toNat_natCast]
      · rw [h1]; exact .inr rfl
    · rw [decide_eq_false hi, cond_false]
      exact .inl ⟨i, r, rfl, fun j hj => hz j hj (by omega)⟩
theorem mO_ (l : List I) : an_ l = mkP l := by
  unfold an_
  rw [fz_, Int.toNat_natCast]
  congr 1
  refine List.ext_getElem? fun k => ?_
  by_cases h : k < l.length
  · simp [h, b4_, d7_]
  · simp [h]
theorem kB_ (p q : List I) (hq : 0 < q.length) : bP_ p q = badp ∨ (bP_ p q).length < q.length := by
  obtain ⟨n, hn⟩ : ∃ n, q.length = n + 1 := ⟨q.length - 1, by omega⟩
  unfold bP_
  cases (ag_ p || (ag_ q || (((q.length : Nat) : Int) == 0)))
  · simp only [cond_false]
    rcases lZ_ p q hn (p.length + 1) (((p.length : Nat) : Int) - 1 - (((q.length : Nat) : Int) - 1)) ([] ++ p) (by omega) (fun j hj1 hj2 => by rw [List.nil_append, j6_ (by omega)]; exact zr0) with ⟨i', r', h1, h2⟩ | h1
    · rw [h1]
      show an_ r' = badp ∨ (an_ r').length < _
      rw [mO_]
      rcases m4_ h2 with h3 | h3
      · exact .inl h3
      · exact .inr (by omega)
    · rw [h1]; exact .inl rfl
  · exact .inl rfl
theorem pX_ (p q : List I) : ∀ (f : Nat) (i : Int) (r : List I) (y : List I), bR_ p q f i r = .inr y → y = badp := by
  intro f
  induction f with
  | zero => intro i r y hy; cases hy
  | succ f ih =>
    intro i r y hy
    unfold bR_ at hy
    cases hd : decide (0 ≤ i)
    · rw [hd] at hy; cases hy
    · rw [hd] at hy
      simp only [cond_true] at hy
      rcases iu_ p q r i (E (Z.mul (Z.of (Z.signW (q.getD (q.length - 1) I0).dec).1) (r.getD (i.toNat + (q.length - 1)) I0).dec)) (r.length + 1) 0 r (by omega) rfl with ⟨t', k', h1, h2, h3⟩ | h1
      · rw [h1] at hy; exact ih _ _ _ hy
      · rw [h1] at hy; exact (Sum.inr.inj hy).symm
theorem e2_ (p q : List I) : (bP_ p q).length ≤ 25 := by
  unfold bP_
  exact ey_ dO_ (qP_ (fun s => dn_ _) (fun r h => pX_ p q _ _ _ _ h))
theorem cX_ : badp.all gdI = false := by decide +kernel
theorem lG_ {l : List I} (h : (mkP l).all gdI = true) : mkP l = strip l := by
  unfold mkP at h ⊢
  cases hl : l.all gdI
  · rw [hl] at h; rw [cond_false, cX_] at h; cases h
  · simp only [hl, cond_true] at h ⊢
    split
    · rfl
    · rename_i hs; rw [if_neg hs, cX_] at h; cases h
theorem ir_ {p : List I} (hp : p.length ≤ 1000) (h : (aa_ p).all gdI = true) : p.all gdI = true ∧ (aa_ p).length ≤ p.length := by
  unfold aa_ at h ⊢
  rw [gV_ _ hp (by decide)] at h ⊢
  simp only [List.length_nil, Nat.max_zero, List.all_nil, Bool.and_true] at h ⊢
  cases hg : p.all gdI
  · rw [hg, cond_false, cX_] at h; cases h
  · rw [hg] at h
    simp only [cond_true] at h ⊢
    rw [lG_ h]
    refine ⟨trivial, Nat.le_trans (hz_ _) ?_⟩
    simp
theorem nA_ {a b : List I} (hl : a.length ≤ 25 ∧ b.length ≤ 25) (h : (ag_ a || ag_ b) = false) (h0 : decide (0 < ((b.length : Nat) : Int)) = true) : gmP (aa_ (bP_ a b)) < gmP b := by
  have hb := (Bool.or_eq_false_iff.1 h).2
  rw [eI_ (by omega)] at hb
  have hbg : b.all gdI = true := by simpa using hb
  have hpos := of_decide_eq_true h0
  have e1 : gmP b = 2 * b.length := by unfold gmP; rw [hbg]; rfl
  rw [e1]
  unfold gmP
  cases hg : (aa_ (bP_ a b)).all gdI
  · rw [cond_false]; omega
  · rw [cond_true]
    have h1 := e2_ a b
    obtain ⟨h2, h3⟩ := ir_ (by omega) hg
    rcases kB_ a b (by omega) with h4 | h4
    · rw [h4, cX_] at h2; cases h2
    · omega
end Go.Num

namespace Go.Proofs.YtjdfogfmeibkgaaGreat
open Go.Kn Go.Num
set_option linter.unusedVariables false
set_option linter.unusedSimpArgs false
set_option maxRecDepth 20000
set_option maxHeartbeats 8000000
end Go.Proofs.YtjdfogfmeibkgaaGreat

