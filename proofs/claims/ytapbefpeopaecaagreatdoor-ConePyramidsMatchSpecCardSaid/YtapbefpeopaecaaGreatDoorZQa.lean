/- Cones: the program returns what the specification defines; three statements. No program stands in it. -/
import Derived.Test.YtapbefpeopaecaaGreatDoorZPQ

import Derived.KernelRfl
set_option linter.unusedVariables false
set_option linter.unusedSimpArgs false
namespace Go.Num
open Go Go.Kn
theorem hJ_ : bd_ = true := by kernel_rfl
theorem hW_ (a : A3 W) (b : W) : cp_ a b = a3_ a b := rfl
theorem qR_ (a : A3 W) : am_ a = av_ a := (no_ a).trans (pb_ a).symm
theorem shl16 (z : Z) : Z.shl z 16 = Z.mul z (Z.of 65536) := by
  rcases Z.cases z with rfl | ⟨v, h, rfl, ho⟩
  · rfl
  · unfold Z.shl Z.mul
    rw [cN_ ho, bb_ ho (Z.of_some (by decide))]; rfl
theorem lq_ (a : A3 W) (b : W) (t : A3 W) : ap_ (c0_ (E (Z.quo (Z.shl (Z.mul (Z.of (W.mul b b).1) (bi_ a a).dec) 16) (E (Z.mul (Z.of 1000000) (bi_ t t).dec)).dec))) (E (Z.of 256)) = aA_ a b t := by
  unfold aA_
  rw [qu_, iQ_, shl16, oj_, oj_, E_dec]
  simp only [E_dec]
theorem mQ_ (a : A3 W) (b : W) : cn_ a b = (⟨(av_ a).1, (av_ a).2⟩, ⟨aA_ a b (av_ a).1, aA_ a b (av_ a).2⟩) := by
  unfold cn_
  dsimp only
  rw [lq_, lq_, qR_]
theorem mj_ (a : A3 W) (b : W) : a8_ a b = ((aJ_ a b).l, (aJ_ a b).e) := by
  unfold a8_ aJ_
  rw [hW_, mQ_]
  simp only [k5_, lF_, mO_, oQ_]
  cases a3_ a b with
  | false => rfl
  | true => cases (b.1 == 0) <;> rfl
theorem i5_ (a : List (A3 Rt)) : ∀ k i : Nat, ∃ j, bR_ a a k i = .inl j
  | 0, i => ⟨i, rfl⟩
  | k + 1, i => by
    unfold bR_
    simp only [decide_true, Bool.and_self, cond_true]
    cases decide (((i : Nat) : Int) < ((a.length : Nat) : Int)) with
    | true => exact i5_ a k (i + 1)
    | false => exact ⟨i, rfl⟩
theorem jN_ (a : List (A3 Rt)) : bu_ a a = true := by
  unfold bu_
  obtain ⟨j, h⟩ := i5_ a (a.length + 1) 0
  rw [h, bne_self_eq_false]; rfl
theorem i6_ (a : List Rt) : ∀ k i : Nat, ∃ j, bS_ a a k i = .inl j
  | 0, i => ⟨i, rfl⟩
  | k + 1, i => by
    unfold bS_
    simp only [decide_true, Bool.and_self, cond_true]
    cases decide (((i : Nat) : Int) < ((a.length : Nat) : Int)) with
    | true => exact i6_ a k (i + 1)
    | false => exact ⟨i, rfl⟩
theorem jI_ (a : List Rt) : bg_ a a = true := by
  unfold bg_
  obtain ⟨j, h⟩ := i6_ a (a.length + 1) 0
  rw [h, bne_self_eq_false]; rfl
theorem mq_ (a : A3 W) (b : W) : cQ_ a b = true := by
  unfold cQ_
  rw [hJ_, mj_, jN_, beq_self_eq_true]; rfl
theorem ou_ (t : A3 W) (f : A3 Rt) : aq_ t f = al_ t f := by
  unfold aq_ al_ dh_
  dsimp only
  rw [iQ_, pr_, nk_, oj_]; rfl
theorem mP_ (a : A3 W) (b : W) (c : A3 Rt) : ct_ a b c = b8_ a b c := by
  unfold ct_ b8_ en_
  simp only [hW_, kY_, nk_, k5_, oJ_, lz_, il_, Of_eq, rr_]
theorem q1_ {a : Rt} {n d : Int} (h : a.Is n d) : (aL_ a).1 = n.sign := by
  unfold aL_
  rw [kO_ h, h.en, E_dec]
  exact f7_ h.hn
theorem p0_ {a : Rt} {n d : Int} (h : a.Is n d) : Rt.Is (bz_ a) (n.natAbs : Int) d := by
  have e : bz_ a = ⟨E (Z.of (n.natAbs : Int)), E (Z.of d)⟩ := by
    unfold bz_
    rw [kO_ h, h.en, h.ed, E_dec, Z.abs, cN_ (Z.of_some h.hn)]; rfl
  rw [e]
  have := h.hn
  exact ⟨rfl, rfl, by unfold B512 at *; simpa using this, h.hd, h.pos, h.cop⟩
theorem pX_ {a b : Rt} {n d m e : Int} (ha : a.Is n d) (hb : b.Is m e) (h : n = m) (k : d = e) : a = b := by
  subst h k
  exact Rt.ext (ha.en.trans hb.en.symm) (ha.ed.trans hb.ed.symm)
theorem r1_ (a : Rt) : c9_ a = bz_ a := by
  unfold c9_
  simp only [kY_, p5_]
  cases hg : ae_ a with
  | false =>
    have e : bz_ a = bK_ := by unfold bz_; rw [hg]; rfl
    rw [e, l9_ hg, l9_ qG_]
    cases decide ((aL_ a).1 < 0) <;> rfl
  | true =>
    obtain ⟨n, d, h⟩ := Is_of hg
    rw [q1_ h]
    by_cases hn : n < 0
    · rw [decide_eq_true (Int.sign_neg_iff.2 hn)]
      exact pX_ (n8_ h) (p0_ h) (by omega) rfl
    · rw [decide_eq_false (fun hh => hn (Int.sign_neg_iff.1 hh)), cond_false]
      rw [qB_ h]
      exact pX_ h (p0_ h) (by omega) rfl
theorem qF_ (r : Rt) : bL_ r (ac_ (wl 2)) = ah_ r (au_ (wl 1) (wl 2)) := by
  unfold bL_
  have h : ae_ (ac_ (wl 2)) = true := by decide +kernel
  rw [h]
  have e : ai_ (ac_ (wl 2)).d (ac_ (wl 2)).n = au_ (wl 1) (wl 2) := by decide +kernel
  rw [e]; rfl
theorem j7_ (s : Int) : (s = 0 ∧ (s == 0) = true ∧ (s != 0) = false ∧ decide (0 ≤ s) = true ∧ decide (s < 0) = false) ∨ (0 < s ∧ (s == 0) = false ∧ (s != 0) = true ∧ decide (0 ≤ s) = true ∧ decide (s < 0) = false) ∨ (s < 0 ∧ (s == 0) = false ∧ (s != 0) = true ∧ decide (0 ≤ s) = false ∧ decide (s < 0) = true) := by
  rcases Int.lt_trichotomy s 0 with h | h | h
  · exact .inr (.inr ⟨h, beq_eq_false_iff_ne.2 (by omega), bne_iff_ne.2 (by omega), decide_eq_false (by omega), decide_eq_true h⟩)
  · subst h; exact .inl ⟨rfl, rfl, rfl, rfl, rfl⟩
  · exact .inr (.inl ⟨h, beq_eq_false_iff_ne.2 (by omega), bne_iff_ne.2 (by omega), decide_eq_true (by omega), decide_eq_false (by omega)⟩)
theorem oY_ (a : A3 W) (b : W) (c : A3 Rt) : ay_ a b c = ((ax_ a b c).l, (ax_ a b c).is) := by
  unfold ay_ ax_ aR_
  rw [hW_, mQ_]
  simp only [kY_, ou_, r1_, ke_, pr_, jc_, Of_eq, qF_]
  cases a3_ a b with
  | false => rfl
  | true =>
  have hz : ∀ r : Rt, ag_ (ac_ (wl 0)) (ah_ r (au_ (wl 1) (wl 2))) = ah_ r (au_ (wl 1) (wl 2)) := fun r => kc_ (nV_ _ _)
  generalize al_ (av_ a).1 c = x
  generalize al_ (av_ a).2 c = y
  generalize al_ a c = z
  generalize aA_ a b (av_ a).1 = s
  generalize aA_ a b (av_ a).2 = t
  generalize ac_ (wl 0) = o at hz ⊢
  generalize au_ (wl 1) (wl 2) = hf at hz ⊢
  generalize ah_ = mul at hz ⊢
  generalize ag_ = add at hz ⊢
  generalize ak_ = sub
  generalize bL_ = div
  generalize bz_ = ab
  generalize aL_ = sg
  generalize (b.1 == 0) = b0
  have hx := j7_ (sg x).1
  have hy := j7_ (sg y).1
  generalize ((sg x).1 == 0) = xa at hx ⊢
  generalize ((sg x).1 != 0) = xb at hx ⊢
  generalize decide (0 ≤ (sg x).1) = xc at hx ⊢
  generalize decide ((sg x).1 < 0) = xd at hx ⊢
  generalize ((sg y).1 == 0) = ya at hy ⊢
  generalize ((sg y).1 != 0) = yb at hy ⊢
  generalize decide (0 ≤ (sg y).1) = yc at hy ⊢
  generalize decide ((sg y).1 < 0) = yd at hy ⊢
  generalize ((sg s).1 == 0) = sa
  generalize ((sg t).1 == 0) = ta
  rcases hx with ⟨_, rfl, rfl, rfl, rfl⟩ | ⟨_, rfl, rfl, rfl, rfl⟩ | ⟨_, rfl, rfl, rfl, rfl⟩ <;>
  rcases hy with ⟨_, rfl, rfl, rfl, rfl⟩ | ⟨_, rfl, rfl, rfl, rfl⟩ | ⟨_, rfl, rfl, rfl, rfl⟩ <;>
  dsimp only [cond_true, cond_false, Bool.not_true, Bool.not_false] <;>
  cases sa <;> cases ta <;>
  (try dsimp only [cond_true, cond_false, Bool.not_true, Bool.not_false, Bool.true_or, Bool.false_or, Bool.or_true, Bool.or_false]) <;>
  (try (generalize decide (_ < (0 : Int)) = w; cases w)) <;> cases b0 <;>
  (try dsimp only [cond_true, cond_false, List.nil_append, List.cons_append, List.getD_cons_zero, List.getD_cons_succ, List.set_cons_zero, List.set_cons_succ]) <;>
  first
  | rfl
  | simp [hz]
theorem ok_ (a : A3 W) (b : W) (c : A3 Rt) : cb_ a b c = true := by
  unfold cb_ dE_
  rw [hJ_, mP_, oY_, jI_, beq_self_eq_true, beq_self_eq_true]
  cases bm_ c <;> rfl
theorem h0_ (l : List (A3 Rt)) (k : List Rt) (r : A3 Rt) : ∀ (n i : Nat) (m : A3 Rt), cP_ l k r n i m = bX_ l k r n i m
  | 0, i, m => rfl
  | n + 1, i, m => by
    unfold cP_ bX_
    have e : decide (((i : Nat) : Int) < ((min l.length k.length : Nat) : Int)) = (decide (((i : Nat) : Int) < ((l.length : Nat) : Int)) && decide (((i : Nat) : Int) < ((k.length : Nat) : Int))) := by
      rw [← Bool.decide_and]
      exact decide_eq_decide.2 (by omega)
    simp only [e, lF_, mO_, h0_ l k r n]
theorem mo_ (l : List (A3 Rt)) (k : List Rt) : aO_ l k = an_ l k := by
  unfold aO_ an_
  simp only [k5_, h0_]
theorem lb_ (l : List (A3 Rt)) (k : List Rt) : ∀ m : List (A3 Rt), aY_ l k m = .inl () ∨ aY_ l k m = .inr true
  | [] => .inl rfl
  | x :: m => by
    unfold aY_
    rw [hJ_]
    cases bm_ x with
    | true => exact lb_ l k m
    | false => exact .inr rfl
theorem ma_ (l : List (A3 Rt)) (k : List Rt) : ∀ m : List Rt, aZ_ l k m = .inl () ∨ aZ_ l k m = .inr true
  | [] => .inl rfl
  | x :: m => by
    unfold aZ_
    rw [hJ_]
    cases bm_ ⟨x, x, x⟩ with
    | true => exact ma_ l k m
    | false => exact .inr rfl
theorem mA_ (l : List (A3 Rt)) (k : List Rt) : bk_ l k = true := by
  unfold bk_
  rw [hJ_, mo_]
  simp only [decide_true, Bool.and_self]
  rcases lb_ l k l with h | h <;> rw [h] <;> rcases ma_ l k k with g | g <;> rw [g] <;> simp [sm]
end Go.Num

