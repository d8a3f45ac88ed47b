/- Polynomials: the program's and the reference's greatest common divisors. No program stands in it. -/
import Derived.Test.YtjdfogfmeibkgaaGreatZYg
import Derived.KernelRfl

set_option linter.unusedVariables false
set_option linter.unusedSimpArgs false
namespace Go.Num
open Go Go.Kn
theorem h8_ (p q : List I) : ∀ (k : Nat) (a b : List I), a.length ≤ 25 → b.length ≤ 25 → aP_ p q k a b = bb_ p q k a b
  | 0, a, b, _, _ => rfl
  | k + 1, a, b, ha, hb => by
    unfold aP_ bb_
    rw [dz_ (by omega), dz_ (by omega), dT_, dT_, ← kK_ (by omega) (by omega), ← fF_ (Nat.le_trans (db_ _ _) (by decide)), h8_ p q k _ _ hb (aA_ _)]
    rfl
theorem nL_ (p q : List I) : ∀ (k : Nat) (a b : List I) (s : List I × List I), Rgt a → Rgt b → bb_ p q k a b = .inl s → Rgt s.1
  | 0, a, b, s, ha, _, h => by cases h; exact ha
  | k + 1, a, b, s, ha, hb, h => by
    unfold bb_ at h
    cases h1 : decide (0 < ((b.length : Nat) : Int))
    · rw [h1] at h; cases h; exact ha
    · rw [h1] at h
      cases h2 : (ai_ a || ai_ b)
      · rw [h2] at h; exact nL_ p q k _ _ _ hb (fZ_ _ (Nat.le_trans (db_ _ _) (by decide))) h
      · rw [h2] at h; cases h
theorem jn_ {p : List I} (h : Rgt p) : p.length ≤ 25 := by
  rcases h with h | h
  · rw [h]; exact dD_
  · exact h.2.2
theorem kb_ {a : List I} (h : a.all gdI = true) (hl : a.length ≤ 25) : a5_ a (E (Z.of (-1))) = bO_ [] a (fun y z => E (Z.sub y.dec z.dec)) := by
  rw [← nA_ _ (by omega)]
  unfold gD_
  have hg : dM_ (E (Z.of (-1))) = true := by decide +kernel
  rw [hg, cond_true, fH_ _ (by omega) (by decide), fH_ _ (by decide) (by omega)]
  simp only [List.length_nil, Nat.max_zero, Nat.zero_max, List.all_nil, Bool.and_true, Bool.true_and, h, cond_true]
  congr 1
  refine List.map_congr_left fun k hk => ?_
  have hk' : k < a.length := List.mem_range.1 hk
  have hx : gdI (a.getD k I0) = true := by
    rw [List.getD_eq_getElem?_getD, List.getElem?_eq_getElem hk']
    exact List.all_eq_true.1 h _ (List.getElem_mem hk')
  have hv := gd_eq hx
  have hB : B512 (-(vI (a.getD k I0))) := by unfold B512; rw [Int.natAbs_neg]; exact hv.2
  show E (Z.mul (a.getD k I0).dec (E (Z.of (-1))).dec) = E (Z.add (Z.of 0) (Z.neg (a.getD k I0).dec))
  rw [ko_ hx, E_dec, o7_ hv.2 (by decide), nN_ hv.2, m6_ B0 hB, Int.zero_add]
  congr 2; omega
theorem kO_ {p q : List I} (hp : p.length ≤ 1000) (hq : q.length ≤ 1000) : ak_ p q = ae_ p q := by
  unfold ak_ ae_
  rw [← fF_ hp, ← fF_ hq, h8_ _ _ _ _ _ (aA_ _) (aA_ _)]
  cases hl : bb_ p q (gmP (ab_ q) + 1) (ab_ p) (ab_ q) with
  | inr y => rfl
  | inl s =>
    have hr := nL_ p q _ _ _ s (fZ_ p hp) (fZ_ q hq) hl
    simp only [sm]
    rw [dT_]
    cases hs : s.1.all gdI
    · rw [jO_ hr hs]; decide +kernel
    · rw [kb_ hs (jn_ hr)]; rfl
theorem mm_ {p : List I} (hp : Rgt p) (h : (ad_ (ae_ p (ac_ p)) || ad_ (aa_ p)) = false) (h0 : (((aa_ p).length : Nat) : Int) ≠ 0) :
    1 ≤ (ae_ p (ac_ p)).length ∧ (ae_ p (ac_ p)).length ≤ (aa_ p).length := by
  have hl := jn_ hp
  have e1 : aa_ p = ab_ p := (fF_ (by omega)).symm
  have e2 : ae_ p (ac_ p) = ak_ p (af_ p) := by
    rw [← iV_ (by omega), ← kO_ (by omega) (Nat.le_trans (c0_ _) (by decide))]
  rw [e1, e2] at h ⊢
  rw [e1] at h0
  refine kP_ hp ?_ h0
  rw [dT_, dT_] at h
  rw [dz_ (Nat.le_trans (ec_ _ _) (by decide)), dz_ (Nat.le_trans (aA_ _) (by decide))]; exact h
end Go.Num

