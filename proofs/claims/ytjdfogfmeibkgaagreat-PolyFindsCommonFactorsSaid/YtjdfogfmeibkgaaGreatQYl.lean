/- Polynomials: what is made of a list of numbers; lengths. No program stands in it. -/
import Derived.Test.YtjdfogfmeibkgaaGreatQFp
import Derived.KernelRfl

set_option linter.unusedVariables false
set_option linter.unusedSimpArgs false
namespace Go.Num
open Go Go.Kn
def zrI (x : I) : Bool := (Z.signW x.dec).1 == 0
/-- A list without the zeros at its end. -/
def strip (l : List I) : List I := (l.reverse.dropWhile zrI).reverse
def badp : List I := [E Z.bad]
/-- The polynomial with these coefficients. -/
def mkP (l : List I) : List I := bif l.all gdI then (if (strip l).length ≤ 25 then strip l else badp) else badp
theorem dH_ (l : List I) (x : I) : strip (l ++ [x]) = bif zrI x then strip l else l ++ [x] := by
  unfold strip
  rw [List.reverse_append]
  show (List.dropWhile zrI (x :: l.reverse)).reverse = _
  rw [List.dropWhile_cons]
  cases zrI x
  · show (x :: l.reverse).reverse = _
    simp
  · rfl
theorem eL_ (l : List I) : strip l = l.take (strip l).length := by
  have h : strip l <+: l := by
    unfold strip
    have := List.dropWhile_suffix zrI (l := l.reverse)
    have h2 := List.reverse_prefix.2 this
    rwa [List.reverse_reverse] at h2
  obtain ⟨r, hr⟩ := h
  have h3 : (strip l ++ r).take (strip l).length = strip l := List.take_left
  rw [hr] at h3; exact h3.symm
theorem gD_ (l : List I) : (strip l).length ≤ l.length := by
  rw [eL_, List.length_take]; omega
theorem jY_ (l : List I) : (mkP l).length ≤ 25 := by
  unfold mkP
  cases l.all gdI
  · exact Nat.le_of_ble_eq_true rfl
  · simp only [cond_true]
    split
    · assumption
    · exact Nat.le_of_ble_eq_true rfl
theorem dB_ {α : Type} (l : List α) : l = [] ∨ ∃ m x, l = m ++ [x] := by
  rcases List.eq_nil_or_concat l with h | ⟨m, x, h⟩
  · exact .inl h
  · exact .inr ⟨m, x, by rw [h]; simp⟩
theorem bad_p : F_poly_bad = badp := rfl
theorem hb_ (n : Int) (f : Nat → I) (o : I → I) (out : List I) (i : Nat) : ∀ (k : Nat) (cut : List I), cut.length < k → bG_ n f o out i k cut = strip cut
  | 0, cut, h => absurd h (Nat.not_lt_zero _)
  | k + 1, cut, h => by
    unfold bG_
    rcases dB_ cut with rfl | ⟨m, x, rfl⟩
    · rfl
    · rw [dH_]
      have e1 : decide (0 < (((m ++ [x]).length : Nat) : Int)) = true := decide_eq_true (by simp only [List.length_append, List.length_cons, List.length_nil]; omega)
      have e2 : (m ++ [x]).length - 1 = m.length := by simp
      rw [e1, e2]
      have e3 : (m ++ [x]).getD m.length I0 = x := by simp
      have e4 : (m ++ [x]).take m.length = m := by simp
      rw [e3, e4, Bool.true_and]
      show (bif zrI x then _ else _) = _
      rw [hb_ n f o out i k m (by simp only [List.length_append, List.length_cons, List.length_nil] at h; omega)]
theorem kg_ (i m : Nat) : List.range' i (m + 1) = i :: List.range' (i + 1) m := rfl
theorem hD_ (n : Int) (f : Nat → I) (o : I → I) : ∀ (k : Nat) (out : List I) (i : Nat), n.toNat - i < k →
    bF_ n f o k out i = bif ((List.range' i (n.toNat - i)).map fun j => o (f j)).all gdI then .inl (out ++ (List.range' i (n.toNat - i)).map fun j => o (f j), i + (n.toNat - i)) else .inr badp
  | 0, out, i, h => absurd h (Nat.not_lt_zero _)
  | k + 1, out, i, h => by
    unfold bF_
    by_cases hi : i < n.toNat
    · rw [decide_eq_true (by omega), cond_true]
      obtain ⟨m, hm⟩ : ∃ m, n.toNat - i = m + 1 := ⟨n.toNat - i - 1, by omega⟩
      have hm' : n.toNat - (i + 1) = m := by omega
      rw [hm, kg_, List.map_cons, List.all_cons, hD_ n f o k _ _ (by omega), hm']
      show (bif gdI (o (f i)) then _ else _) = _
      cases gdI (o (f i))
      · rfl
      · simp only [cond_true, Bool.true_and, List.append_assoc, List.cons_append, List.nil_append]
        rw [show i + 1 + m = i + (m + 1) by omega]
    · rw [decide_eq_false (by omega), cond_false, show n.toNat - i = 0 by omega]
      simp
theorem eJ_ (n : Int) (f : Nat → I) (o : I → I) : bh_ n f o = mkP ((List.range n.toNat).map fun j => o (f j)) := by
  unfold bh_ mkP
  rw [hD_ n f o _ _ _ (by omega), Nat.sub_zero, ← List.range_eq_range']
  cases ((List.range n.toNat).map fun j => o (f j)).all gdI
  · rfl
  · simp only [cond_true, sm, ap, List.nil_append]
    rw [hb_ _ _ _ _ _ _ _ (Nat.lt_succ_self _)]
    by_cases h : (strip ((List.range n.toNat).map fun j => o (f j))).length ≤ 25
    · rw [if_pos h, decide_eq_false (by omega), cond_false]
    · rw [if_neg h, decide_eq_true (by omega), cond_true]; rfl
theorem js_ (n : Int) (f : Nat → Go.Num.W) (o : Go.Num.W → I) (out : List I) (i : Nat) : ∀ (k : Nat) (cut : List I), bR_ n f o out i k cut = bG_ n (fun _ => I0) (fun x => x) out i k cut
  | 0, cut => rfl
  | k + 1, cut => by unfold bR_ bG_; rw [js_ n f o out i k]
theorem g4_ (n : Int) (f : Nat → Go.Num.W) (o : Go.Num.W → I) : ∀ (k : Nat) (out : List I) (i : Nat), bQ_ n f o k out i = bF_ n (fun j => o (f j)) (fun x => x) k out i
  | 0, out, i => rfl
  | k + 1, out, i => by unfold bQ_ bF_; rw [g4_ n f o k]
theorem jm_ (n : Int) (f : Nat → Go.Num.W) (o : Go.Num.W → I) : cm_ n f o = mkP ((List.range n.toNat).map fun j => o (f j)) := by
  rw [← eJ_ n (fun j => o (f j)) (fun x => x)]
  unfold cm_ bh_
  rw [g4_]
  congr 1
  funext s
  simp only [ap]
  rw [js_, hb_ _ _ _ _ _ _ _ (Nat.lt_succ_self _), hb_ _ _ _ _ _ _ _ (Nat.lt_succ_self _)]
theorem oN_ (x : I) : ((Z.signW x.dec).1 != 0) = !zrI x := rfl
theorem ic_ (l : List I) {i : Nat} (h : i < l.length) : l.take (i + 1) = l.take i ++ [l.getD i I0] := by
  rw [List.take_add_one, List.getElem?_eq_getElem h]
  simp [List.getD, List.getElem?_eq_getElem h]
theorem gN_ (l : List I) {i : Nat} (h : i < l.length) : l.drop i = l.getD i I0 :: l.drop (i + 1) := by
  rw [List.drop_eq_getElem_cons h]
  simp [List.getD, List.getElem?_eq_getElem h]
theorem f0_ (l : List I) : ∀ (k : Nat) (last : Int) (i : Nat), l.length - i < k → i ≤ l.length → last + 1 = ((strip (l.take i)).length : Nat) →
    a6_ l k last i = bif (l.drop i).all gdI then .inl (((strip l).length : Int) - 1, l.length) else .inr badp
  | 0, last, i, h, _, _ => absurd h (Nat.not_lt_zero _)
  | k + 1, last, i, h, hi, hl => by
    unfold a6_
    by_cases hlt : i < l.length
    · rw [decide_eq_true (by omega), cond_true, gN_ l hlt, List.all_cons]
      show (bif gdI (l.getD i I0) then _ else _) = _
      cases gdI (l.getD i I0)
      · rfl
      · simp only [cond_true, Bool.true_and, oN_]
        have hs := dH_ (l.take i) (l.getD i I0)
        rw [← ic_ l hlt] at hs
        cases hz : zrI (l.getD i I0)
        · rw [hz] at hs
          simp only [Bool.not_false, cond_true]
          refine f0_ l k _ _ (by omega) (by omega) ?_
          rw [hs, cond_false, List.length_take, Nat.min_eq_left (by omega)]; omega
        · rw [hz] at hs
          simp only [Bool.not_true, cond_false]
          refine f0_ l k _ _ (by omega) (by omega) ?_
          rw [hs]; exact hl
    · have e : i = l.length := by omega
      subst e
      rw [decide_eq_false (by omega), cond_false, List.drop_length]
      rw [List.take_length] at hl
      show _ = Sum.inl _
      rw [show last = ((strip l).length : Int) - 1 by omega]
theorem hN_ (l : List I) (last : Int) (i : Nat) : ∀ (k : Nat) (out : List I) (j : Nat), (last + 1).toNat - j < k → out = l.take j → (last + 1).toNat ≤ l.length → j ≤ (last + 1).toNat →
    (bn_ l last i k out j).1 = l.take (last + 1).toNat
  | 0, out, j, h, _, _, _ => absurd h (Nat.not_lt_zero _)
  | k + 1, out, j, h, ho, hl, hj => by
    unfold bn_
    by_cases hc : (j : Int) ≤ last
    · rw [decide_eq_true hc, cond_true]
      refine hN_ l last i k _ _ (by omega) ?_ hl (by omega)
      rw [ho, ic_ l (by omega)]
    · rw [decide_eq_false hc, cond_false]
      show out = _
      rw [ho]; congr 1; omega
theorem nJ_ (l : List I) : a9_ l = mkP l := by
  unfold a9_ mkP
  rw [f0_ l _ _ _ (by omega) (Nat.zero_le _) (by rw [List.take_zero]; rfl), List.drop_zero]
  cases l.all gdI
  · rfl
  · simp only [cond_true, sm, ap]
    have hle := gD_ l
    by_cases h : (strip l).length ≤ 25
    · rw [if_pos h, decide_eq_false (by omega), cond_false]
      rw [hN_ l _ _ _ _ _ (by omega) (by rw [List.take_zero]) (by omega) (by omega)]
      rw [show (((strip l).length : Int) - 1 + 1).toNat = (strip l).length by omega]
      exact (eL_ l).symm
    · rw [if_neg h, decide_eq_true (by omega), cond_true]; rfl
theorem eV_ {c : Bool} {x y : List I} (h : x.length ≤ 25) (k : y.length ≤ 25) : (bif c then x else y).length ≤ 25 := by cases c <;> assumption
theorem dL_ : badp.length ≤ 25 := Nat.le_of_ble_eq_true rfl
theorem gv_ (n : Int) (f : Nat → I) (o : I → I) : (bh_ n f o).length ≤ 25 := by rw [eJ_]; exact jY_ _
theorem cw_ (l : List I) : (ak_ l).length ≤ 25 := gv_ _ _ _
theorem bk_ (l : List W) : (bc_ l).length ≤ 25 := by unfold bc_; rw [jm_]; exact jY_ _
theorem eq_ (p q : List I) (f : I → I → I) : (bl_ p q f).length ≤ 25 := eV_ dL_ (gv_ _ _ _)
theorem gX_ (p q : List I) : (dA_ p q).length ≤ 25 := eq_ _ _ _
theorem cy_ (p q : List I) : (aa_ p q).length ≤ 25 := eV_ dL_ (eV_ (Nat.zero_le _) (gv_ _ _ _))
theorem cM_ (p : List I) : (ad_ p).length ≤ 25 := eV_ dL_ (gv_ _ _ _)
theorem ay_ (p : List I) : (ab_ p).length ≤ 25 := eq_ _ _ _
theorem jP_ (l : List I) : (a9_ l).length ≤ 25 := by rw [nJ_]; exact jY_ _
theorem fr_ (l : List I) : (a9_ l).length ≤ 25 := jP_ l
theorem a7_ (l : List W) : (aw_ l).length ≤ 25 := jP_ _
theorem qP_ {σ : Type} {f : σ → List I} {x : σ ⊕ List I} (h : ∀ s, (f s).length ≤ 25) (k : ∀ r, x = .inr r → r = badp) : (sm f (fun r => r) x).length ≤ 25 := by
  cases x with
  | inl s => exact h s
  | inr r => show r.length ≤ 25; rw [k r rfl]; exact dL_
theorem hx_ (d : I) (n : Int) : ∀ (k : Nat) (out : List I), n.toNat - out.length < k → 1 ≤ out.length → (bS_ d n k out).length = max n.toNat out.length
  | 0, out, h, _ => absurd h (Nat.not_lt_zero _)
  | k + 1, out, h, h1 => by
    unfold bS_
    by_cases hc : (out.length : Int) < n
    · rw [decide_eq_true hc, cond_true, hx_ d n k _ (by simp only [List.length_append, List.length_cons, List.length_nil]; omega) (by simp)]
      simp only [List.length_append, List.length_cons, List.length_nil]; omega
    · rw [decide_eq_false hc, cond_false]; omega
theorem fI_ (d : I) (n : Int) : (aB_ d n).length = max n.toNat 1 := hx_ d n _ _ (by simp only [List.length_cons, List.length_nil]; omega) (by simp)
theorem fz_ (n i j : Int) (m : I) : ∀ (t : Nat) (out : List I) (k : Nat) (w : I), (i + 1).toNat - k < t → out.length = k → k ≤ (i + 1).toNat → (bE_ n i j m t out k w).1.length = (i + 1).toNat
  | 0, out, k, w, h, _, _ => absurd h (Nat.not_lt_zero _)
  | t + 1, out, k, w, h, h1, h2 => by
    unfold bE_
    by_cases hc : (k : Int) < i + 1
    · rw [decide_eq_true hc, cond_true]
      have hl : (out ++ [w]).length = k + 1 := by simp [h1]
      cases decide ((k : Int) < n)
      · exact fz_ n i j m t _ _ _ (by omega) hl (by omega)
      · exact fz_ n i j m t _ _ _ (by omega) hl (by omega)
    · rw [decide_eq_false hc, cond_false]
      show out.length = _
      omega
theorem g6_ (n i : Int) : (aN_ n i).length = (i + 1).toNat := fz_ n i _ _ _ _ _ _ (by omega) rfl (Nat.zero_le _)
end Go.Num

