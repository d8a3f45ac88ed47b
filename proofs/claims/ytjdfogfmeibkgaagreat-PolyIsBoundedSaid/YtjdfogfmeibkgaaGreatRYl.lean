/- Polynomials: what is made of a list of numbers; lengths. No program stands in it. -/
import Derived.Test.YtjdfogfmeibkgaaGreatRFp
import Derived.KernelRfl

set_option linter.unusedVariables false
set_option linter.unusedSimpArgs false
namespace Go.Num
open Go Go.Kn
def zrI (x : I) : Bool := (Z.signW x.dec).1 == 0
/-- A list without the zeros at its end. -/
def strip (l : List I) : List I := (l.reverse.dropWhile zrI).reverse
def badp : List I := [E Z.bad]
/-- The polynomial with these coefficients. -/
def mkP (l : List I) : List I := bif l.all gdI then (if (strip l).length ≤ 25 then strip l else badp) else badp
theorem dZ_ (l : List I) (x : I) : strip (l ++ [x]) = bif zrI x then strip l else l ++ [x] := by
  unfold strip
  rw [List.reverse_append]
  show (List.dropWhile zrI (x :: l.reverse)).reverse = _
  rw [List.dropWhile_cons]
  cases zrI x
  · show (x :: l.reverse).reverse = _
    simp
  · rfl
theorem e7_ (l : List I) : strip l = l.take (strip l).length := by
  have h : strip l <+: l := by
    unfold strip
    have := List.dropWhile_suffix zrI (l := l.reverse)
    have h2 := List.reverse_prefix.2 this
    rwa [List.reverse_reverse] at h2
  obtain ⟨r, hr⟩ := h
  have h3 : (strip l ++ r).take (strip l).length = strip l := List.take_left
  rw [hr] at h3; exact h3.symm
theorem gU_ (l : List I) : (strip l).length ≤ l.length := by
  rw [e7_, List.length_take]; omega
theorem k2_ (l : List I) : (mkP l).length ≤ 25 := by
  unfold mkP
  cases l.all gdI
  · exact Nat.le_of_ble_eq_true rfl
  · simp only [cond_true]
    split
    · assumption
    · exact Nat.le_of_ble_eq_true rfl
theorem d0_ {α : Type} (l : List α) : l = [] ∨ ∃ m x, l = m ++ [x] := by
  rcases List.eq_nil_or_concat l with h | ⟨m, x, h⟩
  · exact .inl h
  · exact .inr ⟨m, x, by rw [h]; simp⟩
theorem bad_p : F_poly_bad = badp := rfl
theorem hX_ (n : Int) (f : Nat → I) (o : I → I) (out : List I) (i : Nat) : ∀ (k : Nat) (cut : List I), cut.length < k → b0_ n f o out i k cut = strip cut
  | 0, cut, h => absurd h (Nat.not_lt_zero _)
  | k + 1, cut, h => by
    unfold b0_
    rcases d0_ cut with rfl | ⟨m, x, rfl⟩
    · rfl
    · rw [dZ_]
      have e1 : decide (0 < (((m ++ [x]).length : Nat) : Int)) = true := decide_eq_true (by simp only [List.length_append, List.length_cons, List.length_nil]; omega)
      have e2 : (m ++ [x]).length - 1 = m.length := by simp
      rw [e1, e2]
      have e3 : (m ++ [x]).getD m.length I0 = x := by simp
      have e4 : (m ++ [x]).take m.length = m := by simp
      rw [e3, e4, Bool.true_and]
      show (bif zrI x then _ else _) = _
      rw [hX_ n f o out i k m (by simp only [List.length_append, List.length_cons, List.length_nil] at h; omega)]
theorem la_ (i m : Nat) : List.range' i (m + 1) = i :: List.range' (i + 1) m := rfl
theorem io_ (n : Int) (f : Nat → I) (o : I → I) : ∀ (k : Nat) (out : List I) (i : Nat), n.toNat - i < k →
    b1_ n f o k out i = bif ((List.range' i (n.toNat - i)).map fun j => o (f j)).all gdI then .inl (out ++ (List.range' i (n.toNat - i)).map fun j => o (f j), i + (n.toNat - i)) else .inr badp
  | 0, out, i, h => absurd h (Nat.not_lt_zero _)
  | k + 1, out, i, h => by
    unfold b1_
    by_cases hi : i < n.toNat
    · rw [decide_eq_true (by omega), cond_true]
      obtain ⟨m, hm⟩ : ∃ m, n.toNat - i = m + 1 := ⟨n.toNat - i - 1, by omega⟩
      have hm' : n.toNat - (i + 1) = m := by omega
      rw [hm, la_, List.map_cons, List.all_cons, io_ n f o k _ _ (by omega), hm']
      show (bif gdI (o (f i)) then _ else _) = _
      cases gdI (o (f i))
      · rfl
      · simp only [cond_true, Bool.true_and, List.append_assoc, List.cons_append, List.nil_append]
        rw [show i + 1 + m = i + (m + 1) by omega]
    · rw [decide_eq_false (by omega), cond_false, show n.toNat - i = 0 by omega]
      simp
theorem fD_ (n : Int) (f : Nat → I) (o : I → I) : bw_ n f o = mkP ((List.range n.toNat).map fun j => o (f j)) := by
  unfold bw_ mkP
  rw [io_ n f o _ _ _ (by omega), Nat.sub_zero, ← List.range_eq_range']
  cases ((List.range n.toNat).map fun j => o (f j)).all gdI
  · rfl
  · simp only [cond_true, sm, ap, List.nil_append]
    rw [hX_ _ _ _ _ _ _ _ (Nat.lt_succ_self _)]
    by_cases h : (strip ((List.range n.toNat).map fun j => o (f j))).length ≤ 25
    · rw [if_pos h, decide_eq_false (by omega), cond_false]
    · rw [if_neg h, decide_eq_true (by omega), cond_true]; rfl
theorem kJ_ (n : Int) (f : Nat → Go.Num.W) (o : Go.Num.W → I) (out : List I) (i : Nat) : ∀ (k : Nat) (cut : List I), ch_ n f o out i k cut = b0_ n (fun _ => I0) (fun x => x) out i k cut
  | 0, cut => rfl
  | k + 1, cut => by unfold ch_ b0_; rw [kJ_ n f o out i k]
theorem hz_ (n : Int) (f : Nat → Go.Num.W) (o : Go.Num.W → I) : ∀ (k : Nat) (out : List I) (i : Nat), cm_ n f o k out i = b1_ n (fun j => o (f j)) (fun x => x) k out i
  | 0, out, i => rfl
  | k + 1, out, i => by unfold cm_ b1_; rw [hz_ n f o k]
theorem kz_ (n : Int) (f : Nat → Go.Num.W) (o : Go.Num.W → I) : cN_ n f o = mkP ((List.range n.toNat).map fun j => o (f j)) := by
  rw [← fD_ n (fun j => o (f j)) (fun x => x)]
  unfold cN_ bw_
  rw [hz_]
  congr 1
  funext s
  simp only [ap]
  rw [kJ_, hX_ _ _ _ _ _ _ _ (Nat.lt_succ_self _), hX_ _ _ _ _ _ _ _ (Nat.lt_succ_self _)]
theorem qp_ (x : I) : ((Z.signW x.dec).1 != 0) = !zrI x := rfl
theorem iY_ (l : List I) {i : Nat} (h : i < l.length) : l.take (i + 1) = l.take i ++ [l.getD i I0] := by
  rw [List.take_add_one, List.getElem?_eq_getElem h]
  simp [List.getD, List.getElem?_eq_getElem h]
theorem hk_ (l : List I) {i : Nat} (h : i < l.length) : l.drop i = l.getD i I0 :: l.drop (i + 1) := by
  rw [List.drop_eq_getElem_cons h]
  simp [List.getD, List.getElem?_eq_getElem h]
theorem gF_ (l : List I) : ∀ (k : Nat) (last : Int) (i : Nat), l.length - i < k → i ≤ l.length → last + 1 = ((strip (l.take i)).length : Nat) →
    bl_ l k last i = bif (l.drop i).all gdI then .inl (((strip l).length : Int) - 1, l.length) else .inr badp
  | 0, last, i, h, _, _ => absurd h (Nat.not_lt_zero _)
  | k + 1, last, i, h, hi, hl => by
    unfold bl_
    by_cases hlt : i < l.length
    · rw [decide_eq_true (by omega), cond_true, hk_ l hlt, List.all_cons]
      show (bif gdI (l.getD i I0) then _ else _) = _
      cases gdI (l.getD i I0)
      · rfl
      · simp only [cond_true, Bool.true_and, qp_]
        have hs := dZ_ (l.take i) (l.getD i I0)
        rw [← iY_ l hlt] at hs
        cases hz : zrI (l.getD i I0)
        · rw [hz] at hs
          simp only [Bool.not_false, cond_true]
          refine gF_ l k _ _ (by omega) (by omega) ?_
          rw [hs, cond_false, List.length_take, Nat.min_eq_left (by omega)]; omega
        · rw [hz] at hs
          simp only [Bool.not_true, cond_false]
          refine gF_ l k _ _ (by omega) (by omega) ?_
          rw [hs]; exact hl
    · have e : i = l.length := by omega
      subst e
      rw [decide_eq_false (by omega), cond_false, List.drop_length]
      rw [List.take_length] at hl
      show _ = Sum.inl _
      rw [show last = ((strip l).length : Int) - 1 by omega]
theorem h2_ (l : List I) (last : Int) (i : Nat) : ∀ (k : Nat) (out : List I) (j : Nat), (last + 1).toNat - j < k → out = l.take j → (last + 1).toNat ≤ l.length → j ≤ (last + 1).toNat →
    (by_ l last i k out j).1 = l.take (last + 1).toNat
  | 0, out, j, h, _, _, _ => absurd h (Nat.not_lt_zero _)
  | k + 1, out, j, h, ho, hl, hj => by
    unfold by_
    by_cases hc : (j : Int) ≤ last
    · rw [decide_eq_true hc, cond_true]
      refine h2_ l last i k _ _ (by omega) ?_ hl (by omega)
      rw [ho, iY_ l (by omega)]
    · rw [decide_eq_false hc, cond_false]
      show out = _
      rw [ho]; congr 1; omega
theorem oY_ (l : List I) : bo_ l = mkP l := by
  unfold bo_ mkP
  rw [gF_ l _ _ _ (by omega) (Nat.zero_le _) (by rw [List.take_zero]; rfl), List.drop_zero]
  cases l.all gdI
  · rfl
  · simp only [cond_true, sm, ap]
    have hle := gU_ l
    by_cases h : (strip l).length ≤ 25
    · rw [if_pos h, decide_eq_false (by omega), cond_false]
      rw [h2_ l _ _ _ _ _ (by omega) (by rw [List.take_zero]) (by omega) (by omega)]
      rw [show (((strip l).length : Int) - 1 + 1).toNat = (strip l).length by omega]
      exact (e7_ l).symm
    · rw [if_neg h, decide_eq_true (by omega), cond_true]; rfl
theorem fb_ {c : Bool} {x y : List I} (h : x.length ≤ 25) (k : y.length ≤ 25) : (bif c then x else y).length ≤ 25 := by cases c <;> assumption
theorem d8_ : badp.length ≤ 25 := Nat.le_of_ble_eq_true rfl
theorem g5_ (n : Int) (f : Nat → I) (o : I → I) : (bw_ n f o).length ≤ 25 := by rw [fD_]; exact k2_ _
theorem cW_ (l : List I) : (am_ l).length ≤ 25 := g5_ _ _ _
theorem bA_ (l : List W) : (bu_ l).length ≤ 25 := by unfold bu_; rw [kz_]; exact k2_ _
theorem eM_ (p q : List I) (f : I → I → I) : (bN_ p q f).length ≤ 25 := fb_ d8_ (g5_ _ _ _)
theorem hH_ (p q : List I) : (em_ p q).length ≤ 25 := eM_ _ _ _
theorem hC_ (p q : List I) : (cd_ p q).length ≤ 25 := fb_ d8_ (fb_ (Nat.zero_le _) (g5_ _ _ _))
theorem dC_ (p : List I) : (ad_ p).length ≤ 25 := fb_ d8_ (g5_ _ _ _)
theorem aQ_ (p : List I) : (ab_ p).length ≤ 25 := eM_ _ _ _
theorem kC_ (l : List I) : (bo_ l).length ≤ 25 := by rw [oY_]; exact k2_ _
theorem fW_ (l : List I) : (bo_ l).length ≤ 25 := kC_ l
theorem bm_ (l : List W) : (aG_ l).length ≤ 25 := kC_ _
theorem tg_ {σ : Type} {f : σ → List I} {x : σ ⊕ List I} (h : ∀ s, (f s).length ≤ 25) (k : ∀ r, x = .inr r → r = badp) : (sm f (fun r => r) x).length ≤ 25 := by
  cases x with
  | inl s => exact h s
  | inr r => show r.length ≤ 25; rw [k r rfl]; exact d8_
theorem ir_ (d : I) (n : Int) : ∀ (k : Nat) (out : List I), n.toNat - out.length < k → 1 ≤ out.length → (bS_ d n k out).length = max n.toNat out.length
  | 0, out, h, _ => absurd h (Nat.not_lt_zero _)
  | k + 1, out, h, h1 => by
    unfold bS_
    by_cases hc : (out.length : Int) < n
    · rw [decide_eq_true hc, cond_true, ir_ d n k _ (by simp only [List.length_append, List.length_cons, List.length_nil]; omega) (by simp)]
      simp only [List.length_append, List.length_cons, List.length_nil]; omega
    · rw [decide_eq_false hc, cond_false]; omega
theorem gh_ (d : I) (n : Int) : (aH_ d n).length = max n.toNat 1 := ir_ d n _ _ (by simp only [List.length_cons, List.length_nil]; omega) (by simp)
theorem gc_ (n i j : Int) (m : I) : ∀ (t : Nat) (out : List I) (k : Nat) (w : I), (i + 1).toNat - k < t → out.length = k → k ≤ (i + 1).toNat → (bW_ n i j m t out k w).1.length = (i + 1).toNat
  | 0, out, k, w, h, _, _ => absurd h (Nat.not_lt_zero _)
  | t + 1, out, k, w, h, h1, h2 => by
    unfold bW_
    by_cases hc : (k : Int) < i + 1
    · rw [decide_eq_true hc, cond_true]
      have hl : (out ++ [w]).length = k + 1 := by simp [h1]
      cases decide ((k : Int) < n)
      · exact gc_ n i j m t _ _ _ (by omega) hl (by omega)
      · exact gc_ n i j m t _ _ _ (by omega) hl (by omega)
    · rw [decide_eq_false hc, cond_false]
      show out.length = _
      omega
theorem hQ_ (n i : Int) : (aS_ n i).length = (i + 1).toNat := gc_ n i _ _ _ _ _ _ (by omega) rfl (Nat.zero_le _)
end Go.Num

