/- Polynomials: what the functions return, by coefficients, with their sizes. No program stands in it. Polynomials: three statements: what is made, sums, values. No program stands in it. Values of polynomials at rational numbers. No program stands in it. Polynomials without their content; what is put into a polynomial. No program stands in it. Polynomials are a ring, and values agree with it. No program stands in it. Remainders of polynomials, by coefficients. No program stands in it. What is left of a product and a rest, divided by a factor. No program stands in it. -/
import Derived.Test.YtjdfogfmeibkgaaGreatRYf
import Derived.Test.YtjdfogfmeibkgaaGreatRPV
import Derived.KernelRfl
import Derived.Test.YtjdfogfmeibkgaaGreatRFp

set_option linter.unusedVariables false
set_option linter.unusedSimpArgs false
namespace Go.Num
open Go Go.Kn
theorem I0_E : I0 = E (Z.of 0) := rfl
theorem vI0 : vI I0 = 0 := vI_E B0
/-- p is the right polynomial with the coefficients c. -/
structure Po (p : List I) (c : Nat → Int) : Prop where
  g : p.all gdI = true
  s : strip p = p
  l : p.length ≤ 25
  c : ∀ k, vI (p.getD k I0) = c k
section
variable {p q : List I} {c d : Nat → Int}
theorem pK_ (h : Rgt p) (hg : p.all gdI = true) : Po p (fun k => vI (p.getD k I0)) := by
  rcases h with rfl | h
  · rw [cB_] at hg; cases hg
  · exact ⟨h.1, h.2.1, h.2.2, fun _ => rfl⟩
theorem oq_ (h : p.all gdI = true) (k : Nat) : gdI (p.getD k I0) = true := by
  by_cases hk : k < p.length
  · rw [show p.getD k I0 = p[k] by simp [List.getD, hk]]
    exact List.all_eq_true.1 h _ (List.getElem_mem hk)
  · rw [ed_ (by omega)]; exact gd_E B0
theorem Po.get (h : Po p c) (k : Nat) : p.getD k I0 = E (Z.of (c k)) := by rw [← h.c k]; exact (gd_eq (oq_ h.g k)).1
theorem Po.B (h : Po p c) (k : Nat) : B512 (c k) := by rw [← h.c k]; exact (gd_eq (oq_ h.g k)).2
theorem Po.zero (h : Po p c) {k : Nat} (hk : p.length ≤ k) : c k = 0 := by rw [← h.c k, ed_ hk, vI0]
theorem Po.last (h : Po p c) {n : Nat} (hn : p.length = n + 1) : c n ≠ 0 := by
  rcases d0_ p with rfl | ⟨m, x, rfl⟩
  · cases hn
  · have h1 := hp_ h.s
    have h2 : n = m.length := by simp at hn; omega
    have h3 := h.get n
    rw [show (m ++ [x]).getD n I0 = x by simp [h2]] at h3
    rw [h3, zr_E (h.B n)] at h1
    exact of_decide_eq_false h1
theorem Po.short (h : Po p c) {n : Nat} (hz : ∀ k, n ≤ k → c k = 0) : p.length ≤ n := by
  rcases Nat.lt_or_ge n p.length with g | g
  · exact absurd (hz (p.length - 1) (by omega)) (h.last (by omega))
  · exact g
theorem Po.eq (h : Po p c) (g : Po q c) : p = q := by
  have e : p.length = q.length := Nat.le_antisymm (h.short fun k hk => g.zero hk) (g.short fun k hk => h.zero hk)
  refine List.ext_getElem e fun k h1 h2 => ?_
  have a := h.get k
  rw [← g.get k] at a
  simpa [List.getD, h1, h2] using a
theorem Po.cast (h : Po p c) (e : ∀ k, c k = d k) : Po p d := ⟨h.g, h.s, h.l, fun k => (h.c k).trans (e k)⟩
theorem px_ : Po [] (fun _ => 0) := ⟨rfl, rfl, by decide, fun k => by rw [show ([] : List I).getD k I0 = I0 by simp]; exact vI0⟩
theorem Po.nil (h : Po p c) (hz : ∀ k, c k = 0) : p = [] := (h.cast hz).eq px_
theorem hN_ : ∀ (n : Nat) (l : List I), l.length ≤ n → ∀ k, (strip l).length ≤ k → zrI (l.getD k I0) = true
  | 0, l, h, k, _ => by
    rw [ed_ (by omega)]; exact zr0
  | n + 1, l, h, k, hk => by
    rcases d0_ l with rfl | ⟨m, x, rfl⟩
    · rw [show ([] : List I).getD k I0 = I0 by simp]; exact zr0
    · rw [dZ_] at hk
      cases hx : zrI x
      · rw [hx, cond_false] at hk
        rw [ed_ hk]; exact zr0
      · rw [hx, cond_true] at hk
        rcases Nat.lt_trichotomy k m.length with g | g | g
        · rw [show (m ++ [x]).getD k I0 = m.getD k I0 by simp [List.getD, List.getElem?_append_left g]]
          exact hN_ n m (by simp at h; omega) k hk
        · rw [show (m ++ [x]).getD k I0 = x by simp [g]]; exact hx
        · rw [ed_ (by simp; omega)]; exact zr0
theorem m4_ {l : List I} (h : ∀ k, l.getD k I0 = E (Z.of (c k))) (hB : ∀ k, B512 (c k)) (hz : ∀ k, 25 ≤ k → c k = 0) : Po (mkP l) c := by
  have hg : l.all gdI = true := List.all_eq_true.2 fun x hx => by
    obtain ⟨k, hk, rfl⟩ := List.getElem_of_mem hx
    have e := h k
    rw [show l.getD k I0 = l[k] by simp [List.getD, hk]] at e
    rw [e]; exact gd_E (hB k)
  have hl : (strip l).length ≤ 25 := gC_ _ l (Nat.le_refl _) fun j hj => by rw [h j, hz j hj]; exact zr0
  have e : mkP l = strip l := by unfold mkP; rw [hg, cond_true, if_pos hl]
  rw [e]
  refine ⟨j9_ hg, i7_ l, hl, fun k => ?_⟩
  by_cases hk : k < (strip l).length
  · have e2 : (strip l).getD k I0 = l.getD k I0 := by
      rw [e7_ l]
      simp only [List.getD, List.getElem?_take, hk, if_true]
    rw [e2, h k, vI_E (hB k)]
  · have := hN_ _ l (Nat.le_refl _) k (by omega)
    rw [h k, zr_E (hB k)] at this
    rw [ed_ (by omega), vI0, of_decide_eq_true this]
theorem hb_ (f : Nat → I) (n k : Nat) : ((List.range n).map f).getD k I0 = if k < n then f k else I0 := by
  by_cases h : k < n <;> simp [List.getD, h]
theorem qe_ {f : Nat → I} {n : Nat} (h : ∀ k, k < n → f k = E (Z.of (c k))) (h0 : ∀ k, n ≤ k → c k = 0) (hB : ∀ k, B512 (c k)) (hz : ∀ k, 25 ≤ k → c k = 0) : Po (mkP ((List.range n).map f)) c := by
  refine m4_ (fun k => ?_) hB hz
  rw [hb_]
  split
  · exact h k ‹_›
  · rw [h0 k (by omega)]; rfl
theorem Po.l3 (h : Po p c) : p.length ≤ 1000 := Nat.le_trans h.l (by decide)
theorem rT_ (h : Rgt p) : p.length ≤ 1000 := Nat.le_trans (n3_ h) (by decide)
theorem Po.nb (h : Po p c) : ae_ p = false := by rw [f4_ h.l3, h.g]; rfl
theorem q7_ {e : Nat → Int} {f : I → I → I} (h : Po p c) (g : Po q d) (hf : ∀ k, f (E (Z.of (c k))) (E (Z.of (d k))) = E (Z.of (e k))) (hB : ∀ k, B512 (e k)) (h0 : ∀ k, c k = 0 → d k = 0 → e k = 0) : Po (bN_ p q f) e := by
  rw [hy_ f h.l3 g.l3, h.g, g.g, Bool.and_true, cond_true]
  have hl := h.l
  have gl := g.l
  refine qe_ (fun k _ => ?_) (fun k hk => ?_) hB (fun k hk => ?_)
  · rw [h.get, g.get, hf]
  · exact h0 k (h.zero (by omega)) (g.zero (by omega))
  · exact h0 k (h.zero (by omega)) (g.zero (by omega))
theorem sF_ (h : Po p c) (g : Po q d) (hB : ∀ k, B512 (c k + d k)) : Po (em_ p q) (fun k => c k + d k) :=
  q7_ h g (fun k => by rw [E_dec, E_dec, ib_ (h.B k) (g.B k)]) hB (fun k h1 h2 => by rw [h1, h2]; rfl)
theorem qr_ (h : Po p c) (g : Po q d) (k : Nat) (hs : ∀ t, B512 (sumN (fun i => c i * d (k - i)) t)) (hm : ∀ i j, B512 (c i * d j)) :
    ∀ (t i : Nat), k + 1 - i < t → i ≤ k + 1 → (cc_ k q p t i (E (Z.of (sumN (fun i => c i * d (k - i)) i)))).2 = E (Z.of (conv c d k))
  | 0, i, ht, _ => absurd ht (Nat.not_lt_zero _)
  | t + 1, i, ht, hi => by
    unfold cc_
    have e : ∀ a b, a ≤ b → p.length ≤ a → sumN (fun i => c i * d (k - i)) b = sumN (fun i => c i * d (k - i)) a := fun a b hab hpa =>
      eR_ (fun j hj => by rw [h.zero (by omega), Int.zero_mul]) b hab
    by_cases hk : ((i : Nat) : Int) ≤ min ((k : Nat) : Int) (((p.length : Nat) : Int) - 1)
    · rw [decide_eq_true hk, cond_true, h.get, g.get, E_dec, E_dec, E_dec, ec_ (h.B _) (g.B _), ib_ (hs _) (hm _ _)]
      exact qr_ h g k hs hm t (i + 1) (by omega) (by omega)
    · rw [decide_eq_false hk, cond_false]
      show E (Z.of _) = E (Z.of (sumN _ (k + 1)))
      rcases Nat.lt_or_ge i (k + 1) with h1 | h1
      · rw [← e i (k + 1) (by omega) (by omega)]
      · rw [show i = k + 1 by omega]
theorem r3_ (h : Po p c) (g : Po q d) (hs : ∀ k t, B512 (sumN (fun i => c i * d (k - i)) t)) (hm : ∀ i j, B512 (c i * d j)) (hl : p.length + q.length ≤ 26) : Po (cd_ p q) (conv c d) := by
  unfold cd_
  rw [h.nb, g.nb, Bool.or_false, cond_false]
  by_cases h0 : p = []
  · subst h0
    rw [show ((((([] : List I).length : Nat) : Int) == 0) || (((q.length : Nat) : Int) == 0)) = true by simp, cond_true]
    exact px_.cast fun k => Eq.symm (dz_ fun i _ => by rw [h.zero (Nat.zero_le _), Int.zero_mul])
  · by_cases g0 : q = []
    · subst g0
      rw [show ((((p.length : Nat) : Int) == 0) || (((([] : List I).length : Nat) : Int) == 0)) = true by simp, cond_true]
      refine px_.cast fun k => Eq.symm (dz_ fun i _ => ?_)
      rw [g.zero (Nat.zero_le _), Int.mul_zero]
    · have h1 : 0 < p.length := List.length_pos_iff.2 h0
      have h2 : 0 < q.length := List.length_pos_iff.2 g0
      rw [show ((((p.length : Nat) : Int) == 0) || (((q.length : Nat) : Int) == 0)) = false by
        rw [Bool.or_eq_false_iff]; exact ⟨beq_eq_false_iff_ne.2 (by omega), beq_eq_false_iff_ne.2 (by omega)⟩, cond_false, fD_]
      have hz : ∀ k, p.length + q.length ≤ k + 1 → conv c d k = 0 := fun k hk => gY_ (fun i hi => h.zero hi) (fun i hi => g.zero hi) k hk
      refine qe_ (fun k _ => ?_) (fun k hk => hz k (by omega)) (fun k => hs k (k + 1)) (fun k hk => hz k (by omega))
      unfold dg_
      show (cc_ _ _ _ _ _ _).2 = _
      rw [show I0 = E (Z.of (sumN (fun i => c i * d (k - i)) (((k : Nat) : Int) - ((q.length : Nat) : Int) + 1).toNat)) by
        rw [dz_ fun i hi => by rw [g.zero (by omega), Int.mul_zero]]; rfl]
      exact qr_ h g k (hs k) hm _ _ (by omega) (by omega)
theorem qU_ {v : Int} {k : Nat} (m : Nat) (hm : 4294967296 ^ 16 = 2 ^ m) (h : v.natAbs < 2 ^ k) (hk : k ≤ m) : B512 v := by
  unfold B512
  rw [hm]
  exact Nat.lt_of_lt_of_le h (Nat.pow_le_pow_right (by decide) hk)
theorem fM_ {v : Int} {k : Nat} (h : v.natAbs < 2 ^ k) (hk : k ≤ 512) : B512 v := qU_ 512 nu_ h hk
/-- At most n coefficients, of at most b bits. -/
structure Bd (c : Nat → Int) (n b : Nat) : Prop where
  z : ∀ k, n ≤ k → c k = 0
  b : ∀ k, (c k).natAbs < 2 ^ b
variable {n m b b' : Nat}
theorem Bd.mono (h : Bd c n b) {n' b1 : Nat} (hn : n ≤ n') (hb : b ≤ b1) : Bd c n' b1 := ⟨fun k hk => h.z k (by omega), fun k => Nat.lt_of_lt_of_le (h.b k) (Nat.pow_le_pow_right (by decide) hb)⟩
theorem Bd.B (h : Bd c n b) (hb : b ≤ 512) (k : Nat) : B512 (c k) := fM_ (h.b k) hb
theorem Bd.add (h : Bd c n b) (g : Bd d m b) : Bd (fun k => c k + d k) (max n m) (b + 1) :=
  ⟨fun k hk => by show c k + d k = 0; rw [h.z k (by omega), g.z k (by omega)]; rfl, fun k => by
    show (c k + d k).natAbs < _
    have h1 := h.b k
    have h2 := g.b k
    have h3 := Int.natAbs_add_le (c k) (d k)
    rw [Nat.pow_succ]; omega⟩
theorem es_ {u v : Int} (h : u.natAbs < 2 ^ b) (g : v.natAbs < 2 ^ b') : (u * v).natAbs < 2 ^ (b + b') := by
  rw [Int.natAbs_mul, Nat.pow_add]
  exact Nat.mul_lt_mul_of_lt_of_le h (Nat.le_of_lt g) (Nat.pow_pos (by decide))
theorem pR_ {f : Nat → Int} {A : Nat} (h : ∀ i, (f i).natAbs ≤ A) : ∀ t : Nat, (sumN f t).natAbs ≤ t * A
  | 0 => by simp [sumN]
  | t + 1 => by
    have h1 := pR_ h t
    have h2 := h t
    have h3 := Int.natAbs_add_le (sumN f t) (f t)
    rw [Nat.succ_mul]; show (sumN f t + f t).natAbs ≤ _; omega
theorem o9_ {f : Nat → Int} {e : Nat} (h : ∀ i, (f i).natAbs < 2 ^ b) (hz : ∀ i, n ≤ i → f i = 0) (hn : n ≤ 2 ^ e) (t : Nat) : (sumN f t).natAbs < 2 ^ (b + e) := by
  have hb : 0 < 2 ^ b := Nat.pow_pos (by decide)
  have k1 : ∀ t, t ≤ n → (sumN f t).natAbs < 2 ^ (b + e) := fun t ht => by
    have h1 := pR_ (f := f) (A := 2 ^ b - 1) (fun i => by have := h i; omega) t
    have h2 : t * (2 ^ b - 1) ≤ 2 ^ e * (2 ^ b - 1) := Nat.mul_le_mul_right _ (by omega)
    have h3 : 2 ^ e * (2 ^ b - 1) < 2 ^ e * 2 ^ b := Nat.mul_lt_mul_of_pos_left (by omega) (Nat.pow_pos (by decide))
    rw [Nat.pow_add, Nat.mul_comm (2 ^ b)]; omega
  rcases Nat.lt_or_ge n t with g | g
  · rw [eR_ hz t (by omega)]; exact k1 n (Nat.le_refl _)
  · exact k1 t g
theorem kw_ (h : Bd c n b) (g : Bd d m b') {e : Nat} (hn : n ≤ 2 ^ e) (k t : Nat) : (sumN (fun i => c i * d (k - i)) t).natAbs < 2 ^ (b + b' + e) :=
  o9_ (n := n) (fun i => es_ (h.b _) (g.b _)) (fun i hi => by rw [h.z i hi, Int.zero_mul]) hn t
theorem Bd.conv (h : Bd c n b) (g : Bd d m b') {e : Nat} (hn : n ≤ 2 ^ e) : Bd (conv c d) (n + m - 1) (b + b' + e) :=
  ⟨fun k hk => gY_ h.z g.z k (by omega), fun k => kw_ h g hn k (k + 1)⟩
theorem Po.len (h : Po p c) (hb : Bd c n b) : p.length ≤ n := h.short hb.z
theorem s3_ (h : Po p c) (g : Po q d) (hb : Bd c n b) (gb : Bd d m b') {e : Nat} (hn : n ≤ 2 ^ e) (hl : n + m ≤ 26) (hk : b + b' + e ≤ 512) : Po (cd_ p q) (conv c d) :=
  r3_ h g (fun k t => fM_ (kw_ hb gb hn k t) hk) (fun i j => fM_ (es_ (hb.b i) (gb.b j)) (by omega)) (by have := h.len hb; have := g.len gb; omega)
theorem k5_ {v : Int} (hv : B512 v) {b : Int} (h : (Z.bitsW (Z.of v)).1 ≤ b) : v.natAbs < 2 ^ b.toNat := by
  have h1 : ((Z.of v).bits : Int) ≤ b := h
  unfold Z.bits at h1
  rw [Z.of_some hv] at h1
  simp only at h1
  exact Nat.lt_of_lt_of_le (bl_lt _) (Nat.pow_le_pow_right (by decide) (by omega))
theorem md_ (p : List I) (a b : Int) : ∀ (k i : Nat), p.length - i < k → (sm (fun _ : Nat => true) (fun r => r) (bH_ p a b k i)) = true → ∀ j, i ≤ j → j < p.length → (Z.bitsW (p.getD j I0).dec).1 ≤ b
  | 0, i, h, _, _, _, _ => absurd h (Nat.not_lt_zero _)
  | k + 1, i, h, hs, j, hj, hl => by
    unfold bH_ at hs
    rw [decide_eq_true (show ((i : Nat) : Int) < ((p.length : Nat) : Int) by omega), cond_true] at hs
    by_cases hb : b < (Z.bitsW (p.getD i I0).dec).1
    · rw [decide_eq_true hb] at hs; cases hs
    · rw [decide_eq_false hb, cond_false] at hs
      rcases Nat.lt_or_ge i j with g | g
      · exact md_ p a b k (i + 1) (by omega) hs j (by omega) hl
      · rw [show j = i by omega]; omega
theorem o1_ {a b : Int} (h : aW_ p a b = true) (hg : p.all gdI = true) : ∃ c, Po p c ∧ Bd c (a + 1).toNat b.toNat := by
  have h1 := few_f (p := p) (d := a) (b := b) (by rw [h]; rfl)
  have h2 := kr_ h
  have hp := pK_ h1.1 hg
  refine ⟨_, hp, fun k hk => hp.zero (by omega), fun k => ?_⟩
  by_cases hk : k < p.length
  · unfold aW_ at h
    rw [h2.1, decide_eq_false (by omega)] at h
    have h3 := md_ p a b _ 0 (by omega) h k (by omega) hk
    rw [hp.get k, E_dec] at h3
    exact k5_ (hp.B k) h3
  · show (vI (p.getD k I0)).natAbs < _
    rw [ed_ (by omega), vI0]; exact Nat.pow_pos (by decide)
end
end Go.Num


set_option linter.unusedVariables false
set_option linter.unusedSimpArgs false
namespace Go.Num
open Go Go.Kn
theorem l3_ : bZ_ = true := by kernel_rfl
def pw (d : I) : Nat → I
  | 0 => E (Z.of 1)
  | k + 1 => E (Z.mul (pw d k).dec d.dec)
theorem mK_ (n : Nat) (f : Nat → I) : (List.range (n + 1)).map f = (List.range n).map f ++ [f n] := by rw [List.range_succ, List.map_append]; rfl
theorem ky_ (d : I) (n : Int) : ∀ (k m : Nat), n.toNat - (m + 1) < k → bS_ d n k ((List.range (m + 1)).map (pw d)) = (List.range (max n.toNat (m + 1))).map (pw d)
  | 0, m, h => absurd h (Nat.not_lt_zero _)
  | k + 1, m, h => by
    unfold bS_
    have hl : ((List.range (m + 1)).map (pw d)).length = m + 1 := by simp
    by_cases hc : ((m + 1 : Nat) : Int) < n
    · rw [hl, decide_eq_true hc, cond_true]
      have e1 : ((List.range (m + 1)).map (pw d)).getD (m + 1 - 1) I0 = pw d m := by simp [List.getD]
      rw [e1, show E (Z.mul (pw d m).dec d.dec) = pw d (m + 1) from rfl, ← mK_, ky_ d n k (m + 1) (by omega)]
      rw [show max n.toNat (m + 1 + 1) = max n.toNat (m + 1) by omega]
    · rw [hl, decide_eq_false hc, cond_false, show max n.toNat (m + 1) = m + 1 by omega]
theorem nH_ (d : I) (n : Int) : aH_ d n = (List.range (max n.toNat 1)).map (pw d) := ky_ d n _ 0 (by omega)
theorem hl_ (d : I) (n : Int) {k : Nat} (h : k < max n.toNat 1) : (aH_ d n).getD k I0 = pw d k := by
  rw [nH_]; simp [List.getD, h]
theorem fine1 (x : Rt) : bM_ [x] = ap_ x := by
  unfold bM_ dA_ dw_
  have e : cx_ [x] (fun y => cy_ y) ([x].length + 1) 0 = bif ap_ x then .inl 1 else .inr (W.cv 0) := by
    show (bif cy_ x then _ else _) = _
    unfold cy_
    cases ap_ x <;> rfl
  rw [e]
  cases ap_ x <;> rfl
end Go.Num


set_option linter.unusedVariables false
set_option linter.unusedSimpArgs false
namespace Go.Num
open Go Go.Kn
/-- The value of a polynomial with n coefficients. -/
def vl (c : Nat → Rat) (x : Rat) (n : Nat) : Rat := sumN (fun i => c i * x ^ i) n
theorem jB_ (x : Rat) (m : Nat) : ∀ n : Nat, x ^ (m + n) = x ^ m * x ^ n
  | 0 => by rw [Rat.pow_zero, Rat.mul_one]; rfl
  | n + 1 => by rw [← Nat.add_assoc, Rat.pow_succ, jB_ x m n, Rat.pow_succ, Rat.mul_assoc]
theorem iG_ {c : Nat → Rat} {x : Rat} {n : Nat} (h : ∀ i, n ≤ i → c i = 0) {m : Nat} (hm : n ≤ m) : vl c x m = vl c x n :=
  eR_ (fun i hi => by rw [h i hi, Rat.zero_mul]) m hm
theorem sZ_ (c d : Nat → Rat) (x : Rat) (n : Nat) : vl (fun i => c i + d i) x n = vl c x n + vl d x n := by
  unfold vl
  rw [← hU_]
  exact b7_ fun i _ => Rat.add_mul _ _ _
theorem sI_ (a : Rat) (c : Nat → Rat) (x : Rat) (n : Nat) : vl (fun i => a * c i) x n = a * vl c x n := by
  unfold vl
  rw [← fa_]
  exact b7_ fun i _ => Rat.mul_assoc _ _ _
theorem l0_ (c : Nat → Rat) (x : Rat) (n : Nat) : vl c x (n + 1) = c 0 + x * vl (fun i => c (i + 1)) x n := by
  unfold vl
  rw [hx_, Rat.pow_zero, Rat.mul_one, ← fa_]
  congr 1
  refine b7_ fun i _ => ?_
  rw [Rat.pow_succ]; grind
theorem qM_ {c d : Nat → Rat} {x : Rat} {n m : Nat} (hc : ∀ i, n ≤ i → c i = 0) (hd : ∀ i, m ≤ i → d i = 0) {K : Nat} (hK : n + m ≤ K) : vl (conv c d) x K = vl c x n * vl d x m := by
  have h := ji_ (fun i j => c i * x ^ i * (d j * x ^ j)) K
  have e1 : vl (conv c d) x K = sumN (fun k => sumN (fun i => c i * x ^ i * (d (k - i) * x ^ (k - i))) (k + 1)) K := by
    refine b7_ fun k _ => ?_
    show sumN _ _ * _ = _
    rw [← h1_]
    refine b7_ fun i hi => ?_
    have : x ^ k = x ^ i * x ^ (k - i) := by rw [← jB_]; congr 1; omega
    rw [this]; grind
  rw [e1, h]
  unfold vl
  rw [← h1_]
  rw [eR_ (n := n) (fun i hi => by rw [hc i hi]; exact dz_ fun j _ => by rw [Rat.zero_mul, Rat.zero_mul]) K (by omega)]
  refine b7_ fun i hi => ?_
  rw [fa_]
  congr 1
  exact eR_ (fun j hj => by rw [hd j hj, Rat.zero_mul]) _ (by omega)
def hv (c : Nat → Int) (N D : Int) (L : Nat) : Nat → Int
  | 0 => 0
  | t + 1 => hv c N D L t * N + c (L - 1 - t) * D ^ t
section
variable {c : Nat → Int} {N D : Int} {L : Nat}
theorem p2_ {x : Rat} (hx : (D : Rat) * x = N) : ∀ t : Nat, t ≤ L → ((hv c N D L t : Int) : Rat) * D = (D : Rat) ^ t * vl (fun j => cR c (L - t + j)) x t
  | 0, _ => by show ((0 : Int) : Rat) * D = _ * (0 : Rat); rw [Rat.mul_zero]; exact Rat.zero_mul _
  | t + 1, ht => by
    rw [l0_, hv, Rat.intCast_add, Rat.intCast_mul, Rat.intCast_mul, Rat.intCast_pow, Rat.pow_succ]
    have ih := p2_ hx t (by omega)
    rw [show (fun i => (fun j => cR c (L - (t + 1) + j)) (i + 1)) = fun j => cR c (L - t + j) from funext fun j => by show cR c _ = cR c _; congr 1; omega]
    rw [show L - (t + 1) + 0 = L - 1 - t by omega]
    show _ = _ * (((c (L - 1 - t) : Int) : Rat) + _)
    generalize vl (fun j => cR c (L - t + j)) x t = S at *
    generalize ((hv c N D L t : Int) : Rat) = H at *
    rw [← hx]
    grind
theorem sN_ {x : Rat} (hx : (D : Rat) * x = N) (hD : 0 < D) : ((hv c N D L L : Int) : Rat) = (D : Rat) ^ (L - 1) * vl (cR c) x L := by
  have hd : (D : Rat) ≠ 0 := fun h => by have := Rat.intCast_eq_zero_iff.1 h; omega
  cases L with
  | zero => show ((0 : Int) : Rat) = _ * (0 : Rat); rw [Rat.mul_zero]; rfl
  | succ n =>
    have h := p2_ (c := c) (L := n + 1) hx (n + 1) (Nat.le_refl _)
    rw [show (fun j => cR c (n + 1 - (n + 1) + j)) = cR c from funext fun j => by congr 1; omega, Rat.pow_succ] at h
    rw [Nat.add_sub_cancel]
    have : (((hv c N D (n + 1) (n + 1) : Int) : Rat) - (D : Rat) ^ n * vl (cR c) x (n + 1)) * D = 0 := by grind
    rcases Rat.mul_eq_zero.1 this with h | h
    · grind
    · exact absurd h hd
theorem hv_le {b s : Nat} (hc : ∀ k, (c k).natAbs < 2 ^ b) (hN : N.natAbs < 2 ^ s) (hD : D.natAbs < 2 ^ s) : ∀ t : Nat, (hv c N D L t).natAbs ≤ t * 2 ^ (b + s * t)
  | 0 => by simp [hv]
  | t + 1 => by
    have ih := hv_le hc hN hD t
    have h1 : (hv c N D L t * N).natAbs ≤ t * 2 ^ (b + s * t) * 2 ^ s := by
      rw [Int.natAbs_mul]; exact Nat.mul_le_mul ih (Nat.le_of_lt hN)
    have h2 : (c (L - 1 - t) * D ^ t).natAbs ≤ 2 ^ b * 2 ^ (s * t) := by
      rw [Int.natAbs_mul, Int.natAbs_pow, Nat.pow_mul]
      exact Nat.mul_le_mul (Nat.le_of_lt (hc _)) (Nat.pow_le_pow_left (Nat.le_of_lt hD) t)
    have h3 := Int.natAbs_add_le (hv c N D L t * N) (c (L - 1 - t) * D ^ t)
    have h4 : (2 : Nat) ^ b * 2 ^ (s * t) ≤ 2 ^ (b + s * (t + 1)) := by
      rw [← Nat.pow_add]; exact Nat.pow_le_pow_right (by decide) (by rw [Nat.mul_succ]; omega)
    have h5 : t * 2 ^ (b + s * t) * 2 ^ s = t * 2 ^ (b + s * (t + 1)) := by
      rw [Nat.mul_assoc, ← Nat.pow_add, Nat.mul_succ, Nat.add_assoc]
    rw [Nat.succ_mul]; show (hv c N D L t * N + c (L - 1 - t) * D ^ t).natAbs ≤ _; omega
/-- Enough digits for a value. -/
structure Room (c : Nat → Int) (N D : Int) (L : Nat) : Prop where
  h : ∀ t, t ≤ L → B512 (hv c N D L t)
  m : ∀ t, t < L → B512 (hv c N D L t * N)
  p : ∀ t, t < L → B512 (D ^ t)
  q : ∀ t, t < L → B512 (c (L - 1 - t) * D ^ t)
theorem room {b s n e : Nat} (hc : ∀ k, (c k).natAbs < 2 ^ b) (hN : N.natAbs < 2 ^ s) (hD : D.natAbs < 2 ^ s) (hL : L ≤ n) (hn : n ≤ 2 ^ e) (h : b + s * n + e + 1 ≤ 512) : Room c N D L := by
  have hp : (2 : Nat) ^ (b + s * n + e + 1) = 2 * (2 ^ e * 2 ^ (b + s * n)) := by rw [Nat.pow_succ, Nat.add_comm _ e, Nat.pow_add]; omega
  have h0 : 0 < 2 ^ e * 2 ^ (b + s * n) := Nat.mul_pos (Nat.pow_pos (by decide)) (Nat.pow_pos (by decide))
  have k1 : ∀ t, t ≤ n → t * 2 ^ (b + s * t) ≤ 2 ^ e * 2 ^ (b + s * n) := fun t ht =>
    Nat.mul_le_mul (by omega) (Nat.pow_le_pow_right (by decide) (by have := Nat.mul_le_mul_left s ht; omega))
  have k2 : ∀ t, t < n → (2 : Nat) ^ (s * t) ≤ 2 ^ (b + s * n) := fun t ht => Nat.pow_le_pow_right (by decide) (by have := Nat.mul_le_mul_left s (Nat.le_of_lt ht); omega)
  have he : 1 ≤ 2 ^ e := Nat.pow_pos (by decide)
  have kD : ∀ t, (D ^ t).natAbs ≤ 2 ^ (s * t) := fun t => by rw [Int.natAbs_pow, Nat.pow_mul]; exact Nat.pow_le_pow_left (Nat.le_of_lt hD) t
  have k0 : 2 ^ (b + s * n) ≤ 2 ^ e * 2 ^ (b + s * n) := Nat.le_mul_of_pos_left _ he
  refine ⟨fun t ht => fM_ (k := b + s * n + e + 1) ?_ h, fun t ht => fM_ (k := b + s * n + e + 1) ?_ h, fun t ht => fM_ (k := b + s * n + e + 1) ?_ h, fun t ht => fM_ (k := b + s * n + e + 1) ?_ h⟩
  · have := hv_le (L := L) hc hN hD t
    have := k1 t (by omega)
    omega
  · have h1 := hv_le (L := L) hc hN hD t
    have h2 := k1 (t + 1) (by omega)
    have h3 : (hv c N D L t * N).natAbs ≤ t * 2 ^ (b + s * t) * 2 ^ s := by
      rw [Int.natAbs_mul]; exact Nat.mul_le_mul h1 (Nat.le_of_lt hN)
    have h5 : t * 2 ^ (b + s * t) * 2 ^ s = t * 2 ^ (b + s * (t + 1)) := by
      rw [Nat.mul_assoc, ← Nat.pow_add, Nat.mul_succ, Nat.add_assoc]
    rw [Nat.succ_mul] at h2
    have h6 : 0 < 2 ^ (b + s * (t + 1)) := Nat.pow_pos (by decide)
    omega
  · have := kD t
    have := k2 t (by omega)
    omega
  · have h2 : (c (L - 1 - t) * D ^ t).natAbs ≤ 2 ^ b * 2 ^ (s * t) := by
      rw [Int.natAbs_mul]; exact Nat.mul_le_mul (Nat.le_of_lt (hc _)) (kD t)
    have h3 : (2 : Nat) ^ b * 2 ^ (s * t) ≤ 2 ^ (b + s * n) := by
      rw [← Nat.pow_add]; exact Nat.pow_le_pow_right (by decide) (by have := Nat.mul_le_mul_left s (Nat.le_of_lt (show t < n by omega)); omega)
    omega
theorem lp_ {D : Int} : ∀ {k : Nat}, (∀ j, j ≤ k → B512 (D ^ j)) → pw (E (Z.of D)) k = E (Z.of (D ^ k))
  | 0, _ => by rw [Int.pow_zero]; rfl
  | k + 1, h => by
    rw [pw, lp_ fun j hj => h j (by omega), E_dec, E_dec, ec_ (h k (by omega)) (by have := h 1 (by omega); rwa [Int.pow_one] at this : B512 D), Int.pow_succ]
variable {p : List I} {x : Rt}
theorem pF_ (h : Po p c) (hx : x.Is N D) (r : Room c N D p.length) : ∀ (f t : Nat) (i : Int), t ≤ p.length → i = ((p.length : Nat) : Int) - 1 - t → p.length - t < f →
    (ca_ p x f i (E (Z.of (hv c N D p.length t)))).2 = E (Z.of (hv c N D p.length p.length))
  | 0, t, i, _, _, hf => absurd hf (Nat.not_lt_zero _)
  | f + 1, t, i, ht, hi, hf => by
    unfold ca_
    by_cases h0 : 0 ≤ i
    · rw [decide_eq_true h0, cond_true]
      have hl : t < p.length := by omega
      have e1 : i.toNat = p.length - 1 - t := by omega
      have e2 : p.length - 1 - i.toNat = t := by omega
      simp only
      rw [e2, hl_ _ _ (show t < max (((p.length : Nat) : Int)).toNat 1 by omega), hx.ed, lp_ fun j hj => r.p j (by omega), e1, h.get, hx.en, E_dec, E_dec, E_dec, E_dec, E_dec,
        ec_ (h.B _) (r.p t hl), ec_ (r.h t ht) hx.hn, ib_ (r.m t hl) (r.q t hl)]
      exact pF_ h hx r f (t + 1) _ (by omega) (by omega) (by omega)
    · rw [decide_eq_false h0, cond_false, show t = p.length by omega]
theorem nf_ (h : Po p c) (hx : x.Is N D) (r : Room c N D p.length) : bh_ p x = (E (Z.of (hv c N D p.length p.length)), E (Z.of (D ^ (p.length - 1)))) := by
  unfold bh_
  rw [h.nb, fine1, en_, il_ hx]
  show ((ca_ p x (p.length + 1) (((p.length : Nat) : Int) - 1) I0).2, _) = _
  congr 1
  · have e := pF_ h hx r (p.length + 1) 0 (((p.length : Nat) : Int) - 1) (Nat.zero_le _) (by omega) (by omega)
    rw [show hv c N D p.length 0 = 0 from rfl, ← I0_E] at e
    exact e
  · rw [show ((((p.length : Nat) : Int) - 1)).toNat = p.length - 1 by omega, hl_ _ _ (by omega), hx.ed]
    cases hl : p.length with
    | zero => show pw _ 0 = E (Z.of (D ^ 0)); rw [Int.pow_zero]; rfl
    | succ n => exact lp_ fun j hj => r.p j (by omega)
theorem pp_ {q : Rat} {n d : Int} (h : (n : Rat) = (d : Rat) * q) : q.num * d = n * q.den := by
  have h1 := nx_ q
  have h2 : (((n * q.den : Int)) : Rat) = ((q.num * d : Int) : Rat) := by
    rw [Rat.intCast_mul, Rat.intCast_mul, h, ← h1]; grind
  exact (Rat.intCast_inj.1 h2).symm
theorem i0_ {q : Rat} : ((q.den : Int) : Rat) * q = ((q.num : Int) : Rat) := by
  rw [Rat.mul_comm]; exact nx_ q
theorem jV_ {q : Rat} {n b s e : Nat} (h : Po p c) (hb : Bd c n b) (hx : x.At q) (hs : Sz q s) (hn : n ≤ 2 ^ e) (hk : b + s * n + e + 1 ≤ 512) : (av_ p x).2 = true ∧ (av_ p x).1.1 = (vl (cR c) q n).num.sign := by
  have ix := At.is hx
  have hl := h.len hb
  have r := room (L := p.length) hb.b hs.n (show ((q.den : Int)).natAbs < 2 ^ s by rw [Int.natAbs_natCast]; exact hs.d) hl hn hk
  unfold av_
  rw [nf_ h ix r]
  have hp := @eg_ q
  have hv := sN_ (c := c) (L := p.length) (N := q.num) (D := (q.den : Int)) i0_ hp
  rw [iG_ (n := p.length) (fun i hi => by unfold cR; rw [h.zero hi]; rfl) hl]
  refine ⟨by show (!(E (Z.of _)).1.bad) = true; rw [ne_ (r.h _ (Nat.le_refl _))]; rfl, ?_⟩
  show (Z.signW (E (Z.of _)).dec).1 = _
  rw [E_dec, c3_ (r.h _ (Nat.le_refl _))]
  have e := pp_ (n := Go.Num.hv c q.num (q.den : Int) p.length p.length) (d := (q.den : Int) ^ (p.length - 1)) (by rw [hv, Rat.intCast_pow])
  have e2 := congrArg Int.sign e
  rw [Int.sign_mul, Int.sign_mul, Int.sign_eq_one_of_pos (Int.pow_pos hp), Int.sign_eq_one_of_pos (@eg_ _), Int.mul_one, Int.mul_one] at e2
  exact e2.symm
end
end Go.Num


set_option linter.unusedVariables false
set_option linter.unusedSimpArgs false
namespace Go.Num
open Go Go.Kn
theorem rW_ (p q : Rat) : (p * q).num.sign = p.num.sign * q.num.sign := by
  have h1 := @i0_ p
  have h2 := @i0_ q
  have e := pp_ (q := p * q) (n := p.num * q.num) (d := (p.den : Int) * (q.den : Int)) (by
    rw [Rat.intCast_mul, Rat.intCast_mul, ← h1, ← h2]; grind)
  have e2 := congrArg Int.sign e
  rw [Int.sign_mul, Int.sign_mul, Int.sign_mul, Int.sign_mul, Int.sign_eq_one_of_pos (@eg_ p), Int.sign_eq_one_of_pos (@eg_ q), Int.sign_eq_one_of_pos (@eg_ (p * q)), Int.mul_one, Int.mul_one, Int.mul_one] at e2
  exact e2
theorem nV_ (n : Int) : ((n : Rat)).num.sign = n.sign := rfl
theorem iT_ {u : Int} : ∀ (l : List I) (g : Nat), u ∣ (g : Int) → (∀ x ∈ l, u ∣ vI x) → u ∣ ((l.foldl fg g : Nat) : Int)
  | [], g, h, _ => h
  | y :: l, g, h, hx => iT_ l (fg g y) (Int.dvd_coe_gcd h (hx y List.mem_cons_self)) fun x hm => hx x (List.mem_cons_of_mem _ hm)
/-- No number but 1 and -1 divides all. -/
def Prm (c : Nat → Int) : Prop := ∀ u : Int, (∀ k, u ∣ c k) → u ∣ 1
theorem m0_ {u : Int} {g : Nat} (h : 0 < g) (hd : (g : Int) ∣ u) : (u.fdiv g).natAbs ≤ u.natAbs := by
  obtain ⟨x, rfl⟩ := hd
  rw [Int.mul_fdiv_cancel_left _ (by omega), Int.natAbs_mul, Int.natAbs_natCast]
  exact Nat.le_mul_of_pos_left _ h
section
variable {p q : List I} {c d : Nat → Int}
theorem Po.mem (h : Po p c) {x : I} (hx : x ∈ p) : ∃ k, vI x = c k := by
  obtain ⟨k, hk, rfl⟩ := List.getElem_of_mem hx
  refine ⟨k, ?_⟩
  rw [← h.c k]
  simp [List.getD, hk]
theorem Po.dvd (h : Po p c) (k : Nat) : ((cN p : Nat) : Int) ∣ c k := by
  by_cases hk : k < p.length
  · rw [← h.c k, show p.getD k I0 = p[k] by simp [List.getD, hk]]
    exact j3_ (List.getElem_mem hk)
  · rw [h.zero (by omega)]; exact Int.dvd_zero _
theorem Po.cpos (h : Po p c) (h0 : p ≠ []) : 0 < cN p := by
  obtain ⟨n, hn⟩ : ∃ n, p.length = n + 1 := ⟨p.length - 1, by have := List.length_pos_iff.2 h0; omega⟩
  rcases Nat.eq_zero_or_pos (cN p) with e | e
  · have h1 := h.dvd n
    rw [e] at h1
    exact absurd (Int.zero_dvd.1 h1) (h.last hn)
  · exact e
theorem jx_ (h : Po p c) : Po (ab_ p) (fun k => (c k).fdiv (cN p)) := by
  have e := lB_ h.g h.s h.l
  have hB : ∀ x ∈ p, B512 ((vI x).fdiv (cN p)) := fun x hx => by
    obtain ⟨k, hk⟩ := h.mem hx
    rw [hk]
    exact Nat.lt_of_le_of_lt (m0_ (h.cpos (List.ne_nil_of_mem hx)) (h.dvd k)) (h.B k)
  have hg : (ab_ p).all gdI = true := by
    rw [e]
    refine List.all_eq_true.2 fun y hy => ?_
    obtain ⟨x, hx, rfl⟩ := List.mem_map.1 hy
    exact gd_E (hB x hx)
  refine (pK_ (g3_ p h.l3) hg).cast fun k => ?_
  rw [e]
  by_cases hk : k < p.length
  · have e2 : (p.map fun x => E (Z.of ((vI x).fdiv (cN p)))).getD k I0 = E (Z.of ((vI p[k]).fdiv (cN p))) := by simp [List.getD, hk]
    rw [e2, vI_E (hB _ (List.getElem_mem hk)), ← h.c k, show p.getD k I0 = p[k] by simp [List.getD, hk]]
  · rw [ed_ (by rw [List.length_map]; omega), vI0, h.zero (by omega), Int.zero_fdiv]
theorem jX_ (h : Po p c) (k : Nat) : ((cN p : Nat) : Int) * (c k).fdiv (cN p) = c k := by
  by_cases h0 : p = []
  · subst h0; rw [h.zero (Nat.zero_le k), Int.zero_fdiv, Int.mul_zero]
  · have hp := h.cpos h0
    obtain ⟨x, hx⟩ := h.dvd k
    rw [hx, Int.mul_fdiv_cancel_left _ (by omega)]
theorem oW_ (h : Po p c) (h0 : p ≠ []) : Prm (fun k => (c k).fdiv (cN p)) := fun u hu => by
  have hp := h.cpos h0
  have h1 : ((cN p : Nat) : Int) * u ∣ ((cN p : Nat) : Int) := iT_ p 0 (Int.dvd_zero _) fun x hx => by
    obtain ⟨k, hk⟩ := h.mem hx
    rw [hk, ← jX_ h k]
    exact Int.mul_dvd_mul_left _ (hu k)
  obtain ⟨y, hy⟩ := h1
  refine ⟨y, ?_⟩
  have : ((cN p : Nat) : Int) * 1 = ((cN p : Nat) : Int) * (u * y) := by rw [Int.mul_one, ← Int.mul_assoc]; exact hy
  exact Int.eq_of_mul_eq_mul_left (by omega) this
theorem rE_ (h : Po p c) (hc : Prm c) : ab_ p = p := by
  have h1 := hc _ h.dvd
  have h2 : cN p = 1 := by
    have := Int.le_of_dvd (by decide) h1
    rcases Nat.eq_zero_or_pos (cN p) with e | e
    · rw [e] at h1; exact absurd (Int.zero_dvd.1 h1) (by decide)
    · omega
  refine ((jx_ h).cast fun k => ?_).eq h
  have := jX_ h k
  rw [h2] at this ⊢
  show (c k).fdiv ((1 : Nat) : Int) = c k
  simp
theorem nD_ (h : Po p c) : ab_ (ab_ p) = ab_ p := by
  by_cases h0 : p = []
  · subst h0
    have e : ab_ ([] : List I) = [] := (jx_ h).nil fun k => by rw [h.zero (Nat.zero_le k), Int.zero_fdiv]
    rw [e, e]
  · exact rE_ (jx_ h) (oW_ h h0)
theorem ru_ {n b : Nat} (h : Po p c) (hb : Bd c n b) : Bd (fun k => (c k).fdiv (cN p)) n b :=
  ⟨fun k hk => by show (c k).fdiv _ = 0; rw [hb.z k hk, Int.zero_fdiv], fun k => by
    by_cases h0 : p = []
    · subst h0; show ((c k).fdiv _).natAbs < _; rw [h.zero (Nat.zero_le k), Int.zero_fdiv]; exact Nat.pow_pos (by decide)
    · exact Nat.lt_of_le_of_lt (m0_ (h.cpos h0) (h.dvd k)) (hb.b k)⟩
def lin (u v : Int) (k : Nat) : Int := if k = 0 then u else if k = 1 then v else 0
theorem tf_ {u v : Int} (hu : B512 u) (hv : B512 v) : Po (am_ [E (Z.of u), E (Z.of v)]) (lin u v) := by
  rw [lf_]
  refine m4_ (fun k => ?_) (fun k => ?_) fun k hk => ?_
  · match k with
    | 0 => rfl
    | 1 => rfl
    | k + 2 => rw [ed_ (by simp)]; unfold lin; rw [if_neg (by omega), if_neg (by omega)]; rfl
  · unfold lin; split
    · exact hu
    · split
      · exact hv
      · exact B0
  · unfold lin; rw [if_neg (by omega), if_neg (by omega)]
theorem rU_ {u : Int} (hu : B512 u) : Po (am_ [E (Z.of u)]) (lin u 0) := by
  rw [lf_]
  refine m4_ (fun k => ?_) (fun k => ?_) fun k hk => ?_
  · match k with
    | 0 => rfl
    | k + 1 => rw [ed_ (by simp)]; unfold lin; rw [if_neg (by omega), ite_self]; rfl
  · unfold lin; split
    · exact hu
    · rw [ite_self]; exact B0
  · unfold lin; rw [if_neg (by omega), ite_self]
theorem ok_ {u v : Int} {b : Nat} (hu : u.natAbs < 2 ^ b) (hv : v.natAbs < 2 ^ b) : Bd (lin u v) 2 b :=
  ⟨fun k hk => by unfold lin; rw [if_neg (by omega), if_neg (by omega)], fun k => by
    unfold lin; split
    · exact hu
    · split
      · exact hv
      · exact Nat.pow_pos (by decide)⟩
def sb (c : Nat → Int) (u v W : Int) (L : Nat) : Nat → Nat → Int
  | 0 => fun _ => 0
  | t + 1 => fun k => conv (sb c u v W L t) (lin u v) k + lin (c (L - 1 - t) * W ^ t) 0 k
variable {u v W : Int} {L : Nat}
theorem sb_Bd {b l e w n : Nat} (hc : ∀ k, (c k).natAbs < 2 ^ b) (hu : u.natAbs < 2 ^ l) (hv : v.natAbs < 2 ^ l) (hW : W.natAbs < 2 ^ l) (hn : n ≤ 2 ^ e) (h1 : l + e + 1 ≤ w) (h2 : b + 1 ≤ w) : ∀ t : Nat, t ≤ n → Bd (sb c u v W L t) t (w * t)
  | 0, _ => ⟨fun _ _ => rfl, fun _ => Nat.pow_pos (by decide)⟩
  | t + 1, ht => by
    have ih := sb_Bd hc hu hv hW hn h1 h2 t (by omega)
    have k1 := (ih.conv (ok_ hu hv) (e := e) (by omega)).mono (n' := t + 1) (b1 := w * t + w - 1) (by omega) (by omega)
    have k2 : (c (L - 1 - t) * W ^ t).natAbs < 2 ^ (w * t + w - 1) := by
      rw [Int.natAbs_mul, Int.natAbs_pow]
      have a1 : W.natAbs ^ t ≤ 2 ^ (l * t) := by rw [Nat.pow_mul]; exact Nat.pow_le_pow_left (Nat.le_of_lt hW) t
      have a2 : l * t ≤ w * t := Nat.mul_le_mul_right t (by omega)
      have a3 : (c (L - 1 - t)).natAbs * W.natAbs ^ t < 2 ^ b * 2 ^ (l * t) := by
        have := Nat.mul_le_mul_left (c (L - 1 - t)).natAbs a1
        have := Nat.mul_lt_mul_of_pos_right (hc (L - 1 - t)) (Nat.pow_pos (n := l * t) (show 0 < 2 by decide))
        omega
      rw [← Nat.pow_add] at a3
      exact Nat.lt_of_lt_of_le a3 (Nat.pow_le_pow_right (by decide) (by omega))
    have k3 : Bd (lin (c (L - 1 - t) * W ^ t) 0) 1 (w * t + w - 1) := ⟨fun k hk => by unfold lin; rw [if_neg (by omega), ite_self], (ok_ k2 (Nat.pow_pos (by decide))).b⟩
    refine (k1.add k3).mono (by omega) ?_
    rw [Nat.mul_succ]; omega
theorem pI_ (u v : Int) (y : Rat) {K : Nat} (hK : 2 ≤ K) : vl (cR (lin u v)) y K = (u : Rat) + (v : Rat) * y := by
  rw [iG_ (n := 2) (fun i hi => by unfold cR lin; rw [if_neg (by omega), if_neg (by omega)]; rfl) hK]
  show (0 + ((u : Int) : Rat) * y ^ 0) + ((v : Int) : Rat) * y ^ 1 = _
  rw [Rat.pow_zero, Rat.pow_one, Rat.zero_add, Rat.mul_one]
theorem pY_ {y z : Rat} (hz : (u : Rat) + (v : Rat) * y = (W : Rat) * z) (hs : ∀ t, t ≤ L → ∀ k, t ≤ k → sb c u v W L t k = 0) (hL : L ≤ 24) : ∀ t : Nat, t ≤ L → vl (cR (sb c u v W L t)) y 26 * (W : Rat) = (W : Rat) ^ t * vl (fun j => cR c (L - t + j)) z t
  | 0, _ => by
    show sumN _ _ * _ = _ * (0 : Rat)
    rw [dz_ fun i _ => by show ((0 : Int) : Rat) * _ = 0; exact Rat.zero_mul _, Rat.mul_zero, Rat.zero_mul]
  | t + 1, ht => by
    have ih := pY_ hz hs hL t (by omega)
    have e1 : cR (sb c u v W L (t + 1)) = fun k => conv (cR (sb c u v W L t)) (cR (lin u v)) k + cR (lin (c (L - 1 - t) * W ^ t) 0) k := by
      rw [← nU_]; funext k; exact Rat.intCast_add ..
    rw [e1, sZ_, qM_ (n := t) (m := 2) (fun i hi => by unfold cR; rw [hs t (by omega) i hi]; rfl) (fun i hi => by unfold cR lin; rw [if_neg (by omega), if_neg (by omega)]; rfl) (by omega), pI_ _ _ _ (Nat.le_refl _), pI_ _ _ _ (by decide), hz,
      ← iG_ (n := t) (m := 26) (fun i hi => by unfold cR; rw [hs t (by omega) i hi]; rfl) (by omega)]
    generalize vl (cR (sb c u v W L t)) y 26 = H at *
    rw [l0_, Rat.pow_succ, Rat.intCast_mul, Rat.intCast_pow]
    rw [show (fun i => (fun j => cR c (L - (t + 1) + j)) (i + 1)) = fun j => cR c (L - t + j) from funext fun j => by show cR c _ = cR c _; congr 1; omega]
    rw [show L - (t + 1) + 0 = L - 1 - t by omega]
    show _ = _ * (((c (L - 1 - t) : Int) : Rat) + _)
    generalize vl (fun j => cR c (L - t + j)) z t = S at *
    rw [show ((0 : Int) : Rat) = 0 from rfl]
    grind
theorem sp_ {y z : Rat} (hz : (u : Rat) + (v : Rat) * y = (W : Rat) * z) (hW : 0 < W) (hs : ∀ t, t ≤ L → ∀ k, t ≤ k → sb c u v W L t k = 0) (hL : L ≤ 24) : vl (cR (sb c u v W L L)) y 26 = (W : Rat) ^ (L - 1) * vl (cR c) z L := by
  have hd : (W : Rat) ≠ 0 := fun h => by have := Rat.intCast_eq_zero_iff.1 h; omega
  have h := pY_ (c := c) hz hs hL L (Nat.le_refl _)
  rw [show (fun j => cR c (L - L + j)) = cR c from funext fun j => by congr 1; omega] at h
  cases L with
  | zero =>
    show _ = _ * (0 : Rat)
    rw [Rat.mul_zero]
    exact dz_ fun i _ => by show ((0 : Int) : Rat) * _ = 0; exact Rat.zero_mul _
  | succ n =>
    rw [Rat.pow_succ] at h
    rw [Nat.add_sub_cancel]
    have : (vl (cR (sb c u v W (n + 1) (n + 1))) y 26 - (W : Rat) ^ n * vl (cR c) z (n + 1)) * W = 0 := by grind
    rcases Rat.mul_eq_zero.1 this with h | h
    · grind
    · exact absurd h hd
end
end Go.Num


set_option linter.unusedVariables false
set_option linter.unusedSimpArgs false
namespace Go.Num
open Go Go.Kn
theorem jm_ {x : Rt} {b : Int} (h : ar_ x b = true) : ∃ q, x.At q ∧ Sz q b.toNat := by
  unfold ar_ at h
  simp only [Bool.and_eq_true, decide_eq_true_eq] at h
  obtain ⟨g, h1, h2⟩ := h
  obtain ⟨q, hq⟩ := rF_ g
  have i := At.is hq
  rw [i.en, E_dec] at h1
  rw [i.ed, E_dec] at h2
  refine ⟨q, hq, k5_ i.hn h1, ?_⟩
  have := k5_ i.hd h2
  rwa [Int.natAbs_natCast] at this
end Go.Num


set_option linter.unusedVariables false
set_option linter.unusedSimpArgs false
namespace Go.Num
open Go Go.Kn
/-- The coefficients, moved up by i. -/
def shf (d : Nat → Int) (i k : Nat) : Int := if i ≤ k then d (k - i) else 0
/-- One round of a division. -/
def rstep (a o : Int) (d : Nat → Int) (n i : Nat) (r : Nat → Int) (k : Nat) : Int := a * r k - o * r (i + n) * shf d i k
/-- There are enough digits for each round. -/
def RemB (a o : Int) (d : Nat → Int) (n : Nat) : Nat → (Nat → Int) → Prop
  | 0, r => ∀ k, B512 (r k)
  | m + 1, r => (∀ k, B512 (r k)) ∧ B512 (o * r (m + n)) ∧ (∀ k, B512 (a * r k)) ∧ (∀ k, B512 (o * r (m + n) * d k)) ∧ RemB a o d n m (rstep a o d n m r)
theorem RemB.B {a o : Int} {d : Nat → Int} {n : Nat} : ∀ {m : Nat} {r : Nat → Int}, RemB a o d n m r → ∀ k, B512 (r k)
  | 0, _, h => h
  | _ + 1, _, h => h.1
theorem tp_ {u : Int} {b b' : Nat} (h : u.natAbs < 2 ^ b) (hb : b ≤ b') : u.natAbs < 2 ^ b' := Nat.lt_of_lt_of_le h (Nat.pow_le_pow_right (by decide) hb)
section
variable {p q : List I} {c d : Nat → Int} {n : Nat}
end
end Go.Num


set_option linter.unusedVariables false
set_option linter.unusedSimpArgs false
namespace Go.Num
open Go Go.Kn
theorem jL_ {a : Int} {b : Nat} (ha : a.natAbs < 2 ^ b) (j : Nat) : (a ^ j).natAbs < 2 ^ (b * j + 1) := by
  rw [Int.natAbs_pow]
  have h := Nat.pow_le_pow_left (Nat.le_of_lt ha) j
  rw [← Nat.pow_mul] at h
  exact Nat.lt_of_le_of_lt h (Nat.pow_lt_pow_right (by decide) (by omega))
theorem rC_ {p : List I} (hl : p.length ≤ 1000) (h : ae_ p = false) : p.all gdI = true := by
  rw [f4_ hl] at h; simpa using h
end Go.Num

