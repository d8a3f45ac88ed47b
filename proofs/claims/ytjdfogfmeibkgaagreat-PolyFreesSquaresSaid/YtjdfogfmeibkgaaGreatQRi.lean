/- Square-free parts at numbers. No program stands in it. law08: PolyFreesSquares. No program stands in it. -/
import Derived.Test.YtjdfogfmeibkgaaGreatQRb
import Derived.Test.YtjdfogfmeibkgaaGreatQFw
import Derived.KernelRfl
import Derived.Test.YtjdfogfmeibkgaaGreatQRe

set_option linter.unusedVariables false
set_option linter.unusedSimpArgs false
namespace Go.Num
open Go Go.Kn
def cut (F : Nat → Int) (k i : Nat) : Int := if i < k then F i else 0
theorem kM_ (g F : Nat → Int) (k j : Nat) : conv g (cut F (k + 1)) j = conv g (cut F k) j + F k * shf g k j := by
  have h := im_ g (cut F (k + 1)) k j fun i hi => by unfold cut; rw [if_neg (by omega)]
  rw [h]
  have e1 : cut F (k + 1) k = F k := by unfold cut; rw [if_pos (by omega)]
  have e2 : (fun i => if i < k then cut F (k + 1) i else 0) = cut F k := funext fun i => by
    unfold cut
    by_cases h : i < k
    · rw [if_pos h, if_pos h, if_pos (by omega)]
    · rw [if_neg h, if_neg h]
  rw [e1, e2]
theorem pv_ {F : Nat → Int} {m : Nat} (hF : ∀ i, m < i → F i = 0) : cut F (m + 1) = F := funext fun i => by
  unfold cut
  split
  · rfl
  · exact (hF i (by omega)).symm
theorem qw_ {F : Nat → Int} {A : Nat} (hA : ∀ i, (F i).natAbs ≤ A) (k i : Nat) : (cut F k i).natAbs ≤ A := by
  unfold cut
  split
  · exact hA i
  · exact Nat.zero_le _
/-- A polynomial with a positive last coefficient, as positive makes it. -/
theorem pD_ {a : List I} {c : Nat → Int} (h : Po a c) : ∃ e : Int, (e = 1 ∨ e = -1) ∧ Po (bif (((((a).length : Nat) : Int) == 0) || decide (0 < (Z.signW (a.getD ((a).length - 1) I0).dec).1)) then a else bl_ ([] : List I) a (fun (y : I) (z : I) => E (Z.sub y.dec z.dec))) (fun k => e * c k) ∧ ∀ m, (∀ i, m < i → c i = 0) → 0 ≤ e * c m := by
  by_cases h0 : a = []
  · subst h0
    rw [show ((([] : List I).length : Nat) : Int) == 0 from rfl, Bool.true_or, cond_true]
    exact ⟨1, .inl rfl, h.cast fun k => (Int.one_mul _).symm, fun m hm => by rw [h.zero (Nat.zero_le _)]; decide⟩
  · obtain ⟨t, t1, t2, t3⟩ := h.top h0
    rw [show ((((a).length : Nat) : Int) == 0) = false from beq_eq_false_iff_ne.2 (by omega), Bool.false_or, t1, Nat.add_sub_cancel, h.get, E_dec, gy_ (h.B t)]
    have key : ∀ m, (∀ i, m < i → c i = 0) → c m = 0 ∨ m = t := fun m hm => by
      rcases Nat.lt_trichotomy m t with h1 | h1 | h1
      · exact absurd (hm t h1) t2
      · exact .inr h1
      · exact .inl (t3 m h1)
    by_cases hp : 0 < (c t).sign
    · rw [decide_eq_true hp, cond_true]
      refine ⟨1, .inl rfl, h.cast fun k => (Int.one_mul _).symm, fun m hm => ?_⟩
      rw [Int.one_mul]
      rcases key m hm with h1 | h1
      · rw [h1]; exact Int.le_refl _
      · rw [h1]; have := Int.sign_pos_iff.1 hp; omega
    · rw [decide_eq_false hp, cond_false]
      refine ⟨-1, .inr rfl, ?_, fun m hm => ?_⟩
      · refine j3_ ls_ h (fun k => by rw [E_dec, E_dec, lk_ B0 (h.B k), Int.zero_sub, Int.neg_one_mul]) (fun k => by have := h.B k; unfold B512 at *; rwa [Int.neg_one_mul, Int.natAbs_neg]) (fun k _ h => by rw [h]; rfl)
      · rcases key m hm with h1 | h1
        · rw [h1]; decide
        · rw [h1]
          have : ¬ 0 < c t := fun hx => hp (Int.sign_pos_iff.2 hx)
          omega
section
variable {P : List I} {g F : Nat → Int} {n m A B : Nat}
theorem m5_ (hG : Po (ac_ P (ad_ P)) g) (hn : (ac_ P (ad_ P)).length = n + 1) (hg0 : 0 < g n) (hA : ∀ i, (F i).natAbs ≤ A) (hB : ∀ i, (g i).natAbs ≤ B) (hAB : (n + 1) * (B * A) < 4294967296 ^ 16) :
    ∀ (k fu : Nat) (i : Int) (r f : List I), i = (k : Int) - 1 → k < fu → k ≤ m + 1 → r.length = n + m + 1 → f.length = m + 1 → (∀ j, r.getD j I0 = E (Z.of (conv g (cut F k) j))) → (∀ j, k ≤ j → f.getD j I0 = E (Z.of (F j))) →
    ∃ i' r' f', bu_ P fu i r f = .inl (i', r', f') ∧ f'.length = m + 1 ∧ ∀ j, f'.getD j I0 = E (Z.of (F j))
  | _, 0, _, _, _, _, h, _, _, _, _, _ => absurd h (Nat.not_lt_zero _)
  | 0, fu + 1, i, r, f, hi, hk, hkm, hr, hf, hrv, hfv => by
    unfold bu_
    rw [decide_eq_false (by omega), cond_false]
    exact ⟨i, r, f, rfl, hf, fun j => hfv j (Nat.zero_le _)⟩
  | k + 1, fu + 1, i, r, f, hi, hk, hkm, hr, hf, hrv, hfv => by
    have hi' : i = (k : Int) := by omega
    have hgz : ∀ j, n < j → g j = 0 := fun j hj => hG.zero (by omega)
    have hAB1 : B * A < 4294967296 ^ 16 := Nat.lt_of_le_of_lt (Nat.le_mul_of_pos_left _ (Nat.succ_pos n)) hAB
    have bc : ∀ k j, B512 (conv g (cut F k) j) := fun k j => Nat.lt_of_le_of_lt (f5_ hB (qw_ hA k) (fun i hi => hgz i (by omega)) j) hAB
    have hshf : ∀ j, (shf g k j).natAbs ≤ B := fun j => by
      unfold shf; split
      · exact hB _
      · exact Nat.zero_le _
    have bm : ∀ j, B512 (F k * shf g k j) := fun j => by
      refine Nat.lt_of_le_of_lt ?_ hAB1
      rw [Int.natAbs_mul, Nat.mul_comm B]
      exact Nat.mul_le_mul (hA k) (hshf j)
    have hB1 : 1 ≤ B := by have := hB n; omega
    have bF : B512 (F k) := Nat.lt_of_le_of_lt (Nat.le_trans (hA k) (Nat.le_mul_of_pos_left _ hB1)) hAB1
    have htop : conv g (cut F (k + 1)) (n + k) = g n * F k := by
      rw [c3_ hgz fun i hi => by unfold cut; rw [if_neg (by omega)]]
      congr 1
      unfold cut; rw [if_pos (by omega)]
    have hq : (E (Z.quo (r.getD (i.toNat + ((ac_ P (ad_ P)).length - 1)) I0).dec ((ac_ P (ad_ P)).getD ((ac_ P (ad_ P)).length - 1) I0).dec)) = E (Z.of (F k)) := by
      rw [hn, Nat.add_sub_cancel, show i.toNat + n = n + k by omega, hrv, hG.get, E_dec, E_dec, mX_ (bc (k + 1) _) (hG.B n) hg0 (v := F k) htop.symm]
    unfold bu_
    rw [decide_eq_true (by omega), cond_true]
    simp only
    rw [hq]
    have hx : ((f.set i.toNat (E (Z.of (F k)))).getD i.toNat I0).dec = Z.of (F k) := by rw [dx_ _ _ _ (by omega), E_dec]
    have hfr : ∀ j, frE (ac_ P (ad_ P)) r k (Z.of (F k)) j = E (Z.of (conv g (cut F k) j)) := fun j => by
      unfold frE
      have e : conv g (cut F k) j = conv g (cut F (k + 1)) j - F k * shf g k j := by rw [kM_]; omega
      rw [hrv, o2_ hG k j, E_dec, E_dec, id_ bF (shf_B hG k j), lk_ (bc _ _) (bm j), ← e]
    rcases l5_ P i r f (E (Z.of (F k))) (g := ac_ P (ad_ P)) rfl hi' ((ac_ P (ad_ P)).length + 1) 0 r (by omega) (Nat.zero_le _) rfl (by omega) (fun j _ => rfl) with ⟨t', k', e1, e2, e3, e4⟩ | ⟨e1, j, j1, j2, j3⟩
    · rw [e1]
      simp only [sm]
      rw [hx] at e3
      refine m5_ hG hn hg0 hA hB hAB k fu (i - 1) t' _ (by omega) (by omega) (by omega) (by omega) (by rw [List.length_set]; exact hf) (fun j => ?_) (fun j hj => ?_)
      · rw [e3 j]
        by_cases hj : k + 0 ≤ j ∧ j < k + (ac_ P (ad_ P)).length
        · rw [if_pos hj, hfr]
        · rw [if_neg hj, hrv, kM_]
          have : shf g k j = 0 := by
            unfold shf
            split
            · exact hgz _ (by omega)
            · rfl
          rw [this, Int.mul_zero, Int.add_zero]
      · rw [show i.toNat = k by omega]
        by_cases hjk : j = k
        · subst hjk; exact dx_ _ _ _ (by omega)
        · rw [ew_ _ _ _ _ hjk]; exact hfv j (by omega)
    · rw [hx, hfr j, qI_ (bc k j)] at j3
      cases j3
/-- What Free returns. -/
theorem lC_ (hG : Po (ac_ P (ad_ P)) g) (hn : (ac_ P (ad_ P)).length = n + 1) (hg0 : 0 < g n) (hA : ∀ i, (F i).natAbs ≤ A) (hB : ∀ i, (g i).natAbs ≤ B) (hAB : (n + 1) * (B * A) < 4294967296 ^ 16)
    {ρ : Nat → Int} (hR : Po (ab_ P) ρ) (hρ : ∀ k, ρ k = conv g F k) (hF0 : F m ≠ 0) (hF : ∀ i, m < i → F i = 0) : ∃ e : Int, (e = 1 ∨ e = -1) ∧ Po (af_ P) (fun k => e * F k) ∧ ∀ m, (∀ i, m < i → F i = 0) → 0 ≤ e * F m := by
  have hgz : ∀ j, n < j → g j = 0 := fun j hj => hG.zero (by omega)
  have hRl : (ab_ P).length = n + m + 1 := hR.len_top (by rw [hρ, c3_ hgz hF]; exact Int.mul_ne_zero (by omega) hF0) fun i hi => by rw [hρ]; exact cC_ (n := n + 1) (m := m + 1) (fun j hj => hgz j hj) (fun j hj => hF j hj) i (by omega)
  have hB1 : 1 ≤ B := by have := hB n; omega
  have hAB1 : B * A < 4294967296 ^ 16 := Nat.lt_of_le_of_lt (Nat.le_mul_of_pos_left _ (Nat.succ_pos n)) hAB
  have bF : ∀ k, B512 (F k) := fun k => Nat.lt_of_le_of_lt (Nat.le_trans (hA k) (Nat.le_mul_of_pos_left _ hB1)) hAB1
  have hlen := hR.l
  unfold af_
  rw [hG.nb, hR.nb, Bool.or_false, cond_false, show ((((ab_ P).length : Nat) : Int) == 0) = false from beq_eq_false_iff_ne.2 (by omega), cond_false]
  obtain ⟨i', r', f', e1, e2, e3⟩ := m5_ hG hn hg0 hA hB hAB (m := m) (m + 1) ((ab_ P).length + 2) ((((List.replicate ((ab_ P).length - ((ac_ P (ad_ P)).length - 1)) I0).length : Nat) : Int) - 1) (ab_ P) (List.replicate ((ab_ P).length - ((ac_ P (ad_ P)).length - 1)) I0) (by rw [List.length_replicate]; omega) (by omega) (Nat.le_refl _) hRl (by rw [List.length_replicate]; omega) (fun j => by rw [hR.get, hρ, pv_ hF]) (fun j hj => by
    rw [hF j (by omega), ← I0_E]
    exact dW_ (by rw [List.length_replicate]; omega))
  rw [e1]
  simp only [sm]
  have hM : Po (ak_ f') F := by rw [kf_]; exact mf_ e3 bF fun k hk => hF k (by omega)
  exact pD_ hM
end
def dI (c : Nat → Int) (k : Nat) : Int := ((k + 1 : Nat) : Int) * c (k + 1)
theorem nu_ {c : Nat → Int} (h : Ends c) : Ends (dI c) := by
  obtain ⟨n, h⟩ := h
  exact ⟨n, fun i hi => by unfold dI; rw [h _ (by omega), Int.mul_zero]⟩
theorem ZP_dI {c : Nat → Int} (h : Ends c) : ZP (dI c) (nu_ h) = QP.D (ZP c h) := QP.ex fun k => by rw [QP.D_c, ZP_c, ZP_c]; unfold dI; rw [Rat.intCast_mul]; rfl
theorem qa_ {A B C : QP} (S : QP) (h : Gd A B C) : Gd (S * A) (S * B) (S * C) := fun d => by
  obtain ⟨c1, c2⟩ := (h C).2 (.refl C)
  obtain ⟨g, u, v, h1, h2, h3⟩ := QP.bezout A B
  obtain ⟨k, hk⟩ := (h g).1 ⟨h2, h3⟩
  constructor
  · rintro ⟨d1, d2⟩
    rw [hk, ← QP.mul_assoc', h1, QP.mul_add', QP.lc' S u, QP.lc' S v]
    exact ((d1.mul_l u).add (d2.mul_l v)).mul k
  · exact fun d1 => ⟨d1.trans (c1.both S), d1.trans (c2.both S)⟩
theorem zp_ne {c : Nat → Int} (h : Ends c) (h0 : ¬ ∀ k, c k = 0) : ZP c h ≠ QP.C 0 := fun e => h0 fun k => by
  have e1 := congrArg (fun x : QP => x.c k) e
  simp only [ZP_c, QP.C0_c] at e1
  exact Rat.intCast_eq_zero_iff.1 e1
section
variable {σ : Nat → Int} {ds S G : Nat}
theorem oB_ (hσ : Cop σ) (hs0 : σ ds ≠ 0) (hs : ∀ i, ds < i → σ i = 0) (hS : ∀ k, (σ k).natAbs ≤ S) {P : List I} {c : Nat → Int} (hP : Po P c) (h0 : P ≠ []) (hD : Po (ad_ P) (dI c)) {f n0 n1 M0 M1 : Nat} {α β : Nat → Int} (pa : Pr α n0 M0) (pb : Pr β n1 M1) (h : okT S ds G f n0 n1 M0 M1 = true) (ha : Po (ab_ P) (conv σ α)) (hb : Po (ab_ (ad_ P)) (conv σ β)) :
    ∃ (g F : Nat → Int) (n : Nat) (eρ : Ends (conv σ α)) (eF : Ends F), Po (ac_ P (ad_ P)) g ∧ 0 < g n ∧ (∀ i, n < i → g i = 0) ∧ (∀ i, (g i).natAbs ≤ (ds + 1) * (S * G)) ∧ Cop g ∧ Cop F ∧ (∀ k, conv σ α k = conv g F k) ∧ ∀ h, QP.Irr h → (QP.Dv h (ZP (conv σ α) eρ) → QP.Dv h (ZP F eF)) ∧ ¬ QP.Dv (h * h) (ZP F eF) := by
  have es : Ends σ := ⟨ds + 1, fun i hi => hs i hi⟩
  obtain ⟨γ, _, pc, g1, g2, g3⟩ := iO_ hσ hs0 hs hS pa pb h ha hb
  have ea : ∀ k, ((cN P : Nat) : Int) * conv σ α k = c k := fun k => by
    rw [← cW_ hP k]
    congr 1
    exact (ha.c k).symm.trans ((dk_ hP).c k)
  have eb : ∀ k, ((cN (ad_ P) : Nat) : Int) * conv σ β k = dI c k := fun k => by
    rw [← cW_ hD k]
    congr 1
    exact (hb.c k).symm.trans ((dk_ hD).c k)
  have hcP := hP.cpos h0
  have hc0 : ¬ ∀ k, c k = 0 := fun hz => h0 (hP.nil hz)
  have hα : Cop α := pa.p.resolve_right fun hz => hc0 fun k => by rw [← ea k, b9_ hz, Int.mul_zero]
  have hρ : Cop (conv σ α) := gauss hσ hα
  have eρ := ck_ es pa.e
  have eσβ := ck_ es pb.e
  have hG := qa_ (ZP σ es) g2
  rw [← cF_ es pa.e, ← cF_ es pb.e, ← cF_ es pc.e] at hG
  have eg := ck_ es pc.e
  have hρ0 := zp_ne eρ (ej_ hρ)
  obtain ⟨d1, d2⟩ := (hG (ZP (conv σ γ) eg)).2 (.refl _)
  have hγ : Cop γ := pc.p.resolve_right fun hz => hρ0 (by
    have e0 : ZP (conv σ γ) eg = QP.C 0 := QP.ex fun k => by rw [ZP_c, b9_ hz, QP.C0_c]; rfl
    rw [e0] at d1
    exact d1.of_zero)
  have hg : Cop (conv σ γ) := gauss hσ hγ
  obtain ⟨F, eF, hF⟩ := io_ hg eg eρ d1
  obtain ⟨n, n1, n2⟩ := (eZ_ eg).resolve_left (ej_ hg)
  have hFc : Cop F := jS_ (s := conv σ γ) (by rw [← show conv σ α = conv (conv σ γ) F from funext hF]; exact hρ)
  -- the derivative, up to a number
  have hDv : ∀ x, QP.Dv x (QP.D (ZP (conv σ α) eρ)) ↔ QP.Dv x (ZP (conv σ β) eσβ) := fun x => by
    have e1 : QP.C (((cN P : Nat) : Int) : Rat) * QP.D (ZP (conv σ α) eρ) = QP.C (((cN (ad_ P) : Nat) : Int) : Rat) * ZP (conv σ β) eσβ := QP.ex fun k => by
      rw [QP.C_mul, QP.C_mul, QP.D_c, ZP_c, ZP_c, ← Rat.intCast_mul, eb k]
      unfold dI
      rw [← ea (k + 1), Rat.intCast_mul, Rat.intCast_mul]
      show _ = (((k + 1 : Nat) : Rat)) * _
      grind
    have hcP' : (((cN P : Nat) : Int) : Rat) ≠ 0 := fun e => by have := Rat.intCast_eq_zero_iff.1 e; omega
    by_cases hz : ad_ P = []
    · have z1 : ZP (conv σ β) eσβ = QP.C 0 := QP.ex fun k => by
        rw [ZP_c, QP.C0_c, ← show (0 : Int) = conv σ β k from ?_]
        · rfl
        · have := (hb.c k).symm.trans ((dk_ hD).c k)
          rw [hD.zero (k := k) (by rw [hz]; exact Nat.zero_le _), Int.zero_fdiv] at this
          exact this.symm
      rw [z1, QP.mul_zero'] at e1
      have z2 : QP.D (ZP (conv σ α) eρ) = QP.C 0 := by
        apply Classical.byContradiction
        intro hx
        exact QP.mul_ne (QP.C_dg hcP').ne hx e1
      rw [z1, z2]
    · have hcD := hD.cpos hz
      have hcD' : (((cN (ad_ P) : Nat) : Int) : Rat) ≠ 0 := fun e => by have := Rat.intCast_eq_zero_iff.1 e; omega
      exact ⟨fun h => QP.Dv.scale hcD' (by rw [← e1]; exact h.mul_l _), fun h => QP.Dv.scale hcP' (by rw [e1]; exact h.mul_l _)⟩
  refine ⟨conv σ γ, F, n, eρ, eF, g1, ?_, n2, ?_, hg, hFc, hF, fun h hi => ?_⟩
  · have := g3 n n2
    omega
  · exact fun i => f5_ hS pc.b (fun j hj => hs j (by omega)) i
  · refine QP.sqf_part (G := ZP (conv σ γ) eg) hρ0 ?_ ((hDv _).2 d2) (fun d h1 h2 => (hG d).1 ⟨h1, (hDv d).1 h2⟩) hi
    rw [← cF_ eg eF]
    exact ZP_eq _ _ hF
end
end Go.Num


set_option linter.unusedVariables false
set_option linter.unusedSimpArgs false
namespace Go.Num
open Go Go.Kn
theorem n2_ {c c' : Nat → Int} (hc : Cop c) (hc' : Cop c') (ec : Ends c) (ec' : Ends c') (h1 : QP.Dv (ZP c ec) (ZP c' ec')) (h2 : QP.Dv (ZP c' ec') (ZP c ec)) : (∀ k, c' k = c k) ∨ ∀ k, c' k = -c k := by
  obtain ⟨n, a1, a2⟩ := (eZ_ ec).resolve_left (ej_ hc)
  obtain ⟨n', b1, b2⟩ := (eZ_ ec').resolve_left (ej_ hc')
  have d1 := ZP_dg ec a1 a2
  have d2 := ZP_dg ec' b1 b2
  have l1 := h1.dg d1 d2
  have l2 := h2.dg d2 d1
  obtain rfl : n = n' := by omega
  obtain ⟨t, ht, e⟩ := h1.same d1 d2
  have key : ∀ k, (t.den : Int) * c' k = t.num * c k := fun k => by
    have e1 := congrArg (fun x : QP => x.c k) e
    simp only [ZP_c, QP.C_mul] at e1
    apply Rat.intCast_inj.1
    rw [Rat.intCast_mul, Rat.intCast_mul, e1, ← kb_ t]
    grind
  exact nc_ hc' hc (by have := t.den_nz; omega) key
def one (i : Nat) : Int := if i = 0 then 1 else 0
theorem ds_ (c : Nat → Int) (k : Nat) : conv one c k = c k := by rw [ce_]; unfold one; rw [k5_, Int.mul_one]
theorem j6_ : Cop one := fun u h => h 0
theorem dI_Bd {c : Nat → Int} {n b : Nat} (h : Bd c n b) (hn : n ≤ 8) : Bd (dI c) n (b + 3) := by
  refine ⟨fun k hk => by unfold dI; rw [h.z _ (by omega), Int.mul_zero], fun k => ?_⟩
  unfold dI
  by_cases hk : k + 1 < n
  · rw [Int.natAbs_mul, Int.natAbs_natCast, Nat.pow_add _ b 3, Nat.mul_comm]
    have h1 := h.b (k + 1)
    have h2 : (c (k + 1)).natAbs * (k + 1) ≤ (c (k + 1)).natAbs * 2 ^ 3 := Nat.mul_le_mul_left _ (by show k + 1 ≤ 8; omega)
    have h3 : (c (k + 1)).natAbs * 2 ^ 3 < 2 ^ b * 2 ^ 3 := Nat.mul_lt_mul_of_pos_right h1 (by decide)
    omega
  · rw [h.z _ (by omega), Int.mul_zero]; exact Nat.pow_pos (by decide)
theorem gF_ {p : List I} {c : Nat → Int} {n b : Nat} (hp : Po p c) (h : Bd c n b) (hn : n ≤ 8) (hb : b + 3 ≤ 512) : Po (ad_ p) (dI c) := mG_ hp fun k => jz_ ((dI_Bd h hn).b k) hb
theorem pk_ {c d : Nat → Int} (hc : Ends c) (hd : Ends d) (k : Nat) : dI (conv c d) k = conv (dI c) d k + conv c (dI d) k := by
  apply Rat.intCast_inj.1
  have h := QP.D_mul (ZP c hc) (ZP d hd)
  rw [← cF_ hc hd, ← ZP_dI, ← ZP_dI, ← ZP_dI, ← cF_, ← cF_] at h
  have e := congrArg (fun x : QP => x.c k) h
  simp only [QP.add_c, ZP_c] at e
  rw [Rat.intCast_add]
  exact e
theorem qO_ : (List.range 3).all (fun ds => okT 4096 ds (2 ^ 194) 5 4 3 50331648 150994944) = true := by kernel_rfl
theorem oL_ : okT 1 0 (2 ^ 194) 5 4 3 50331648 150994944 = true := by kernel_rfl
theorem qm_ : okT 1 0 (2 ^ 194) 4 3 2 (2 ^ 43) (2 ^ 45) = true := by kernel_rfl
theorem t24 {u v : Int} (hu : u.natAbs < 2 ^ 12) (hv : v.natAbs < 2 ^ 12) : -16777216 ≤ u * v ∧ u * v ≤ 16777216 := by
  have h := iN_ hu hv
  have e : (2 : Nat) ^ (12 + 12) = 16777216 := rfl
  omega
section
variable {c d : Nat → Int}
theorem c2_le (bc : Bd c 3 12) (bd : Bd d 3 12) (k : Nat) : (conv c d k).natAbs ≤ 50331648 := by
  have : 50331648 = 3 * (4096 * 4096) := rfl
  rw [this]
  exact f5_ (fun k => by have := bc.b k; have : (2 : Nat) ^ 12 = 4096 := rfl; omega) (fun k => by have := bd.b k; have : (2 : Nat) ^ 12 = 4096 := rfl; omega) bc.z k
theorem conv3 (bc : Bd c 3 12) (k : Nat) : conv c d k = c 0 * d k + (if 1 ≤ k then c 1 * d (k - 1) else 0) + (if 2 ≤ k then c 2 * d (k - 2) else 0) := by
  unfold conv
  match k with
  | 0 => simp [sumN]
  | 1 => simp [sumN]
  | k + 2 =>
    rw [dn_ (n := 3) (fun i hi => by rw [bc.z i hi, Int.zero_mul]) (k + 2 + 1) (by omega), if_pos (by omega), if_pos (by omega)]
    simp [sumN]
theorem b0_le (bc : Bd c 3 12) (bd : Bd d 3 12) (k : Nat) : (conv (dI c) d k + dI (conv c d) k).natAbs ≤ 150994944 := by
  have T : ∀ i j, -16777216 ≤ c i * d j ∧ c i * d j ≤ 16777216 := fun i j => t24 (bc.b i) (bd.b j)
  have z1 : ∀ i, 3 ≤ i → d i = 0 := bd.z
  have z2 : ∀ i, 3 ≤ i → c i = 0 := bc.z
  have e1 : conv (dI c) d k = c 1 * d k + (if 1 ≤ k then 2 * (c 2 * d (k - 1)) else 0) := by
    have hz : ∀ i, 2 ≤ i → dI c i = 0 := fun i hi => by unfold dI; rw [bc.z _ (by omega), Int.mul_zero]
    unfold conv
    match k with
    | 0 => simp [sumN, dI]
    | k + 1 =>
      rw [dn_ (n := 2) (fun i hi => by rw [hz i hi, Int.zero_mul]) (k + 1 + 1) (by omega), if_pos (by omega)]
      simp [sumN, dI]
      grind
  have e2 : dI (conv c d) k = ((k + 1 : Nat) : Int) * (c 0 * d (k + 1) + c 1 * d k + (if 2 ≤ k + 1 then c 2 * d (k - 1) else 0)) := by
    unfold dI
    rw [conv3 bc, if_pos (by omega), show k + 1 - 1 = k by omega, show k + 1 - 2 = k - 1 by omega]
  rw [e1, e2]
  have t00 := T 0 (k + 1)
  have t1 := T 1 k
  have t2 := T 2 (k - 1)
  match k with
  | 0 =>
    have t3 := T 0 1
    have t4 := T 1 0
    rw [if_neg (by omega), if_neg (by omega)]
    show (c 1 * d 0 + 0 + 1 * (c 0 * d 1 + c 1 * d 0 + 0)).natAbs ≤ _
    omega
  | 1 =>
    have t3 := T 0 2
    have t4 := T 1 1
    rw [if_pos (by omega), if_pos (by omega)]
    show (c 1 * d 1 + 2 * (c 2 * d (1 - 1)) + 2 * (c 0 * d 2 + c 1 * d 1 + c 2 * d (1 - 1))).natAbs ≤ _
    omega
  | 2 =>
    rw [if_pos (by omega), if_pos (by omega), z1 (2 + 1) (by omega)]
    show (c 1 * d 2 + 2 * (c 2 * d (2 - 1)) + 3 * (c 0 * 0 + c 1 * d 2 + c 2 * d (2 - 1))).natAbs ≤ _
    omega
  | 3 =>
    rw [if_pos (by omega), if_pos (by omega), z1 (3 + 1) (by omega), z1 3 (by omega)]
    show (c 1 * 0 + 2 * (c 2 * d (3 - 1)) + 4 * (c 0 * 0 + c 1 * 0 + c 2 * d (3 - 1))).natAbs ≤ _
    omega
  | k + 4 =>
    rw [if_pos (by omega), if_pos (by omega), z1 (k + 4 + 1) (by omega), z1 (k + 4) (by omega), z1 (k + 4 - 1) (by omega)]
    simp
theorem d2_le (bc : Bd c 3 12) (bd : Bd d 3 12) (k : Nat) : (dI (conv c d) k).natAbs ≤ 150994944 := by
  have T : ∀ i j, -16777216 ≤ c i * d j ∧ c i * d j ≤ 16777216 := fun i j => t24 (bc.b i) (bd.b j)
  have z1 : ∀ i, 3 ≤ i → d i = 0 := bd.z
  have e2 : dI (conv c d) k = ((k + 1 : Nat) : Int) * (c 0 * d (k + 1) + c 1 * d k + (if 2 ≤ k + 1 then c 2 * d (k - 1) else 0)) := by
    unfold dI
    rw [conv3 bc, if_pos (by omega), show k + 1 - 1 = k by omega, show k + 1 - 2 = k - 1 by omega]
  rw [e2]
  have t00 := T 0 (k + 1)
  have t1 := T 1 k
  have t2 := T 2 (k - 1)
  match k with
  | 0 =>
    have t3 := T 0 1
    have t4 := T 1 0
    rw [if_neg (by omega)]
    show (1 * (c 0 * d 1 + c 1 * d 0 + 0)).natAbs ≤ _
    omega
  | 1 =>
    have t3 := T 0 2
    have t4 := T 1 1
    rw [if_pos (by omega)]
    show (2 * (c 0 * d 2 + c 1 * d 1 + c 2 * d (1 - 1))).natAbs ≤ _
    omega
  | 2 =>
    rw [if_pos (by omega), z1 (2 + 1) (by omega)]
    show (3 * (c 0 * 0 + c 1 * d 2 + c 2 * d (2 - 1))).natAbs ≤ _
    omega
  | 3 =>
    rw [if_pos (by omega), z1 (3 + 1) (by omega), z1 3 (by omega)]
    show (4 * (c 0 * 0 + c 1 * 0 + c 2 * d (3 - 1))).natAbs ≤ _
    omega
  | k + 4 =>
    rw [if_pos (by omega), z1 (k + 4 + 1) (by omega), z1 (k + 4) (by omega), z1 (k + 4 - 1) (by omega)]
    simp
end
/-- What divides a primitive polynomial divides the polynomial, and the other way round. -/
theorem nh_ {p : List I} {c κ : Nat → Int} (h : Po p c) (h0 : p ≠ []) (hk : Po (ab_ p) κ) (ec : Ends c) (ek : Ends κ) (x : QP) : QP.Dv x (ZP κ ek) ↔ QP.Dv x (ZP c ec) := by
  have hc := h.cpos h0
  have e1 : ZP c ec = QP.C (((cN p : Nat) : Int) : Rat) * ZP κ ek := by
    rw [← jq_ ek]
    refine ZP_eq _ _ fun k => ?_
    rw [← cW_ h k]
    congr 1
    exact ((dk_ h).c k).symm.trans (hk.c k)
  rw [e1]
  exact ⟨fun h => h.mul_l _, fun h => h.scale fun e => by have := Rat.intCast_eq_zero_iff.1 e; omega⟩
theorem or0 {l : List I} : ((((l).length : Nat) : Int) == 0) = false → l ≠ [] := fun h e => by rw [e] at h; exact absurd h (by decide)
theorem nH_ (p q : List I) : ba_ p q = true := by
  unfold ba_
  cases hc : (!(ah_ p 2 12) || (!(ah_ q 2 12) || ((ae_ p) || ((ae_ q) || (((((p).length : Nat) : Int) == 0) || ((((q).length : Nat) : Int) == 0))))))
  case true => rw [cond_true]; exact iL_
  simp only [Bool.or_eq_false_iff, Bool.not_eq_false'] at hc
  obtain ⟨f1, f2, n1, n2, l1, l2⟩ := hc
  have p0 := or0 l1
  have q0 := or0 l2
  have r1 := few_f (p := p) (d := 2) (b := 12) (by rw [f1]; rfl)
  have r2 := few_f (p := q) (d := 2) (b := 12) (by rw [f2]; rfl)
  obtain ⟨c, hp, bp⟩ := gt_ f1 (hH_ (l25 r1.2) n1)
  obtain ⟨d, hq, bq⟩ := gt_ f2 (hH_ (l25 r2.2) n2)
  have bp : Bd c 3 12 := bp
  have bq : Bd d 3 12 := bq
  have hPQ := hF_ hp hq bp bq (e := 2) (by decide) (by decide) (by decide)
  have b2 : Bd (conv c d) 5 26 := bp.conv bq (e := 2) (by decide)
  have hP1 := hF_ hp hPQ bp b2 (e := 2) (by decide) (by decide) (by decide)
  have b1 : Bd (conv c (conv c d)) 7 40 := bp.conv b2 (e := 2) (by decide)
  have hD2 := gF_ hPQ b2 (by decide) (by decide)
  have hD1 := gF_ hP1 b1 (by decide) (by decide)
  have hDp := gF_ hp bp (by decide) (by decide)
  have bDp := dI_Bd bp (by decide)
  have hA := hF_ hDp hq bDp bq (e := 2) (by decide) (by decide) (by decide)
  have hb0 := ra_ hA hD2 (bDp.conv bq (e := 2) (by decide)) ((dI_Bd b2 (by decide)).mono (Nat.le_refl _) (by decide)) (by decide)
  have ec := hp.ends
  have ed := hq.ends
  have idD : ∀ k, dI (conv c (conv c d)) k = conv (fun k => conv (dI c) d k + dI (conv c d) k) c k := fun k => by
    rw [pk_ ec (ck_ ec ed), ce_ _ c, gi_, ← e0_, ce_ (dI c) c, e0_]
  obtain ⟨dp, t1, t2, t3⟩ := hp.top p0
  obtain ⟨dq, s1, s2, s3⟩ := hq.top q0
  have hdp : dp ≤ 2 := by have := hp.len bp; omega
  have hdq : dq ≤ 2 := by have := hq.len bq; omega
  have c2top : conv c d (dp + dq) ≠ 0 := by rw [c3_ t3 s3]; exact Int.mul_ne_zero t2 s2
  generalize hQ : aa_ p q = PQ at *
  generalize hP : aa_ p PQ = P1 at *
  have PQ0 : PQ ≠ [] := fun e => c2top (hPQ.zero (by rw [e]; exact Nat.zero_le _))
  have P10 : P1 ≠ [] := fun e => by
    have := hP1.zero (k := dp + (dp + dq)) (by rw [e]; exact Nat.zero_le _)
    rw [c3_ t3 (m := dp + dq) fun i hi => cC_ (n := dp + 1) (m := dq + 1) (fun j hj => t3 j hj) (fun j hj => s3 j hj) i (by omega)] at this
    exact Int.mul_ne_zero t2 c2top this
  have ha1 := gf_ hPQ hp p0 (hP1.cast fun k => congrFun (ce_ c (conv c d)) k)
  have hb1 := gf_ hb0 hp p0 (hD1.cast idD)
  have ha2 := (dk_ hPQ).cast fun k => (ds_ (fun k => (conv c d k).fdiv (cN PQ)) k).symm
  have hb2 := (dk_ hD2).cast fun k => (ds_ (fun k => (dI (conv c d) k).fdiv (cN (ad_ PQ))) k).symm
  have pa : Pr (fun k => (conv c d k).fdiv (cN PQ)) 4 50331648 := f9_ hPQ (fun i hi => b2.z i (by omega)) (c2_le bp bq)
  have dz : ∀ i, 3 < i → dI (conv c d) i = 0 := fun i hi => by unfold dI; rw [b2.z _ (by omega), Int.mul_zero]
  have pb1 := f9_ hb0 (n := 3) (M := 150994944) (fun i hi => by
    show conv (dI c) d i + dI (conv c d) i = 0
    rw [dz i hi, cC_ (n := 2) (m := 3) (fun j hj => by unfold dI; rw [bp.z _ (by omega), Int.mul_zero]) bq.z i (by omega)]
    rfl) (b0_le bp bq)
  have pb2 := f9_ hD2 (n := 3) (M := 150994944) dz (d2_le bp bq)
  have hcp := hp.cpos p0
  have hmp := cW_ hp
  have σ0 : (c dp).fdiv (cN p) ≠ 0 := fun e => t2 (by rw [← hmp dp, e, Int.mul_zero])
  have hok1 : okT 4096 dp (2 ^ 194) 5 4 3 50331648 150994944 = true := by
    have := List.all_eq_true.1 qO_ dp (List.mem_range.2 (by omega))
    exact this
  obtain ⟨g1, F1, m1, eρ1, eF1, u1, u2, u3, u4, u5, u6, u7, u8⟩ := oB_ (d2_ hp p0) (ds := dp) (S := 4096) σ0 (fun i hi => by rw [t3 i hi, Int.zero_fdiv]) (fun k => Nat.le_trans (hI_ hcp (hp.dvd k)) (by have := bp.b k; have : (2 : Nat) ^ 12 = 4096 := rfl; omega)) hP1 P10 hD1 pa pb1 hok1 ha1 hb1
  obtain ⟨g2, F2, m2, eρ2, eF2, v1, v2, v3, v4, v5, v6, v7, v8⟩ := oB_ j6_ (ds := 0) (S := 1) (by decide) (fun i hi => if_neg (by omega)) (fun k => by unfold one; split <;> decide) hPQ PQ0 hD2 pa pb2 oL_ ha2 hb2
  have eα : Ends (fun k => (conv c d k).fdiv (cN PQ)) := pa.e
  have hα := dk_ hPQ
  have αC : Cop (fun k => (conv c d k).fdiv (cN PQ)) := d2_ hPQ PQ0
  have αe : ∀ k, ((cN PQ : Nat) : Int) * (conv c d k).fdiv (cN PQ) = conv c d k := cW_ hPQ
  generalize hαd : (fun k => (conv c d k).fdiv (cN PQ)) = α at *
  have αe : ∀ k, ((cN PQ : Nat) : Int) * α k = conv c d k := fun k => by rw [← hαd]; exact αe k
  have hcQ := hPQ.cpos PQ0
  have e1α : conv one α = α := funext fun k => ds_ α k
  -- the irreducible factors are the same
  have irr : ∀ h, QP.Irr h → (QP.Dv h (ZP _ eρ1) ↔ QP.Dv h (ZP _ eρ2)) := fun h hi => by
    have x2 : ZP (conv one α) eρ2 = ZP α eα := ZP_eq _ _ fun k => ds_ α k
    have eσ : Ends (fun k => (c k).fdiv (cN p)) := (dk_ hp).ends
    have x1 : ZP _ eρ1 = ZP _ eσ * ZP α eα := by rw [← cF_]
    rw [x1, x2]
    refine ⟨fun hd => ?_, fun hd => hd.mul_l _⟩
    rcases hi.prime hd with h1 | h1
    · rw [nh_ hPQ PQ0 hα (ck_ ec ed) eα, cF_ ec ed]
      exact ((nh_ hp p0 (dk_ hp) ec eσ h).1 h1).mul _
    · exact h1
  have d1 : QP.Dv (ZP F1 eF1) (ZP _ eρ1) := ⟨ZP g1 u1.ends, by rw [← cF_]; exact ZP_eq _ _ fun k => by rw [u7, ce_]⟩
  have d2 : QP.Dv (ZP F2 eF2) (ZP _ eρ2) := ⟨ZP g2 v1.ends, by rw [← cF_]; exact ZP_eq _ _ fun k => by rw [v7, ce_]⟩
  have D12 : QP.Dv (ZP F1 eF1) (ZP F2 eF2) := QP.sqf_dvd (zp_ne eF1 (ej_ u6)) (fun h hi => (u8 h hi).2) fun h hi hd => (v8 h hi).1 ((irr h hi).1 (hd.trans d1))
  have D21 : QP.Dv (ZP F2 eF2) (ZP F1 eF1) := QP.sqf_dvd (zp_ne eF2 (ej_ v6)) (fun h hi => (v8 h hi).2) fun h hi hd => (u8 h hi).1 ((irr h hi).2 (hd.trans d2))
  have hor := n2_ v6 u6 eF2 eF1 D21 D12
  -- sizes
  obtain ⟨N2, w1, w2⟩ := (eZ_ eF2).resolve_left (ej_ v6)
  have hα0 : ∀ i, 4 < i → α i = 0 := pa.z
  have v7' : ∀ k, α k = conv g2 F2 k := fun k => by rw [← v7 k, ds_]
  have hsum : m2 + N2 ≤ 4 := Nat.le_of_not_lt fun hx => by
    have := hα0 (m2 + N2) hx
    rw [v7', c3_ v3 w2] at this
    exact Int.mul_ne_zero (by omega) w1 this
  have size : (N2 = 4 ∧ ∀ i, F2 i = α i) ∨ (N2 ≤ 3 ∧ ∀ i, (F2 i).natAbs < 2 ^ 43) := by
    by_cases h4 : N2 = 4
    · left
      refine ⟨h4, fun i => ?_⟩
      have hm : m2 = 0 := by omega
      subst hm
      have h1 := ht_ v5 v3
      have h2 : g2 0 = 1 := by omega
      rw [v7', show g2 = one from funext fun k => by
        unfold one
        split
        · next e => rw [e, h2]
        · exact v3 k (by omega), ds_]
    · right
      refine ⟨by omega, fun i => ?_⟩
      have h1 := nb_ (g := g2) (F := F2) (n := m2) (m := N2) (R := 50331648) (by omega) v3 w2 hsum (fun k => by rw [← v7']; exact pa.b k) (by omega) i
      have h2 : 9 ^ N2 * (121 * 50331648) ≤ 9 ^ 3 * (121 * 50331648) := Nat.mul_le_mul_right _ (Nat.pow_le_pow_right (by decide) (by omega))
      have h3 : 9 ^ 3 * (121 * 50331648) < 2 ^ 43 := by decide
      omega
  have F2le : ∀ i, (F2 i).natAbs ≤ 2 ^ 43 := fun i => by
    rcases size with ⟨_, h⟩ | ⟨_, h⟩
    · rw [h i]
      have := pa.b i
      have : 50331648 ≤ 2 ^ 43 := by decide
      omega
    · have := h i; omega
  have F1le : ∀ i, (F1 i).natAbs ≤ 2 ^ 43 := fun i => by
    rcases hor with h | h
    · rw [h i]; exact F2le i
    · rw [h i, Int.natAbs_neg]; exact F2le i
  obtain ⟨N1, y1, y2⟩ := (eZ_ eF1).resolve_left (ej_ u6)
  have len1 : (ac_ P1 (ad_ P1)).length = m1 + 1 := u1.len_top (by omega) u3
  have len2 : (ac_ PQ (ad_ PQ)).length = m2 + 1 := v1.len_top (by omega) v3
  have hbig : 25 * (3 * (4096 * 2 ^ 194) * 2 ^ 43) < 4294967296 ^ 16 := by decide
  have free1 := lC_ u1 len1 u2 F1le (B := 3 * (4096 * 2 ^ 194)) (fun i => Nat.le_trans (u4 i) (Nat.mul_le_mul_right _ (by omega))) (Nat.lt_of_le_of_lt (Nat.mul_le_mul_right _ (by have := u1.l; omega)) hbig) ha1 u7 y1 y2
  have free2 := lC_ v1 len2 v2 F2le (B := 3 * (4096 * 2 ^ 194)) (fun i => Nat.le_trans (v4 i) (by decide)) (Nat.lt_of_le_of_lt (Nat.mul_le_mul_right _ (by omega)) hbig) ha2 v7 w1 w2
  obtain ⟨e1, he1, z1, z2⟩ := free1
  obtain ⟨e2, he2, z3, z4⟩ := free2
  have scale : ∀ (e : Int) (he : e = 1 ∨ e = -1) {F : Nat → Int} (eF : Ends F) (x : QP), (QP.Dv x (ZP (fun k => e * F k) (eQ_ eF e)) ↔ QP.Dv x (ZP F eF)) ∧ (QP.Dv (ZP (fun k => e * F k) (eQ_ eF e)) x ↔ QP.Dv (ZP F eF) x) := fun e he F eF x => by
    have e0 : ((e : Int) : Rat) ≠ 0 := fun h => by have := Rat.intCast_eq_zero_iff.1 h; omega
    rw [jq_ eF]
    exact ⟨⟨fun h => h.scale e0, fun h => h.mul_l _⟩, ⟨fun h => h.unit e0, fun h => (QP.C_dv e0 _).trans h⟩⟩
  have signC : ∀ (e : Int) (he : e = 1 ∨ e = -1) {F : Nat → Int}, Cop F → Cop fun k => e * F k := fun e he F hF u hu => hF u fun k => by
    have : u ∣ e * F k := hu k
    rcases he with rfl | rfl
    · rwa [Int.one_mul] at this
    · rw [Int.neg_one_mul] at this; exact Int.dvd_neg.1 this
  have zeroC : ∀ (e : Int) (he : e = 1 ∨ e = -1) {F : Nat → Int} {m : Nat}, (∀ i, m < i → e * F i = 0) → ∀ i, m < i → F i = 0 := fun e he F m h i hi => (Int.mul_eq_zero.1 (h i hi)).resolve_left (by omega)
  have same : af_ P1 = af_ PQ := by
    refine z1.eq (z3.cast fun k => ?_)
    refine kV_ (signC e2 he2 v6) (signC e1 he1 u6) (eQ_ eF2 e2) (eQ_ eF1 e1) ?_ ?_ (fun m hm => z4 m (zeroC e2 he2 hm)) (fun m hm => z2 m (zeroC e1 he1 hm)) k
    · exact ((scale e2 he2 eF2 _).2).2 (((scale e1 he1 eF1 _).1).2 D21)
    · exact ((scale e1 he1 eF1 _).2).2 (((scale e2 he2 eF2 _).1).2 D12)
  rw [same]
  have φC := signC e2 he2 v6
  have eφ := z3.ends
  have φn : ∀ h, QP.Irr h → ¬ QP.Dv (h * h) (ZP _ eφ) := fun h hi hd => (v8 h hi).2 (((scale e2 he2 eF2 _).1).1 hd)
  have φd : ∀ x, QP.Dv x (ZP F2 eF2) → QP.Dv x (ZP _ eφ) := fun x hd => ((scale e2 he2 eF2 _).1).2 hd
  have φabs : ∀ i, (e2 * F2 i).natAbs = (F2 i).natAbs := fun i => by
    rcases he2 with h | h <;> rw [h, Int.natAbs_mul]
    · exact Nat.one_mul _
    · exact Nat.one_mul _
  have φz : ∀ i, N2 < i → e2 * F2 i = 0 := fun i hi => by rw [w2 i hi, Int.mul_zero]
  have φ0 : e2 * F2 N2 ≠ 0 := Int.mul_ne_zero (by omega) w1
  have φlen : (af_ PQ).length = N2 + 1 := z3.len_top φ0 φz
  have φpos := z4 N2 w2
  generalize hfd : af_ PQ = f at *
  have rem1 : ao_ PQ f = [] := by
    refine hO_ (t := 1) (T := fun k => (e2 * ((cN PQ : Nat) : Int)) * g2 k) (B := 2 ^ 43) (R := 50331648) (m := 5) hPQ z3 φlen (by decide) (eQ_ v1.ends _) (fun k => ?_) (by decide) (fun k => by rw [φabs]; exact F2le k) (c2_le bp bq) (by have := hPQ.len b2; omega) (by decide)
    rw [Int.one_mul, cV_]
    show conv c d k = e2 * ((cN PQ : Nat) : Int) * conv (fun k => e2 * F2 k) g2 k
    rw [gq_]
    show conv c d k = e2 * ((cN PQ : Nat) : Int) * (e2 * conv F2 g2 k)
    rw [← αe k, v7' k, ce_ F2 g2]
    rcases he2 with h | h <;> rw [h] <;> grind
  -- the square of the square
  have bφ : ∃ n b m : Nat, Bd (fun k => e2 * F2 k) n b ∧ n ≤ 5 ∧ b ≤ 43 ∧ N2 = n - 1 ∧ (n = 5 ∧ b = 26 ∨ n ≤ 4) := by
    rcases size with ⟨h4, h⟩ | ⟨h3, h⟩
    · refine ⟨5, 26, 0, ⟨fun k hk => φz k (by omega), fun k => ?_⟩, by decide, by decide, by omega, .inl ⟨rfl, rfl⟩⟩
      rw [φabs, h k]
      exact Nat.lt_of_le_of_lt (pa.b k) (by decide)
    · exact ⟨N2 + 1, 43, 0, ⟨fun k hk => φz k (by omega), fun k => by rw [φabs]; exact h k⟩, by omega, by decide, by omega, .inr (by omega)⟩
  obtain ⟨nb, bb, _, bφ, c1, c2, c3, c4⟩ := bφ
  have hsq := hF_ z3 z3 bφ bφ (e := 3) (by show nb ≤ 8; omega) (by omega) (by omega)
  have bsq := bφ.conv bφ (e := 3) (by show nb ≤ 8; omega)
  have hsq2 := hF_ hsq hsq bsq bsq (e := 4) (by show nb + nb - 1 ≤ 16; omega) (by omega) (by omega)
  have bsq2 := bsq.conv bsq (e := 4) (by show nb + nb - 1 ≤ 16; omega)
  generalize hφd : (fun k => e2 * F2 k) = φ at *
  have φz' : ∀ i, N2 < i → φ i = 0 := fun i hi => by rw [← hφd]; exact φz i hi
  obtain ⟨N, a1, a2⟩ := (eZ_ eα).resolve_left (ej_ αC)
  have hN4 : N ≤ 4 := Nat.le_of_not_lt fun hx => a1 (hα0 N hx)
  have αlen : (ab_ PQ).length = N + 1 := hα.len_top a1 a2
  have hNN : N2 ≤ N := by
    have := QP.Dv.dg (a := ZP F2 eF2) (b := ZP α eα) (by
      have x2 : ZP (conv one α) eρ2 = ZP α eα := ZP_eq _ _ fun k => ds_ α k
      rw [← x2]; exact d2) (ZP_dg eF2 w1 w2) (ZP_dg eα a1 a2)
    exact this
  have rem2 : ao_ (aa_ (aa_ f f) (aa_ f f)) (ab_ PQ) = [] := by
    have e4 : QP.pow (ZP φ eφ) 4 = ZP (conv (conv φ φ) (conv φ φ)) (ck_ (ck_ eφ eφ) (ck_ eφ eφ)) := by
      rw [cF_ (ck_ eφ eφ) (ck_ eφ eφ), cF_ eφ eφ]
      show ZP φ eφ * (ZP φ eφ * (ZP φ eφ * (ZP φ eφ * QP.C 1))) = _
      rw [QP.mul_one', QP.mul_assoc']
    have hdv : QP.Dv (ZP α eα) (QP.pow (ZP φ eφ) 4) := by
      rw [show 4 = N + (4 - N) by omega, QP.pow_add]
      refine QP.Dv.mul (QP.dvd_pow (P := ZP α eα) (fun h hi hd => φd h ((v8 h hi).1 ?_)) N _ (ZP_dg eα a1 a2) (.refl _)) _
      have x2 : ZP (conv one α) eρ2 = ZP α eα := ZP_eq _ _ fun k => ds_ α k
      rw [x2]; exact hd
    rw [e4] at hdv
    obtain ⟨t, T, k1, k2, k3⟩ := oY_ (ck_ (ck_ eφ eφ) (ck_ eφ eφ)) eα hdv
    have hl := hsq2.len bsq2
    have αle : ∀ k, (α k).natAbs ≤ 67108864 := fun k => Nat.le_trans (pa.b k) (by decide)
    rcases c4 with ⟨c4, c5⟩ | c4
    · subst c4 c5
      exact hO_ hsq2 hα αlen k1 k2 k3 (by decide) αle (R := 2 ^ 114) (m := 13) (fun k => Nat.le_of_lt (bsq2.b k)) (by omega) (by decide)
    · refine hO_ hsq2 hα αlen k1 k2 k3 (by decide) αle (R := 2 ^ 182) (m := 10) (fun k => Nat.le_of_lt (Nat.lt_of_lt_of_le (bsq2.b k) (jX_ (by omega)))) (by omega) (by decide)
  -- no ev_ factor with the derivative
  have φle : ∀ k, (φ k).natAbs ≤ 2 ^ 43 := fun k => by rw [← hφd]; show (e2 * F2 k).natAbs ≤ _; rw [φabs]; exact F2le k
  have hDf := gF_ z3 bφ (by omega) (by omega)
  have eD := hDf.ends
  have hPf : Po (ab_ f) (conv one φ) := by rw [mZ_ z3 φC]; exact z3.cast fun k => (ds_ φ k).symm
  have hPD := (dk_ hDf).cast fun k => (ds_ (fun k => (dI φ k).fdiv (cN (ad_ f))) k).symm
  have hgcd : ∃ (γ : Nat → Int) (n M0 M1 n0 n1 : Nat) (pφ : Pr φ n0 M0) (pD : Pr (fun k => (dI φ k).fdiv (cN (ad_ f))) n1 M1) (pc : Pr γ n (2 ^ 194)), Po (ac_ f (ad_ f)) (conv one γ) ∧ Gd (ZP φ pφ.e) (ZP _ pD.e) (ZP γ pc.e) := by
    rcases size with ⟨h4, h⟩ | ⟨h3, h⟩
    · have pφ : Pr φ 4 50331648 := ⟨fun i hi => φz' i (by omega), fun k => by rw [← hφd]; show (e2 * F2 k).natAbs ≤ _; rw [φabs, h k]; exact pa.b k, .inl φC⟩
      have pD := f9_ hDf (n := 3) (M := 150994944) (fun i hi => by unfold dI; rw [φz' _ (by omega), Int.mul_zero]) (fun k => by
        have h1 := d2_le bp bq k
        have h2 : dI (conv c d) k = ((cN PQ : Nat) : Int) * dI F2 k := by unfold dI; rw [← αe, h]; grind
        have h3 : (dI φ k).natAbs = (dI F2 k).natAbs := by
          rw [← hφd]
          unfold dI
          rw [Int.natAbs_mul (((k + 1 : Nat) : Int)), φabs, Int.natAbs_mul]
        rw [h2, Int.natAbs_mul, Int.natAbs_natCast] at h1
        rw [h3]
        exact Nat.le_trans (Nat.le_mul_of_pos_left _ hcQ) h1)
      obtain ⟨γ, n, pc, k1, k2, _⟩ := iO_ j6_ (ds := 0) (S := 1) (by decide) (fun i hi => if_neg (by omega)) (fun k => by unfold one; split <;> decide) pφ pD oL_ hPf hPD
      exact ⟨γ, n, _, _, _, _, pφ, pD, pc, k1, k2⟩
    · have pφ : Pr φ 3 (2 ^ 43) := ⟨fun i hi => φz' i (by omega), φle, .inl φC⟩
      have pD := f9_ hDf (n := 2) (M := 2 ^ 45) (fun i hi => by unfold dI; rw [φz' _ (by omega), Int.mul_zero]) (fun k => by
        unfold dI
        rw [Int.natAbs_mul, Int.natAbs_natCast]
        have e45 : (2 : Nat) ^ 45 = 4 * 2 ^ 43 := rfl
        by_cases hk : k + 1 ≤ 3
        · rw [e45]; exact Nat.mul_le_mul (by omega) (φle _)
        · rw [φz' _ (by omega)]; exact Nat.zero_le _)
      obtain ⟨γ, n, pc, k1, k2, _⟩ := iO_ j6_ (ds := 0) (S := 1) (by decide) (fun i hi => if_neg (by omega)) (fun k => by unfold one; split <;> decide) pφ pD qm_ hPf hPD
      exact ⟨γ, n, _, _, _, _, pφ, pD, pc, k1, k2⟩
  obtain ⟨γ, _, _, _, _, _, pφ, pD, pc, k1, k2⟩ := hgcd
  obtain ⟨j1, j2⟩ := (k2 (ZP γ pc.e)).2 (.refl _)
  have j3 : QP.Dv (ZP γ pc.e) (QP.D (ZP φ eφ)) := by
    rw [← ZP_dI eφ]
    have : ZP (dI φ) (nu_ eφ) = QP.C (((cN (ad_ f) : Nat) : Int) : Rat) * ZP _ pD.e := by
      rw [← jq_ pD.e]
      exact ZP_eq _ _ fun k => (cW_ hDf k).symm
    rw [this]
    exact j2.mul_l _
  have γ0 : ¬ ∀ k, γ k = 0 := fun hz => by
    have e0 : ZP γ pc.e = QP.C 0 := QP.ex fun k => by rw [ZP_c, hz k, QP.C0_c]; rfl
    rw [e0] at j1
    exact zp_ne eφ (ej_ φC) j1.of_zero
  obtain ⟨nγ, x1, x2⟩ := (eZ_ pc.e).resolve_left γ0
  have nγ0 := QP.sqf_co φn j1 j3 (ZP_dg pc.e x1 x2)
  subst nγ0
  have glen : (ac_ f (ad_ f)).length = 1 := k1.len_top (n := 0) (by rw [ds_]; exact x1) fun i hi => by rw [ds_]; exact x2 i hi
  have hdeg : (bZ_ (ac_ f (ad_ f))).1 = 0 := by
    unfold bZ_
    rw [k1.nb, cond_false, glen]; rfl
  rw [cond_false, ji_, z3.nb, hdeg, rem1, rem2, iL_, show ((((f).length : Nat) : Int) == 0) = false from beq_eq_false_iff_ne.2 (by omega)]
  rfl
end Go.Num

