/- law08: PolyFindsCommonFactors. No program stands in it. From a reading of an argument that is a slice to the list that it reads. No program stands in it. -/
import Derived.Test.YtjdfogfmeibkgaaGreatQRb
import Derived.Test.YtjdfogfmeibkgaaGreatQQg
import Derived.Test.YtjdfogfmeibkgaaGreatQFp
import Derived.KernelRfl
import Derived.Test.YtjdfogfmeibkgaaGreatQGD
import Derived.ProofKit
import Derived.OpenShut
import Derived.ChangeOld
import Derived.ChangeArms

set_option linter.unusedVariables false
set_option linter.unusedSimpArgs false
namespace Go.Num
open Go Go.Kn
/-- What divides over the rationals, divides a multiple over the integers. -/
theorem oY_ {c d : Nat → Int} (ec : Ends c) (ed : Ends d) (h : QP.Dv (ZP d ed) (ZP c ec)) : ∃ (t : Int) (T : Nat → Int), t ≠ 0 ∧ Ends T ∧ ∀ k, t * c k = conv d T k := by
  obtain ⟨H, hH⟩ := h
  obtain ⟨n, hn⟩ := H.fs
  obtain ⟨m, m0, hm⟩ := ev_ H.c n
  have hT : ∀ k, ∃ t : Int, (t : Rat) = (m : Rat) * H.c k := fun k => by
    by_cases hk : k < n
    · exact hm k hk
    · exact ⟨0, by rw [hn k (by omega), Rat.mul_zero]; rfl⟩
  obtain ⟨T, hT'⟩ := Classical.axiomOfChoice hT
  refine ⟨m, T, by omega, ⟨n, fun k hk => Rat.intCast_inj.1 (by rw [hT', hn k hk, Rat.mul_zero]; rfl)⟩, fun k => ?_⟩
  apply Rat.intCast_inj.1
  have e2 := congrArg (fun x : QP => (m : Rat) * x.c k) hH
  simp only [ZP_c, QP.mul_c] at e2
  rw [Rat.intCast_mul, show ((conv d T k : Int) : Rat) = cR (conv d T) k from rfl, gE_, show cR T = fun i => (m : Rat) * H.c i from funext hT', cV_]
  exact e2
/-- A remainder of a multiple is nothing. -/
theorem hO_ {a g : List I} {c d T : Nat → Int} {n : Nat} (ha : Po a c) (hg : Po g d) (hn : g.length = n + 1) {t : Int} (ht : t ≠ 0) (eT : Ends T) (h : ∀ k, t * c k = conv d T k) {B R m : Nat} (hB : 1 ≤ B) (hd : ∀ k, (d k).natAbs ≤ B) (hc : ∀ k, (c k).natAbs ≤ R) (hm : a.length - n ≤ m) (hz : (2 * B) ^ m * R < 4294967296 ^ 16) : ao_ a g = [] := by
  have h0 := hg.last hn
  have hdz : ∀ i, n < i → d i = 0 := fun i hi => hg.zero (by omega)
  have hR := oH_ ha hg hn (ky_ hB (by rw [Int.natAbs_natCast]; exact hd n) (iA_ _) hd _ R c hc (Nat.lt_of_le_of_lt (Nat.mul_le_mul_right _ (Nat.pow_le_pow_right (by omega) hm)) hz))
  refine hR.nil fun k => ?_
  have hT : ∀ i, a.length - n ≤ i → T i = 0 := by
    rcases eZ_ eT with e | ⟨l, e1, e2⟩
    · exact fun i _ => e i
    · have h1 : conv d T (n + l) = d n * T l := c3_ hdz e2
      have h2 : ¬ a.length ≤ n + l := fun hx => by
        have := h (n + l)
        rw [ha.zero hx, Int.mul_zero, h1] at this
        exact Int.mul_ne_zero h0 e1 this.symm
      exact fun i hi => e2 i (by omega)
  have e1 := lw_ (a := ((d n).natAbs : Int)) (o := (d n).sign) (iu_ _) hdz (a.length - n) T (fun _ => 0) hT fun _ _ => rfl
  have e2 : (fun k => conv d T k + 0) = fun k => t * c k := funext fun k => by rw [Int.add_zero, h k]
  rw [e2, iB_] at e1
  have e3 := congrFun e1 k
  simp only [Int.mul_zero] at e3
  exact (Int.mul_eq_zero.1 e3).resolve_left ht
theorem kV_ {c c' : Nat → Int} (hc : Cop c) (hc' : Cop c') (ec : Ends c) (ec' : Ends c') (h1 : QP.Dv (ZP c ec) (ZP c' ec')) (h2 : QP.Dv (ZP c' ec') (ZP c ec)) (s : ∀ m, (∀ i, m < i → c i = 0) → 0 ≤ c m) (s' : ∀ m, (∀ i, m < i → c' i = 0) → 0 ≤ c' m) : ∀ k, c k = c' k := by
  obtain ⟨n, a1, a2⟩ := (eZ_ ec).resolve_left (ej_ hc)
  obtain ⟨n', b1, b2⟩ := (eZ_ ec').resolve_left (ej_ hc')
  have d1 := ZP_dg ec a1 a2
  have d2 := ZP_dg ec' b1 b2
  have l1 := h1.dg d1 d2
  have l2 := h2.dg d2 d1
  obtain rfl : n = n' := by omega
  obtain ⟨t, ht, e⟩ := h1.same d1 d2
  have key : ∀ k, (t.den : Int) * c' k = t.num * c k := fun k => by
    have e1 := congrArg (fun x : QP => x.c k) e
    simp only [ZP_c, QP.C_mul] at e1
    apply Rat.intCast_inj.1
    rw [Rat.intCast_mul, Rat.intCast_mul, e1, ← kb_ t]
    grind
  rcases nc_ hc' hc (by have := t.den_nz; omega) key with h | h
  · exact fun k => (h k).symm
  · have p1 := s n a2
    have p2 := s' n b2
    have := h n
    omega
theorem py_ {p : List I} {c κ : Nat → Int} (h : Po p c) {g : Int} (hg : 0 < g) (hk : Cop κ) (e : ∀ k, c k = g * κ k) : Po (ab_ p) κ := by
  have h0 : p ≠ [] := fun hx => ej_ hk fun k => by
    have := h.zero (k := k) (by rw [hx]; exact Nat.zero_le _)
    rw [e] at this
    exact (Int.mul_eq_zero.1 this).resolve_left (by omega)
  have hp := dk_ h
  have hC : Cop _ := d2_ h h0
  have hm := cW_ h
  have hcp := h.cpos h0
  refine hp.cast fun k => ?_
  rcases nc_ hC hk (x := ((cN p : Nat) : Int)) (y := g) (by omega) (fun k => by rw [hm, e]) with h1 | h1
  · exact h1 k
  · refine absurd (fun k => ?_) (ej_ hk)
    have h2 := hm k
    rw [h1 k, e k] at h2
    have h3 : (((cN p : Nat) : Int) + g) * κ k = 0 := by grind
    exact (Int.mul_eq_zero.1 h3).resolve_left (by omega)
theorem f9_ {p : List I} {c : Nat → Int} (h : Po p c) {n M : Nat} (hz : ∀ i, n < i → c i = 0) (hb : ∀ k, (c k).natAbs ≤ M) : Pr (fun k => (c k).fdiv (cN p)) n M := by
  by_cases h0 : p = []
  · have hz' : ∀ k, c k = 0 := fun k => h.zero (by rw [h0]; exact Nat.zero_le _)
    exact ⟨fun i _ => by rw [hz' i, Int.zero_fdiv], fun k => by rw [hz' k, Int.zero_fdiv]; exact Nat.zero_le _, .inr fun k => by rw [hz' k, Int.zero_fdiv]⟩
  · exact ⟨fun i hi => by rw [hz i hi, Int.zero_fdiv], fun k => Nat.le_trans (hI_ (h.cpos h0) (h.dvd k)) (hb k), .inl (d2_ h h0)⟩
/-- The product without its content is the product of both without theirs. -/
theorem gf_ {p s : List I} {c d : Nat → Int} (h : Po p c) (g : Po s d) (hs : s ≠ []) {a : List I} (ha : Po a (conv c d)) : Po (ab_ a) (conv (fun k => (d k).fdiv (cN s)) (fun k => (c k).fdiv (cN p))) := by
  by_cases h0 : p = []
  · have hz' : ∀ k, c k = 0 := fun k => h.zero (by rw [h0]; exact Nat.zero_le _)
    refine (dk_ ha).cast fun k => ?_
    have e1 : conv c d k = 0 := by rw [ce_]; exact b9_ hz' k
    rw [e1, Int.zero_fdiv]
    exact (b9_ (fun k => by show (c k).fdiv _ = 0; rw [hz' k, Int.zero_fdiv]) k).symm
  · have h1 := h.cpos h0
    have h2 := g.cpos hs
    refine py_ ha (g := ((cN s : Nat) : Int) * ((cN p : Nat) : Int)) (Int.mul_pos (by omega) (by omega)) (gauss (d2_ g hs) (d2_ h h0)) fun k => ?_
    have e1 : c = fun k => ((cN p : Nat) : Int) * (c k).fdiv (cN p) := funext fun k => (cW_ h k).symm
    have e2 : d = fun k => ((cN s : Nat) : Int) * (d k).fdiv (cN s) := funext fun k => (cW_ g k).symm
    rw [ce_]
    conv => lhs; rw [e1, e2]
    rw [gq_, cV_]
    exact (Int.mul_assoc _ _ _).symm
theorem na_ : (List.range 4).all (fun ds => okT 4096 ds (2 ^ 64) 4 3 3 4096 4096) = true := by kernel_rfl
theorem pw_ : ac_ [] [] = [] := by
  have h : ab_ [] = [] := (dk_ ls_).nil fun k => Int.zero_fdiv _
  unfold ac_
  rw [h, mV_]
  rfl
theorem lenZ {l : List I} : ((((l).length : Nat) : Int) == 0) = decide (l = []) := by cases l <;> rfl
theorem m7_ {c : Nat → Int} (ec : Ends c) (h : QP.Dv (QP.C 0) (ZP c ec)) : ∀ k, c k = 0 := fun k => by
  have e := congrArg (fun x : QP => x.c k) h.of_zero
  simp only [ZP_c, QP.C0_c] at e
  exact Rat.intCast_eq_zero_iff.1 e
/-- The greatest ev_ divisor of two products with a ev_ factor. -/
theorem lF_ {p q s : List I} {c d σ : Nat → Int} (hp : Po p c) (hq : Po q d) (hs : Po s σ) (bp : Bd c 4 12) (bq : Bd d 4 12) (bs : Bd σ 4 12) (s0 : s ≠ []) (hpq : p ≠ [] ∨ q ≠ []) {a b : List I} (ha : Po a (conv c σ)) (hb : Po b (conv d σ)) :
    ∃ (γ : Nat → Int) (ep : Ends c) (eq : Ends d) (es : Ends σ) (eγ : Ends γ), Cop γ ∧ (∀ k, (γ k).natAbs ≤ 2 ^ 64) ∧ Po (ac_ a b) (conv (fun k => (σ k).fdiv (cN s)) γ) ∧ Cop (conv (fun k => (σ k).fdiv (cN s)) γ) ∧ Gd (ZP c ep) (ZP d eq) (ZP γ eγ) ∧ ∀ m, (∀ i, m < i → conv (fun k => (σ k).fdiv (cN s)) γ i = 0) → 0 ≤ conv (fun k => (σ k).fdiv (cN s)) γ m := by
  obtain ⟨ds, t1, t2, t3⟩ := hs.top s0
  have hds : ds < 4 := by have := hs.len bs; omega
  have hcs := hs.cpos s0
  have hm := cW_ hs
  have hσ0 : (σ ds).fdiv (cN s) ≠ 0 := fun e => t2 (by rw [← hm ds, e, Int.mul_zero])
  have le : ∀ {v : Int}, v.natAbs < 2 ^ 12 → v.natAbs ≤ 4096 := fun h => by have : (2 : Nat) ^ 12 = 4096 := rfl; omega
  have pa : Pr (fun k => (c k).fdiv (cN p)) 3 4096 := f9_ hp (fun i hi => bp.z i (by omega)) fun k => le (bp.b k)
  have pb : Pr (fun k => (d k).fdiv (cN q)) 3 4096 := f9_ hq (fun i hi => bq.z i (by omega)) fun k => le (bq.b k)
  have hok : okT 4096 ds (2 ^ 64) 4 3 3 4096 4096 = true := by
    have := List.all_eq_true.1 na_ ds (List.mem_range.2 hds)
    exact this
  obtain ⟨γ, n, pc, g1, g2, g3⟩ := iO_ (d2_ hs s0) (ds := ds) hσ0 (fun i hi => by rw [t3 i hi, Int.zero_fdiv]) (fun k => Nat.le_trans (hI_ hcs (hs.dvd k)) (le (bs.b k))) pa pb hok (gf_ hp hs s0 ha) (gf_ hq hs s0 hb)
  have scal : ∀ {p : List I} {c : Nat → Int} (h : Po p c) (e : Ends fun k => (c k).fdiv (cN p)) (x : QP), QP.Dv x (ZP _ e) ↔ QP.Dv x (ZP c h.ends) := fun {p c} h e x => by
    by_cases h0 : p = []
    · have hz' : ∀ k, c k = 0 := fun k => h.zero (by rw [h0]; exact Nat.zero_le _)
      rw [ZP_eq e h.ends fun k => by rw [hz' k, Int.zero_fdiv]]
    · have h1 : ZP c h.ends = QP.C ((cN p : Nat) : Int) * ZP _ e := by
        rw [← jq_ e]
        exact ZP_eq _ _ fun k => (cW_ h k).symm
      have h2 := h.cpos h0
      rw [h1]
      exact ⟨fun h => h.mul_l _, fun h => h.scale fun e => by have := Rat.intCast_eq_zero_iff.1 e; omega⟩
  have hG : Gd (ZP c hp.ends) (ZP d hq.ends) (ZP γ pc.e) := fun e => by
    rw [← g2 e, scal hp pa.e, scal hq pb.e]
  have hγ : Cop γ := pc.p.resolve_right fun hz => by
    have e0 : ZP γ pc.e = QP.C 0 := QP.ex fun k => by rw [ZP_c, hz k, QP.C0_c]; rfl
    obtain ⟨h1, h2⟩ := (hG (QP.C 0)).2 (by rw [e0]; exact .refl _)
    rcases hpq with h3 | h3
    · exact h3 (hp.nil (m7_ _ h1))
    · exact h3 (hq.nil (m7_ _ h2))
  exact ⟨γ, hp.ends, hq.ends, hs.ends, pc.e, hγ, pc.b, g1, gauss (d2_ hs s0) hγ, hG, g3⟩
theorem nI_ (p q s : List I) : aF_ p q s = true := by
  unfold aF_
  rw [iL_]
  cases h1 : ah_ p 3 12
  · rfl
  cases h2 : ah_ q 3 12
  · rfl
  cases h3 : ah_ s 3 12
  · rfl
  have r1 := few_f (p := p) (d := 3) (b := 12) (by rw [h1]; rfl)
  have r2 := few_f (p := q) (d := 3) (b := 12) (by rw [h2]; rfl)
  have r3 := few_f (p := s) (d := 3) (b := 12) (by rw [h3]; rfl)
  cases b1 : ae_ p
  case true => rfl
  cases b2 : ae_ q
  case true => rfl
  cases b3 : ae_ s
  case true => rfl
  obtain ⟨c, hp, bp⟩ := gt_ h1 (hH_ (l25 r1.2) b1)
  obtain ⟨d, hq, bq⟩ := gt_ h2 (hH_ (l25 r2.2) b2)
  obtain ⟨σ, hs, bs⟩ := gt_ h3 (hH_ (l25 r3.2) b3)
  simp only [Bool.not_true, Bool.false_or, cond_false]
  have bp : Bd c 4 12 := bp
  have bq : Bd d 4 12 := bq
  have bs : Bd σ 4 12 := bs
  have ha := hF_ hp hs bp bs (e := 2) (by decide) (by decide) (by decide)
  have hb := hF_ hq hs bq bs (e := 2) (by decide) (by decide) (by decide)
  generalize aa_ p s = a at *
  generalize aa_ q s = b at *
  rw [lenZ, lenZ]
  by_cases ha0 : a = [] ∧ b = []
  · obtain ⟨rfl, rfl⟩ := ha0
    rw [pw_]; rfl
  have hf : (decide (a = []) && decide (b = [])) = false := by
    cases hx : (decide (a = []) && decide (b = []))
    · rfl
    · rw [Bool.and_eq_true] at hx
      exact absurd ⟨of_decide_eq_true hx.1, of_decide_eq_true hx.2⟩ ha0
  rw [hf, cond_false]
  have s0 : s ≠ [] := fun e => ha0 ⟨ha.nil (b9_ fun k => hs.zero (by rw [e]; exact Nat.zero_le _)), hb.nil (b9_ fun k => hs.zero (by rw [e]; exact Nat.zero_le _))⟩
  have hpq : p ≠ [] ∨ q ≠ [] := by
    apply Classical.byContradiction
    intro hx
    refine ha0 ⟨ha.nil fun k => ?_, hb.nil fun k => ?_⟩
    · rw [ce_]; exact b9_ (fun k => hp.zero (by rw [show p = [] from Classical.byContradiction fun h => hx (.inl h)]; exact Nat.zero_le _)) k
    · rw [ce_]; exact b9_ (fun k => hq.zero (by rw [show q = [] from Classical.byContradiction fun h => hx (.inr h)]; exact Nat.zero_le _)) k
  obtain ⟨γ, ep, eq, es, eγ, k1, k2, k3, k4, k5, k6⟩ := lF_ hp hq hs bp bq bs s0 hpq ha hb
  obtain ⟨γ', ep', eq', es', eγ', l1, l2, l3, l4, l5, l6⟩ := lF_ hq hp hs bq bp bs s0 hpq.symm hb ha
  obtain ⟨ds, t1, t2, t3⟩ := hs.top s0
  have hds : ds < 4 := by have := hs.len bs; omega
  have hcs := hs.cpos s0
  have hm := cW_ hs
  have hpr := d2_ hs s0
  have hle : ∀ k, ((σ k).fdiv (cN s)).natAbs ≤ 4096 := fun k => Nat.le_trans (hI_ hcs (hs.dvd k)) (by have := bs.b k; have : (2 : Nat) ^ 12 = 4096 := rfl; omega)
  have hσz : ∀ i, ds < i → (σ i).fdiv (cN s) = 0 := fun i hi => by rw [t3 i hi, Int.zero_fdiv]
  have hσ0 : (σ ds).fdiv (cN s) ≠ 0 := fun e => t2 (by rw [← hm ds, e, Int.mul_zero])
  generalize hτ : (fun k => (σ k).fdiv (cN s)) = τ at *
  have hle : ∀ k, (τ k).natAbs ≤ 4096 := fun k => by rw [← hτ]; exact hle k
  have hτz : ∀ i, ds < i → τ i = 0 := fun i hi => by rw [← hτ]; exact hσz i hi
  have hτ0 : τ ds ≠ 0 := by rw [← hτ]; exact hσ0
  have hm : ∀ k, ((cN s : Nat) : Int) * τ k = σ k := fun k => by rw [← hτ]; exact hm k
  have eτ : Ends τ := ⟨ds + 1, fun i hi => hτz i hi⟩
  generalize ac_ a b = g at *
  generalize ac_ b a = g' at *
  obtain ⟨dγ, u1, u2⟩ := (eZ_ eγ).resolve_left (ej_ k1)
  have hgl : g.length = ds + dγ + 1 := k3.len_top (by rw [c3_ hτz u2]; exact Int.mul_ne_zero hτ0 u1) fun i hi => cC_ (n := ds + 1) (m := dγ + 1) (fun j hj => hτz j hj) (fun j hj => u2 j hj) i (by omega)
  have hG1 := (k5 (ZP γ eγ)).2 (.refl _)
  have gb : ∀ k, (conv τ γ k).natAbs ≤ 4 * (4096 * 2 ^ 64) := f5_ hle k2 fun i hi => hτz i (by omega)
  have mult : ∀ {c : Nat → Int} (ec : Ends c), QP.Dv (ZP γ eγ) (ZP c ec) → ∃ (t : Int) (T : Nat → Int), t ≠ 0 ∧ Ends T ∧ ∀ k, t * conv c σ k = conv (conv τ γ) T k := fun {c} ec h => by
    obtain ⟨t, T, a1, a2, a3⟩ := oY_ ec eγ h
    refine ⟨t, fun k => ((cN s : Nat) : Int) * T k, a1, eQ_ a2 _, fun k => ?_⟩
    have e1 : (fun k => t * c k) = conv γ T := funext a3
    have e2 : σ = fun k => ((cN s : Nat) : Int) * τ k := funext fun k => (hm k).symm
    rw [← congrFun (gq_ t c σ) k, e1, e2, cV_, cV_]
    show _ * conv (conv γ T) τ k = _ * conv (conv τ γ) T k
    rw [ce_, e0_]
  have zero : ∀ {c : Nat → Int} {a : List I} (ec : Ends c), Po a (conv c σ) → Bd c 4 12 → QP.Dv (ZP γ eγ) (ZP c ec) → ao_ a g = [] := fun {c a} ec ha bc h => by
    obtain ⟨t, T, a1, a2, a3⟩ := mult ec h
    have hl : a.length - (ds + dγ) ≤ 4 := by
      have := ha.short (n := 4 + ds) fun k hk => cC_ (n := 4) (m := ds + 1) bc.z (fun j hj => t3 j hj) k (by omega)
      omega
    have hR : ∀ k, (conv c σ k).natAbs ≤ 4 * (4096 * 4096) := f5_ (fun k => by have := bc.b k; have : (2 : Nat) ^ 12 = 4096 := rfl; omega) (fun k => by have := bs.b k; have : (2 : Nat) ^ 12 = 4096 := rfl; omega) bc.z
    exact hO_ ha k3 hgl a1 a2 a3 (by decide) gb hR hl (by decide)
  have z1 := zero ep ha bp hG1.1
  have z2 := zero eq hb bq hG1.2
  have z3 : ao_ g s = [] := by
    refine hO_ (t := ((cN s : Nat) : Int)) (T := γ) (m := 4) (B := 4096) k3 hs t1 (by omega) eγ (fun k => ?_) (by decide) (fun k => by have := bs.b k; have : (2 : Nat) ^ 12 = 4096 := rfl; omega) gb ?_ (by decide)
    · rw [show σ = fun k => ((cN s : Nat) : Int) * τ k from funext fun k => (hm k).symm, gq_]
    · have : ¬ 4 ≤ dγ := fun hx => by
        rcases hpq with h3 | h3
        · obtain ⟨n, v1, v2, v3⟩ := hp.top h3
          have := hG1.1.dg (ZP_dg eγ u1 u2) (ZP_dg ep v2 v3)
          have := hp.len bp
          omega
        · obtain ⟨n, v1, v2, v3⟩ := hq.top h3
          have := hG1.2.dg (ZP_dg eγ u1 u2) (ZP_dg eq v2 v3)
          have := hq.len bq
          omega
      omega
  have gsame : g' = g := by
    refine l3.eq (k3.cast (kV_ k4 l4 (ck_ eτ eγ) (ck_ eτ eγ') ?_ ?_ k6 l6))
    · rw [cF_ eτ eγ, cF_ eτ eγ']
      exact QP.Dv.both _ ((l5 _).1 ⟨hG1.2, hG1.1⟩)
    · rw [cF_ eτ eγ, cF_ eτ eγ']
      have := (l5 (ZP γ' eγ')).2 (.refl _)
      exact QP.Dv.both _ ((k5 _).1 ⟨this.2, this.1⟩)
  have hsg : (Z.signW (g.getD (g.length - 1) I0).dec).1 = 1 := by
    rw [hgl, Nat.add_sub_cancel, k3.get, E_dec, gy_ (k3.B _)]
    refine Int.sign_eq_one_of_pos ?_
    have h1 := k6 (ds + dγ) fun i hi => cC_ (n := ds + 1) (m := dγ + 1) (fun j hj => hτz j hj) (fun j hj => u2 j hj) i (by omega)
    have h2 : conv τ γ (ds + dγ) ≠ 0 := by rw [c3_ hτz u2]; exact Int.mul_ne_zero hτ0 u1
    omega
  rw [z1, z2, z3, gsame, mZ_ k3 k4, ji_, k3.nb, hsg, show ((((g).length : Nat) : Int) == 0) = false from beq_eq_false_iff_ne.2 (by omega)]
  rfl
end Go.Num


set_option linter.unusedVariables false
set_option linter.unusedSimpArgs false
namespace Go.Num
open Go Go.Kn Go.RowKit Go.ChangeShapes Go.WideShapes
section
variable {H : Type} {enc : TypeId × Value → H} {P : Program} {w : World} {base : Nat} {spare : Nat → Bool} {held : Bool} {α : Type} {e : El α}
theorem Rd.app {a : Addr} {A B : List Value} (h : Rd w a A) (k : Rd w (a.add A.length) B) : Rd w a (A ++ B) := fun j v hj => by
  rcases Nat.lt_or_ge j A.length with h' | h'
  · rw [List.getElem?_append_left h'] at hj; exact h j v hj
  · rw [List.getElem?_append_right h'] at hj
    have := k _ _ hj
    rw [j8_, Nat.add_sub_cancel' h'] at this
    exact this
theorem Rd.of_cells {a : Addr} {n : Nat} {cs : List Value} (h : w.cells? base a n = some cs) : Rd w a cs := fun j v hj => by
  obtain ⟨_, hl, hc⟩ := World.cells?_some h
  have hj' : j < cs.length := (List.getElem?_eq_some_iff.1 hj).1
  have h1 := hc j (by omega)
  rw [hj] at h1
  exact h1
theorem l8_ {a : Addr} {len : Nat} (h : ∀ i, i < len → ∃ x : α, w.cells? base (a.add (i * e.n)) e.n = some (e.cs x)) : ∀ k, k ≤ len → ∃ l : List α, l.length = k ∧ Rd w a (rows e l)
  | 0, _ => ⟨[], rfl, fun j v hj => by simp [rows] at hj⟩
  | k + 1, hk => by
    obtain ⟨l, hl, hr⟩ := l8_ h k (by omega)
    obtain ⟨x, hx⟩ := h k (by omega)
    refine ⟨l ++ [x], by simp [hl], ?_⟩
    rw [ez_]
    refine Rd.app hr ?_
    rw [cr_, hl]
    have := Rd.of_cells hx
    simpa [rows] using this
theorem p8_ {T E : TypeId} {ls : List Leaf} {v : Value} {d : DataW H} {p : List MemPlace} {b0 : Nat} {r : Reach} (hT : P.underlying T = some (.slice E)) (hl : lz P 8 E = some ls) (hn : P.cellsOf E = e.n)
    (op : ∀ cs, LWF cs ls → ∃ x : α, cs = e.cs x) (hv : Value.okWide P w r b0 T v) (ht : DataW.Trod enc P w base spare held T v d p) : ∃ l : List α, Slr w e v l := by
  obtain ⟨fuel, hf⟩ := ht
  have hv' : ∃ a n c, v = .slice a n c := by
    unfold Value.okWide at hv
    rw [hT] at hv
    unfold Cell.okWide at hv
    rw [hT] at hv
    cases v <;> simp_all [Cell.ok]
  obtain ⟨a, n, c, rfl⟩ := hv'
  have e1 : (Value.slice a n c).cells.toList = [.slice a n c] := rfl
  rw [e1] at hf
  rcases DataW.trod_slice hT hf with ⟨h, _⟩ | ⟨a', len, cap, elems, rest, m, _, h, _, _, hlc, hc, hel, hall, _⟩
  · cases h
    exact ⟨[], none, 0, rfl, Nat.le_refl _, by decide, .inl ⟨rfl, rfl, rfl⟩⟩
  · cases h
    have hx : ∀ i, i < n → ∃ x : α, w.cells? base (a'.add (i * e.n)) e.n = some (e.cs x) := fun i hi => by
      have h1 := hall i hi
      rw [List.getElem?_eq_getElem (by omega), hn] at h1
      cases hc' : w.cells? base (a'.add (i * e.n)) e.n with
      | none => rw [hc'] at h1; cases h1
      | some cs =>
        rw [hc'] at h1
        obtain ⟨x, hx⟩ := op cs (f3_ 8 hl h1)
        exact ⟨x, by rw [hx]⟩
    obtain ⟨l, hl', hr⟩ := l8_ hx n (Nat.le_refl _)
    exact ⟨l, some a', c, by rw [hl'], by omega, hc, .inr ⟨a', rfl, hr⟩⟩
end
theorem rp_ {cs : List Value} (h : LWF cs LI) : ∃ x : I, cs = elI.cs x := by
  obtain ⟨x0, rfl⟩ := openI h
  exact ⟨x0, by first | rfl | exact (List.append_nil _).symm | simp [El.cs, elI, flat]⟩
end Go.Num

