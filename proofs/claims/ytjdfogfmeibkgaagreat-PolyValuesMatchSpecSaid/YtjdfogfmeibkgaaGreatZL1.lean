/- Walks: what these functions return. Polynomials: three statements: what is made, sums, values. No program stands in it. From a reading of an argument that is a slice to the list that it reads. No program stands in it. -/
import Derived.Test.YtjdfogfmeibkgaaGreatZGE
import Derived.Test.YtjdfogfmeibkgaaGreatZFp
import Derived.Test.YtjdfogfmeibkgaaGreatZLa
import Derived.Test.YtjdfogfmeibkgaaGreatZYa
import Derived.Test.YtjdfogfmeibkgaaGreatZYb
import Derived.Test.YtjdfogfmeibkgaaGreatZYr
import Derived.Test.YtjdfogfmeibkgaaGreatZYf
import Derived.KernelRfl
import Derived.Test.YtjdfogfmeibkgaaGreatZGD
import Derived.ProofKit
import Derived.OpenShut
import Derived.ChangeOld
import Derived.ChangeArms
namespace Go.Proofs.YtjdfogfmeibkgaaGreat
open Go.Kn Go.Num
set_option linter.unusedVariables false
set_option linter.unusedSimpArgs false
set_option maxRecDepth 20000
set_option maxHeartbeats 8000000
theorem g5_ (vl : Value) (l : (List I)) (w : World) (hl : Slr w elI vl l) :
    Calls Tryz.prog 3 [vl].toArray w (fun e w' => e = .returned (.bool (bA_ l)) ∧ Ext w w') := by
 obtain ⟨p_l, c_l, rfl⟩ := hl.form
 refine aF_ (N := 33) Tryz.func3 rfl rfl (by simp) ?_
 obtain ⟨w0, rfl⟩ : ∃ w0, w0 = w := ⟨_, rfl⟩
 have Hl := hl.old
 have hm_l := hl.max
 simp only [initF, Nat.reduceAdd]
 refine Rs fun K J => sE rfl (nl J (Sq fun K1 J1 => Rs fun K J => sE rfl (sQ (q_as (v' := .int .i64 (((l).length : Nat) : Int)) (a0_ (e := elI) sl_22 rfl (SLe.sub Hl sn)) rfl) rfl (sE rfl (nl J ?_)))))
 rcases bt (decide (30 < (((l).length : Nat) : Int))) with h1 | h1
 ·skip
  have ph1 := of_decide_eq_true h1
  refine W_t h1 rfl (Rs fun K J => sQ (q_ret en_14 cm_  rfl) rfl (sE rfl (nl J (W_ret (ah_ (ret1 rfl (.inr rfl) rfl ?_))))))
  exact (by exact congrArg (fun r : Bool => (.bool r : Value)) (show _ = (bA_ l) from bif_t h1 rfl))
 ·skip
  have ph1 := of_decide_eq_false h1
  refine W_f h1 rfl (aj_ (J1 _ _ (Rs fun K J => sE rfl (WL_r rfl (aq_ (E := 38) (e := elI) (l := (an_ l)) (fun v => v) en_15 rfl (fun w hw => dL_ _ l w (SLe.ap hw (SLe.sub Hl sn)) (by first | omega | (simp only [List.length_cons, List.length_nil, and_true, true_and] <;> omega) | simp)) (fun p2 c3 L4 hF5 => ?_))))))
  have hb6 := (dn_ l)
  refine sE rfl (nl J (Rs fun K J => sE rfl (WL_r rfl (aq_ (E := 38) (e := elI) (l := (ae_ l)) (fun v => v) en_16 rfl (fun w hw => cg_ _ l w (SLe.ap hw (SLe.sub Hl sn)) (by first | omega | (simp only [List.length_cons, List.length_nil, and_true, true_and] <;> omega) | simp)) (fun p7 c8 L9 hF10 => ?_)))))
  have hb11 := (ci_ l)
  refine sE rfl (nl J ?_)
  refine bu_ [2, 13, 14, 15, 16, 17, 18, 19, 20, 21, 22, 23, 24, 25, 26, 27, 28, 29, 30, 31, 32] (fun g M => (g 2 = .bool (aO_ && ((af_ (an_ l) (ae_ l)) && (((ag_ (ae_ l)) == (ab_ (ae_ l))) && ((cU_ (ae_ l)).1 == (bZ_ (ae_ l)).1))))) ∧ M = (L9 ++ (L4 ++ []))) (fun K2 J2 => ?_) ?_
  ·skip
   refine Rk fun K J => sQ (q_ret en_14 cm_  rfl) rfl ?_
   rcases bt aO_ with h15 | h15
   ·skip
    refine sB h15 rfl (sE rfl (sE rfl (sQ (q_as (v' := .bool (af_ (an_ l) (ae_ l))) (av_ en_17 rfl (fun w hw => az_ _ (an_ l) _ (ae_ l) w (SLe.ap hw (SLfe.sle (OwnG.slfe hF5 (sR (List.sublist_append_left _ _))))) (SLe.ap hw (SLfe.sle (OwnG.slfe hF10 (List.sublist_append_left _ _)))))) rfl) rfl (sE rfl ?_))))
    rcases bt (af_ (an_ l) (ae_ l)) with h16 | h16
    ·skip
     refine sB h16 rfl (sE rfl (sQ (q_as (v' := .bool (ag_ (ae_ l))) (av_ en_18 rfl (fun w hw => bj_ _ (ae_ l) w (SLe.ap hw (SLfe.sle (OwnG.slfe hF10 (List.sublist_append_left _ _)))))) rfl) rfl (sE rfl (sQ (q_as (v' := .bool (ab_ (ae_ l))) (av_ en_19 rfl (fun w hw => aQ_ _ (ae_ l) w (SLe.ap hw (SLfe.sle (OwnG.slfe hF10 (List.sublist_append_left _ _)))))) rfl) rfl (sQ (q_as (v' := .bool ((ag_ (ae_ l)) == (ab_ (ae_ l)))) (lw_ bo_4 rfl rfl) rfl) rfl (sE rfl ?_))))))
     rcases bt ((ag_ (ae_ l)) == (ab_ (ae_ l))) with h17 | h17
     ·skip
      refine sB h17 rfl (sE rfl (sQ (q_as (v' := .int .i64 ((cU_ (ae_ l)).1)) (av_ en_20 rfl (fun w hw => gu_ _ (ae_ l) w (SLe.ap hw (SLfe.sle (OwnG.slfe hF10 (List.sublist_append_left _ _)))))) rfl) rfl (sE rfl (sQ (q_as (v' := .int .i64 ((bZ_ (ae_ l)).1)) (av_ en_21 rfl (fun w hw => fP_ _ (ae_ l) w (SLe.ap hw (SLfe.sle (OwnG.slfe hF10 (List.sublist_append_left _ _)))))) rfl) rfl (sE rfl (sE rfl (sE rfl (nl J ?_))))))))
      refine J2 _ _ (by repeat first | exact .refl | refine .cons rfl ?_) ⟨_, s0, ?s2, rfl⟩
      case s2 => exact congrArg Value.bool (and_t h15 (and_t h16 (and_t h17 rfl)))
     ·skip
      refine sB h17 rfl (WL_n rfl (WL_n rfl (WL_n rfl (WL_n rfl (WL_n rfl (sE rfl (sE rfl (nl J ?_))))))))
      refine J2 _ _ (by repeat first | exact .refl | refine .cons rfl ?_) ⟨_, s0, ?s2, rfl⟩
      case s2 => exact congrArg Value.bool (and_t h15 (and_t h16 (and_f h17)))
    ·skip
     refine sB h16 rfl (WL_n rfl (WL_n rfl (WL_n rfl (WL_n rfl (WL_n rfl (sE rfl (sE rfl (WL_n rfl (WL_n rfl (WL_n rfl (WL_n rfl (WL_n rfl (sE rfl (sE rfl (nl J ?_)))))))))))))))
     refine J2 _ _ (by repeat first | exact .refl | refine .cons rfl ?_) ⟨_, s0, ?s2, rfl⟩
     case s2 => exact congrArg Value.bool (and_t h15 (and_f h16))
   ·skip
    refine sB h15 rfl (WL_n rfl (WL_n rfl (WL_n rfl (sE rfl (sE rfl (WL_n rfl (WL_n rfl (WL_n rfl (WL_n rfl (WL_n rfl (sE rfl (sE rfl (WL_n rfl (WL_n rfl (WL_n rfl (WL_n rfl (WL_n rfl (sE rfl (sE rfl ?_)))))))))))))))))))
    refine nl J ?_
    refine J2 _ _ (by repeat first | exact .refl | refine .cons rfl ?_) ⟨_, s0, ?s2, rfl⟩
    case s2 => exact congrArg Value.bool (and_f h15)
  ·skip
   rintro g18 M ⟨hg2, rfl⟩
   simp only [setG, hg2]
   clear hg2
   refine W_ret (ret1 rfl (.inr rfl) rfl ?_)
   exact (by exact congrArg (fun r : Bool => (.bool r : Value)) (show _ = (bA_ l) from bif_f h1 rfl))
end Go.Proofs.YtjdfogfmeibkgaaGreat


set_option linter.unusedVariables false
set_option linter.unusedSimpArgs false
namespace Go.Num
open Go Go.Kn
theorem hx_ : aO_ = true := by kernel_rfl
theorem oN_ (l : List I) : an_ l = ae_ l := by rw [mO_, fS_]
theorem n6_ (l : List I) : bA_ l = true := by
  unfold bA_
  have hb : ag_ (ae_ l) = ab_ (ae_ l) := by
    rw [eI_ (Nat.le_trans (e0_ l) (by decide)), eN_]
  have hd : cU_ (ae_ l) = bZ_ (ae_ l) := by
    unfold cU_ bZ_
    rw [hb]
  rw [oN_, fN_, hb, hd, hx_]
  simp
theorem sgW (z : Z) : -1 ≤ (Z.signW z).1 ∧ (Z.signW z).1 ≤ 1 := by
  show -1 ≤ z.sign ∧ z.sign ≤ 1
  unfold Z.sign
  cases z.o with
  | none => exact ⟨by decide, by decide⟩
  | some v =>
    show -1 ≤ v.sign ∧ v.sign ≤ 1
    rcases Int.lt_trichotomy v 0 with h | h | h
    · rw [Int.sign_eq_neg_one_of_neg h]; decide
    · subst h; decide
    · rw [Int.sign_eq_one_of_pos h]; decide
theorem negW {w : W} (h : -1 ≤ w.1 ∧ w.1 ≤ 1) : (W.neg w).1 = -w.1 := by
  show IntKind.i64.wrap (0 - w.1) = _
  rw [wi (by omega)]; omega
theorem hB_ (p p0 : List I) : ∀ (k : Nat) (n last : W) (i : Nat), p.length - i < k → (-1 ≤ last.1 ∧ last.1 ≤ 1) → (aM_ p k n last i).1 = (b7_ p0 (p.drop i) n last).1
  | 0, n, last, i, h, _ => absurd h (Nat.not_lt_zero _)
  | k + 1, n, last, i, h, hl => by
    unfold aM_
    by_cases hi : i < p.length
    · rw [decide_eq_true (by omega), cond_true, g4_ p hi]
      conv => rhs; unfold b7_
      have hs := sgW (p.getD i I0).dec
      simp only
      by_cases h0 : (Z.signW (p.getD i I0).dec).1 = 0
      · have e1 : ((Z.signW (p.getD i I0).dec).1 == 0) = true := by rw [h0]; rfl
        have e2 : ((Z.signW (p.getD i I0).dec).1 != 0) = false := by rw [h0]; rfl
        rw [e1, e2]
        exact hB_ p p0 k n last (i + 1) (by omega) hl
      · have e1 : ((Z.signW (p.getD i I0).dec).1 == 0) = false := beq_eq_false_iff_ne.2 h0
        have e2 : ((Z.signW (p.getD i I0).dec).1 != 0) = true := bne_iff_ne.2 h0
        rw [e1, e2]
        have e3 : ((Z.signW (p.getD i I0).dec).1 == (W.neg last).1) = (last.1 == (W.neg (Z.signW (p.getD i I0).dec)).1) := by
          rw [negW hl, negW hs]
          by_cases hx : (Z.signW (p.getD i I0).dec).1 = -last.1
          · rw [beq_iff_eq.2 hx, beq_iff_eq.2 (show last.1 = -(Z.signW (p.getD i I0).dec).1 by omega)]
          · rw [beq_eq_false_iff_ne.2 hx, beq_eq_false_iff_ne.2 (show last.1 ≠ -(Z.signW (p.getD i I0).dec).1 by omega)]
        rw [e3]
        cases (last.1 == (W.neg (Z.signW (p.getD i I0).dec)).1)
        · exact hB_ p p0 k _ _ (i + 1) (by omega) hs
        · exact hB_ p p0 k _ _ (i + 1) (by omega) hs
    · rw [decide_eq_false (by omega), cond_false, List.drop_of_length_le (by omega)]; rfl
theorem pE_ {p : List I} (hp : p.length ≤ 1000) : b3_ p = bd_ p := by
  unfold b3_ bd_
  rw [eI_ hp, eN_]
  simp only [ap]
  rw [hB_ p p _ _ _ _ (by omega) (by decide), List.drop_zero]
theorem oF_ (p q : List I) (n : I) : bT_ p q n = true := by
  unfold bT_
  cases h : (!(as_ p) || (!(as_ q)))
  · have h1 := hW_ (Bool.or_eq_false_iff.1 h).1
    have h2 := hW_ (Bool.or_eq_false_iff.1 h).2
    have l1 : p.length ≤ 1000 := by omega
    have l2 : q.length ≤ 1000 := by omega
    rw [pZ_ l1 l2, qm_ l1 l2, qt_ l1 l2, mH_ n l1, mm_ l1, pE_ l1, fN_, fN_, fN_, fN_, fN_, hx_]
    simp
  · rw [cond_true]; exact hx_
def pw (d : I) : Nat → I
  | 0 => E (Z.of 1)
  | k + 1 => E (Z.mul (pw d k).dec d.dec)
theorem mk_ (n : Nat) (f : Nat → I) : (List.range (n + 1)).map f = (List.range n).map f ++ [f n] := by rw [List.range_succ, List.map_append]; rfl
theorem kd_ (d : I) (n : Int) : ∀ (k m : Nat), n.toNat - (m + 1) < k → b8_ d n k ((List.range (m + 1)).map (pw d)) = (List.range (max n.toNat (m + 1))).map (pw d)
  | 0, m, h => absurd h (Nat.not_lt_zero _)
  | k + 1, m, h => by
    unfold b8_
    have hl : ((List.range (m + 1)).map (pw d)).length = m + 1 := by simp
    by_cases hc : ((m + 1 : Nat) : Int) < n
    · rw [hl, decide_eq_true hc, cond_true]
      have e1 : ((List.range (m + 1)).map (pw d)).getD (m + 1 - 1) I0 = pw d m := by simp [List.getD]
      rw [e1, show E (Z.mul (pw d m).dec d.dec) = pw d (m + 1) from rfl, ← mk_, kd_ d n k (m + 1) (by omega)]
      rw [show max n.toNat (m + 1 + 1) = max n.toNat (m + 1) by omega]
    · rw [hl, decide_eq_false hc, cond_false, show max n.toNat (m + 1) = m + 1 by omega]
theorem mE_ (d : I) (n : Int) : aJ_ d n = (List.range (max n.toNat 1)).map (pw d) := kd_ d n _ 0 (by omega)
theorem l8_ (d : I) (k : Int) : ∀ (f i : Nat), k.toNat - i < f → i ≤ k.toNat → (bD_ d k f i (pw d i)).2 = pw d k.toNat
  | 0, i, h, _ => absurd h (Nat.not_lt_zero _)
  | f + 1, i, h, hi => by
    unfold bD_
    by_cases hc : (i : Int) < k
    · rw [decide_eq_true hc, cond_true]
      exact l8_ d k f (i + 1) (by omega) (by omega)
    · rw [decide_eq_false hc, cond_false, show k.toNat = i by omega]
theorem lJ_ (d : I) (k : Int) : bn_ d k = pw d k.toNat := l8_ d k _ 0 (by omega) (Nat.zero_le _)
theorem jy_ (d : I) (n : Int) {k : Nat} (h : k < max n.toNat 1) : (aJ_ d n).getD k I0 = pw d k := by
  rw [mE_]; simp [List.getD, h]
theorem jt_ (p : List I) (x : Rt) : ∀ (f : Nat) (i : Int) (m : I), i < (p.length : Int) → (cH_ p x f i m).2 = (bF_ p x f i m).2
  | 0, i, m, h => rfl
  | f + 1, i, m, h => by
    unfold cH_ bF_
    by_cases hi : 0 ≤ i
    · rw [decide_eq_true hi]
      simp only [cond_true]
      rw [jy_ _ _ (show p.length - 1 - i.toNat < max ((p.length : Nat) : Int).toNat 1 by omega), lJ_, show (((p.length : Nat) : Int) - 1 - i).toNat = p.length - 1 - i.toNat by omega]
      exact jt_ p x f (i - 1) _ (by omega)
    · rw [decide_eq_false hi]; rfl
theorem fine1 (x : Rt) : cA_ [x] = bV_ x := by
  unfold cA_ ez_ er_
  have e : c2_ [x] (fun y => dP_ y) ([x].length + 1) 0 = bif bV_ x then .inl 1 else .inr (W.cv 0) := by
    show (bif dP_ x then _ else _) = _
    unfold dP_
    cases bV_ x <;> rfl
  rw [e]
  cases bV_ x <;> rfl
theorem rfine (x : Rt) : cb_ x = bV_ x := by
  unfold cb_ bV_
  show (bif (!gdI x.n || (!gdI x.d || _)) then _ else _) = (gdI x.n && (gdI x.d && _))
  cases gdI x.n
  · rfl
  · cases gdI x.d
    · rfl
    · by_cases h : (Z.signW x.d.dec).1 ≤ 0
      · rw [decide_eq_true h, decide_eq_false (show ¬ 0 < (Z.signW x.d.dec).1 by omega)]; rfl
      · rw [decide_eq_false h, decide_eq_true (show 0 < (Z.signW x.d.dec).1 by omega)]
        simp only [Bool.not_true, Bool.or_self, cond_false, Bool.true_and]
        rfl
theorem kI_ {p : List I} (x : Rt) (hp : p.length ≤ 1000) : (bf_ p x).1 = ap_ p x := by
  unfold bf_ ap_
  rw [eI_ hp, eN_, fine1, rfine]
  cases (!p.all gdI || !bV_ x)
  · simp only [cond_false, ap]
    exact jt_ p x _ _ _ (by omega)
  · rfl
theorem oe_ {p : List I} (x : Rt) (hp : p.length ≤ 1000) : ch_ p x = a2_ p x := by
  unfold ch_ a2_
  rw [kI_ x hp]
  simp only
  rw [pG_, lJ_, Int.toNat_natCast]
  unfold bf_ ap_
  rw [eI_ hp, eN_, fine1, rfine]
  cases (!p.all gdI || !bV_ x)
  · simp only [cond_false, ap]
    rw [jy_ _ _ (by omega)]
  · simp only [cond_true]
    rw [kN_, kN_]
theorem nd_ (p : List I) (x : Rt) : bG_ p x = true := by
  unfold bG_
  cases h : (!(as_ p) || (!(cY_ x)))
  · have h1 := hW_ (Bool.or_eq_false_iff.1 h).1
    have l1 : p.length ≤ 1000 := by omega
    rw [oe_ x l1, hx_]
    unfold dd_ aL_
    rw [kI_ x l1]
    cases hb : (ap_ p x).1.bad
    · simp
    · have h0 : (Z.signW (ap_ p x).dec).1 = 0 := by
        show (ap_ p x).dec.sign = 0
        have hn : (ap_ p x).dec.o = none := by rw [I.dec, hr_ (by unfold R.good; rw [hb]; rfl)]; rfl
        unfold Z.sign; rw [hn]
      simp [h0]
  · rw [cond_true]; exact hx_
end Go.Num


set_option linter.unusedVariables false
set_option linter.unusedSimpArgs false
namespace Go.Num
open Go Go.Kn Go.RowKit Go.ChangeShapes Go.WideShapes
section
variable {H : Type} {enc : TypeId × Value → H} {P : Program} {w : World} {base : Nat} {spare : Nat → Bool} {held : Bool} {α : Type} {e : El α}
theorem Rd.app {a : Addr} {A B : List Value} (h : Rd w a A) (k : Rd w (a.add A.length) B) : Rd w a (A ++ B) := fun j v hj => by
  rcases Nat.lt_or_ge j A.length with h' | h'
  · rw [List.getElem?_append_left h'] at hj; exact h j v hj
  · rw [List.getElem?_append_right h'] at hj
    have := k _ _ hj
    rw [k4_, Nat.add_sub_cancel' h'] at this
    exact this
theorem Rd.of_cells {a : Addr} {n : Nat} {cs : List Value} (h : w.cells? base a n = some cs) : Rd w a cs := fun j v hj => by
  obtain ⟨_, hl, hc⟩ := World.cells?_some h
  have hj' : j < cs.length := (List.getElem?_eq_some_iff.1 hj).1
  have h1 := hc j (by omega)
  rw [hj] at h1
  exact h1
theorem nZ_ {a : Addr} {len : Nat} (h : ∀ i, i < len → ∃ x : α, w.cells? base (a.add (i * e.n)) e.n = some (e.cs x)) : ∀ k, k ≤ len → ∃ l : List α, l.length = k ∧ Rd w a (rows e l)
  | 0, _ => ⟨[], rfl, fun j v hj => by simp [rows] at hj⟩
  | k + 1, hk => by
    obtain ⟨l, hl, hr⟩ := nZ_ h k (by omega)
    obtain ⟨x, hx⟩ := h k (by omega)
    refine ⟨l ++ [x], by simp [hl], ?_⟩
    rw [fp_]
    refine Rd.app hr ?_
    rw [di_, hl]
    have := Rd.of_cells hx
    simpa [rows] using this
theorem qB_ {T E : TypeId} {ls : List Leaf} {v : Value} {d : DataW H} {p : List MemPlace} {b0 : Nat} {r : Reach} (hT : P.underlying T = some (.slice E)) (hl : lz P 8 E = some ls) (hn : P.cellsOf E = e.n)
    (op : ∀ cs, LWF cs ls → ∃ x : α, cs = e.cs x) (hv : Value.okWide P w r b0 T v) (ht : DataW.Trod enc P w base spare held T v d p) : ∃ l : List α, Slr w e v l := by
  obtain ⟨fuel, hf⟩ := ht
  have hv' : ∃ a n c, v = .slice a n c := by
    unfold Value.okWide at hv
    rw [hT] at hv
    unfold Cell.okWide at hv
    rw [hT] at hv
    cases v <;> simp_all [Cell.ok]
  obtain ⟨a, n, c, rfl⟩ := hv'
  have e1 : (Value.slice a n c).cells.toList = [.slice a n c] := rfl
  rw [e1] at hf
  rcases DataW.trod_slice hT hf with ⟨h, _⟩ | ⟨a', len, cap, elems, rest, m, _, h, _, _, hlc, hc, hel, hall, _⟩
  · cases h
    exact ⟨[], none, 0, rfl, Nat.le_refl _, by decide, .inl ⟨rfl, rfl, rfl⟩⟩
  · cases h
    have hx : ∀ i, i < n → ∃ x : α, w.cells? base (a'.add (i * e.n)) e.n = some (e.cs x) := fun i hi => by
      have h1 := hall i hi
      rw [List.getElem?_eq_getElem (by omega), hn] at h1
      cases hc' : w.cells? base (a'.add (i * e.n)) e.n with
      | none => rw [hc'] at h1; cases h1
      | some cs =>
        rw [hc'] at h1
        obtain ⟨x, hx⟩ := op cs (f7_ 8 hl h1)
        exact ⟨x, by rw [hx]⟩
    obtain ⟨l, hl', hr⟩ := nZ_ hx n (Nat.le_refl _)
    exact ⟨l, some a', c, by rw [hl'], by omega, hc, .inr ⟨a', rfl, hr⟩⟩
end
theorem rS_ {cs : List Value} (h : LWF cs LI) : ∃ x : I, cs = elI.cs x := by
  obtain ⟨x0, rfl⟩ := openI h
  exact ⟨x0, by first | rfl | exact (List.append_nil _).symm | simp [El.cs, elI, flat]⟩
end Go.Num

