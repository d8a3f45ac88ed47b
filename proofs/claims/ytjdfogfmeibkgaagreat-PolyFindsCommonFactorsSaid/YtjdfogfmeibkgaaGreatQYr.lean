/- Walks: what these functions return. -/
import Derived.Test.YtjdfogfmeibkgaaGreatQGE
import Derived.Test.YtjdfogfmeibkgaaGreatQFp
import Derived.Test.YtjdfogfmeibkgaaGreatQWi
import Derived.Test.YtjdfogfmeibkgaaGreatQSa
import Derived.Test.YtjdfogfmeibkgaaGreatQPb
import Derived.Test.YtjdfogfmeibkgaaGreatQYl
namespace Go.Proofs.YtjdfogfmeibkgaaGreat
open Go.Kn Go.Num
set_option linter.unusedVariables false
set_option linter.unusedSimpArgs false
set_option maxRecDepth 20000
set_option maxHeartbeats 8000000
theorem dR_ (a : I) :
    Ret Tryz.prog 69 [AV [pI a]] (.bool (cj_ a)) := by
 refine aM_ (N := 10) Tryz.func69 rfl rfl (by simp) (fun w0 => ?_)
 simp only [initF, Nat.reduceAdd]
 refine Rs fun K J => WL_r rfl (cG_ rfl rfl (fun b1 hb1 => sE rfl (nl J ?_)))
 refine bD_ [2, 3, 4, 5, 6, 7, 8, 9] (fun g M => (g 2 = .bool (!a.1.bad && a.1.valid)) ∧ M = [⟨b1, 38, flat [pI a]⟩]) (fun K1 J1 => ?_) ?_
 ·skip
  refine Rk fun K J => sQ (qF eu_ rfl rfl) rfl (sQ (qC ty_4 rfl m0 rfl) rfl (sE rfl ?_))
  rcases bt a.1.bad with h3 | h3
  ·skip
   refine sB (not_f h3) rfl (WL_n rfl (WL_n rfl (sE rfl (sE rfl (nl J ?_)))))
   refine J1 _ _ (by repeat first | exact .refl | refine .cons rfl ?_) ⟨_, s0, ?s2, rfl⟩
   case s2 => exact congrArg Value.bool (mI_ h3)
  ·skip
   refine sB (not_t h3) rfl (sQ (qL ty_38 rfl m0 rfl) rfl (sC (.bool a.1.valid) o7_ (dJ_ a.1 a.2) rfl rfl rfl (sE rfl (sE rfl (nl J ?_)))))
   refine J1 _ _ (by repeat first | exact .refl | refine .cons rfl ?_) ⟨_, s0, ?s2, rfl⟩
   case s2 => exact congrArg Value.bool (nF_ h3 rfl)
 ·skip
  rintro g4 M ⟨hg2, rfl⟩
  simp only [setG, hg2]
  clear hg2
  refine W_ret (ret1 rfl (.inr rfl) rfl ?_)
  exact (by rfl)

theorem ed_  (w : World)  :
    Calls Tryz.prog 70 [].toArray w (fun e w' => ∃ v, e = .returned (v) ∧ Ext w w' ∧ Slo w.heap.size w' 38 elI v F_skewbackref08_bad) := by
 refine bs_ (n := 3) (fun v => v) Tryz.func70 rfl rfl (by simp) ?_
 obtain ⟨w0, rfl⟩ : ∃ w0, w0 = w := ⟨_, rfl⟩
 simp only [initF, Nat.reduceAdd]
 obtain ⟨q0, hq0⟩ := nm ((E Z.bad) : I)
 refine Rs fun K J => sE rfl (nl J (Rs fun K J => sC (AV [pI q0]) en_99 dc_ rfl rfl (by rw [hq0]; first | done | rfl) (WL_r rfl (az_ [[pI q0]] [pI q0] us_24 z_38 sz_38 rfl (by decide) rfl rfl ⟨rfl, rfl, rfl, trivial⟩ rfl (fun b1 hb1 => sE rfl (nl J (W_ret (ret1 rfl (.inr rfl) rfl ?_))))))))
 have hE : ([q0] : (List I)) = F_skewbackref08_bad := by subst hq0; exact rfl
 rw [← hE]
 exact ⟨_, rfl, ⟨_, (sk sn), OwnG.lit (e := elI) (l := [q0]) (qs := [pI q0]) hb1 rfl (Nat.le_of_ble_eq_true rfl) rfl⟩⟩

theorem fo_ (vl : Value) (l : (List I)) (w : World) (hl : Slr w elI vl l) (hpre : l.length ≤ 200) :
    Calls Tryz.prog 16 [vl].toArray w (fun e w' => ∃ v, e = .returned (v) ∧ Ext w w' ∧ Slo w.heap.size w' 38 elI v (a9_ l)) := by
 obtain ⟨p_l, c_l, rfl⟩ := hl.form
 refine bs_ (n := 45) (fun v => v) Tryz.func16 rfl rfl (by simp) ?_
 obtain ⟨w0, rfl⟩ : ∃ w0, w0 = w := ⟨_, rfl⟩
 have Hl := hl.old
 have hm_l := hl.max
 simp only [initF, Nat.reduceAdd]
 refine Rs fun K J => sE rfl (nl J (Rs fun K J => sE rfl (nl J (Sq fun K1 J1 => Rs fun K J => sE rfl (nl J ?_)))))
 refine ch_ (fun S M h => J1 S M h) [2, 3, 4, 5, 8, 9, 10, 11, 12, 13, 14, 15, 16, 17, 18, 19, 20, 21, 22, 23, 24, 25, 26, 27, 28] (fun g M => ∃ (last : Int) (i : Nat), (a6_ l ((l.length + 1)) (-1) 0) = .inl (last, i) ∧ (last < (l.length : Int) ∧ -1 ≤ last) ∧ (g 3 = .int .i64 last ∧ g 4 = .int .i64 ((i : Nat) : Int)) ∧ M = []) (fun K_u1 hK_u1 => ?_) ?_
 ·skip
  refine aq_ ?_
  refine aL_ [2, 3, 4, 5, 8, 9, 10, 11, 12, 13, 14, 15, 16, 17, 18, 19, 20, 21, 22, 23, 24, 25, 26, 27, 28] (fun g nn M => ∃ (last : Int) (i : Nat), (a6_ l nn last i) = (a6_ l ((l.length + 1)) (-1) 0) ∧ l.length - i < nn ∧ (i ≤ l.length ∧ last < (i : Int) ∧ -1 ≤ last) ∧ (g 3 = .int .i64 last ∧ g 4 = .int .i64 ((i : Nat) : Int)) ∧ M = []) ((l.length + 1)) ?start ?round
  case start => exact ⟨_, s0, (-1), 0, rfl, (by first | omega | (simp only [List.length_append, List.length_cons, List.length_nil, List.length_set, List.length_take, and_true, true_and, or_true, true_or, Nat.zero_add] <;> omega)), (by first | omega | (simp only [List.length_append, List.length_cons, List.length_nil, List.length_set, List.length_take, and_true, true_and, or_true, true_or, Nat.zero_add] <;> omega)), ⟨rfl, rfl⟩, rfl⟩
  case round =>
   rintro nn g M ⟨last, i, hT0, hq0, hinv0, ⟨hg3, hg4⟩, rfl⟩
   obtain ⟨k0, rfl⟩ : ∃ m, nn = m + 1 := ⟨nn - 1, by omega⟩
   simp only [setG, hg3, hg4]
   clear hg3 hg4
   refine Sq fun K8 J8 => Rs fun K J => sE rfl (sE rfl (sQ (q_as (v' := .int .i64 (((l).length : Nat) : Int)) (aS_ (e := elI) sl_22 rfl (SLe.sub Hl sn)) rfl) rfl (sE rfl (nl J ?_))))
   rcases bt (decide (((i : Nat) : Int) < (((l).length : Nat) : Int))) with h16 | h16
   ·skip
    have ph16 := of_decide_eq_true h16
    refine W_t h16 rfl (am_ (J8 _ _ (Sq fun K9 J9 => aq_ (Rs fun K J => sE rfl (sE rfl (sQ (q_as (v' := .pointer (some (slb (.slice p_l l.length c_l) (i * 18 + 0)))) (cp_ (e := elI) (l := l) (k := i) sl_22 rfl rfl (SLe.sub Hl sn) (by first | omega | (simp only [List.length_set, List.length_append, List.length_cons, List.length_nil]; omega))) rfl) rfl ?_))))))
    refine sQ (q_ldG (e := elI) (l := l) (k := i) (o := 0) ty_38 rfl (SLe.sub Hl sn) (aA_ I0 (by first | omega | (simp only [List.length_set, List.length_append, List.length_cons, List.length_nil]; omega))) rfl) rfl ?_
    refine sQ (q_ret en_69 (dR_ (l.getD i I0)) rfl) rfl (sE rfl (nl J (Sq fun K10 J10 => Rs fun K J => sE rfl (sE rfl (nl J ?_)))))
    rcases bt (cj_ (l.getD i I0)) with h17 | h17
    ·skip
     refine W_f (not_f h17) rfl (am_ (J10 _ _ (Rs fun K J => sE rfl (sE rfl (sQ (q_as (v' := .pointer (some (slb (.slice p_l l.length c_l) (i * 18 + 0)))) (cp_ (e := elI) (l := l) (k := i) sl_22 rfl rfl (SLe.sub Hl sn) (by first | omega | (simp only [List.length_set, List.length_append, List.length_cons, List.length_nil]; omega))) rfl) rfl ?_)))))
     refine sQ (q_ldG (e := elI) (l := l) (k := i) (o := 0) ty_38 rfl (SLe.sub Hl sn) (aA_ I0 (by first | omega | (simp only [List.length_set, List.length_append, List.length_cons, List.length_nil]; omega))) rfl) rfl ?_
     refine sC (.int .i64 ((Z.signW (l.getD i I0).dec).1)) en_71 (dT_ (l.getD i I0).1 (l.getD i I0).2) rfl rfl rfl (sE rfl (nl J ?_))
     rcases bt ((Z.signW (l.getD i I0).dec).1 != 0) with h18 | h18
     ·skip
      refine W_t h18 rfl (Rk fun K J => sE rfl (sE rfl (nl J (J9 _ _ (Rk fun K J => sE rfl (sV (.int .i64 (((i + 1) : Nat) : Int)) rfl (congrArg (Value.int .i64) (wx (by omega) (by omega) (by omega))) (sE rfl (nl J (⟨(by repeat first | exact .refl | refine .cons rfl ?_), _, _, s0, (Nat.lt_succ_self _), ((i : Nat) : Int), (i + 1), (by exact (hT0.symm.trans (Eq.symm (bif_t h16 (bif_t h17 (bif_t h18 rfl))))).symm), (Nat.lt_of_lt_of_le (by first | omega | (simp only [List.length_append, List.length_cons, List.length_nil, List.length_set, List.length_take, and_true, true_and, or_true, true_or, Nat.zero_add] <;> omega)) (Nat.le_of_lt_succ hq0)), (by first | omega | (simp only [List.length_append, List.length_cons, List.length_nil, List.length_set, List.length_take, and_true, true_and, or_true, true_or, Nat.zero_add] <;> omega)), ⟨rfl, rfl⟩, rfl⟩)))))))))
     ·skip
      refine W_f h18 rfl (am_ (J9 _ _ (Rk fun K J => sE rfl (sV (.int .i64 (((i + 1) : Nat) : Int)) rfl (congrArg (Value.int .i64) (wx (by omega) (by omega) (by omega))) (sE rfl (nl J (⟨(by repeat first | exact .refl | refine .cons rfl ?_), _, _, s0, (Nat.lt_succ_self _), last, (i + 1), (by exact (hT0.symm.trans (Eq.symm (bif_t h16 (bif_t h17 (bif_f h18 rfl))))).symm), (Nat.lt_of_lt_of_le (by first | omega | (simp only [List.length_append, List.length_cons, List.length_nil, List.length_set, List.length_take, and_true, true_and, or_true, true_or, Nat.zero_add] <;> omega)) (Nat.le_of_lt_succ hq0)), (by first | omega | (simp only [List.length_append, List.length_cons, List.length_nil, List.length_set, List.length_take, and_true, true_and, or_true, true_or, Nat.zero_add] <;> omega)), ⟨rfl, rfl⟩, rfl⟩)))))))
    ·skip
     refine W_t (not_t h17) rfl (Rs fun K J => WL_r rfl (an_ (E := 38) (e := elI) (l := F_skewbackref08_bad) (fun v => v) en_70 rfl (fun w hw => ed_  w) (fun p19 c20 L21 hF22 => sE rfl (nl J (W_ret (aj_ (aX_ (aj_ (aj_ (aX_ (aj_ (aj_ (ret1 rfl (.inr rfl) rfl ?_)))))))))))))
     have hE : (F_skewbackref08_bad : (List I)) = (a9_ l) := by exact (sm_q rfl (hT0.symm.trans (Eq.symm (bif_t h16 (bif_f h17 rfl)))))
     rw [← hE]
     exact ⟨_, rfl, ⟨L21, (List.sublist_append_left _ _), hF22⟩⟩
   ·skip
    have ph16 := of_decide_eq_false h16
    refine W_f h16 rfl (bw_ (ap_ (ap_ (as_ (hK_u1 _ _ (by repeat first | exact .refl | refine .cons rfl ?_) ⟨_, s0, last, i, (by exact hT0.symm.trans (Eq.symm (bif_f h16 rfl))), (by first | omega | (simp only [List.length_append, List.length_cons, List.length_nil, List.length_set, List.length_take, and_true, true_and, or_true, true_or, Nat.zero_add] <;> omega)), ⟨rfl, rfl⟩, rfl⟩)))))
 ·skip
  rintro g M ⟨last, i, hCu1, hPu1, ⟨hg3, hg4⟩, rfl⟩
  simp only [setG, hg3, hg4]
  clear hg3 hg4
  refine Sq fun K11 J11 => Rs fun K J => sE rfl (sE rfl (nl J ?_))
  rcases bt (decide (24 < last)) with h23 | h23
  ·skip
   have ph23 := of_decide_eq_true h23
   refine W_t h23 rfl (Rs fun K J => WL_r rfl (an_ (E := 38) (e := elI) (l := F_skewbackref08_bad) (fun v => v) en_70 rfl (fun w hw => ed_  w) (fun p24 c25 L26 hF27 => sE rfl (nl J (W_ret (aj_ (ret1 rfl (.inr rfl) rfl ?_)))))))
   have hE : (F_skewbackref08_bad : (List I)) = (a9_ l) := by exact trs (Eq.symm (smS hCu1)) (bif_t h23 rfl)
   rw [← hE]
   exact ⟨_, rfl, ⟨L26, (List.sublist_append_left _ _), hF27⟩⟩
  ·skip
   have ph23 := of_decide_eq_false h23
   refine W_f h23 rfl (am_ (J11 _ _ (Rs fun K J => sE rfl (nl J (Sq fun K12 J12 => Rs fun K J => sE rfl (nl J ?_))))))
   refine ch_ (fun S M h => J12 S M h) [6, 7, 32, 33, 34, 35, 36, 37, 38, 39, 40, 41, 42, 43] (fun g M => ∃ (out : List I) (j : Nat) (p_out : Option Addr) (c_out : Nat) (L_out : List Blk), (bn_ l last i (((last + 1).toNat + 1)) ([] : List I) 0) = (out, j) ∧ (g 6 = .slice p_out out.length c_out ∧ g 7 = .int .i64 ((j : Nat) : Int) ∧ OwnG w0 38 elI (.slice p_out out.length c_out) out L_out) ∧ M = (L_out ++ [])) (fun K_u28 hK_u28 => ?_) ?_
   ·skip
    refine aq_ ?_
    refine aL_ [6, 7, 32, 33, 34, 35, 36, 37, 38, 39, 40, 41, 42, 43] (fun g nn M => ∃ (out : List I) (j : Nat) (p_out : Option Addr) (c_out : Nat) (L_out : List Blk), (bn_ l last i nn out j) = (bn_ l last i (((last + 1).toNat + 1)) ([] : List I) 0) ∧ (last + 1).toNat - j < nn ∧ ((j : Int) ≤ last + 1 ∧ out.length = j) ∧ (g 6 = .slice p_out out.length c_out ∧ g 7 = .int .i64 ((j : Nat) : Int) ∧ OwnG w0 38 elI (.slice p_out out.length c_out) out L_out) ∧ M = (L_out ++ [])) (((last + 1).toNat + 1)) ?start ?round
    case start => exact ⟨_, s0, ([] : List I), 0, none, 0, [], rfl, (by first | omega | (simp only [List.length_append, List.length_cons, List.length_nil, List.length_set, List.length_take, and_true, true_and, or_true, true_or, Nat.zero_add] <;> omega)), (by first | omega | (simp only [List.length_append, List.length_cons, List.length_nil, List.length_set, List.length_take, and_true, true_and, or_true, true_or, Nat.zero_add] <;> omega)), ⟨rfl, rfl, OwnG.nil⟩, rfl⟩
    case round =>
     rintro nn g M ⟨out, j, p_out, c_out, L_out, hT1, hq1, hinv1, ⟨hg6, hg7, hO_out⟩, rfl⟩
     obtain ⟨k1, rfl⟩ : ∃ m, nn = m + 1 := ⟨nn - 1, by omega⟩
     simp only [setG, hg6, hg7]
     clear hg6 hg7
     have hm_out := OwnG.max hO_out
     refine Sq fun K15 J15 => Rs fun K J => sE rfl (sE rfl (sE rfl (nl J ?_)))
     rcases bt (decide (((j : Nat) : Int) ≤ last)) with h35 | h35
     ·skip
      have ph35 := of_decide_eq_true h35
      refine W_t h35 rfl (am_ (J15 _ _ (Sq fun K16 J16 => aq_ (Rk fun K J => sE rfl (sE rfl (sE rfl (sQ (q_as (v' := .pointer (some (slb (.slice p_l l.length c_l) (j * 18 + 0)))) (cp_ (e := elI) (l := l) (k := j) sl_22 rfl rfl (SLe.sub Hl sn) (by first | omega | (simp only [List.length_set, List.length_append, List.length_cons, List.length_nil]; omega))) rfl) rfl ?_)))))))
      refine sQ (q_ldG (e := elI) (l := l) (k := j) (o := 0) ty_38 rfl (SLe.sub Hl sn) (aA_ I0 (by first | omega | (simp only [List.length_set, List.length_append, List.length_cons, List.length_nil]; omega))) rfl) rfl ?_
      refine WL_r rfl (az_ [[pI (l.getD j I0)]] [pI (l.getD j I0)] us_24 z_38 sz_38 rfl (by decide) rfl rfl ⟨rfl, rfl, rfl, trivial⟩ rfl (fun b36 hb36 => WL_r rfl (dN_ (e := elI) (l := out) (m := [(l.getD j I0)]) 68 us_24 (by kernel_rfl) (by decide) rfl rfl hO_out (SLe.lit (e := elI) (l := [(l.getD j I0)]) m0 rfl (Nat.le_of_ble_eq_true rfl) rfl) (fq_s fq_l) (by simp only [List.length_append, List.length_cons, List.length_nil]; omega) (by decide) (fun p37 c38 L39 hO40 => ?_))))
      refine sE rfl (nl J (J16 _ _ (Rk fun K J => sE rfl (sV (.int .i64 (((j + 1) : Nat) : Int)) rfl (congrArg (Value.int .i64) (wx (by omega) (by omega) (by omega))) (sE rfl (nl J (⟨(by repeat first | exact .refl | refine .cons rfl ?_), _, _, (sA (sd (s0))), (Nat.lt_succ_self _), (out ++ [(l.getD j I0)]), (j + 1), p37, c38, L39, (by exact (hT1.symm.trans (Eq.symm (bif_t h35 rfl))).symm), (Nat.lt_of_lt_of_le (by first | omega | (simp only [List.length_append, List.length_cons, List.length_nil, List.length_set, List.length_take, and_true, true_and, or_true, true_or, Nat.zero_add] <;> omega)) (Nat.le_of_lt_succ hq1)), (by first | omega | (simp only [List.length_append, List.length_cons, List.length_nil, List.length_set, List.length_take, and_true, true_and, or_true, true_or, Nat.zero_add] <;> omega)), ⟨rfl, rfl, hO40⟩, rfl⟩)))))))
     ·skip
      have ph35 := of_decide_eq_false h35
      refine W_f h35 rfl (bw_ (ap_ (ap_ (as_ (hK_u28 _ _ (by repeat first | exact .refl | refine .cons rfl ?_) ⟨_, s0, out, j, p_out, c_out, L_out, (by exact hT1.symm.trans (Eq.symm (bif_f h35 rfl))), ⟨rfl, rfl, hO_out⟩, rfl⟩)))))
   ·skip
    rintro g M ⟨out, j, p_out, c_out, L_out, hCu28, ⟨hg6, hg7, hO_out⟩, rfl⟩
    simp only [setG, hg6, hg7]
    clear hg6 hg7
    have hm_out := OwnG.max hO_out
    refine Rs fun K J => sE rfl (sE rfl (nl J (W_ret (ret1 rfl (.inr rfl) rfl ?_))))
    have hE : (out : (List I)) = (a9_ l) := by exact trs (Eq.symm (smS hCu1)) (bif_f h23 (trs (Eq.symm (apS hCu28)) rfl))
    rw [← hE]
    exact ⟨_, rfl, ⟨L_out, (List.sublist_append_left _ _), hO_out⟩⟩

theorem a8_ (vl : Value) (l : (List W)) (w : World) (hl : Slr w elW vl l) (hpre : l.length ≤ 200) :
    Calls Tryz.prog 64 [vl].toArray w (fun e w' => ∃ v, e = .returned (v) ∧ Ext w w' ∧ Slo w.heap.size w' 38 elI v (aw_ l)) := by
 obtain ⟨p_l, c_l, rfl⟩ := hl.form
 refine bs_ (n := 21) (fun v => v) Tryz.func64 rfl rfl (by simp) ?_
 obtain ⟨w0, rfl⟩ : ∃ w0, w0 = w := ⟨_, rfl⟩
 have Hl := hl.old
 have hm_l := hl.max
 simp only [initF, Nat.reduceAdd]
 refine Rs fun K J => sE rfl (nl J (Rs fun K J => sE rfl (nl J (Sq fun K1 J1 => Rs fun K J => sE rfl (nl J ?_)))))
 refine ch_ (fun S M h => J1 S M h) [3, 4, 5, 6, 7, 8, 9, 10, 11, 12, 13, 14, 15, 16, 17, 18] (fun g M => ∃ (out : List I) (i : Nat) (p_out : Option Addr) (c_out : Nat) (L_out : List Blk), (bW_ l ((l.length + 1)) ([] : List I) 0) = (out, i) ∧ (out.length ≤ 200) ∧ (g 3 = .slice p_out out.length c_out ∧ g 4 = .int .i64 ((i : Nat) : Int) ∧ OwnG w0 38 elI (.slice p_out out.length c_out) out L_out) ∧ M = (L_out ++ [])) (fun K_u1 hK_u1 => ?_) ?_
 ·skip
  refine aq_ ?_
  refine aL_ [3, 4, 5, 6, 7, 8, 9, 10, 11, 12, 13, 14, 15, 16, 17, 18] (fun g nn M => ∃ (out : List I) (i : Nat) (p_out : Option Addr) (c_out : Nat) (L_out : List Blk), (bW_ l nn out i) = (bW_ l ((l.length + 1)) ([] : List I) 0) ∧ l.length - i < nn ∧ (i ≤ l.length ∧ out.length = i) ∧ (g 3 = .slice p_out out.length c_out ∧ g 4 = .int .i64 ((i : Nat) : Int) ∧ OwnG w0 38 elI (.slice p_out out.length c_out) out L_out) ∧ M = (L_out ++ [])) ((l.length + 1)) ?start ?round
  case start => exact ⟨_, s0, ([] : List I), 0, none, 0, [], rfl, (by first | omega | (simp only [List.length_append, List.length_cons, List.length_nil, List.length_set, List.length_take, and_true, true_and, or_true, true_or, Nat.zero_add] <;> omega)), (by first | omega | (simp only [List.length_append, List.length_cons, List.length_nil, List.length_set, List.length_take, and_true, true_and, or_true, true_or, Nat.zero_add] <;> omega)), ⟨rfl, rfl, OwnG.nil⟩, rfl⟩
  case round =>
   rintro nn g M ⟨out, i, p_out, c_out, L_out, hT0, hq0, hinv0, ⟨hg3, hg4, hO_out⟩, rfl⟩
   obtain ⟨k0, rfl⟩ : ∃ m, nn = m + 1 := ⟨nn - 1, by omega⟩
   simp only [setG, hg3, hg4]
   clear hg3 hg4
   have hm_out := OwnG.max hO_out
   refine Sq fun K4 J4 => Rs fun K J => sE rfl (sE rfl (sQ (q_as (v' := .int .i64 (((l).length : Nat) : Int)) (aS_ (e := elW) sl_70 rfl (SLe.sub Hl sn)) rfl) rfl (sE rfl (nl J ?_))))
   rcases bt (decide (((i : Nat) : Int) < (((l).length : Nat) : Int))) with h8 | h8
   ·skip
    have ph8 := of_decide_eq_true h8
    refine W_t h8 rfl (am_ (J4 _ _ (Sq fun K5 J5 => aq_ (Rk fun K J => sE rfl (sE rfl (sE rfl (sQ (q_as (v' := .pointer (some (slb (.slice p_l l.length c_l) (i * 1 + 0)))) (cp_ (e := elW) (l := l) (k := i) sl_70 rfl rfl (SLe.sub Hl sn) (by first | omega | (simp only [List.length_set, List.length_append, List.length_cons, List.length_nil]; omega))) rfl) rfl ?_)))))))
    refine sQ (jD_ (u := .int .i64 ((l.getD i W.z).1)) (e := elW) (l := l) (k := i) (o := 0) ty_3 rfl (SLe.sub Hl sn) (aA_ W.z (by first | omega | (simp only [List.length_set, List.length_append, List.length_cons, List.length_nil]; omega))) rfl) rfl ?_
    refine sC (AV [pI (E (Z.of (l.getD i W.z).1))]) en_81 (fV_ (l.getD i W.z).1 (l.getD i W.z).2) rfl rfl rfl (WL_r rfl (az_ [[pI (E (Z.of (l.getD i W.z).1))]] [pI (E (Z.of (l.getD i W.z).1))] us_22 z_38 sz_38 rfl (by decide) rfl rfl ⟨rfl, rfl, rfl, trivial⟩ rfl (fun b9 hb9 => WL_r rfl (dN_ (e := elI) (l := out) (m := [(E (Z.of (l.getD i W.z).1))]) 68 us_22 (by kernel_rfl) (by decide) rfl rfl hO_out (SLe.lit (e := elI) (l := [(E (Z.of (l.getD i W.z).1))]) m0 rfl (Nat.le_of_ble_eq_true rfl) rfl) (fq_s fq_l) (by simp only [List.length_append, List.length_cons, List.length_nil]; omega) (by decide) (fun p10 c11 L12 hO13 => ?_)))))
    refine sE rfl (nl J (J5 _ _ (Rk fun K J => sE rfl (sV (.int .i64 (((i + 1) : Nat) : Int)) rfl (congrArg (Value.int .i64) (wx (by omega) (by omega) (by omega))) (sE rfl (nl J (⟨(by repeat first | exact .refl | refine .cons rfl ?_), _, _, (sA (sd (s0))), (Nat.lt_succ_self _), (out ++ [(E (Z.of (l.getD i W.z).1))]), (i + 1), p10, c11, L12, (by exact (hT0.symm.trans (Eq.symm (bif_t h8 rfl))).symm), (Nat.lt_of_lt_of_le (by first | omega | (simp only [List.length_append, List.length_cons, List.length_nil, List.length_set, List.length_take, and_true, true_and, or_true, true_or, Nat.zero_add] <;> omega)) (Nat.le_of_lt_succ hq0)), (by first | omega | (simp only [List.length_append, List.length_cons, List.length_nil, List.length_set, List.length_take, and_true, true_and, or_true, true_or, Nat.zero_add] <;> omega)), ⟨rfl, rfl, hO13⟩, rfl⟩)))))))
   ·skip
    have ph8 := of_decide_eq_false h8
    refine W_f h8 rfl (bw_ (ap_ (ap_ (as_ (hK_u1 _ _ (by repeat first | exact .refl | refine .cons rfl ?_) ⟨_, s0, out, i, p_out, c_out, L_out, (by exact hT0.symm.trans (Eq.symm (bif_f h8 rfl))), (by first | omega | (simp only [List.length_append, List.length_cons, List.length_nil, List.length_set, List.length_take, and_true, true_and, or_true, true_or, Nat.zero_add] <;> omega)), ⟨rfl, rfl, hO_out⟩, rfl⟩)))))
 ·skip
  rintro g M ⟨out, i, p_out, c_out, L_out, hCu1, hPu1, ⟨hg3, hg4, hO_out⟩, rfl⟩
  simp only [setG, hg3, hg4]
  clear hg3 hg4
  have hm_out := OwnG.max hO_out
  refine Rs fun K J => sE rfl (WL_r rfl (an_ (E := 38) (e := elI) (l := (a9_ out)) (fun v => v) en_16 rfl (fun w hw => fo_ _ out w (SLe.ap hw (SLfe.sle (OwnG.slfe hO_out (List.sublist_append_left _ _)))) (by first | omega | (simp only [List.length_cons, List.length_nil, and_true, true_and] <;> omega) | simp)) (fun p14 c15 L16 hF17 => ?_)))
  have hb18 := (fr_ out)
  refine sE rfl (nl J (W_ret (ret1 rfl (.inr rfl) rfl ?_)))
  have hE : ((a9_ out) : (List I)) = (aw_ l) := by exact (by unfold aw_; exact trs (Eq.symm (apS hCu1)) rfl)
  rw [← hE]
  exact ⟨_, rfl, ⟨L16, (List.sublist_append_left _ _), hF17⟩⟩

theorem fl_ (vp : Value) (p : (List I)) (w : World) (hp : Slr w elI vp p) :
    Calls Tryz.prog 19 [vp].toArray w (fun e w' => e = .returned (.bool (bf_ p)) ∧ Ext w w') := by
 obtain ⟨p_p, c_p, rfl⟩ := hp.form
 refine aU_ (N := 18) Tryz.func19 rfl rfl (by simp) ?_
 obtain ⟨w0, rfl⟩ : ∃ w0, w0 = w := ⟨_, rfl⟩
 have Hp := hp.old
 have hm_p := hp.max
 simp only [initF, Nat.reduceAdd]
 refine Rs fun K J => sE rfl (nl J (Sq fun K1 J1 => Rs fun K J => sE rfl (nl J ?_)))
 refine ch_ (fun S M h => J1 S M h) [2, 3, 4, 5, 6, 7, 8, 9, 10, 11, 12, 13, 14, 15, 16, 17] (fun g M => ∃ (i : Nat), (aZ_ p ((p.length + 1)) 0) = .inl i ∧ (g 3 = .int .i64 ((i : Nat) : Int)) ∧ M = []) (fun K_u1 hK_u1 => ?_) ?_
 ·skip
  refine aq_ ?_
  refine aL_ [2, 3, 4, 5, 6, 7, 8, 9, 10, 11, 12, 13, 14, 15, 16, 17] (fun g nn M => ∃ (i : Nat), (aZ_ p nn i) = (aZ_ p ((p.length + 1)) 0) ∧ p.length - i < nn ∧ (i ≤ p.length) ∧ (g 3 = .int .i64 ((i : Nat) : Int)) ∧ M = []) ((p.length + 1)) ?start ?round
  case start => exact ⟨_, s0, 0, rfl, (by first | omega | (simp only [List.length_append, List.length_cons, List.length_nil, List.length_set, List.length_take, and_true, true_and, or_true, true_or, Nat.zero_add] <;> omega)), (by first | omega | (simp only [List.length_append, List.length_cons, List.length_nil, List.length_set, List.length_take, and_true, true_and, or_true, true_or, Nat.zero_add] <;> omega)), rfl, rfl⟩
  case round =>
   rintro nn g M ⟨i, hT0, hq0, hinv0, hg3, rfl⟩
   obtain ⟨k0, rfl⟩ : ∃ m, nn = m + 1 := ⟨nn - 1, by omega⟩
   simp only [setG, hg3]
   clear hg3
   refine Sq fun K6 J6 => Rs fun K J => sE rfl (sE rfl (sQ (q_as (v' := .int .i64 (((p).length : Nat) : Int)) (aS_ (e := elI) sl_24 rfl (SLe.sub Hp sn)) rfl) rfl (sE rfl (nl J ?_))))
   rcases bt (decide (((i : Nat) : Int) < (((p).length : Nat) : Int))) with h6 | h6
   ·skip
    have ph6 := of_decide_eq_true h6
    refine W_t h6 rfl (am_ (J6 _ _ (Sq fun K7 J7 => aq_ (Rs fun K J => sE rfl (sE rfl (sQ (q_as (v' := .pointer (some (slb (.slice p_p p.length c_p) (i * 18 + 0)))) (cp_ (e := elI) (l := p) (k := i) sl_24 rfl rfl (SLe.sub Hp sn) (by first | omega | (simp only [List.length_set, List.length_append, List.length_cons, List.length_nil]; omega))) rfl) rfl ?_))))))
    refine sQ (q_ldG (e := elI) (l := p) (k := i) (o := 0) ty_38 rfl (SLe.sub Hp sn) (aA_ I0 (by first | omega | (simp only [List.length_set, List.length_append, List.length_cons, List.length_nil]; omega))) rfl) rfl ?_
    refine sQ (q_ret en_69 (dR_ (p.getD i I0)) rfl) rfl (sE rfl (nl J (Rs fun K J => sE rfl (sE rfl (nl J ?_)))))
    rcases bt (cj_ (p.getD i I0)) with h7 | h7
    ·skip
     refine W_f (not_f h7) rfl (am_ (J7 _ _ (Rk fun K J => sE rfl (sV (.int .i64 (((i + 1) : Nat) : Int)) rfl (congrArg (Value.int .i64) (wx (by omega) (by omega) (by omega))) (sE rfl (nl J (⟨(by repeat first | exact .refl | refine .cons rfl ?_), _, _, s0, (Nat.lt_succ_self _), (i + 1), (by exact (hT0.symm.trans (Eq.symm (bif_t h6 (bif_t h7 rfl)))).symm), (Nat.lt_of_lt_of_le (by first | omega | (simp only [List.length_append, List.length_cons, List.length_nil, List.length_set, List.length_take, and_true, true_and, or_true, true_or, Nat.zero_add] <;> omega)) (Nat.le_of_lt_succ hq0)), (by first | omega | (simp only [List.length_append, List.length_cons, List.length_nil, List.length_set, List.length_take, and_true, true_and, or_true, true_or, Nat.zero_add] <;> omega)), rfl, rfl⟩)))))))
    ·skip
     refine W_t (not_t h7) rfl (Rs fun K J => sE rfl (nl J (W_ret (aX_ (aj_ (aj_ (aX_ (aj_ (aj_ (ret1 rfl (.inr rfl) rfl ?_))))))))))
     exact (by exact congrArg (fun r : Bool => (.bool r : Value)) (show _ = (bf_ p) from (sm_q rfl (hT0.symm.trans (Eq.symm (bif_t h6 (bif_f h7 rfl)))))))
   ·skip
    have ph6 := of_decide_eq_false h6
    refine W_f h6 rfl (bw_ (ap_ (ap_ (as_ (hK_u1 _ _ (by repeat first | exact .refl | refine .cons rfl ?_) ⟨_, s0, i, (by exact hT0.symm.trans (Eq.symm (bif_f h6 rfl))), rfl, rfl⟩)))))
 ·skip
  rintro g M ⟨i, hCu1, hg3, rfl⟩
  simp only [setG, hg3]
  clear hg3
  refine Rs fun K J => sE rfl (nl J (W_ret (ret1 rfl (.inr rfl) rfl ?_)))
  exact (by exact congrArg (fun r : Bool => (.bool r : Value)) (show _ = (bf_ p) from trs (Eq.symm (smS hCu1)) rfl))

theorem ax_ (va : Value) (a : (List I)) (vb : Value) (b : (List I)) (w : World) (ha : Slr w elI va a) (hb : Slr w elI vb b) :
    Calls Tryz.prog 17 [va, vb].toArray w (fun e w' => e = .returned (.bool (ai_ a b)) ∧ Ext w w') := by
 obtain ⟨p_a, c_a, rfl⟩ := ha.form
 obtain ⟨p_b, c_b, rfl⟩ := hb.form
 refine aU_ (N := 26) Tryz.func17 rfl rfl (by simp) ?_
 obtain ⟨w0, rfl⟩ : ∃ w0, w0 = w := ⟨_, rfl⟩
 have Ha := ha.old
 have hm_a := ha.max
 have Hb := hb.old
 have hm_b := hb.max
 simp only [initF, Nat.reduceAdd]
 refine Rs fun K J => sE rfl (nl J (Sq fun K1 J1 => Rs fun K J => sE rfl (sQ (q_as (v' := .int .i64 (((a).length : Nat) : Int)) (aS_ (e := elI) sl_22 rfl (SLe.sub Ha sn)) rfl) rfl (sE rfl (sQ (q_as (v' := .int .i64 (((b).length : Nat) : Int)) (aS_ (e := elI) sl_22 rfl (SLe.sub Hb sn)) rfl) rfl (sE rfl (nl J ?_)))))))
 rcases bt ((((a).length : Nat) : Int) != (((b).length : Nat) : Int)) with h1 | h1
 ·skip
  have ph2 := neI_t h1
  refine W_t h1 rfl (Rs fun K J => sE rfl (nl J (W_ret (aj_ (ret1 rfl (.inr rfl) rfl ?_)))))
  exact (by exact congrArg (fun r : Bool => (.bool r : Value)) (show _ = (ai_ a b) from bif_t h1 rfl))
 ·skip
  have ph3 := neI_f h1
  refine W_f h1 rfl (am_ (J1 _ _ (Sq fun K2 J2 => Rs fun K J => sE rfl (nl J ?_))))
  refine ch_ (fun S M h => J2 S M h) [4, 5, 11, 12, 13, 14, 15, 16, 17, 18, 19, 20, 21, 22, 23, 24, 25] (fun g M => ∃ (i : Nat), (bj_ a b ((a.length + 1)) 0) = .inl i ∧ (g 5 = .int .i64 ((i : Nat) : Int)) ∧ M = []) (fun K_u4 hK_u4 => ?_) ?_
  ·skip
   refine aq_ ?_
   refine aL_ [4, 5, 11, 12, 13, 14, 15, 16, 17, 18, 19, 20, 21, 22, 23, 24, 25] (fun g nn M => ∃ (i : Nat), (bj_ a b nn i) = (bj_ a b ((a.length + 1)) 0) ∧ a.length - i < nn ∧ (i ≤ a.length) ∧ (g 5 = .int .i64 ((i : Nat) : Int)) ∧ M = []) ((a.length + 1)) ?start ?round
   case start => exact ⟨_, s0, 0, rfl, (by first | omega | (simp only [List.length_append, List.length_cons, List.length_nil, List.length_set, List.length_take, and_true, true_and, or_true, true_or, Nat.zero_add] <;> omega)), (by first | omega | (simp only [List.length_append, List.length_cons, List.length_nil, List.length_set, List.length_take, and_true, true_and, or_true, true_or, Nat.zero_add] <;> omega)), rfl, rfl⟩
   case round =>
    rintro nn g M ⟨i, hT0, hq0, hinv0, hg5, rfl⟩
    obtain ⟨k0, rfl⟩ : ∃ m, nn = m + 1 := ⟨nn - 1, by omega⟩
    simp only [setG, hg5]
    clear hg5
    refine Sq fun K7 J7 => Rs fun K J => sE rfl (sE rfl (sQ (q_as (v' := .int .i64 (((a).length : Nat) : Int)) (aS_ (e := elI) sl_22 rfl (SLe.sub Ha sn)) rfl) rfl (sE rfl (nl J ?_))))
    rcases bt (decide (((i : Nat) : Int) < (((a).length : Nat) : Int))) with h9 | h9
    ·skip
     have ph9 := of_decide_eq_true h9
     refine W_t h9 rfl (am_ (J7 _ _ (Sq fun K8 J8 => aq_ (ds sn [0,4,8,12,16,20,24,28,32] [] mix (by kernel_rfl) (fun K J => pE rfl (pE rfl (pQ rfl (q_as (v' := .pointer (some (slb (.slice p_a a.length c_a) (i * 18 + 0)))) (cp_ (e := elI) (l := a) (k := i) sl_22 rfl rfl (SLe.sub Ha sn) (by first | omega | (simp only [List.length_set, List.length_append, List.length_cons, List.length_nil]; omega))) rfl) ?_)))))))
     refine pQ rfl (q_ldG (e := elI) (l := a) (k := i) (o := 0) ty_38 rfl (SLe.sub Ha sn) (aA_ I0 (by first | omega | (simp only [List.length_set, List.length_append, List.length_cons, List.length_nil]; omega))) rfl) ?_
     refine pE rfl (pE rfl (pQ rfl (q_as (v' := .pointer (some (slb (.slice p_b b.length c_b) (i * 18 + 0)))) (cp_ (e := elI) (l := b) (k := i) sl_22 rfl rfl (SLe.sub Hb sn) (by first | omega | (simp only [List.length_set, List.length_append, List.length_cons, List.length_nil]; omega))) rfl) ?_))
     refine pQ rfl (q_ldG (e := elI) (l := b) (k := i) (o := 0) ty_38 rfl (SLe.sub Hb sn) (aA_ I0 (by first | omega | (simp only [List.length_set, List.length_append, List.length_cons, List.length_nil]; omega))) rfl) ?_
     refine pQ rfl (h7_ (r := decide ((a.getD i I0) = (b.getD i I0))) rfl rfl (dz_ 8 (by decide) eg_38 lw_38 (ek_ lv_pI) (ek_ lv_pI) (fy_ eq_pI))) (fl J ?_)
     rcases bt (decide ((a.getD i I0) = (b.getD i I0))) with h10 | h10
     ·skip
      have ph10 := of_decide_eq_true h10
      refine W_f (not_f h10) rfl (am_ (J8 _ _ (Rk fun K J => sE rfl (sV (.int .i64 (((i + 1) : Nat) : Int)) rfl (congrArg (Value.int .i64) (wx (by omega) (by omega) (by omega))) (sE rfl (nl J (⟨(by repeat first | exact .refl | refine .cons rfl ?_), _, _, s0, (Nat.lt_succ_self _), (i + 1), (by exact (hT0.symm.trans (Eq.symm (bif_t h9 (bif_t h10 rfl)))).symm), (Nat.lt_of_lt_of_le (by first | omega | (simp only [List.length_append, List.length_cons, List.length_nil, List.length_set, List.length_take, and_true, true_and, or_true, true_or, Nat.zero_add] <;> omega)) (Nat.le_of_lt_succ hq0)), (by first | omega | (simp only [List.length_append, List.length_cons, List.length_nil, List.length_set, List.length_take, and_true, true_and, or_true, true_or, Nat.zero_add] <;> omega)), rfl, rfl⟩)))))))
     ·skip
      have ph10 := of_decide_eq_false h10
      refine W_t (not_t h10) rfl (Rs fun K J => sE rfl (nl J (W_ret (aX_ (aj_ (aj_ (aX_ (aj_ (aj_ (ret1 rfl (.inr rfl) rfl ?_))))))))))
      exact (by exact congrArg (fun r : Bool => (.bool r : Value)) (show _ = (ai_ a b) from bif_f h1 ((sm_q rfl (hT0.symm.trans (Eq.symm (bif_t h9 (bif_f h10 rfl))))))))
    ·skip
     have ph9 := of_decide_eq_false h9
     refine W_f h9 rfl (bw_ (ap_ (ap_ (as_ (hK_u4 _ _ (by repeat first | exact .refl | refine .cons rfl ?_) ⟨_, s0, i, (by exact hT0.symm.trans (Eq.symm (bif_f h9 rfl))), rfl, rfl⟩)))))
  ·skip
   rintro g M ⟨i, hCu4, hg5, rfl⟩
   simp only [setG, hg5]
   clear hg5
   refine Rs fun K J => sE rfl (nl J (W_ret (ret1 rfl (.inr rfl) rfl ?_)))
   exact (by exact congrArg (fun r : Bool => (.bool r : Value)) (show _ = (ai_ a b) from bif_f h1 (trs (Eq.symm (smS hCu4)) rfl)))

theorem fi_ (vp : Value) (p : (List I)) (w : World) (hp : Slr w elI vp p) :
    Calls Tryz.prog 36 [vp].toArray w (fun e w' => e = .returned (.bool (aO_ p)) ∧ Ext w w') := by
 obtain ⟨p_p, c_p, rfl⟩ := hp.form
 refine aU_ (N := 33) Tryz.func36 rfl rfl (by simp) ?_
 obtain ⟨w0, rfl⟩ : ∃ w0, w0 = w := ⟨_, rfl⟩
 have Hp := hp.old
 have hm_p := hp.max
 simp only [initF, Nat.reduceAdd]
 refine Rs fun K J => sE rfl (nl J (Sq fun K1 J1 => ?_))
 refine bD_ [3, 4, 5, 6, 7, 8, 9, 10, 11, 12] (fun g M => (g 12 = .bool (((((p).length : Nat) : Int) == 1) && decide ((p.getD 0 I0) = (E Z.bad)))) ∧ M = []) (fun K2 J2 => ?_) ?_
 ·skip
  refine dr sn [0,4,8,12,16,20,24,28,32,36] [] mix (by kernel_rfl) (fun K J => pE rfl (pQ rfl (q_as (v' := .int .i64 (((p).length : Nat) : Int)) (aS_ (e := elI) sl_24 rfl (SLe.sub Hp sn)) rfl) (pE rfl ?_)))
  rcases bt ((((p).length : Nat) : Int) == 1) with h2 | h2
  ·skip
   have ph2 := ea_ h2
   refine pB h2 rfl (pE rfl (pQ rfl (q_as (v' := .pointer (some (slb (.slice p_p p.length c_p) (0 * 18 + 0)))) (cp_ (e := elI) (l := p) (k := 0) sl_24 rfl rfl (SLe.sub Hp sn) (by first | omega | (simp only [List.length_set, List.length_append, List.length_cons, List.length_nil]; omega))) rfl) ?_))
   refine pQ rfl (q_ldG (e := elI) (l := p) (k := 0) (o := 0) ty_38 rfl (SLe.sub Hp sn) (aA_ I0 (by first | omega | (simp only [List.length_set, List.length_append, List.length_cons, List.length_nil]; omega))) rfl) ?_
   refine pC (AV [pI (E Z.bad)]) en_99 dc_ rfl rfl rfl ?_
   refine pQ rfl (gd_ (r := decide ((p.getD 0 I0) = (E Z.bad))) rfl rfl (dz_ 8 (by decide) eg_38 lw_38 (ek_ lv_pI) (ek_ lv_pI) (fy_ eq_pI))) (pE rfl (fl J ?_))
   refine J2 _ _ (by repeat first | exact .refl | refine .cons rfl ?_) ⟨_, s0, ?s12, rfl⟩
   case s12 => exact congrArg Value.bool (and_t h2 rfl)
  ·skip
   have ph2 := c9_ h2
   refine pB h2 rfl (PL_n rfl rfl (PL_n rfl rfl (PL_n rfl rfl (PL_n rfl rfl (PL_n rfl rfl (pE rfl (fl J ?_)))))))
   refine J2 _ _ (by repeat first | exact .refl | refine .cons rfl ?_) ⟨_, s0, ?s12, rfl⟩
   case s12 => exact congrArg Value.bool (and_f h2)
 ·skip
  rintro g3 M ⟨hg12, rfl⟩
  simp only [setG, hg12]
  clear hg12
  rcases bt (((((p).length : Nat) : Int) == 1) && decide ((p.getD 0 I0) = (E Z.bad))) with h4 | h4
  ·skip
   have ph5 := ea_ (Bool.and_eq_true_iff.1 h4).1
   have ph6 := of_decide_eq_true (Bool.and_eq_true_iff.1 h4).2
   refine W_t h4 rfl (Rs fun K J => sE rfl (nl J (W_ret (aj_ (ret1 rfl (.inr rfl) rfl ?_)))))
   exact (by exact congrArg (fun r : Bool => (.bool r : Value)) (show _ = (aO_ p) from bif_t h4 rfl))
  ·skip
   refine W_f h4 rfl (am_ (J1 _ _ (Sq fun K3 J3 => ?_)))
   refine bD_ [13, 14, 15, 16, 17, 18, 19] (fun g M => (g 19 = .bool ((bf_ p) || decide (25 < (((p).length : Nat) : Int)))) ∧ M = []) (fun K4 J4 => ?_) ?_
   ·skip
    refine Rk fun K J => sE rfl (sQ (q_as (v' := .bool (bf_ p)) (aH_ en_19 rfl (fun w hw => fl_ _ p w (SLe.ap hw (SLe.sub Hp sn)))) rfl) rfl ?_)
    rcases bt (bf_ p) with h8 | h8
    ·skip
     refine sB h8 rfl (WL_n rfl (WL_n rfl (WL_n rfl (sE rfl (nl J ?_)))))
     refine J4 _ _ (by repeat first | exact .refl | refine .cons rfl ?_) ⟨_, s0, ?s19, rfl⟩
     case s19 => exact congrArg Value.bool (or_t h8)
    ·skip
     refine sB h8 rfl (sE rfl (sQ (q_as (v' := .int .i64 (((p).length : Nat) : Int)) (aS_ (e := elI) sl_24 rfl (SLe.sub Hp sn)) rfl) rfl (sE rfl (sE rfl (nl J ?_)))))
     refine J4 _ _ (by repeat first | exact .refl | refine .cons rfl ?_) ⟨_, s0, ?s19, rfl⟩
     case s19 => exact congrArg Value.bool (or_f h8 rfl)
   ·skip
    rintro g9 M ⟨hg19, rfl⟩
    simp only [setG, hg19]
    clear hg19
    rcases bt ((bf_ p) || decide (25 < (((p).length : Nat) : Int))) with h10 | h10
    ·skip
     refine W_t h10 rfl (Rs fun K J => sE rfl (nl J (W_ret (aj_ (ret1 rfl (.inr rfl) rfl ?_)))))
     exact (by exact congrArg (fun r : Bool => (.bool r : Value)) (show _ = (aO_ p) from bif_f h4 (bif_t h10 rfl)))
    ·skip
     have ph11 := of_decide_eq_false (Bool.or_eq_false_iff.1 h10).2
     refine W_f h10 rfl (am_ (J3 _ _ ?_))
     refine bD_ [2, 20, 21, 22, 23, 24, 25, 26, 27, 28, 29, 30, 31, 32] (fun g M => (g 2 = .bool (((((p).length : Nat) : Int) == 0) || ((Z.signW (p.getD ((p).length - 1) I0).dec).1 != 0))) ∧ M = []) (fun K5 J5 => ?_) ?_
     ·skip
      refine Rk fun K J => sE rfl (sQ (q_as (v' := .int .i64 (((p).length : Nat) : Int)) (aS_ (e := elI) sl_24 rfl (SLe.sub Hp sn)) rfl) rfl (sE rfl ?_))
      rcases bt ((((p).length : Nat) : Int) == 0) with h13 | h13
      ·skip
       have ph13 := ea_ h13
       refine sB h13 rfl (WL_n rfl (WL_n rfl (WL_n rfl (WL_n rfl (WL_n rfl (WL_n rfl (WL_n rfl (WL_n rfl (sE rfl (sE rfl (nl J ?_)))))))))))
       refine J5 _ _ (by repeat first | exact .refl | refine .cons rfl ?_) ⟨_, s0, ?s2, rfl⟩
       case s2 => exact congrArg Value.bool (or_t h13)
      ·skip
       have ph13 := c9_ h13
       refine sB h13 rfl (sE rfl (sE rfl (sQ (q_as (v' := .int .i64 (((p).length : Nat) : Int)) (aS_ (e := elI) sl_24 rfl (SLe.sub Hp sn)) rfl) rfl (sV (.int .i64 ((((p).length : Nat) : Int) - 1)) rfl (congrArg (Value.int .i64) (wx (by omega) (by omega) (by omega))) (sQ (q_as (v' := .pointer (some (slb (.slice p_p p.length c_p) (((p).length - 1) * 18 + 0)))) (c4_ (e := elI) (l := p) (k := ((p).length - 1)) sl_24 rfl rfl (by omega) (SLe.sub Hp sn) (by first | omega | (simp only [List.length_set, List.length_append, List.length_cons, List.length_nil]; omega))) rfl) rfl ?_)))))
       refine sQ (q_ldG (e := elI) (l := p) (k := ((p).length - 1)) (o := 0) ty_38 rfl (SLe.sub Hp sn) (aA_ I0 (by first | omega | (simp only [List.length_set, List.length_append, List.length_cons, List.length_nil]; omega))) rfl) rfl ?_
       refine sC (.int .i64 ((Z.signW (p.getD ((p).length - 1) I0).dec).1)) en_71 (dT_ (p.getD ((p).length - 1) I0).1 (p.getD ((p).length - 1) I0).2) rfl rfl rfl (sE rfl (sE rfl (sE rfl (nl J ?_))))
       refine J5 _ _ (by repeat first | exact .refl | refine .cons rfl ?_) ⟨_, s0, ?s2, rfl⟩
       case s2 => exact congrArg Value.bool (or_f h13 rfl)
     ·skip
      rintro g14 M ⟨hg2, rfl⟩
      simp only [setG, hg2]
      clear hg2
      refine W_ret (ret1 rfl (.inr rfl) rfl ?_)
      exact (by exact congrArg (fun r : Bool => (.bool r : Value)) (show _ = (aO_ p) from bif_f h4 (bif_f h10 rfl)))

theorem cd_ (vp : Value) (p : (List I)) (d : Int) (b : Int) (w : World) (hp : Slr w elI vp p) (hpre : 0 ≤ d ∧ d ≤ 1000) :
    Calls Tryz.prog 22 [vp, .int .i64 d, .int .i64 b].toArray w (fun e w' => e = .returned (.bool (ah_ p d b)) ∧ Ext w w') := by
 obtain ⟨p_p, c_p, rfl⟩ := hp.form
 refine aU_ (N := 31) Tryz.func22 rfl rfl (by simp) ?_
 obtain ⟨w0, rfl⟩ : ∃ w0, w0 = w := ⟨_, rfl⟩
 have Hp := hp.old
 have hm_p := hp.max
 simp only [initF, Nat.reduceAdd]
 refine Rs fun K J => sE rfl (nl J (Sq fun K1 J1 => ?_))
 refine bD_ [8, 9, 10, 11, 12, 13, 14, 15, 16, 17] (fun g M => (g 17 = .bool (!(aO_ p) || decide ((d + 1) < (((p).length : Nat) : Int)))) ∧ M = []) (fun K2 J2 => ?_) ?_
 ·skip
  refine Rk fun K J => sE rfl (sQ (q_as (v' := .bool (aO_ p)) (aH_ en_36 rfl (fun w hw => fi_ _ p w (SLe.ap hw (SLe.sub Hp sn)))) rfl) rfl (sE rfl ?_))
  rcases bt (aO_ p) with h2 | h2
  ·skip
   refine sB (not_f h2) rfl (sE rfl (sQ (q_as (v' := .int .i64 (((p).length : Nat) : Int)) (aS_ (e := elI) sl_24 rfl (SLe.sub Hp sn)) rfl) rfl (sE rfl (sV (.int .i64 (d + 1)) rfl (congrArg (Value.int .i64) (wx (by omega) (by omega) (by omega))) (sE rfl (sE rfl (nl J ?_)))))))
   refine J2 _ _ (by repeat first | exact .refl | refine .cons rfl ?_) ⟨_, s0, ?s17, rfl⟩
   case s17 => exact congrArg Value.bool (nor_t h2 rfl)
  ·skip
   refine sB (not_t h2) rfl (WL_n rfl (WL_n rfl (WL_n rfl (WL_n rfl (WL_n rfl (sE rfl (nl J ?_)))))))
   refine J2 _ _ (by repeat first | exact .refl | refine .cons rfl ?_) ⟨_, s0, ?s17, rfl⟩
   case s17 => exact congrArg Value.bool (nor_f h2)
 ·skip
  rintro g3 M ⟨hg17, rfl⟩
  simp only [setG, hg17]
  clear hg17
  rcases bt (!(aO_ p) || decide ((d + 1) < (((p).length : Nat) : Int))) with h4 | h4
  ·skip
   refine W_t h4 rfl (Rs fun K J => sE rfl (nl J (W_ret (aj_ (ret1 rfl (.inr rfl) rfl ?_)))))
   exact (by exact congrArg (fun r : Bool => (.bool r : Value)) (show _ = (ah_ p d b) from bif_t h4 rfl))
  ·skip
   have ph5 := of_decide_eq_false (Bool.or_eq_false_iff.1 h4).2
   refine W_f h4 rfl (am_ (J1 _ _ (Sq fun K3 J3 => Rs fun K J => sE rfl (nl J ?_))))
   refine ch_ (fun S M h => J3 S M h) [6, 7, 18, 19, 20, 21, 22, 23, 24, 25, 26, 27, 28, 29, 30] (fun g M => ∃ (i : Nat), (br_ p d b ((p.length + 1)) 0) = .inl i ∧ (g 7 = .int .i64 ((i : Nat) : Int)) ∧ M = []) (fun K_u6 hK_u6 => ?_) ?_
   ·skip
    refine aq_ ?_
    refine aL_ [6, 7, 18, 19, 20, 21, 22, 23, 24, 25, 26, 27, 28, 29, 30] (fun g nn M => ∃ (i : Nat), (br_ p d b nn i) = (br_ p d b ((p.length + 1)) 0) ∧ p.length - i < nn ∧ (i ≤ p.length) ∧ (g 7 = .int .i64 ((i : Nat) : Int)) ∧ M = []) ((p.length + 1)) ?start ?round
    case start => exact ⟨_, s0, 0, rfl, (by first | omega | (simp only [List.length_append, List.length_cons, List.length_nil, List.length_set, List.length_take, and_true, true_and, or_true, true_or, Nat.zero_add] <;> omega)), (by first | omega | (simp only [List.length_append, List.length_cons, List.length_nil, List.length_set, List.length_take, and_true, true_and, or_true, true_or, Nat.zero_add] <;> omega)), rfl, rfl⟩
    case round =>
     rintro nn g M ⟨i, hT0, hq0, hinv0, hg7, rfl⟩
     obtain ⟨k0, rfl⟩ : ∃ m, nn = m + 1 := ⟨nn - 1, by omega⟩
     simp only [setG, hg7]
     clear hg7
     refine Sq fun K8 J8 => Rs fun K J => sE rfl (sE rfl (sQ (q_as (v' := .int .i64 (((p).length : Nat) : Int)) (aS_ (e := elI) sl_24 rfl (SLe.sub Hp sn)) rfl) rfl (sE rfl (nl J ?_))))
     rcases bt (decide (((i : Nat) : Int) < (((p).length : Nat) : Int))) with h11 | h11
     ·skip
      have ph11 := of_decide_eq_true h11
      refine W_t h11 rfl (am_ (J8 _ _ (Sq fun K9 J9 => aq_ (Rs fun K J => sE rfl (sE rfl (sQ (q_as (v' := .pointer (some (slb (.slice p_p p.length c_p) (i * 18 + 0)))) (cp_ (e := elI) (l := p) (k := i) sl_24 rfl rfl (SLe.sub Hp sn) (by first | omega | (simp only [List.length_set, List.length_append, List.length_cons, List.length_nil]; omega))) rfl) rfl ?_))))))
      refine sQ (q_ldG (e := elI) (l := p) (k := i) (o := 0) ty_38 rfl (SLe.sub Hp sn) (aA_ I0 (by first | omega | (simp only [List.length_set, List.length_append, List.length_cons, List.length_nil]; omega))) rfl) rfl ?_
      refine sC (.int .i64 ((Z.bitsW (p.getD i I0).dec).1)) en_75 (fq_ (p.getD i I0).1 (p.getD i I0).2) rfl rfl rfl (sE rfl (sE rfl (nl J ?_)))
      rcases bt (decide (b < (Z.bitsW (p.getD i I0).dec).1)) with h12 | h12
      ·skip
       have ph12 := of_decide_eq_true h12
       refine W_t h12 rfl (Rs fun K J => sE rfl (nl J (W_ret (aX_ (aj_ (aj_ (aX_ (aj_ (aj_ (ret1 rfl (.inr rfl) rfl ?_))))))))))
       exact (by exact congrArg (fun r : Bool => (.bool r : Value)) (show _ = (ah_ p d b) from bif_f h4 ((sm_q rfl (hT0.symm.trans (Eq.symm (bif_t h11 (bif_t h12 rfl))))))))
      ·skip
       have ph12 := of_decide_eq_false h12
       refine W_f h12 rfl (am_ (J9 _ _ (Rk fun K J => sE rfl (sV (.int .i64 (((i + 1) : Nat) : Int)) rfl (congrArg (Value.int .i64) (wx (by omega) (by omega) (by omega))) (sE rfl (nl J (⟨(by repeat first | exact .refl | refine .cons rfl ?_), _, _, s0, (Nat.lt_succ_self _), (i + 1), (by exact (hT0.symm.trans (Eq.symm (bif_t h11 (bif_f h12 rfl)))).symm), (Nat.lt_of_lt_of_le (by first | omega | (simp only [List.length_append, List.length_cons, List.length_nil, List.length_set, List.length_take, and_true, true_and, or_true, true_or, Nat.zero_add] <;> omega)) (Nat.le_of_lt_succ hq0)), (by first | omega | (simp only [List.length_append, List.length_cons, List.length_nil, List.length_set, List.length_take, and_true, true_and, or_true, true_or, Nat.zero_add] <;> omega)), rfl, rfl⟩)))))))
     ·skip
      have ph11 := of_decide_eq_false h11
      refine W_f h11 rfl (bw_ (ap_ (ap_ (as_ (hK_u6 _ _ (by repeat first | exact .refl | refine .cons rfl ?_) ⟨_, s0, i, (by exact hT0.symm.trans (Eq.symm (bif_f h11 rfl))), rfl, rfl⟩)))))
   ·skip
    rintro g M ⟨i, hCu6, hg7, rfl⟩
    simp only [setG, hg7]
    clear hg7
    refine Rs fun K J => sE rfl (nl J (W_ret (ret1 rfl (.inr rfl) rfl ?_)))
    exact (by exact congrArg (fun r : Bool => (.bool r : Value)) (show _ = (ah_ p d b) from bif_f h4 (trs (Eq.symm (smS hCu6)) rfl)))

end Go.Proofs.YtjdfogfmeibkgaaGreat

