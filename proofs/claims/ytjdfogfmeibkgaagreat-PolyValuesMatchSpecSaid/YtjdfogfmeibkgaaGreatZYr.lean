/- Walks: what these functions return. -/
import Derived.Test.YtjdfogfmeibkgaaGreatZGE
import Derived.Test.YtjdfogfmeibkgaaGreatZFp
import Derived.Test.YtjdfogfmeibkgaaGreatZGa
import Derived.Test.YtjdfogfmeibkgaaGreatZSa
import Derived.Test.YtjdfogfmeibkgaaGreatZSb
import Derived.Test.YtjdfogfmeibkgaaGreatZSg
import Derived.Test.YtjdfogfmeibkgaaGreatZSh
import Derived.Test.YtjdfogfmeibkgaaGreatZPb
import Derived.Test.YtjdfogfmeibkgaaGreatZYl
namespace Go.Proofs.YtjdfogfmeibkgaaGreat
open Go.Kn Go.Num
set_option linter.unusedVariables false
set_option linter.unusedSimpArgs false
set_option maxRecDepth 20000
set_option maxHeartbeats 8000000
theorem cP_ (a : I) :
    Ret Tryz.prog 69 [AV [pI a]] (.bool (aN_ a)) := by
 refine aD_ (N := 10) Tryz.func69 rfl rfl (by simp) (fun w0 => ?_)
 simp only [initF, Nat.reduceAdd]
 refine Rs fun K J => WL_r rfl (b5_ rfl rfl (fun b1 hb1 => sE rfl (nl J ?_)))
 refine bu_ [2, 3, 4, 5, 6, 7, 8, 9] (fun g M => (g 2 = .bool (!a.1.bad && a.1.valid)) ∧ M = [⟨b1, 38, flat [pI a]⟩]) (fun K1 J1 => ?_) ?_
 ·skip
  refine Rk fun K J => sQ (qF eM_ rfl rfl) rfl (sQ (qC ty_4 rfl m0 rfl) rfl (sE rfl ?_))
  rcases bt a.1.bad with h3 | h3
  ·skip
   refine sB (not_f h3) rfl (WL_n rfl (WL_n rfl (sE rfl (sE rfl (nl J ?_)))))
   refine J1 _ _ (by repeat first | exact .refl | refine .cons rfl ?_) ⟨_, s0, ?s2, rfl⟩
   case s2 => exact congrArg Value.bool (m7_ h3)
  ·skip
   refine sB (not_t h3) rfl (sQ (qL ty_38 rfl m0 rfl) rfl (sC (.bool a.1.valid) pn_ (ev_ a.1 a.2) rfl rfl rfl (sE rfl (sE rfl (nl J ?_)))))
   refine J1 _ _ (by repeat first | exact .refl | refine .cons rfl ?_) ⟨_, s0, ?s2, rfl⟩
   case s2 => exact congrArg Value.bool (mJ_ h3 rfl)
 ·skip
  rintro g4 M ⟨hg2, rfl⟩
  simp only [setG, hg2]
  clear hg2
  refine W_ret (ret1 rfl (.inr rfl) rfl ?_)
  exact (by rfl)

theorem co_  (w : World)  :
    Calls Tryz.prog 70 [].toArray w (fun e w' => ∃ v, e = .returned (v) ∧ Ext w w' ∧ Slo w.heap.size w' 38 elI v F_skewbackref08_bad) := by
 refine bc_ (n := 3) (fun v => v) Tryz.func70 rfl rfl (by simp) ?_
 obtain ⟨w0, rfl⟩ : ∃ w0, w0 = w := ⟨_, rfl⟩
 simp only [initF, Nat.reduceAdd]
 obtain ⟨q0, hq0⟩ := nm ((E Z.bad) : I)
 refine Rs fun K J => sE rfl (nl J (Rs fun K J => sC (AV [pI q0]) en_99 aX_ rfl rfl (by rw [hq0]; first | done | rfl) (WL_r rfl (aC_ [[pI q0]] [pI q0] us_24 z_38 sz_38 rfl (by decide) rfl rfl ⟨rfl, rfl, rfl, trivial⟩ rfl (fun b1 hb1 => sE rfl (nl J (W_ret (ret1 rfl (.inr rfl) rfl ?_))))))))
 have hE : ([q0] : (List I)) = F_skewbackref08_bad := by subst hq0; exact rfl
 rw [← hE]
 exact ⟨_, rfl, ⟨_, (sk sn), OwnG.lit (e := elI) (l := [q0]) (qs := [pI q0]) hb1 rfl (Nat.le_of_ble_eq_true rfl) rfl⟩⟩

theorem cg_ (vl : Value) (l : (List I)) (w : World) (hl : Slr w elI vl l) (hpre : l.length ≤ 200) :
    Calls Tryz.prog 16 [vl].toArray w (fun e w' => ∃ v, e = .returned (v) ∧ Ext w w' ∧ Slo w.heap.size w' 38 elI v (ae_ l)) := by
 obtain ⟨p_l, c_l, rfl⟩ := hl.form
 refine bc_ (n := 45) (fun v => v) Tryz.func16 rfl rfl (by simp) ?_
 obtain ⟨w0, rfl⟩ : ∃ w0, w0 = w := ⟨_, rfl⟩
 have Hl := hl.old
 have hm_l := hl.max
 simp only [initF, Nat.reduceAdd]
 refine Rs fun K J => sE rfl (nl J (Rs fun K J => sE rfl (nl J (Sq fun K1 J1 => Rs fun K J => sE rfl (nl J ?_)))))
 refine cu_ (fun S M h => J1 S M h) [2, 3, 4, 5, 8, 9, 10, 11, 12, 13, 14, 15, 16, 17, 18, 19, 20, 21, 22, 23, 24, 25, 26, 27, 28] (fun g M => ∃ (last : Int) (i : Nat), (bt_ l ((l.length + 1)) (-1) 0) = .inl (last, i) ∧ (last < (l.length : Int) ∧ -1 ≤ last) ∧ (g 3 = .int .i64 last ∧ g 4 = .int .i64 ((i : Nat) : Int)) ∧ M = []) (fun K_u1 hK_u1 => ?_) ?_
 ·skip
  refine am_ ?_
  refine aB_ [2, 3, 4, 5, 8, 9, 10, 11, 12, 13, 14, 15, 16, 17, 18, 19, 20, 21, 22, 23, 24, 25, 26, 27, 28] (fun g nn M => ∃ (last : Int) (i : Nat), (bt_ l nn last i) = (bt_ l ((l.length + 1)) (-1) 0) ∧ l.length - i < nn ∧ (i ≤ l.length ∧ last < (i : Int) ∧ -1 ≤ last) ∧ (g 3 = .int .i64 last ∧ g 4 = .int .i64 ((i : Nat) : Int)) ∧ M = []) ((l.length + 1)) ?start ?round
  case start => exact ⟨_, s0, (-1), 0, rfl, (by first | omega | (simp only [List.length_append, List.length_cons, List.length_nil, List.length_set, List.length_take, and_true, true_and, or_true, true_or, Nat.zero_add] <;> omega)), (by first | omega | (simp only [List.length_append, List.length_cons, List.length_nil, List.length_set, List.length_take, and_true, true_and, or_true, true_or, Nat.zero_add] <;> omega)), ⟨rfl, rfl⟩, rfl⟩
  case round =>
   rintro nn g M ⟨last, i, hT0, hq0, hinv0, ⟨hg3, hg4⟩, rfl⟩
   obtain ⟨k0, rfl⟩ : ∃ m, nn = m + 1 := ⟨nn - 1, by omega⟩
   simp only [setG, hg3, hg4]
   clear hg3 hg4
   refine Sq fun K8 J8 => Rs fun K J => sE rfl (sE rfl (sQ (q_as (v' := .int .i64 (((l).length : Nat) : Int)) (a0_ (e := elI) sl_22 rfl (SLe.sub Hl sn)) rfl) rfl (sE rfl (nl J ?_))))
   rcases bt (decide (((i : Nat) : Int) < (((l).length : Nat) : Int))) with h16 | h16
   ·skip
    have ph16 := of_decide_eq_true h16
    refine W_t h16 rfl (aj_ (J8 _ _ (Sq fun K9 J9 => am_ (Rs fun K J => sE rfl (sE rfl (sQ (q_as (v' := .pointer (some (slb (.slice p_l l.length c_l) (i * 18 + 0)))) (cW_ (e := elI) (l := l) (k := i) sl_22 rfl rfl (SLe.sub Hl sn) (by first | omega | (simp only [List.length_set, List.length_append, List.length_cons, List.length_nil]; omega))) rfl) rfl ?_))))))
    refine sQ (q_ldG (e := elI) (l := l) (k := i) (o := 0) ty_38 rfl (SLe.sub Hl sn) (aE_ I0 (by first | omega | (simp only [List.length_set, List.length_append, List.length_cons, List.length_nil]; omega))) rfl) rfl ?_
    refine sQ (q_ret en_69 (cP_ (l.getD i I0)) rfl) rfl (sE rfl (nl J (Sq fun K10 J10 => Rs fun K J => sE rfl (sE rfl (nl J ?_)))))
    rcases bt (aN_ (l.getD i I0)) with h17 | h17
    ·skip
     refine W_f (not_f h17) rfl (aj_ (J10 _ _ (Rs fun K J => sE rfl (sE rfl (sQ (q_as (v' := .pointer (some (slb (.slice p_l l.length c_l) (i * 18 + 0)))) (cW_ (e := elI) (l := l) (k := i) sl_22 rfl rfl (SLe.sub Hl sn) (by first | omega | (simp only [List.length_set, List.length_append, List.length_cons, List.length_nil]; omega))) rfl) rfl ?_)))))
     refine sQ (q_ldG (e := elI) (l := l) (k := i) (o := 0) ty_38 rfl (SLe.sub Hl sn) (aE_ I0 (by first | omega | (simp only [List.length_set, List.length_append, List.length_cons, List.length_nil]; omega))) rfl) rfl ?_
     refine sC (.int .i64 ((Z.signW (l.getD i I0).dec).1)) en_71 (b0_ (l.getD i I0).1 (l.getD i I0).2) rfl rfl rfl (sE rfl (nl J ?_))
     rcases bt ((Z.signW (l.getD i I0).dec).1 != 0) with h18 | h18
     ·skip
      refine W_t h18 rfl (Rk fun K J => sE rfl (sE rfl (nl J (J9 _ _ (Rk fun K J => sE rfl (sV (.int .i64 (((i + 1) : Nat) : Int)) rfl (congrArg (Value.int .i64) (wx (by omega) (by omega) (by omega))) (sE rfl (nl J (⟨(by repeat first | exact .refl | refine .cons rfl ?_), _, _, s0, (Nat.lt_succ_self _), ((i : Nat) : Int), (i + 1), (by exact (hT0.symm.trans (Eq.symm (bif_t h16 (bif_t h17 (bif_t h18 rfl))))).symm), (Nat.lt_of_lt_of_le (by first | omega | (simp only [List.length_append, List.length_cons, List.length_nil, List.length_set, List.length_take, and_true, true_and, or_true, true_or, Nat.zero_add] <;> omega)) (Nat.le_of_lt_succ hq0)), (by first | omega | (simp only [List.length_append, List.length_cons, List.length_nil, List.length_set, List.length_take, and_true, true_and, or_true, true_or, Nat.zero_add] <;> omega)), ⟨rfl, rfl⟩, rfl⟩)))))))))
     ·skip
      refine W_f h18 rfl (aj_ (J9 _ _ (Rk fun K J => sE rfl (sV (.int .i64 (((i + 1) : Nat) : Int)) rfl (congrArg (Value.int .i64) (wx (by omega) (by omega) (by omega))) (sE rfl (nl J (⟨(by repeat first | exact .refl | refine .cons rfl ?_), _, _, s0, (Nat.lt_succ_self _), last, (i + 1), (by exact (hT0.symm.trans (Eq.symm (bif_t h16 (bif_t h17 (bif_f h18 rfl))))).symm), (Nat.lt_of_lt_of_le (by first | omega | (simp only [List.length_append, List.length_cons, List.length_nil, List.length_set, List.length_take, and_true, true_and, or_true, true_or, Nat.zero_add] <;> omega)) (Nat.le_of_lt_succ hq0)), (by first | omega | (simp only [List.length_append, List.length_cons, List.length_nil, List.length_set, List.length_take, and_true, true_and, or_true, true_or, Nat.zero_add] <;> omega)), ⟨rfl, rfl⟩, rfl⟩)))))))
    ·skip
     refine W_t (not_t h17) rfl (Rs fun K J => WL_r rfl (aq_ (E := 38) (e := elI) (l := F_skewbackref08_bad) (fun v => v) en_70 rfl (fun w hw => co_  w) (fun p19 c20 L21 hF22 => sE rfl (nl J (W_ret (ah_ (be_ (ah_ (ah_ (be_ (ah_ (ah_ (ret1 rfl (.inr rfl) rfl ?_)))))))))))))
     have hE : (F_skewbackref08_bad : (List I)) = (ae_ l) := by exact (sm_q rfl (hT0.symm.trans (Eq.symm (bif_t h16 (bif_f h17 rfl)))))
     rw [← hE]
     exact ⟨_, rfl, ⟨L21, (List.sublist_append_left _ _), hF22⟩⟩
   ·skip
    have ph16 := of_decide_eq_false h16
    refine W_f h16 rfl (bh_ (al_ (al_ (ao_ (hK_u1 _ _ (by repeat first | exact .refl | refine .cons rfl ?_) ⟨_, s0, last, i, (by exact hT0.symm.trans (Eq.symm (bif_f h16 rfl))), (by first | omega | (simp only [List.length_append, List.length_cons, List.length_nil, List.length_set, List.length_take, and_true, true_and, or_true, true_or, Nat.zero_add] <;> omega)), ⟨rfl, rfl⟩, rfl⟩)))))
 ·skip
  rintro g M ⟨last, i, hCu1, hPu1, ⟨hg3, hg4⟩, rfl⟩
  simp only [setG, hg3, hg4]
  clear hg3 hg4
  refine Sq fun K11 J11 => Rs fun K J => sE rfl (sE rfl (nl J ?_))
  rcases bt (decide (24 < last)) with h23 | h23
  ·skip
   have ph23 := of_decide_eq_true h23
   refine W_t h23 rfl (Rs fun K J => WL_r rfl (aq_ (E := 38) (e := elI) (l := F_skewbackref08_bad) (fun v => v) en_70 rfl (fun w hw => co_  w) (fun p24 c25 L26 hF27 => sE rfl (nl J (W_ret (ah_ (ret1 rfl (.inr rfl) rfl ?_)))))))
   have hE : (F_skewbackref08_bad : (List I)) = (ae_ l) := by exact trs (Eq.symm (smS hCu1)) (bif_t h23 rfl)
   rw [← hE]
   exact ⟨_, rfl, ⟨L26, (List.sublist_append_left _ _), hF27⟩⟩
  ·skip
   have ph23 := of_decide_eq_false h23
   refine W_f h23 rfl (aj_ (J11 _ _ (Rs fun K J => sE rfl (nl J (Sq fun K12 J12 => Rs fun K J => sE rfl (nl J ?_))))))
   refine cu_ (fun S M h => J12 S M h) [6, 7, 32, 33, 34, 35, 36, 37, 38, 39, 40, 41, 42, 43] (fun g M => ∃ (out : List I) (j : Nat) (p_out : Option Addr) (c_out : Nat) (L_out : List Blk), (bN_ l last i (((last + 1).toNat + 1)) ([] : List I) 0) = (out, j) ∧ (g 6 = .slice p_out out.length c_out ∧ g 7 = .int .i64 ((j : Nat) : Int) ∧ OwnG w0 38 elI (.slice p_out out.length c_out) out L_out) ∧ M = (L_out ++ [])) (fun K_u28 hK_u28 => ?_) ?_
   ·skip
    refine am_ ?_
    refine aB_ [6, 7, 32, 33, 34, 35, 36, 37, 38, 39, 40, 41, 42, 43] (fun g nn M => ∃ (out : List I) (j : Nat) (p_out : Option Addr) (c_out : Nat) (L_out : List Blk), (bN_ l last i nn out j) = (bN_ l last i (((last + 1).toNat + 1)) ([] : List I) 0) ∧ (last + 1).toNat - j < nn ∧ ((j : Int) ≤ last + 1 ∧ out.length = j) ∧ (g 6 = .slice p_out out.length c_out ∧ g 7 = .int .i64 ((j : Nat) : Int) ∧ OwnG w0 38 elI (.slice p_out out.length c_out) out L_out) ∧ M = (L_out ++ [])) (((last + 1).toNat + 1)) ?start ?round
    case start => exact ⟨_, s0, ([] : List I), 0, none, 0, [], rfl, (by first | omega | (simp only [List.length_append, List.length_cons, List.length_nil, List.length_set, List.length_take, and_true, true_and, or_true, true_or, Nat.zero_add] <;> omega)), (by first | omega | (simp only [List.length_append, List.length_cons, List.length_nil, List.length_set, List.length_take, and_true, true_and, or_true, true_or, Nat.zero_add] <;> omega)), ⟨rfl, rfl, OwnG.nil⟩, rfl⟩
    case round =>
     rintro nn g M ⟨out, j, p_out, c_out, L_out, hT1, hq1, hinv1, ⟨hg6, hg7, hO_out⟩, rfl⟩
     obtain ⟨k1, rfl⟩ : ∃ m, nn = m + 1 := ⟨nn - 1, by omega⟩
     simp only [setG, hg6, hg7]
     clear hg6 hg7
     have hm_out := OwnG.max hO_out
     refine Sq fun K15 J15 => Rs fun K J => sE rfl (sE rfl (sE rfl (nl J ?_)))
     rcases bt (decide (((j : Nat) : Int) ≤ last)) with h35 | h35
     ·skip
      have ph35 := of_decide_eq_true h35
      refine W_t h35 rfl (aj_ (J15 _ _ (Sq fun K16 J16 => am_ (Rk fun K J => sE rfl (sE rfl (sE rfl (sQ (q_as (v' := .pointer (some (slb (.slice p_l l.length c_l) (j * 18 + 0)))) (cW_ (e := elI) (l := l) (k := j) sl_22 rfl rfl (SLe.sub Hl sn) (by first | omega | (simp only [List.length_set, List.length_append, List.length_cons, List.length_nil]; omega))) rfl) rfl ?_)))))))
      refine sQ (q_ldG (e := elI) (l := l) (k := j) (o := 0) ty_38 rfl (SLe.sub Hl sn) (aE_ I0 (by first | omega | (simp only [List.length_set, List.length_append, List.length_cons, List.length_nil]; omega))) rfl) rfl ?_
      refine WL_r rfl (aC_ [[pI (l.getD j I0)]] [pI (l.getD j I0)] us_24 z_38 sz_38 rfl (by decide) rfl rfl ⟨rfl, rfl, rfl, trivial⟩ rfl (fun b36 hb36 => WL_r rfl (dm_ (e := elI) (l := out) (m := [(l.getD j I0)]) 68 us_24 (by kernel_rfl) (by decide) rfl rfl hO_out (SLe.lit (e := elI) (l := [(l.getD j I0)]) m0 rfl (Nat.le_of_ble_eq_true rfl) rfl) (fq_s fq_l) (by simp only [List.length_append, List.length_cons, List.length_nil]; omega) (by decide) (fun p37 c38 L39 hO40 => ?_))))
      refine sE rfl (nl J (J16 _ _ (Rk fun K J => sE rfl (sV (.int .i64 (((j + 1) : Nat) : Int)) rfl (congrArg (Value.int .i64) (wx (by omega) (by omega) (by omega))) (sE rfl (nl J (⟨(by repeat first | exact .refl | refine .cons rfl ?_), _, _, (sA (sd (s0))), (Nat.lt_succ_self _), (out ++ [(l.getD j I0)]), (j + 1), p37, c38, L39, (by exact (hT1.symm.trans (Eq.symm (bif_t h35 rfl))).symm), (Nat.lt_of_lt_of_le (by first | omega | (simp only [List.length_append, List.length_cons, List.length_nil, List.length_set, List.length_take, and_true, true_and, or_true, true_or, Nat.zero_add] <;> omega)) (Nat.le_of_lt_succ hq1)), (by first | omega | (simp only [List.length_append, List.length_cons, List.length_nil, List.length_set, List.length_take, and_true, true_and, or_true, true_or, Nat.zero_add] <;> omega)), ⟨rfl, rfl, hO40⟩, rfl⟩)))))))
     ·skip
      have ph35 := of_decide_eq_false h35
      refine W_f h35 rfl (bh_ (al_ (al_ (ao_ (hK_u28 _ _ (by repeat first | exact .refl | refine .cons rfl ?_) ⟨_, s0, out, j, p_out, c_out, L_out, (by exact hT1.symm.trans (Eq.symm (bif_f h35 rfl))), ⟨rfl, rfl, hO_out⟩, rfl⟩)))))
   ·skip
    rintro g M ⟨out, j, p_out, c_out, L_out, hCu28, ⟨hg6, hg7, hO_out⟩, rfl⟩
    simp only [setG, hg6, hg7]
    clear hg6 hg7
    have hm_out := OwnG.max hO_out
    refine Rs fun K J => sE rfl (sE rfl (nl J (W_ret (ret1 rfl (.inr rfl) rfl ?_))))
    have hE : (out : (List I)) = (ae_ l) := by exact trs (Eq.symm (smS hCu1)) (bif_f h23 (trs (Eq.symm (apS hCu28)) rfl))
    rw [← hE]
    exact ⟨_, rfl, ⟨L_out, (List.sublist_append_left _ _), hO_out⟩⟩

theorem bx_ (vl : Value) (l : (List W)) (w : World) (hl : Slr w elW vl l) (hpre : l.length ≤ 200) :
    Calls Tryz.prog 64 [vl].toArray w (fun e w' => ∃ v, e = .returned (v) ∧ Ext w w' ∧ Slo w.heap.size w' 38 elI v (aH_ l)) := by
 obtain ⟨p_l, c_l, rfl⟩ := hl.form
 refine bc_ (n := 21) (fun v => v) Tryz.func64 rfl rfl (by simp) ?_
 obtain ⟨w0, rfl⟩ : ∃ w0, w0 = w := ⟨_, rfl⟩
 have Hl := hl.old
 have hm_l := hl.max
 simp only [initF, Nat.reduceAdd]
 refine Rs fun K J => sE rfl (nl J (Rs fun K J => sE rfl (nl J (Sq fun K1 J1 => Rs fun K J => sE rfl (nl J ?_)))))
 refine cu_ (fun S M h => J1 S M h) [3, 4, 5, 6, 7, 8, 9, 10, 11, 12, 13, 14, 15, 16, 17, 18] (fun g M => ∃ (out : List I) (i : Nat) (p_out : Option Addr) (c_out : Nat) (L_out : List Blk), (cE_ l ((l.length + 1)) ([] : List I) 0) = (out, i) ∧ (out.length ≤ 200) ∧ (g 3 = .slice p_out out.length c_out ∧ g 4 = .int .i64 ((i : Nat) : Int) ∧ OwnG w0 38 elI (.slice p_out out.length c_out) out L_out) ∧ M = (L_out ++ [])) (fun K_u1 hK_u1 => ?_) ?_
 ·skip
  refine am_ ?_
  refine aB_ [3, 4, 5, 6, 7, 8, 9, 10, 11, 12, 13, 14, 15, 16, 17, 18] (fun g nn M => ∃ (out : List I) (i : Nat) (p_out : Option Addr) (c_out : Nat) (L_out : List Blk), (cE_ l nn out i) = (cE_ l ((l.length + 1)) ([] : List I) 0) ∧ l.length - i < nn ∧ (i ≤ l.length ∧ out.length = i) ∧ (g 3 = .slice p_out out.length c_out ∧ g 4 = .int .i64 ((i : Nat) : Int) ∧ OwnG w0 38 elI (.slice p_out out.length c_out) out L_out) ∧ M = (L_out ++ [])) ((l.length + 1)) ?start ?round
  case start => exact ⟨_, s0, ([] : List I), 0, none, 0, [], rfl, (by first | omega | (simp only [List.length_append, List.length_cons, List.length_nil, List.length_set, List.length_take, and_true, true_and, or_true, true_or, Nat.zero_add] <;> omega)), (by first | omega | (simp only [List.length_append, List.length_cons, List.length_nil, List.length_set, List.length_take, and_true, true_and, or_true, true_or, Nat.zero_add] <;> omega)), ⟨rfl, rfl, OwnG.nil⟩, rfl⟩
  case round =>
   rintro nn g M ⟨out, i, p_out, c_out, L_out, hT0, hq0, hinv0, ⟨hg3, hg4, hO_out⟩, rfl⟩
   obtain ⟨k0, rfl⟩ : ∃ m, nn = m + 1 := ⟨nn - 1, by omega⟩
   simp only [setG, hg3, hg4]
   clear hg3 hg4
   have hm_out := OwnG.max hO_out
   refine Sq fun K4 J4 => Rs fun K J => sE rfl (sE rfl (sQ (q_as (v' := .int .i64 (((l).length : Nat) : Int)) (a0_ (e := elW) sl_70 rfl (SLe.sub Hl sn)) rfl) rfl (sE rfl (nl J ?_))))
   rcases bt (decide (((i : Nat) : Int) < (((l).length : Nat) : Int))) with h8 | h8
   ·skip
    have ph8 := of_decide_eq_true h8
    refine W_t h8 rfl (aj_ (J4 _ _ (Sq fun K5 J5 => am_ (Rk fun K J => sE rfl (sE rfl (sE rfl (sQ (q_as (v' := .pointer (some (slb (.slice p_l l.length c_l) (i * 1 + 0)))) (cW_ (e := elW) (l := l) (k := i) sl_70 rfl rfl (SLe.sub Hl sn) (by first | omega | (simp only [List.length_set, List.length_append, List.length_cons, List.length_nil]; omega))) rfl) rfl ?_)))))))
    refine sQ (kA_ (u := .int .i64 ((l.getD i W.z).1)) (e := elW) (l := l) (k := i) (o := 0) ty_3 rfl (SLe.sub Hl sn) (aE_ W.z (by first | omega | (simp only [List.length_set, List.length_append, List.length_cons, List.length_nil]; omega))) rfl) rfl ?_
    refine sC (AV [pI (E (Z.of (l.getD i W.z).1))]) en_81 (b1_ (l.getD i W.z).1 (l.getD i W.z).2) rfl rfl rfl (WL_r rfl (aC_ [[pI (E (Z.of (l.getD i W.z).1))]] [pI (E (Z.of (l.getD i W.z).1))] us_22 z_38 sz_38 rfl (by decide) rfl rfl ⟨rfl, rfl, rfl, trivial⟩ rfl (fun b9 hb9 => WL_r rfl (dm_ (e := elI) (l := out) (m := [(E (Z.of (l.getD i W.z).1))]) 68 us_22 (by kernel_rfl) (by decide) rfl rfl hO_out (SLe.lit (e := elI) (l := [(E (Z.of (l.getD i W.z).1))]) m0 rfl (Nat.le_of_ble_eq_true rfl) rfl) (fq_s fq_l) (by simp only [List.length_append, List.length_cons, List.length_nil]; omega) (by decide) (fun p10 c11 L12 hO13 => ?_)))))
    refine sE rfl (nl J (J5 _ _ (Rk fun K J => sE rfl (sV (.int .i64 (((i + 1) : Nat) : Int)) rfl (congrArg (Value.int .i64) (wx (by omega) (by omega) (by omega))) (sE rfl (nl J (⟨(by repeat first | exact .refl | refine .cons rfl ?_), _, _, (sA (sd (s0))), (Nat.lt_succ_self _), (out ++ [(E (Z.of (l.getD i W.z).1))]), (i + 1), p10, c11, L12, (by exact (hT0.symm.trans (Eq.symm (bif_t h8 rfl))).symm), (Nat.lt_of_lt_of_le (by first | omega | (simp only [List.length_append, List.length_cons, List.length_nil, List.length_set, List.length_take, and_true, true_and, or_true, true_or, Nat.zero_add] <;> omega)) (Nat.le_of_lt_succ hq0)), (by first | omega | (simp only [List.length_append, List.length_cons, List.length_nil, List.length_set, List.length_take, and_true, true_and, or_true, true_or, Nat.zero_add] <;> omega)), ⟨rfl, rfl, hO13⟩, rfl⟩)))))))
   ·skip
    have ph8 := of_decide_eq_false h8
    refine W_f h8 rfl (bh_ (al_ (al_ (ao_ (hK_u1 _ _ (by repeat first | exact .refl | refine .cons rfl ?_) ⟨_, s0, out, i, p_out, c_out, L_out, (by exact hT0.symm.trans (Eq.symm (bif_f h8 rfl))), (by first | omega | (simp only [List.length_append, List.length_cons, List.length_nil, List.length_set, List.length_take, and_true, true_and, or_true, true_or, Nat.zero_add] <;> omega)), ⟨rfl, rfl, hO_out⟩, rfl⟩)))))
 ·skip
  rintro g M ⟨out, i, p_out, c_out, L_out, hCu1, hPu1, ⟨hg3, hg4, hO_out⟩, rfl⟩
  simp only [setG, hg3, hg4]
  clear hg3 hg4
  have hm_out := OwnG.max hO_out
  refine Rs fun K J => sE rfl (WL_r rfl (aq_ (E := 38) (e := elI) (l := (ae_ out)) (fun v => v) en_16 rfl (fun w hw => cg_ _ out w (SLe.ap hw (SLfe.sle (OwnG.slfe hO_out (List.sublist_append_left _ _)))) (by first | omega | (simp only [List.length_cons, List.length_nil, and_true, true_and] <;> omega) | simp)) (fun p14 c15 L16 hF17 => ?_)))
  have hb18 := (ci_ out)
  refine sE rfl (nl J (W_ret (ret1 rfl (.inr rfl) rfl ?_)))
  have hE : ((ae_ out) : (List I)) = (aH_ l) := by exact (by unfold aH_; exact trs (Eq.symm (apS hCu1)) rfl)
  rw [← hE]
  exact ⟨_, rfl, ⟨L16, (List.sublist_append_left _ _), hF17⟩⟩

theorem aQ_ (vp : Value) (p : (List I)) (w : World) (hp : Slr w elI vp p) :
    Calls Tryz.prog 19 [vp].toArray w (fun e w' => e = .returned (.bool (ab_ p)) ∧ Ext w w') := by
 obtain ⟨p_p, c_p, rfl⟩ := hp.form
 refine aF_ (N := 18) Tryz.func19 rfl rfl (by simp) ?_
 obtain ⟨w0, rfl⟩ : ∃ w0, w0 = w := ⟨_, rfl⟩
 have Hp := hp.old
 have hm_p := hp.max
 simp only [initF, Nat.reduceAdd]
 refine Rs fun K J => sE rfl (nl J (Sq fun K1 J1 => Rs fun K J => sE rfl (nl J ?_)))
 refine cu_ (fun S M h => J1 S M h) [2, 3, 4, 5, 6, 7, 8, 9, 10, 11, 12, 13, 14, 15, 16, 17] (fun g M => ∃ (i : Nat), (bl_ p ((p.length + 1)) 0) = .inl i ∧ (g 3 = .int .i64 ((i : Nat) : Int)) ∧ M = []) (fun K_u1 hK_u1 => ?_) ?_
 ·skip
  refine am_ ?_
  refine aB_ [2, 3, 4, 5, 6, 7, 8, 9, 10, 11, 12, 13, 14, 15, 16, 17] (fun g nn M => ∃ (i : Nat), (bl_ p nn i) = (bl_ p ((p.length + 1)) 0) ∧ p.length - i < nn ∧ (i ≤ p.length) ∧ (g 3 = .int .i64 ((i : Nat) : Int)) ∧ M = []) ((p.length + 1)) ?start ?round
  case start => exact ⟨_, s0, 0, rfl, (by first | omega | (simp only [List.length_append, List.length_cons, List.length_nil, List.length_set, List.length_take, and_true, true_and, or_true, true_or, Nat.zero_add] <;> omega)), (by first | omega | (simp only [List.length_append, List.length_cons, List.length_nil, List.length_set, List.length_take, and_true, true_and, or_true, true_or, Nat.zero_add] <;> omega)), rfl, rfl⟩
  case round =>
   rintro nn g M ⟨i, hT0, hq0, hinv0, hg3, rfl⟩
   obtain ⟨k0, rfl⟩ : ∃ m, nn = m + 1 := ⟨nn - 1, by omega⟩
   simp only [setG, hg3]
   clear hg3
   refine Sq fun K6 J6 => Rs fun K J => sE rfl (sE rfl (sQ (q_as (v' := .int .i64 (((p).length : Nat) : Int)) (a0_ (e := elI) sl_24 rfl (SLe.sub Hp sn)) rfl) rfl (sE rfl (nl J ?_))))
   rcases bt (decide (((i : Nat) : Int) < (((p).length : Nat) : Int))) with h6 | h6
   ·skip
    have ph6 := of_decide_eq_true h6
    refine W_t h6 rfl (aj_ (J6 _ _ (Sq fun K7 J7 => am_ (Rs fun K J => sE rfl (sE rfl (sQ (q_as (v' := .pointer (some (slb (.slice p_p p.length c_p) (i * 18 + 0)))) (cW_ (e := elI) (l := p) (k := i) sl_24 rfl rfl (SLe.sub Hp sn) (by first | omega | (simp only [List.length_set, List.length_append, List.length_cons, List.length_nil]; omega))) rfl) rfl ?_))))))
    refine sQ (q_ldG (e := elI) (l := p) (k := i) (o := 0) ty_38 rfl (SLe.sub Hp sn) (aE_ I0 (by first | omega | (simp only [List.length_set, List.length_append, List.length_cons, List.length_nil]; omega))) rfl) rfl ?_
    refine sQ (q_ret en_69 (cP_ (p.getD i I0)) rfl) rfl (sE rfl (nl J (Rs fun K J => sE rfl (sE rfl (nl J ?_)))))
    rcases bt (aN_ (p.getD i I0)) with h7 | h7
    ·skip
     refine W_f (not_f h7) rfl (aj_ (J7 _ _ (Rk fun K J => sE rfl (sV (.int .i64 (((i + 1) : Nat) : Int)) rfl (congrArg (Value.int .i64) (wx (by omega) (by omega) (by omega))) (sE rfl (nl J (⟨(by repeat first | exact .refl | refine .cons rfl ?_), _, _, s0, (Nat.lt_succ_self _), (i + 1), (by exact (hT0.symm.trans (Eq.symm (bif_t h6 (bif_t h7 rfl)))).symm), (Nat.lt_of_lt_of_le (by first | omega | (simp only [List.length_append, List.length_cons, List.length_nil, List.length_set, List.length_take, and_true, true_and, or_true, true_or, Nat.zero_add] <;> omega)) (Nat.le_of_lt_succ hq0)), (by first | omega | (simp only [List.length_append, List.length_cons, List.length_nil, List.length_set, List.length_take, and_true, true_and, or_true, true_or, Nat.zero_add] <;> omega)), rfl, rfl⟩)))))))
    ·skip
     refine W_t (not_t h7) rfl (Rs fun K J => sE rfl (nl J (W_ret (be_ (ah_ (ah_ (be_ (ah_ (ah_ (ret1 rfl (.inr rfl) rfl ?_))))))))))
     exact (by exact congrArg (fun r : Bool => (.bool r : Value)) (show _ = (ab_ p) from (sm_q rfl (hT0.symm.trans (Eq.symm (bif_t h6 (bif_f h7 rfl)))))))
   ·skip
    have ph6 := of_decide_eq_false h6
    refine W_f h6 rfl (bh_ (al_ (al_ (ao_ (hK_u1 _ _ (by repeat first | exact .refl | refine .cons rfl ?_) ⟨_, s0, i, (by exact hT0.symm.trans (Eq.symm (bif_f h6 rfl))), rfl, rfl⟩)))))
 ·skip
  rintro g M ⟨i, hCu1, hg3, rfl⟩
  simp only [setG, hg3]
  clear hg3
  refine Rs fun K J => sE rfl (nl J (W_ret (ret1 rfl (.inr rfl) rfl ?_)))
  exact (by exact congrArg (fun r : Bool => (.bool r : Value)) (show _ = (ab_ p) from trs (Eq.symm (smS hCu1)) rfl))

theorem fP_ (vp : Value) (p : (List I)) (w : World) (hp : Slr w elI vp p) :
    Calls Tryz.prog 21 [vp].toArray w (fun e w' => e = .returned (.int .i64 ((bZ_ p).1)) ∧ Ext w w') := by
 obtain ⟨p_p, c_p, rfl⟩ := hp.form
 refine aF_ (N := 10) Tryz.func21 rfl rfl (by simp) ?_
 obtain ⟨w0, rfl⟩ : ∃ w0, w0 = w := ⟨_, rfl⟩
 have Hp := hp.old
 have hm_p := hp.max
 simp only [initF, Nat.reduceAdd]
 refine Rs fun K J => sE rfl (nl J (Rs fun K J => sE rfl (sQ (q_as (v' := .bool (ab_ p)) (av_ en_19 rfl (fun w hw => aQ_ _ p w (SLe.ap hw (SLe.sub Hp sn)))) rfl) rfl (sE rfl (nl J (Sq fun K1 J1 => Rs fun K J => sE rfl (nl J ?_)))))))
 rcases bt (ab_ p) with h1 | h1
 ·skip
  refine W_t h1 rfl (Rs fun K J => sE rfl (nl J (W_ret (ah_ (ret1 rfl (.inr rfl) rfl ?_)))))
  exact (by exact congrArg (fun r : W => (.int .i64 r.1 : Value)) (show _ = (bZ_ p) from bif_t h1 rfl))
 ·skip
  refine W_f h1 rfl (aj_ (J1 _ _ (Rs fun K J => sE rfl (sQ (q_as (v' := .int .i64 (((p).length : Nat) : Int)) (a0_ (e := elI) sl_24 rfl (SLe.sub Hp sn)) rfl) rfl (sV (.int .i64 ((((p).length : Nat) : Int) - 1)) rfl (congrArg (Value.int .i64) (wx (by omega) (by omega) (by omega))) (sE rfl (nl J (W_ret (ret1 rfl (.inr rfl) rfl ?_)))))))))
  refine (show (.int .i64 ((((p).length : Nat) : Int) - 1) : Value) = .int .i64 ((W.cv ((((p).length : Nat) : Int) - 1)).1) by simp only [cvE (t := ((((p).length : Nat) : Int) - 1)) (by omega)]).trans ?_
  exact (by exact congrArg (fun r : W => (.int .i64 r.1 : Value)) (show _ = (bZ_ p) from bif_f h1 rfl))

theorem dv_ (vp : Value) (p : (List I)) (k : Int) (w : World) (hp : Slr w elI vp p) :
    Calls Tryz.prog 84 [vp, .int .i64 k].toArray w (fun e w' => e = .returned (AV [pI (ay_ p k)]) ∧ Ext w w') := by
 obtain ⟨p_p, c_p, rfl⟩ := hp.form
 refine aF_ (N := 18) Tryz.func84 rfl rfl (by simp) ?_
 obtain ⟨w0, rfl⟩ : ∃ w0, w0 = w := ⟨_, rfl⟩
 have Hp := hp.old
 have hm_p := hp.max
 simp only [initF, Nat.reduceAdd]
 refine Rs fun K J => sN zp_38 rfl fun b1 hb1 => nl J (Sq fun K1 J1 => ?_)
 refine bu_ [5, 6, 7, 8, 9, 10, 11, 12] (fun g M => (g 12 = .bool (decide (k < 0) || decide ((((p).length : Nat) : Int) ≤ k))) ∧ M = [⟨b1, 38, flat [pI I0]⟩]) (fun K2 J2 => ?_) ?_
 ·skip
  refine Rk fun K J => sE rfl (sE rfl ?_)
  rcases bt (decide (k < 0)) with h3 | h3
  ·skip
   have ph3 := of_decide_eq_true h3
   refine sB h3 rfl (WL_n rfl (WL_n rfl (WL_n rfl (WL_n rfl (sE rfl (nl J ?_))))))
   refine J2 _ _ (by repeat first | exact .refl | refine .cons rfl ?_) ⟨_, s0, ?s12, rfl⟩
   case s12 => exact congrArg Value.bool (or_t h3)
  ·skip
   have ph3 := of_decide_eq_false h3
   refine sB h3 rfl (sE rfl (sE rfl (sQ (q_as (v' := .int .i64 (((p).length : Nat) : Int)) (a0_ (e := elI) sl_24 rfl (SLe.sub Hp sn)) rfl) rfl (sE rfl (sE rfl (nl J ?_))))))
   refine J2 _ _ (by repeat first | exact .refl | refine .cons rfl ?_) ⟨_, s0, ?s12, rfl⟩
   case s12 => exact congrArg Value.bool (or_f h3 rfl)
 ·skip
  rintro g4 M ⟨hg12, rfl⟩
  simp only [setG, hg12]
  clear hg12
  rcases bt (decide (k < 0) || decide ((((p).length : Nat) : Int) ≤ k)) with h5 | h5
  ·skip
   refine W_t h5 rfl (Rs fun K J => sQ (dz_ zp_38 pl_38 rfl (.nil _)) rfl (sS [pI I0] ty_38 rfl rfl rfl rfl rfl (.head _) rfl hb1 (nl J (W_ret (ah_ (ret1 rfl (.inr rfl) (resP rfl m0 ty_38 rfl) ?_))))))
   exact (by exact congrArg (fun r : I => (AV [pI r] : Value)) (show _ = (ay_ p k) from bif_t h5 rfl))
  ·skip
   have ph6 := of_decide_eq_false (Bool.or_eq_false_iff.1 h5).1
   have ph7 := of_decide_eq_false (Bool.or_eq_false_iff.1 h5).2
   refine W_f h5 rfl (aj_ (J1 _ _ (Rs fun K J => sE rfl (sE rfl (sQ (q_as (v' := .pointer (some (slb (.slice p_p p.length c_p) (((k).toNat) * 18 + 0)))) (dF_ (e := elI) (l := p) (k := (k).toNat) sl_24 rfl rfl (by omega) (SLe.sub Hp sn) (by first | omega | (simp only [List.length_set, List.length_append, List.length_cons, List.length_nil]; omega))) rfl) rfl ?_)))))
   refine sQ (q_ldG (e := elI) (l := p) (k := (k).toNat) (o := 0) ty_38 rfl (SLe.sub Hp sn) (aE_ I0 (by first | omega | (simp only [List.length_set, List.length_append, List.length_cons, List.length_nil]; omega))) rfl) rfl ?_
   refine sS [pI (p.getD ((k).toNat) I0)] ty_38 rfl rfl rfl rfl rfl (.head _) rfl hb1 (nl J (W_ret (ret1 rfl (.inr rfl) (resP rfl m0 ty_38 rfl) ?_)))
   exact (by exact congrArg (fun r : I => (AV [pI r] : Value)) (show _ = (ay_ p k) from bif_f h5 rfl))

theorem g1_ (vp : Value) (p : (List I)) (vq : Value) (q : (List I)) (w : World) (hp : Slr w elI vp p) (hq : Slr w elI vq q) (hpre : p.length ≤ 100 ∧ q.length ≤ 100) :
    Calls Tryz.prog 45 [vp, vq].toArray w (fun e w' => ∃ v, e = .returned (v) ∧ Ext w w' ∧ Slo w.heap.size w' 38 elI v (bb_ p q)) := by
 obtain ⟨p_p, c_p, rfl⟩ := hp.form
 obtain ⟨p_q, c_q, rfl⟩ := hq.form
 refine bc_ (n := 35) (fun v => v) Tryz.func45 rfl rfl (by simp) ?_
 obtain ⟨w0, rfl⟩ : ∃ w0, w0 = w := ⟨_, rfl⟩
 have Hp := hp.old
 have hm_p := hp.max
 have Hq := hq.old
 have hm_q := hq.max
 simp only [initF, Nat.reduceAdd]
 refine Rs fun K J => sE rfl (nl J (Sq fun K1 J1 => ?_))
 refine bu_ [7, 8, 9, 10, 11, 12] (fun g M => (g 12 = .bool ((ab_ p) || (ab_ q))) ∧ M = []) (fun K2 J2 => ?_) ?_
 ·skip
  refine Rk fun K J => sE rfl (sQ (q_as (v' := .bool (ab_ p)) (av_ en_19 rfl (fun w hw => aQ_ _ p w (SLe.ap hw (SLe.sub Hp sn)))) rfl) rfl ?_)
  rcases bt (ab_ p) with h2 | h2
  ·skip
   refine sB h2 rfl (WL_n rfl (WL_n rfl (sE rfl (nl J ?_))))
   refine J2 _ _ (by repeat first | exact .refl | refine .cons rfl ?_) ⟨_, s0, ?s12, rfl⟩
   case s12 => exact congrArg Value.bool (or_t h2)
  ·skip
   refine sB h2 rfl (sE rfl (sQ (q_as (v' := .bool (ab_ q)) (av_ en_19 rfl (fun w hw => aQ_ _ q w (SLe.ap hw (SLe.sub Hq sn)))) rfl) rfl (sE rfl (nl J ?_))))
   refine J2 _ _ (by repeat first | exact .refl | refine .cons rfl ?_) ⟨_, s0, ?s12, rfl⟩
   case s12 => exact congrArg Value.bool (or_f h2 rfl)
 ·skip
  rintro g3 M ⟨hg12, rfl⟩
  simp only [setG, hg12]
  clear hg12
  rcases bt ((ab_ p) || (ab_ q)) with h4 | h4
  ·skip
   refine W_t h4 rfl (Rs fun K J => WL_r rfl (aq_ (E := 38) (e := elI) (l := F_skewbackref08_bad) (fun v => v) en_70 rfl (fun w hw => co_  w) (fun p5 c6 L7 hF8 => sE rfl (nl J (W_ret (ah_ (ret1 rfl (.inr rfl) rfl ?_)))))))
   have hE : (F_skewbackref08_bad : (List I)) = (bb_ p q) := by exact bif_t h4 rfl
   rw [← hE]
   exact ⟨_, rfl, ⟨L7, (List.sublist_append_left _ _), hF8⟩⟩
  ·skip
   refine W_f h4 rfl (aj_ (J1 _ _ (Rs fun K J => sE rfl (nl J (Sq fun K3 J3 => Rs fun K J => sE rfl (nl J ?_))))))
   refine cu_ (fun S M h => J3 S M h) [5, 6, 14, 15, 16, 17, 18, 19, 20, 21, 22, 23, 24, 25, 26, 27, 28, 29, 30, 31, 32] (fun g M => ∃ (out : List I) (i : Nat) (p_out : Option Addr) (c_out : Nat) (L_out : List Blk), (by_ p q (((max p.length q.length) + 1)) ([] : List I) 0) = (out, i) ∧ (out.length ≤ 200) ∧ (g 5 = .slice p_out out.length c_out ∧ g 6 = .int .i64 ((i : Nat) : Int) ∧ OwnG w0 38 elI (.slice p_out out.length c_out) out L_out) ∧ M = (L_out ++ [])) (fun K_u9 hK_u9 => ?_) ?_
   ·skip
    refine am_ ?_
    refine aB_ [5, 6, 14, 15, 16, 17, 18, 19, 20, 21, 22, 23, 24, 25, 26, 27, 28, 29, 30, 31, 32] (fun g nn M => ∃ (out : List I) (i : Nat) (p_out : Option Addr) (c_out : Nat) (L_out : List Blk), (by_ p q nn out i) = (by_ p q (((max p.length q.length) + 1)) ([] : List I) 0) ∧ (max p.length q.length) - i < nn ∧ (i ≤ (max p.length q.length) ∧ out.length = i) ∧ (g 5 = .slice p_out out.length c_out ∧ g 6 = .int .i64 ((i : Nat) : Int) ∧ OwnG w0 38 elI (.slice p_out out.length c_out) out L_out) ∧ M = (L_out ++ [])) (((max p.length q.length) + 1)) ?start ?round
    case start => exact ⟨_, s0, ([] : List I), 0, none, 0, [], rfl, (by first | omega | (simp only [List.length_append, List.length_cons, List.length_nil, List.length_set, List.length_take, and_true, true_and, or_true, true_or, Nat.zero_add] <;> omega)), (by first | omega | (simp only [List.length_append, List.length_cons, List.length_nil, List.length_set, List.length_take, and_true, true_and, or_true, true_or, Nat.zero_add] <;> omega)), ⟨rfl, rfl, OwnG.nil⟩, rfl⟩
    case round =>
     rintro nn g M ⟨out, i, p_out, c_out, L_out, hT0, hq0, hinv0, ⟨hg5, hg6, hO_out⟩, rfl⟩
     obtain ⟨k0, rfl⟩ : ∃ m, nn = m + 1 := ⟨nn - 1, by omega⟩
     simp only [setG, hg5, hg6]
     clear hg5 hg6
     have hm_out := OwnG.max hO_out
     refine Sq fun K6 J6 => Rs fun K J => sE rfl (sE rfl (sQ (q_as (v' := .int .i64 (((p).length : Nat) : Int)) (a0_ (e := elI) sl_24 rfl (SLe.sub Hp sn)) rfl) rfl (sE rfl (sQ (q_as (v' := .int .i64 (((q).length : Nat) : Int)) (a0_ (e := elI) sl_24 rfl (SLe.sub Hq sn)) rfl) rfl (sQ (q_as (v' := .int .i64 (((max ((p).length) ((q).length)) : Nat) : Int)) (hf_ rfl rfl) (congrArg (Value.int .i64) (by omega))) rfl (sE rfl (nl J ?_)))))))
     rcases bt (decide (((i : Nat) : Int) < (((max ((p).length) ((q).length)) : Nat) : Int))) with h17 | h17
     ·skip
      have ph17 := of_decide_eq_true h17
      refine W_t h17 rfl (aj_ (J6 _ _ (Sq fun K7 J7 => am_ (Rk fun K J => sE rfl (sE rfl (sE rfl (sQ (q_as (v' := AV [pI (ay_ p ((i : Nat) : Int))]) (av_ en_84 rfl (fun w hw => dv_ _ p ((i : Nat) : Int) w (SLe.ap hw (SLe.sub Hp sn)))) rfl) rfl (sE rfl (sE rfl (sQ (q_as (v' := AV [pI (ay_ q ((i : Nat) : Int))]) (av_ en_84 rfl (fun w hw => dv_ _ q ((i : Nat) : Int) w (SLe.ap hw (SLe.sub Hq sn)))) rfl) rfl ?_))))))))))
      obtain ⟨r18, hr18⟩ := nm ((E (Z.add (ay_ p ((i : Nat) : Int)).dec (ay_ q ((i : Nat) : Int)).dec)) : I)
      refine sC (AV [pI r18]) lE_ (dp_ (ay_ p ((i : Nat) : Int)).1 (ay_ q ((i : Nat) : Int)).1 (ay_ p ((i : Nat) : Int)).2 (ay_ q ((i : Nat) : Int)).2) rfl rfl (by rw [hr18]; first | done | rfl) (WL_r rfl (aC_ [[pI r18]] [pI r18] us_22 z_38 sz_38 rfl (by decide) rfl rfl ⟨rfl, rfl, rfl, trivial⟩ rfl (fun b19 hb19 => WL_r rfl (dm_ (e := elI) (l := out) (m := [r18]) 68 us_22 (by kernel_rfl) (by decide) rfl rfl hO_out (SLe.lit (e := elI) (l := [r18]) m0 rfl (Nat.le_of_ble_eq_true rfl) rfl) (fq_s fq_l) (by simp only [List.length_append, List.length_cons, List.length_nil]; omega) (by decide) (fun p20 c21 L22 hO23 => ?_)))))
      refine sE rfl (nl J (J7 _ _ (Rk fun K J => sE rfl (sV (.int .i64 (((i + 1) : Nat) : Int)) rfl (congrArg (Value.int .i64) (wx (by omega) (by omega) (by omega))) (sE rfl (nl J (⟨(by repeat first | exact .refl | refine .cons rfl ?_), _, _, (sA (sd (s0))), (Nat.lt_succ_self _), (out ++ [r18]), (i + 1), p20, c21, L22, (by subst hr18; exact (hT0.symm.trans (Eq.symm (bif_t h17 rfl))).symm), (Nat.lt_of_lt_of_le (by first | omega | (simp only [List.length_append, List.length_cons, List.length_nil, List.length_set, List.length_take, and_true, true_and, or_true, true_or, Nat.zero_add] <;> omega)) (Nat.le_of_lt_succ hq0)), (by first | omega | (simp only [List.length_append, List.length_cons, List.length_nil, List.length_set, List.length_take, and_true, true_and, or_true, true_or, Nat.zero_add] <;> omega)), ⟨rfl, rfl, hO23⟩, rfl⟩)))))))
     ·skip
      have ph17 := of_decide_eq_false h17
      refine W_f h17 rfl (bh_ (al_ (al_ (ao_ (hK_u9 _ _ (by repeat first | exact .refl | refine .cons rfl ?_) ⟨_, s0, out, i, p_out, c_out, L_out, (by exact hT0.symm.trans (Eq.symm (bif_f h17 rfl))), (by first | omega | (simp only [List.length_append, List.length_cons, List.length_nil, List.length_set, List.length_take, and_true, true_and, or_true, true_or, Nat.zero_add] <;> omega)), ⟨rfl, rfl, hO_out⟩, rfl⟩)))))
   ·skip
    rintro g M ⟨out, i, p_out, c_out, L_out, hCu9, hPu9, ⟨hg5, hg6, hO_out⟩, rfl⟩
    simp only [setG, hg5, hg6]
    clear hg5 hg6
    have hm_out := OwnG.max hO_out
    refine Rs fun K J => sE rfl (WL_r rfl (aq_ (E := 38) (e := elI) (l := (ae_ out)) (fun v => v) en_16 rfl (fun w hw => cg_ _ out w (SLe.ap hw (SLfe.sle (OwnG.slfe hO_out (List.sublist_append_left _ _)))) (by first | omega | (simp only [List.length_cons, List.length_nil, and_true, true_and] <;> omega) | simp)) (fun p24 c25 L26 hF27 => ?_)))
    have hb28 := (ci_ out)
    refine sE rfl (nl J (W_ret (ret1 rfl (.inr rfl) rfl ?_)))
    have hE : ((ae_ out) : (List I)) = (bb_ p q) := by exact bif_f h4 (trs (Eq.symm (apS hCu9)) rfl)
    rw [← hE]
    exact ⟨_, rfl, ⟨L26, (List.sublist_append_left _ _), hF27⟩⟩

theorem gU_ (vp : Value) (p : (List I)) (vq : Value) (q : (List I)) (w : World) (hp : Slr w elI vp p) (hq : Slr w elI vq q) (hpre : p.length ≤ 100 ∧ q.length ≤ 100) :
    Calls Tryz.prog 47 [vp, vq].toArray w (fun e w' => ∃ v, e = .returned (v) ∧ Ext w w' ∧ Slo w.heap.size w' 38 elI v (ba_ p q)) := by
 obtain ⟨p_p, c_p, rfl⟩ := hp.form
 obtain ⟨p_q, c_q, rfl⟩ := hq.form
 refine bc_ (n := 35) (fun v => v) Tryz.func47 rfl rfl (by simp) ?_
 obtain ⟨w0, rfl⟩ : ∃ w0, w0 = w := ⟨_, rfl⟩
 have Hp := hp.old
 have hm_p := hp.max
 have Hq := hq.old
 have hm_q := hq.max
 simp only [initF, Nat.reduceAdd]
 refine Rs fun K J => sE rfl (nl J (Sq fun K1 J1 => ?_))
 refine bu_ [7, 8, 9, 10, 11, 12] (fun g M => (g 12 = .bool ((ab_ p) || (ab_ q))) ∧ M = []) (fun K2 J2 => ?_) ?_
 ·skip
  refine Rk fun K J => sE rfl (sQ (q_as (v' := .bool (ab_ p)) (av_ en_19 rfl (fun w hw => aQ_ _ p w (SLe.ap hw (SLe.sub Hp sn)))) rfl) rfl ?_)
  rcases bt (ab_ p) with h2 | h2
  ·skip
   refine sB h2 rfl (WL_n rfl (WL_n rfl (sE rfl (nl J ?_))))
   refine J2 _ _ (by repeat first | exact .refl | refine .cons rfl ?_) ⟨_, s0, ?s12, rfl⟩
   case s12 => exact congrArg Value.bool (or_t h2)
  ·skip
   refine sB h2 rfl (sE rfl (sQ (q_as (v' := .bool (ab_ q)) (av_ en_19 rfl (fun w hw => aQ_ _ q w (SLe.ap hw (SLe.sub Hq sn)))) rfl) rfl (sE rfl (nl J ?_))))
   refine J2 _ _ (by repeat first | exact .refl | refine .cons rfl ?_) ⟨_, s0, ?s12, rfl⟩
   case s12 => exact congrArg Value.bool (or_f h2 rfl)
 ·skip
  rintro g3 M ⟨hg12, rfl⟩
  simp only [setG, hg12]
  clear hg12
  rcases bt ((ab_ p) || (ab_ q)) with h4 | h4
  ·skip
   refine W_t h4 rfl (Rs fun K J => WL_r rfl (aq_ (E := 38) (e := elI) (l := F_skewbackref08_bad) (fun v => v) en_70 rfl (fun w hw => co_  w) (fun p5 c6 L7 hF8 => sE rfl (nl J (W_ret (ah_ (ret1 rfl (.inr rfl) rfl ?_)))))))
   have hE : (F_skewbackref08_bad : (List I)) = (ba_ p q) := by exact bif_t h4 rfl
   rw [← hE]
   exact ⟨_, rfl, ⟨L7, (List.sublist_append_left _ _), hF8⟩⟩
  ·skip
   refine W_f h4 rfl (aj_ (J1 _ _ (Rs fun K J => sE rfl (nl J (Sq fun K3 J3 => Rs fun K J => sE rfl (nl J ?_))))))
   refine cu_ (fun S M h => J3 S M h) [5, 6, 14, 15, 16, 17, 18, 19, 20, 21, 22, 23, 24, 25, 26, 27, 28, 29, 30, 31, 32] (fun g M => ∃ (out : List I) (i : Nat) (p_out : Option Addr) (c_out : Nat) (L_out : List Blk), (bz_ p q (((max p.length q.length) + 1)) ([] : List I) 0) = (out, i) ∧ (out.length ≤ 200) ∧ (g 5 = .slice p_out out.length c_out ∧ g 6 = .int .i64 ((i : Nat) : Int) ∧ OwnG w0 38 elI (.slice p_out out.length c_out) out L_out) ∧ M = (L_out ++ [])) (fun K_u9 hK_u9 => ?_) ?_
   ·skip
    refine am_ ?_
    refine aB_ [5, 6, 14, 15, 16, 17, 18, 19, 20, 21, 22, 23, 24, 25, 26, 27, 28, 29, 30, 31, 32] (fun g nn M => ∃ (out : List I) (i : Nat) (p_out : Option Addr) (c_out : Nat) (L_out : List Blk), (bz_ p q nn out i) = (bz_ p q (((max p.length q.length) + 1)) ([] : List I) 0) ∧ (max p.length q.length) - i < nn ∧ (i ≤ (max p.length q.length) ∧ out.length = i) ∧ (g 5 = .slice p_out out.length c_out ∧ g 6 = .int .i64 ((i : Nat) : Int) ∧ OwnG w0 38 elI (.slice p_out out.length c_out) out L_out) ∧ M = (L_out ++ [])) (((max p.length q.length) + 1)) ?start ?round
    case start => exact ⟨_, s0, ([] : List I), 0, none, 0, [], rfl, (by first | omega | (simp only [List.length_append, List.length_cons, List.length_nil, List.length_set, List.length_take, and_true, true_and, or_true, true_or, Nat.zero_add] <;> omega)), (by first | omega | (simp only [List.length_append, List.length_cons, List.length_nil, List.length_set, List.length_take, and_true, true_and, or_true, true_or, Nat.zero_add] <;> omega)), ⟨rfl, rfl, OwnG.nil⟩, rfl⟩
    case round =>
     rintro nn g M ⟨out, i, p_out, c_out, L_out, hT0, hq0, hinv0, ⟨hg5, hg6, hO_out⟩, rfl⟩
     obtain ⟨k0, rfl⟩ : ∃ m, nn = m + 1 := ⟨nn - 1, by omega⟩
     simp only [setG, hg5, hg6]
     clear hg5 hg6
     have hm_out := OwnG.max hO_out
     refine Sq fun K6 J6 => Rs fun K J => sE rfl (sE rfl (sQ (q_as (v' := .int .i64 (((p).length : Nat) : Int)) (a0_ (e := elI) sl_24 rfl (SLe.sub Hp sn)) rfl) rfl (sE rfl (sQ (q_as (v' := .int .i64 (((q).length : Nat) : Int)) (a0_ (e := elI) sl_24 rfl (SLe.sub Hq sn)) rfl) rfl (sQ (q_as (v' := .int .i64 (((max ((p).length) ((q).length)) : Nat) : Int)) (hf_ rfl rfl) (congrArg (Value.int .i64) (by omega))) rfl (sE rfl (nl J ?_)))))))
     rcases bt (decide (((i : Nat) : Int) < (((max ((p).length) ((q).length)) : Nat) : Int))) with h17 | h17
     ·skip
      have ph17 := of_decide_eq_true h17
      refine W_t h17 rfl (aj_ (J6 _ _ (Sq fun K7 J7 => am_ (Rk fun K J => sE rfl (sE rfl (sE rfl (sQ (q_as (v' := AV [pI (ay_ p ((i : Nat) : Int))]) (av_ en_84 rfl (fun w hw => dv_ _ p ((i : Nat) : Int) w (SLe.ap hw (SLe.sub Hp sn)))) rfl) rfl (sE rfl (sE rfl (sQ (q_as (v' := AV [pI (ay_ q ((i : Nat) : Int))]) (av_ en_84 rfl (fun w hw => dv_ _ q ((i : Nat) : Int) w (SLe.ap hw (SLe.sub Hq sn)))) rfl) rfl ?_))))))))))
      obtain ⟨r18, hr18⟩ := nm ((E (Z.sub (ay_ p ((i : Nat) : Int)).dec (ay_ q ((i : Nat) : Int)).dec)) : I)
      refine sC (AV [pI r18]) en_83 (gW_ (ay_ p ((i : Nat) : Int)).1 (ay_ q ((i : Nat) : Int)).1 (ay_ p ((i : Nat) : Int)).2 (ay_ q ((i : Nat) : Int)).2) rfl rfl (by rw [hr18]; first | done | rfl) (WL_r rfl (aC_ [[pI r18]] [pI r18] us_22 z_38 sz_38 rfl (by decide) rfl rfl ⟨rfl, rfl, rfl, trivial⟩ rfl (fun b19 hb19 => WL_r rfl (dm_ (e := elI) (l := out) (m := [r18]) 68 us_22 (by kernel_rfl) (by decide) rfl rfl hO_out (SLe.lit (e := elI) (l := [r18]) m0 rfl (Nat.le_of_ble_eq_true rfl) rfl) (fq_s fq_l) (by simp only [List.length_append, List.length_cons, List.length_nil]; omega) (by decide) (fun p20 c21 L22 hO23 => ?_)))))
      refine sE rfl (nl J (J7 _ _ (Rk fun K J => sE rfl (sV (.int .i64 (((i + 1) : Nat) : Int)) rfl (congrArg (Value.int .i64) (wx (by omega) (by omega) (by omega))) (sE rfl (nl J (⟨(by repeat first | exact .refl | refine .cons rfl ?_), _, _, (sA (sd (s0))), (Nat.lt_succ_self _), (out ++ [r18]), (i + 1), p20, c21, L22, (by subst hr18; exact (hT0.symm.trans (Eq.symm (bif_t h17 rfl))).symm), (Nat.lt_of_lt_of_le (by first | omega | (simp only [List.length_append, List.length_cons, List.length_nil, List.length_set, List.length_take, and_true, true_and, or_true, true_or, Nat.zero_add] <;> omega)) (Nat.le_of_lt_succ hq0)), (by first | omega | (simp only [List.length_append, List.length_cons, List.length_nil, List.length_set, List.length_take, and_true, true_and, or_true, true_or, Nat.zero_add] <;> omega)), ⟨rfl, rfl, hO23⟩, rfl⟩)))))))
     ·skip
      have ph17 := of_decide_eq_false h17
      refine W_f h17 rfl (bh_ (al_ (al_ (ao_ (hK_u9 _ _ (by repeat first | exact .refl | refine .cons rfl ?_) ⟨_, s0, out, i, p_out, c_out, L_out, (by exact hT0.symm.trans (Eq.symm (bif_f h17 rfl))), (by first | omega | (simp only [List.length_append, List.length_cons, List.length_nil, List.length_set, List.length_take, and_true, true_and, or_true, true_or, Nat.zero_add] <;> omega)), ⟨rfl, rfl, hO_out⟩, rfl⟩)))))
   ·skip
    rintro g M ⟨out, i, p_out, c_out, L_out, hCu9, hPu9, ⟨hg5, hg6, hO_out⟩, rfl⟩
    simp only [setG, hg5, hg6]
    clear hg5 hg6
    have hm_out := OwnG.max hO_out
    refine Rs fun K J => sE rfl (WL_r rfl (aq_ (E := 38) (e := elI) (l := (ae_ out)) (fun v => v) en_16 rfl (fun w hw => cg_ _ out w (SLe.ap hw (SLfe.sle (OwnG.slfe hO_out (List.sublist_append_left _ _)))) (by first | omega | (simp only [List.length_cons, List.length_nil, and_true, true_and] <;> omega) | simp)) (fun p24 c25 L26 hF27 => ?_)))
    have hb28 := (ci_ out)
    refine sE rfl (nl J (W_ret (ret1 rfl (.inr rfl) rfl ?_)))
    have hE : ((ae_ out) : (List I)) = (ba_ p q) := by exact bif_f h4 (trs (Eq.symm (apS hCu9)) rfl)
    rw [← hE]
    exact ⟨_, rfl, ⟨L26, (List.sublist_append_left _ _), hF27⟩⟩

theorem gJ_ (vp : Value) (p : (List I)) (vq : Value) (q : (List I)) (w : World) (hp : Slr w elI vp p) (hq : Slr w elI vq q) (hpre : p.length ≤ 100 ∧ q.length ≤ 100) :
    Calls Tryz.prog 48 [vp, vq].toArray w (fun e w' => ∃ v, e = .returned (v) ∧ Ext w w' ∧ Slo w.heap.size w' 38 elI v (a9_ p q)) := by
 obtain ⟨p_p, c_p, rfl⟩ := hp.form
 obtain ⟨p_q, c_q, rfl⟩ := hq.form
 refine bc_ (n := 71) (fun v => v) Tryz.func48 rfl rfl (by simp) ?_
 obtain ⟨w0, rfl⟩ : ∃ w0, w0 = w := ⟨_, rfl⟩
 have Hp := hp.old
 have hm_p := hp.max
 have Hq := hq.old
 have hm_q := hq.max
 simp only [initF, Nat.reduceAdd]
 refine Rs fun K J => sE rfl (nl J (Sq fun K1 J1 => ?_))
 refine bu_ [9, 10, 11, 12, 13, 14] (fun g M => (g 14 = .bool ((ab_ p) || (ab_ q))) ∧ M = []) (fun K2 J2 => ?_) ?_
 ·skip
  refine Rk fun K J => sE rfl (sQ (q_as (v' := .bool (ab_ p)) (av_ en_19 rfl (fun w hw => aQ_ _ p w (SLe.ap hw (SLe.sub Hp sn)))) rfl) rfl ?_)
  rcases bt (ab_ p) with h2 | h2
  ·skip
   refine sB h2 rfl (WL_n rfl (WL_n rfl (sE rfl (nl J ?_))))
   refine J2 _ _ (by repeat first | exact .refl | refine .cons rfl ?_) ⟨_, s0, ?s14, rfl⟩
   case s14 => exact congrArg Value.bool (or_t h2)
  ·skip
   refine sB h2 rfl (sE rfl (sQ (q_as (v' := .bool (ab_ q)) (av_ en_19 rfl (fun w hw => aQ_ _ q w (SLe.ap hw (SLe.sub Hq sn)))) rfl) rfl (sE rfl (nl J ?_))))
   refine J2 _ _ (by repeat first | exact .refl | refine .cons rfl ?_) ⟨_, s0, ?s14, rfl⟩
   case s14 => exact congrArg Value.bool (or_f h2 rfl)
 ·skip
  rintro g3 M ⟨hg14, rfl⟩
  simp only [setG, hg14]
  clear hg14
  rcases bt ((ab_ p) || (ab_ q)) with h4 | h4
  ·skip
   refine W_t h4 rfl (Rs fun K J => WL_r rfl (aq_ (E := 38) (e := elI) (l := F_skewbackref08_bad) (fun v => v) en_70 rfl (fun w hw => co_  w) (fun p5 c6 L7 hF8 => sE rfl (nl J (W_ret (ah_ (ret1 rfl (.inr rfl) rfl ?_)))))))
   have hE : (F_skewbackref08_bad : (List I)) = (a9_ p q) := by exact bif_t h4 rfl
   rw [← hE]
   exact ⟨_, rfl, ⟨L7, (List.sublist_append_left _ _), hF8⟩⟩
  ·skip
   refine W_f h4 rfl (aj_ (J1 _ _ (Sq fun K3 J3 => ?_)))
   refine bu_ [16, 17, 18, 19, 20, 21, 22, 23] (fun g M => (g 23 = .bool (((((p).length : Nat) : Int) == 0) || ((((q).length : Nat) : Int) == 0))) ∧ M = []) (fun K4 J4 => ?_) ?_
   ·skip
    refine Rk fun K J => sE rfl (sQ (q_as (v' := .int .i64 (((p).length : Nat) : Int)) (a0_ (e := elI) sl_24 rfl (SLe.sub Hp sn)) rfl) rfl (sE rfl ?_))
    rcases bt ((((p).length : Nat) : Int) == 0) with h10 | h10
    ·skip
     have ph10 := hh_ h10
     refine sB h10 rfl (WL_n rfl (WL_n rfl (WL_n rfl (sE rfl (nl J ?_)))))
     refine J4 _ _ (by repeat first | exact .refl | refine .cons rfl ?_) ⟨_, s0, ?s23, rfl⟩
     case s23 => exact congrArg Value.bool (or_t h10)
    ·skip
     have ph10 := e8_ h10
     refine sB h10 rfl (sE rfl (sQ (q_as (v' := .int .i64 (((q).length : Nat) : Int)) (a0_ (e := elI) sl_24 rfl (SLe.sub Hq sn)) rfl) rfl (sE rfl (sE rfl (nl J ?_)))))
     refine J4 _ _ (by repeat first | exact .refl | refine .cons rfl ?_) ⟨_, s0, ?s23, rfl⟩
     case s23 => exact congrArg Value.bool (or_f h10 rfl)
   ·skip
    rintro g11 M ⟨hg23, rfl⟩
    simp only [setG, hg23]
    clear hg23
    rcases bt (((((p).length : Nat) : Int) == 0) || ((((q).length : Nat) : Int) == 0)) with h12 | h12
    ·skip
     refine W_t h12 rfl (Rs fun K J => sE rfl (nl J (W_ret (ah_ (ret1 rfl (.inr rfl) rfl ?_)))))
     have hE : (([] : List I) : (List I)) = (a9_ p q) := by exact bif_f h4 (bif_t h12 rfl)
     rw [← hE]
     exact ⟨_, rfl, ⟨[], sn, OwnG.nil⟩⟩
    ·skip
     have ph13 := e8_ (Bool.or_eq_false_iff.1 h12).1
     have ph14 := e8_ (Bool.or_eq_false_iff.1 h12).2
     refine W_f h12 rfl (aj_ (J3 _ _ (Rs fun K J => sE rfl (nl J (Sq fun K5 J5 => Rs fun K J => sE rfl (nl J ?_))))))
     refine cu_ (fun S M h => J5 S M h) [5, 6, 7, 8, 24, 25, 26, 27, 28, 29, 30, 31, 32, 33, 34, 35, 36, 37, 38, 39, 40, 41, 42, 43, 44, 45, 46, 47, 48, 49, 50, 51, 52, 53, 54, 55, 56, 57, 58, 59, 60, 61, 62, 63, 64, 65, 66, 67, 68] (fun g M => ∃ (out : List I) (k : Nat) (p_out : Option Addr) (c_out : Nat) (L_out : List Blk), (bB_ p q ((p.length + q.length)) ([] : List I) 0) = (out, k) ∧ (out.length ≤ 200) ∧ (g 5 = .slice p_out out.length c_out ∧ g 6 = .int .i64 ((k : Nat) : Int) ∧ OwnG w0 38 elI (.slice p_out out.length c_out) out L_out) ∧ M = (L_out ++ [])) (fun K_u15 hK_u15 => ?_) ?_
     ·skip
      refine am_ ?_
      refine aB_ [5, 6, 7, 8, 24, 25, 26, 27, 28, 29, 30, 31, 32, 33, 34, 35, 36, 37, 38, 39, 40, 41, 42, 43, 44, 45, 46, 47, 48, 49, 50, 51, 52, 53, 54, 55, 56, 57, 58, 59, 60, 61, 62, 63, 64, 65, 66, 67, 68] (fun g nn M => ∃ (out : List I) (k : Nat) (p_out : Option Addr) (c_out : Nat) (L_out : List Blk), (bB_ p q nn out k) = (bB_ p q ((p.length + q.length)) ([] : List I) 0) ∧ p.length + q.length - 1 - k < nn ∧ (k ≤ p.length + q.length - 1 ∧ out.length = k) ∧ (g 5 = .slice p_out out.length c_out ∧ g 6 = .int .i64 ((k : Nat) : Int) ∧ OwnG w0 38 elI (.slice p_out out.length c_out) out L_out) ∧ M = (L_out ++ [])) ((p.length + q.length)) ?start ?round
      case start => exact ⟨_, s0, ([] : List I), 0, none, 0, [], rfl, (by first | omega | (simp only [List.length_append, List.length_cons, List.length_nil, List.length_set, List.length_take, and_true, true_and, or_true, true_or, Nat.zero_add] <;> omega)), (by first | omega | (simp only [List.length_append, List.length_cons, List.length_nil, List.length_set, List.length_take, and_true, true_and, or_true, true_or, Nat.zero_add] <;> omega)), ⟨rfl, rfl, OwnG.nil⟩, rfl⟩
      case round =>
       rintro nn g M ⟨out, k, p_out, c_out, L_out, hT0, hq0, hinv0, ⟨hg5, hg6, hO_out⟩, rfl⟩
       obtain ⟨k0, rfl⟩ : ∃ m, nn = m + 1 := ⟨nn - 1, by omega⟩
       simp only [setG, hg5, hg6]
       clear hg5 hg6
       have hm_out := OwnG.max hO_out
       refine Sq fun K18 J18 => Rs fun K J => sE rfl (sE rfl (sQ (q_as (v' := .int .i64 (((p).length : Nat) : Int)) (a0_ (e := elI) sl_24 rfl (SLe.sub Hp sn)) rfl) rfl (sE rfl (sQ (q_as (v' := .int .i64 (((q).length : Nat) : Int)) (a0_ (e := elI) sl_24 rfl (SLe.sub Hq sn)) rfl) rfl (sV (.int .i64 ((((p).length + (q).length) : Nat) : Int)) rfl (congrArg (Value.int .i64) (wx (by omega) (by omega) (by omega))) (sV (.int .i64 (((((p).length + (q).length) : Nat) : Int) - 1)) rfl (congrArg (Value.int .i64) (wx (by omega) (by omega) (by omega))) (sE rfl (nl J ?_))))))))
       rcases bt (decide (((k : Nat) : Int) < (((((p).length + (q).length) : Nat) : Int) - 1))) with h45 | h45
       ·skip
        have ph45 := of_decide_eq_true h45
        refine W_t h45 rfl (aj_ (J18 _ _ (Sq fun K19 J19 => am_ (Rs fun K J => sQ (dz_ zp_38 pl_38 rfl (.nil _)) rfl (sN zp_38 rfl fun b46 hb46 => sS [pI I0] ty_38 rfl rfl rfl rfl rfl (.head _) rfl hb46 (nl J (Sq fun K20 J20 => Rs fun K J => sE rfl (nl J ?_))))))))
        refine cu_ (fun S M h => J20 S M h) [8, 35, 36, 37, 38, 39, 40, 41, 42, 43, 44, 45, 46, 47, 48, 49, 50, 51, 52, 53, 54, 55, 56, 57, 58, 59, 60, 61, 62, 63, 64] (fun g M => ∃ (i : Nat) (mb46 : I), (aw_ p q out k ((k + 2)) 0 I0) = (i, mb46) ∧ (g 8 = .int .i64 ((i : Nat) : Int)) ∧ M = (⟨b46, 38, flat [pI mb46]⟩ :: (L_out ++ []))) (fun K_u47 hK_u47 => ?_) ?_
        ·skip
         refine am_ ?_
         refine aB_ [8, 35, 36, 37, 38, 39, 40, 41, 42, 43, 44, 45, 46, 47, 48, 49, 50, 51, 52, 53, 54, 55, 56, 57, 58, 59, 60, 61, 62, 63, 64] (fun g nn M => ∃ (i : Nat) (mb46 : I), (aw_ p q out k nn i mb46) = (aw_ p q out k ((k + 2)) 0 I0) ∧ k + 1 - i < nn ∧ (i ≤ k + 1) ∧ (g 8 = .int .i64 ((i : Nat) : Int)) ∧ M = (⟨b46, 38, flat [pI mb46]⟩ :: (L_out ++ []))) ((k + 2)) ?start ?round
         case start => exact ⟨_, s0, 0, I0, rfl, (by first | omega | (simp only [List.length_append, List.length_cons, List.length_nil, List.length_set, List.length_take, and_true, true_and, or_true, true_or, Nat.zero_add] <;> omega)), (by first | omega | (simp only [List.length_append, List.length_cons, List.length_nil, List.length_set, List.length_take, and_true, true_and, or_true, true_or, Nat.zero_add] <;> omega)), rfl, rfl⟩
         case round =>
          rintro nn g M ⟨i, mb46, hT1, hq1, hinv1, hg8, rfl⟩
          obtain ⟨k1, rfl⟩ : ∃ m, nn = m + 1 := ⟨nn - 1, by omega⟩
          simp only [setG, hg8]
          clear hg8
          refine Sq fun K27 J27 => Rs fun K J => sE rfl (sE rfl (sE rfl (nl J ?_)))
          rcases bt (decide (((i : Nat) : Int) ≤ ((k : Nat) : Int))) with h62 | h62
          ·skip
           have ph62 := of_decide_eq_true h62
           refine W_t h62 rfl (aj_ (J27 _ _ (Sq fun K28 J28 => am_ ?_)))
           refine bu_ [40, 41, 42, 43, 44, 45, 46, 47, 48, 49, 50, 51] (fun g M => (g 51 = .bool (decide (((i : Nat) : Int) < (((p).length : Nat) : Int)) && decide ((((k : Nat) : Int) - ((i : Nat) : Int)) < (((q).length : Nat) : Int)))) ∧ M = (⟨b46, 38, flat [pI mb46]⟩ :: (L_out ++ []))) (fun K29 J29 => ?_) ?_
           ·skip
            refine Rk fun K J => sE rfl (sE rfl (sQ (q_as (v' := .int .i64 (((p).length : Nat) : Int)) (a0_ (e := elI) sl_24 rfl (SLe.sub Hp sn)) rfl) rfl (sE rfl ?_)))
            rcases bt (decide (((i : Nat) : Int) < (((p).length : Nat) : Int))) with h64 | h64
            ·skip
             have ph64 := of_decide_eq_true h64
             refine sB h64 rfl (sE rfl (sE rfl (sV (.int .i64 (((k : Nat) : Int) - ((i : Nat) : Int))) rfl (congrArg (Value.int .i64) (wx (by omega) (by omega) (by omega))) (sE rfl (sQ (q_as (v' := .int .i64 (((q).length : Nat) : Int)) (a0_ (e := elI) sl_24 rfl (SLe.sub Hq sn)) rfl) rfl (sE rfl (sE rfl (nl J ?_))))))))
             refine J29 _ _ (by repeat first | exact .refl | refine .cons rfl ?_) ⟨_, s0, ?s51, rfl⟩
             case s51 => exact congrArg Value.bool (and_t h64 rfl)
            ·skip
             have ph64 := of_decide_eq_false h64
             refine sB h64 rfl (WL_n rfl (WL_n rfl (WL_n rfl (WL_n rfl (WL_n rfl (WL_n rfl (sE rfl (nl J ?_))))))))
             refine J29 _ _ (by repeat first | exact .refl | refine .cons rfl ?_) ⟨_, s0, ?s51, rfl⟩
             case s51 => exact congrArg Value.bool (and_f h64)
           ·skip
            rintro g65 M ⟨hg51, rfl⟩
            simp only [setG, hg51]
            clear hg51
            rcases bt (decide (((i : Nat) : Int) < (((p).length : Nat) : Int)) && decide ((((k : Nat) : Int) - ((i : Nat) : Int)) < (((q).length : Nat) : Int))) with h66 | h66
            ·skip
             have ph67 := of_decide_eq_true (Bool.and_eq_true_iff.1 h66).1
             have ph68 := of_decide_eq_true (Bool.and_eq_true_iff.1 h66).2
             refine W_t h66 rfl (dr (sd s0) [0,4,8,12,16,20,24,28,32,36,40,44,48,53] [13] mix (by kernel_rfl) (fun K J => pQ rfl (qL ty_38 rfl m0 rfl) (pE rfl (pE rfl (pQ rfl (q_as (v' := .pointer (some (slb (.slice p_p p.length c_p) (i * 18 + 0)))) (cW_ (e := elI) (l := p) (k := i) sl_24 rfl rfl (SLe.sub Hp sn) (by first | omega | (simp only [List.length_set, List.length_append, List.length_cons, List.length_nil]; omega))) rfl) ?_)))))
             refine pQ rfl (q_ldG (e := elI) (l := p) (k := i) (o := 0) ty_38 rfl (SLe.sub Hp sn) (aE_ I0 (by first | omega | (simp only [List.length_set, List.length_append, List.length_cons, List.length_nil]; omega))) rfl) ?_
             refine pE rfl (pE rfl (pE rfl (pV (.int .i64 (((k : Nat) : Int) - ((i : Nat) : Int))) rfl (congrArg (Value.int .i64) (wx (by omega) (by omega) (by omega))) (pQ rfl (q_as (v' := .pointer (some (slb (.slice p_q q.length c_q) ((k - i) * 18 + 0)))) (dF_ (e := elI) (l := q) (k := (k - i)) sl_24 rfl rfl (by omega) (SLe.sub Hq sn) (by first | omega | (simp only [List.length_set, List.length_append, List.length_cons, List.length_nil]; omega))) rfl) ?_))))
             refine pQ rfl (q_ldG (e := elI) (l := q) (k := (k - i)) (o := 0) ty_38 rfl (SLe.sub Hq sn) (aE_ I0 (by first | omega | (simp only [List.length_set, List.length_append, List.length_cons, List.length_nil]; omega))) rfl) ?_
             refine pC (AV [pI (E (Z.mul (p.getD i I0).dec (q.getD (k - i) I0).dec))]) en_82 (cF_ (p.getD i I0).1 (q.getD (k - i) I0).1 (p.getD i I0).2 (q.getD (k - i) I0).2) rfl rfl rfl (pC (AV [pI (E (Z.add mb46.dec (Z.mul (p.getD i I0).dec (q.getD (k - i) I0).dec)))]) lE_ (dp_ mb46.1 (E (Z.mul (p.getD i I0).dec (q.getD (k - i) I0).dec)).1 mb46.2 (E (Z.mul (p.getD i I0).dec (q.getD (k - i) I0).dec)).2) rfl rfl (cg2 (fun p q => AV [pI (E (Z.add p q))]) rfl (E_dec _)) (oS [pI (E (Z.add mb46.dec (Z.mul (p.getD i I0).dec (q.getD (k - i) I0).dec)))] ty_38 rfl rfl rfl rfl rfl rfl (.head _) rfl hb46 rfl (sd s0) (fl J (J28 _ _ (Rk fun K J => sE rfl (sV (.int .i64 (((i + 1) : Nat) : Int)) rfl (congrArg (Value.int .i64) (wx (by omega) (by omega) (by omega))) (sE rfl (nl J (⟨(by repeat first | exact .refl | refine .cons rfl ?_), _, _, s0, (Nat.lt_succ_self _), (i + 1), (E (Z.add mb46.dec (Z.mul (p.getD i I0).dec (q.getD (k - i) I0).dec))), (by exact (hT1.symm.trans (Eq.symm (bif_t h62 (bif_t h66 rfl)))).symm), (Nat.lt_of_lt_of_le (by first | omega | (simp only [List.length_append, List.length_cons, List.length_nil, List.length_set, List.length_take, and_true, true_and, or_true, true_or, Nat.zero_add] <;> omega)) (Nat.le_of_lt_succ hq1)), (by first | omega | (simp only [List.length_append, List.length_cons, List.length_nil, List.length_set, List.length_take, and_true, true_and, or_true, true_or, Nat.zero_add] <;> omega)), rfl, rfl⟩)))))))))
            ·skip
             refine W_f h66 rfl (aj_ (J28 _ _ (Rk fun K J => sE rfl (sV (.int .i64 (((i + 1) : Nat) : Int)) rfl (congrArg (Value.int .i64) (wx (by omega) (by omega) (by omega))) (sE rfl (nl J (⟨(by repeat first | exact .refl | refine .cons rfl ?_), _, _, s0, (Nat.lt_succ_self _), (i + 1), mb46, (by exact (hT1.symm.trans (Eq.symm (bif_t h62 (bif_f h66 rfl)))).symm), (Nat.lt_of_lt_of_le (by first | omega | (simp only [List.length_append, List.length_cons, List.length_nil, List.length_set, List.length_take, and_true, true_and, or_true, true_or, Nat.zero_add] <;> omega)) (Nat.le_of_lt_succ hq1)), (by first | omega | (simp only [List.length_append, List.length_cons, List.length_nil, List.length_set, List.length_take, and_true, true_and, or_true, true_or, Nat.zero_add] <;> omega)), rfl, rfl⟩)))))))
          ·skip
           have ph62 := of_decide_eq_false h62
           refine W_f h62 rfl (bh_ (al_ (al_ (ao_ (hK_u47 _ _ (by repeat first | exact .refl | refine .cons rfl ?_) ⟨_, s0, i, mb46, (by exact hT1.symm.trans (Eq.symm (bif_f h62 rfl))), rfl, rfl⟩)))))
        ·skip
         rintro g M ⟨i, mb46, hCu47, hg8, rfl⟩
         simp only [setG, hg8]
         clear hg8
         refine Rk fun K J => sE rfl (sQ (qL ty_38 rfl m0 rfl) rfl (WL_r rfl (aC_ [[pI mb46]] [pI mb46] us_22 z_38 sz_38 rfl (by decide) rfl rfl ⟨rfl, rfl, rfl, trivial⟩ rfl (fun b69 hb69 => WL_r rfl (dm_ (e := elI) (l := out) (m := [mb46]) 68 us_22 (by kernel_rfl) (by decide) rfl rfl hO_out (SLe.lit (e := elI) (l := [mb46]) m0 rfl (Nat.le_of_ble_eq_true rfl) rfl) (fq_s (fq_s fq_l)) (by simp only [List.length_append, List.length_cons, List.length_nil]; omega) (by decide) (fun p70 c71 L72 hO73 => ?_))))))
         refine sE rfl (nl J (J19 _ _ (Rk fun K J => sE rfl (sV (.int .i64 (((k + 1) : Nat) : Int)) rfl (congrArg (Value.int .i64) (wx (by omega) (by omega) (by omega))) (sE rfl (nl J (⟨(by repeat first | exact .refl | refine .cons rfl ?_), _, _, (sA (sd (sd (s0)))), (Nat.lt_succ_self _), (out ++ [mb46]), (k + 1), p70, c71, L72, (by exact (hT0.symm.trans (Eq.symm (bif_t h45 (trs (Eq.symm (apS hCu47)) rfl)))).symm), (Nat.lt_of_lt_of_le (by first | omega | (simp only [List.length_append, List.length_cons, List.length_nil, List.length_set, List.length_take, and_true, true_and, or_true, true_or, Nat.zero_add] <;> omega)) (Nat.le_of_lt_succ hq0)), (by first | omega | (simp only [List.length_append, List.length_cons, List.length_nil, List.length_set, List.length_take, and_true, true_and, or_true, true_or, Nat.zero_add] <;> omega)), ⟨rfl, rfl, hO73⟩, rfl⟩)))))))
       ·skip
        have ph45 := of_decide_eq_false h45
        refine W_f h45 rfl (bh_ (al_ (al_ (ao_ (hK_u15 _ _ (by repeat first | exact .refl | refine .cons rfl ?_) ⟨_, s0, out, k, p_out, c_out, L_out, (by exact hT0.symm.trans (Eq.symm (bif_f h45 rfl))), (by first | omega | (simp only [List.length_append, List.length_cons, List.length_nil, List.length_set, List.length_take, and_true, true_and, or_true, true_or, Nat.zero_add] <;> omega)), ⟨rfl, rfl, hO_out⟩, rfl⟩)))))
     ·skip
      rintro g M ⟨out, k, p_out, c_out, L_out, hCu15, hPu15, ⟨hg5, hg6, hO_out⟩, rfl⟩
      simp only [setG, hg5, hg6]
      clear hg5 hg6
      have hm_out := OwnG.max hO_out
      refine Rs fun K J => sE rfl (WL_r rfl (aq_ (E := 38) (e := elI) (l := (ae_ out)) (fun v => v) en_16 rfl (fun w hw => cg_ _ out w (SLe.ap hw (SLfe.sle (OwnG.slfe hO_out (List.sublist_append_left _ _)))) (by first | omega | (simp only [List.length_cons, List.length_nil, and_true, true_and] <;> omega) | simp)) (fun p74 c75 L76 hF77 => ?_)))
      have hb78 := (ci_ out)
      refine sE rfl (nl J (W_ret (ret1 rfl (.inr rfl) rfl ?_)))
      have hE : ((ae_ out) : (List I)) = (a9_ p q) := by exact bif_f h4 (bif_f h12 (trs (Eq.symm (apS hCu15)) rfl))
      rw [← hE]
      exact ⟨_, rfl, ⟨L76, (List.sublist_append_left _ _), hF77⟩⟩

theorem f2_ (vp : Value) (p : (List I)) (n : I) (w : World) (hp : Slr w elI vp p) (hpre : p.length ≤ 100) :
    Calls Tryz.prog 49 [vp, AV [pI n]].toArray w (fun e w' => ∃ v, e = .returned (v) ∧ Ext w w' ∧ Slo w.heap.size w' 38 elI v (a5_ p n)) := by
 obtain ⟨p_p, c_p, rfl⟩ := hp.form
 refine bc_ (n := 32) (fun v => v) Tryz.func49 rfl rfl (by simp) ?_
 obtain ⟨w0, rfl⟩ : ∃ w0, w0 = w := ⟨_, rfl⟩
 have Hp := hp.old
 have hm_p := hp.max
 simp only [initF, Nat.reduceAdd]
 refine Rs fun K J => WL_r rfl (b5_ rfl rfl (fun b1 hb1 => sE rfl (nl J (Sq fun K1 J1 => ?_))))
 refine bu_ [7, 8, 9, 10, 11, 12, 13] (fun g M => (g 13 = .bool ((ab_ p) || (!(aN_ n)))) ∧ M = [⟨b1, 38, flat [pI n]⟩]) (fun K2 J2 => ?_) ?_
 ·skip
  refine Rk fun K J => sE rfl (sQ (q_as (v' := .bool (ab_ p)) (av_ en_19 rfl (fun w hw => aQ_ _ p w (SLe.ap hw (SLe.sub Hp sn)))) rfl) rfl ?_)
  rcases bt (ab_ p) with h3 | h3
  ·skip
   refine sB h3 rfl (WL_n rfl (WL_n rfl (WL_n rfl (sE rfl (nl J ?_)))))
   refine J2 _ _ (by repeat first | exact .refl | refine .cons rfl ?_) ⟨_, s0, ?s13, rfl⟩
   case s13 => exact congrArg Value.bool (or_t h3)
  ·skip
   refine sB h3 rfl (sQ (qL ty_38 rfl m0 rfl) rfl (sQ (q_ret en_69 (cP_ n) rfl) rfl (sE rfl (sE rfl (nl J ?_)))))
   refine J2 _ _ (by repeat first | exact .refl | refine .cons rfl ?_) ⟨_, s0, ?s13, rfl⟩
   case s13 => exact congrArg Value.bool (or_f h3 rfl)
 ·skip
  rintro g4 M ⟨hg13, rfl⟩
  simp only [setG, hg13]
  clear hg13
  rcases bt ((ab_ p) || (!(aN_ n))) with h5 | h5
  ·skip
   refine W_t h5 rfl (Rs fun K J => WL_r rfl (aq_ (E := 38) (e := elI) (l := F_skewbackref08_bad) (fun v => v) en_70 rfl (fun w hw => co_  w) (fun p6 c7 L8 hF9 => sE rfl (nl J (W_ret (ah_ (ret1 rfl (.inr rfl) rfl ?_)))))))
   have hE : (F_skewbackref08_bad : (List I)) = (a5_ p n) := by exact bif_t h5 rfl
   rw [← hE]
   exact ⟨_, rfl, ⟨L8, (List.sublist_append_left _ _), hF9⟩⟩
  ·skip
   refine W_f h5 rfl (aj_ (J1 _ _ (Rs fun K J => sE rfl (nl J (Sq fun K3 J3 => Rs fun K J => sE rfl (nl J ?_))))))
   refine cu_ (fun S M h => J3 S M h) [5, 6, 15, 16, 17, 18, 19, 20, 21, 22, 23, 24, 25, 26, 27, 28, 29] (fun g M => ∃ (out : List I) (i : Nat) (p_out : Option Addr) (c_out : Nat) (L_out : List Blk), (bm_ p n ((p.length + 1)) ([] : List I) 0) = (out, i) ∧ (out.length ≤ 200) ∧ (g 5 = .slice p_out out.length c_out ∧ g 6 = .int .i64 ((i : Nat) : Int) ∧ OwnG w0 38 elI (.slice p_out out.length c_out) out L_out) ∧ M = (L_out ++ (⟨b1, 38, flat [pI n]⟩ :: []))) (fun K_u10 hK_u10 => ?_) ?_
   ·skip
    refine am_ ?_
    refine aB_ [5, 6, 15, 16, 17, 18, 19, 20, 21, 22, 23, 24, 25, 26, 27, 28, 29] (fun g nn M => ∃ (out : List I) (i : Nat) (p_out : Option Addr) (c_out : Nat) (L_out : List Blk), (bm_ p n nn out i) = (bm_ p n ((p.length + 1)) ([] : List I) 0) ∧ p.length - i < nn ∧ (i ≤ p.length ∧ out.length = i) ∧ (g 5 = .slice p_out out.length c_out ∧ g 6 = .int .i64 ((i : Nat) : Int) ∧ OwnG w0 38 elI (.slice p_out out.length c_out) out L_out) ∧ M = (L_out ++ (⟨b1, 38, flat [pI n]⟩ :: []))) ((p.length + 1)) ?start ?round
    case start => exact ⟨_, s0, ([] : List I), 0, none, 0, [], rfl, (by first | omega | (simp only [List.length_append, List.length_cons, List.length_nil, List.length_set, List.length_take, and_true, true_and, or_true, true_or, Nat.zero_add] <;> omega)), (by first | omega | (simp only [List.length_append, List.length_cons, List.length_nil, List.length_set, List.length_take, and_true, true_and, or_true, true_or, Nat.zero_add] <;> omega)), ⟨rfl, rfl, OwnG.nil⟩, rfl⟩
    case round =>
     rintro nn g M ⟨out, i, p_out, c_out, L_out, hT0, hq0, hinv0, ⟨hg5, hg6, hO_out⟩, rfl⟩
     obtain ⟨k0, rfl⟩ : ∃ m, nn = m + 1 := ⟨nn - 1, by omega⟩
     simp only [setG, hg5, hg6]
     clear hg5 hg6
     have hm_out := OwnG.max hO_out
     refine Sq fun K6 J6 => Rs fun K J => sE rfl (sE rfl (sQ (q_as (v' := .int .i64 (((p).length : Nat) : Int)) (a0_ (e := elI) sl_24 rfl (SLe.sub Hp sn)) rfl) rfl (sE rfl (nl J ?_))))
     rcases bt (decide (((i : Nat) : Int) < (((p).length : Nat) : Int))) with h17 | h17
     ·skip
      have ph17 := of_decide_eq_true h17
      refine W_t h17 rfl (aj_ (J6 _ _ (Sq fun K7 J7 => am_ (dr sn [0,4,8,12,16,20,24,29,33,36] [8] mix (by kernel_rfl) (fun K J => pE rfl (pE rfl (pE rfl (pQ rfl (q_as (v' := .pointer (some (slb (.slice p_p p.length c_p) (i * 18 + 0)))) (cW_ (e := elI) (l := p) (k := i) sl_24 rfl rfl (SLe.sub Hp sn) (by first | omega | (simp only [List.length_set, List.length_append, List.length_cons, List.length_nil]; omega))) rfl) ?_))))))))
      refine pQ rfl (q_ldG (e := elI) (l := p) (k := i) (o := 0) ty_38 rfl (SLe.sub Hp sn) (aE_ I0 (by first | omega | (simp only [List.length_set, List.length_append, List.length_cons, List.length_nil]; omega))) rfl) ?_
      refine pQ rfl (qL ty_38 rfl (List.mem_append_right _ (List.mem_cons_self)) rfl) (pC (AV [pI (E (Z.mul (p.getD i I0).dec n.dec))]) en_82 (cF_ (p.getD i I0).1 n.1 (p.getD i I0).2 n.2) rfl rfl rfl (PL_o rfl rfl (aC_ [[pI (E (Z.mul (p.getD i I0).dec n.dec))]] [pI (E (Z.mul (p.getD i I0).dec n.dec))] us_22 z_38 sz_38 rfl (by decide) rfl rfl ⟨rfl, rfl, rfl, trivial⟩ rfl (fun b18 hb18 => ⟨(fun _ => sd s0), sn, PL_o rfl rfl (dm_ (e := elI) (l := out) (m := [(E (Z.mul (p.getD i I0).dec n.dec))]) 68 us_22 (by kernel_rfl) (by decide) rfl rfl hO_out (SLe.lit (e := elI) (l := [(E (Z.mul (p.getD i I0).dec n.dec))]) m0 rfl (Nat.le_of_ble_eq_true rfl) rfl) (fq_s fq_l) (by simp only [List.length_append, List.length_cons, List.length_nil]; omega) (by decide) (fun p19 c20 L21 hO22 => ⟨nf, sn, ?_⟩))⟩))))
      refine pE rfl (fl J (J7 _ _ (Rk fun K J => sE rfl (sV (.int .i64 (((i + 1) : Nat) : Int)) rfl (congrArg (Value.int .i64) (wx (by omega) (by omega) (by omega))) (sE rfl (nl J (⟨(by repeat first | exact .refl | refine .cons rfl ?_), _, _, (sA (sd (s0))), (Nat.lt_succ_self _), (out ++ [(E (Z.mul (p.getD i I0).dec n.dec))]), (i + 1), p19, c20, L21, (by exact (hT0.symm.trans (Eq.symm (bif_t h17 rfl))).symm), (Nat.lt_of_lt_of_le (by first | omega | (simp only [List.length_append, List.length_cons, List.length_nil, List.length_set, List.length_take, and_true, true_and, or_true, true_or, Nat.zero_add] <;> omega)) (Nat.le_of_lt_succ hq0)), (by first | omega | (simp only [List.length_append, List.length_cons, List.length_nil, List.length_set, List.length_take, and_true, true_and, or_true, true_or, Nat.zero_add] <;> omega)), ⟨rfl, rfl, hO22⟩, rfl⟩)))))))
     ·skip
      have ph17 := of_decide_eq_false h17
      refine W_f h17 rfl (bh_ (al_ (al_ (ao_ (hK_u10 _ _ (by repeat first | exact .refl | refine .cons rfl ?_) ⟨_, s0, out, i, p_out, c_out, L_out, (by exact hT0.symm.trans (Eq.symm (bif_f h17 rfl))), (by first | omega | (simp only [List.length_append, List.length_cons, List.length_nil, List.length_set, List.length_take, and_true, true_and, or_true, true_or, Nat.zero_add] <;> omega)), ⟨rfl, rfl, hO_out⟩, rfl⟩)))))
   ·skip
    rintro g M ⟨out, i, p_out, c_out, L_out, hCu10, hPu10, ⟨hg5, hg6, hO_out⟩, rfl⟩
    simp only [setG, hg5, hg6]
    clear hg5 hg6
    have hm_out := OwnG.max hO_out
    refine Rs fun K J => sE rfl (WL_r rfl (aq_ (E := 38) (e := elI) (l := (ae_ out)) (fun v => v) en_16 rfl (fun w hw => cg_ _ out w (SLe.ap hw (SLfe.sle (OwnG.slfe hO_out (List.sublist_append_left _ _)))) (by first | omega | (simp only [List.length_cons, List.length_nil, and_true, true_and] <;> omega) | simp)) (fun p23 c24 L25 hF26 => ?_)))
    have hb27 := (ci_ out)
    refine sE rfl (nl J (W_ret (ret1 rfl (.inr rfl) rfl ?_)))
    have hE : ((ae_ out) : (List I)) = (a5_ p n) := by exact bif_f h5 (trs (Eq.symm (apS hCu10)) rfl)
    rw [← hE]
    exact ⟨_, rfl, ⟨L25, (List.sublist_append_left _ _), hF26⟩⟩

theorem fJ_ (vp : Value) (p : (List I)) (w : World) (hp : Slr w elI vp p) (hpre : p.length ≤ 100) :
    Calls Tryz.prog 50 [vp].toArray w (fun e w' => ∃ v, e = .returned (v) ∧ Ext w w' ∧ Slo w.heap.size w' 38 elI v (aY_ p)) := by
 obtain ⟨p_p, c_p, rfl⟩ := hp.form
 refine bc_ (n := 26) (fun v => v) Tryz.func50 rfl rfl (by simp) ?_
 obtain ⟨w0, rfl⟩ : ∃ w0, w0 = w := ⟨_, rfl⟩
 have Hp := hp.old
 have hm_p := hp.max
 simp only [initF, Nat.reduceAdd]
 refine Rs fun K J => sE rfl (nl J (Sq fun K1 J1 => Rs fun K J => sE rfl (sQ (q_as (v' := .bool (ab_ p)) (av_ en_19 rfl (fun w hw => aQ_ _ p w (SLe.ap hw (SLe.sub Hp sn)))) rfl) rfl (nl J ?_))))
 rcases bt (ab_ p) with h1 | h1
 ·skip
  refine W_t h1 rfl (Rs fun K J => WL_r rfl (aq_ (E := 38) (e := elI) (l := F_skewbackref08_bad) (fun v => v) en_70 rfl (fun w hw => co_  w) (fun p2 c3 L4 hF5 => sE rfl (nl J (W_ret (ah_ (ret1 rfl (.inr rfl) rfl ?_)))))))
  have hE : (F_skewbackref08_bad : (List I)) = (aY_ p) := by exact bif_t h1 rfl
  rw [← hE]
  exact ⟨_, rfl, ⟨L4, (List.sublist_append_left _ _), hF5⟩⟩
 ·skip
  refine W_f h1 rfl (aj_ (J1 _ _ (Rs fun K J => sE rfl (nl J (Sq fun K2 J2 => Rs fun K J => sE rfl (nl J ?_))))))
  refine cu_ (fun S M h => J2 S M h) [3, 4, 8, 9, 10, 11, 12, 13, 14, 15, 16, 17, 18, 19, 20, 21, 22, 23] (fun g M => ∃ (out : List I) (i : Nat) (p_out : Option Addr) (c_out : Nat) (L_out : List Blk), (bg_ p ((p.length + 1)) ([] : List I) 1) = (out, i) ∧ (out.length ≤ 200) ∧ (g 3 = .slice p_out out.length c_out ∧ g 4 = .int .i64 ((i : Nat) : Int) ∧ OwnG w0 38 elI (.slice p_out out.length c_out) out L_out) ∧ M = (L_out ++ [])) (fun K_u6 hK_u6 => ?_) ?_
  ·skip
   refine am_ ?_
   refine aB_ [3, 4, 8, 9, 10, 11, 12, 13, 14, 15, 16, 17, 18, 19, 20, 21, 22, 23] (fun g nn M => ∃ (out : List I) (i : Nat) (p_out : Option Addr) (c_out : Nat) (L_out : List Blk), (bg_ p nn out i) = (bg_ p ((p.length + 1)) ([] : List I) 1) ∧ p.length - i < nn ∧ (out.length + 1 = i ∧ (i ≤ p.length ∨ i = 1)) ∧ (g 3 = .slice p_out out.length c_out ∧ g 4 = .int .i64 ((i : Nat) : Int) ∧ OwnG w0 38 elI (.slice p_out out.length c_out) out L_out) ∧ M = (L_out ++ [])) ((p.length + 1)) ?start ?round
   case start => exact ⟨_, s0, ([] : List I), 1, none, 0, [], rfl, (by first | omega | (simp only [List.length_append, List.length_cons, List.length_nil, List.length_set, List.length_take, and_true, true_and, or_true, true_or, Nat.zero_add] <;> omega)), (by first | omega | (simp only [List.length_append, List.length_cons, List.length_nil, List.length_set, List.length_take, and_true, true_and, or_true, true_or, Nat.zero_add] <;> omega)), ⟨rfl, rfl, OwnG.nil⟩, rfl⟩
   case round =>
    rintro nn g M ⟨out, i, p_out, c_out, L_out, hT0, hq0, hinv0, ⟨hg3, hg4, hO_out⟩, rfl⟩
    obtain ⟨k0, rfl⟩ : ∃ m, nn = m + 1 := ⟨nn - 1, by omega⟩
    simp only [setG, hg3, hg4]
    clear hg3 hg4
    have hm_out := OwnG.max hO_out
    refine Sq fun K5 J5 => Rs fun K J => sE rfl (sE rfl (sQ (q_as (v' := .int .i64 (((p).length : Nat) : Int)) (a0_ (e := elI) sl_24 rfl (SLe.sub Hp sn)) rfl) rfl (sE rfl (nl J ?_))))
    rcases bt (decide (((i : Nat) : Int) < (((p).length : Nat) : Int))) with h13 | h13
    ·skip
     have ph13 := of_decide_eq_true h13
     refine W_t h13 rfl (aj_ (J5 _ _ (Sq fun K6 J6 => am_ (dr sn [0,4,8,12,16,20,24,28,33,37,40] [9] mix (by kernel_rfl) (fun K J => pE rfl (pE rfl (pC (AV [pI (E (Z.of ((i : Nat) : Int)))]) en_81 (b1_ ((i : Nat) : Int) (by unfold I64; omega)) rfl rfl rfl (pE rfl (pE rfl (pQ rfl (q_as (v' := .pointer (some (slb (.slice p_p p.length c_p) (i * 18 + 0)))) (cW_ (e := elI) (l := p) (k := i) sl_24 rfl rfl (SLe.sub Hp sn) (by first | omega | (simp only [List.length_set, List.length_append, List.length_cons, List.length_nil]; omega))) rfl) ?_))))))))))
     refine pQ rfl (q_ldG (e := elI) (l := p) (k := i) (o := 0) ty_38 rfl (SLe.sub Hp sn) (aE_ I0 (by first | omega | (simp only [List.length_set, List.length_append, List.length_cons, List.length_nil]; omega))) rfl) ?_
     refine pC (AV [pI (E (Z.mul (Z.of ((i : Nat) : Int)) (p.getD i I0).dec))]) en_82 (cF_ (E (Z.of ((i : Nat) : Int))).1 (p.getD i I0).1 (E (Z.of ((i : Nat) : Int))).2 (p.getD i I0).2) rfl rfl (cg2 (fun p q => AV [pI (E (Z.mul p q))]) (E_dec _) rfl) (PL_o rfl rfl (aC_ [[pI (E (Z.mul (Z.of ((i : Nat) : Int)) (p.getD i I0).dec))]] [pI (E (Z.mul (Z.of ((i : Nat) : Int)) (p.getD i I0).dec))] us_22 z_38 sz_38 rfl (by decide) rfl rfl ⟨rfl, rfl, rfl, trivial⟩ rfl (fun b14 hb14 => ⟨(fun _ => sd s0), sn, PL_o rfl rfl (dm_ (e := elI) (l := out) (m := [(E (Z.mul (Z.of ((i : Nat) : Int)) (p.getD i I0).dec))]) 68 us_22 (by kernel_rfl) (by decide) rfl rfl hO_out (SLe.lit (e := elI) (l := [(E (Z.mul (Z.of ((i : Nat) : Int)) (p.getD i I0).dec))]) m0 rfl (Nat.le_of_ble_eq_true rfl) rfl) (fq_s fq_l) (by simp only [List.length_append, List.length_cons, List.length_nil]; omega) (by decide) (fun p15 c16 L17 hO18 => ⟨nf, sn, ?_⟩))⟩)))
     refine pE rfl (fl J (J6 _ _ (Rk fun K J => sE rfl (sV (.int .i64 (((i + 1) : Nat) : Int)) rfl (congrArg (Value.int .i64) (wx (by omega) (by omega) (by omega))) (sE rfl (nl J (⟨(by repeat first | exact .refl | refine .cons rfl ?_), _, _, (sA (sd (s0))), (Nat.lt_succ_self _), (out ++ [(E (Z.mul (Z.of ((i : Nat) : Int)) (p.getD i I0).dec))]), (i + 1), p15, c16, L17, (by exact (hT0.symm.trans (Eq.symm (bif_t h13 rfl))).symm), (Nat.lt_of_lt_of_le (by first | omega | (simp only [List.length_append, List.length_cons, List.length_nil, List.length_set, List.length_take, and_true, true_and, or_true, true_or, Nat.zero_add] <;> omega)) (Nat.le_of_lt_succ hq0)), (by first | omega | (simp only [List.length_append, List.length_cons, List.length_nil, List.length_set, List.length_take, and_true, true_and, or_true, true_or, Nat.zero_add] <;> omega)), ⟨rfl, rfl, hO18⟩, rfl⟩)))))))
    ·skip
     have ph13 := of_decide_eq_false h13
     refine W_f h13 rfl (bh_ (al_ (al_ (ao_ (hK_u6 _ _ (by repeat first | exact .refl | refine .cons rfl ?_) ⟨_, s0, out, i, p_out, c_out, L_out, (by exact hT0.symm.trans (Eq.symm (bif_f h13 rfl))), (by first | omega | (simp only [List.length_append, List.length_cons, List.length_nil, List.length_set, List.length_take, and_true, true_and, or_true, true_or, Nat.zero_add] <;> omega)), ⟨rfl, rfl, hO_out⟩, rfl⟩)))))
  ·skip
   rintro g M ⟨out, i, p_out, c_out, L_out, hCu6, hPu6, ⟨hg3, hg4, hO_out⟩, rfl⟩
   simp only [setG, hg3, hg4]
   clear hg3 hg4
   have hm_out := OwnG.max hO_out
   refine Rs fun K J => sE rfl (WL_r rfl (aq_ (E := 38) (e := elI) (l := (ae_ out)) (fun v => v) en_16 rfl (fun w hw => cg_ _ out w (SLe.ap hw (SLfe.sle (OwnG.slfe hO_out (List.sublist_append_left _ _)))) (by first | omega | (simp only [List.length_cons, List.length_nil, and_true, true_and] <;> omega) | simp)) (fun p19 c20 L21 hF22 => ?_)))
   have hb23 := (ci_ out)
   refine sE rfl (nl J (W_ret (ret1 rfl (.inr rfl) rfl ?_)))
   have hE : ((ae_ out) : (List I)) = (aY_ p) := by exact bif_f h1 (trs (Eq.symm (apS hCu6)) rfl)
   rw [← hE]
   exact ⟨_, rfl, ⟨L21, (List.sublist_append_left _ _), hF22⟩⟩

theorem ew_ (n : I) (k : Int) (w : World)  (hpre : k ≤ 200) :
    Calls Tryz.prog 105 [AV [pI n], .int .i64 k].toArray w (fun e w' => e = .returned (AV [pI (bn_ n k)]) ∧ Ext w w') := by
 refine aF_ (N := 17) Tryz.func105 rfl rfl (by simp) ?_
 obtain ⟨w0, rfl⟩ : ∃ w0, w0 = w := ⟨_, rfl⟩
 simp only [initF, Nat.reduceAdd]
 refine Rs fun K J => WL_r rfl (b5_ rfl rfl (fun b1 hb1 => sN zp_38 rfl fun b2 hb2 => nl J (Rs fun K J => sC (AV [pI (E (Z.of 1))]) en_81 (b1_ (wl 1).1 (wl 1).2) rfl rfl rfl ?_)))
 refine sN zp_38 rfl fun b3 hb3 => sS [pI (E (Z.of 1))] ty_38 rfl rfl rfl rfl rfl (.head _) rfl hb3 (nl J (Sq fun K1 J1 => Rs fun K J => sE rfl (nl J ?_)))
 refine cu_ (fun S M h => J1 S M h) [6, 8, 9, 10, 11, 12, 13, 14, 15] (fun g M => ∃ (i : Nat) (mb3 : I), (bD_ n k ((k.toNat + 1)) 0 (E (Z.of 1))) = (i, mb3) ∧ (g 6 = .int .i64 ((i : Nat) : Int)) ∧ M = [⟨b3, 38, flat [pI mb3]⟩, ⟨b2, 38, flat [pI I0]⟩, ⟨b1, 38, flat [pI n]⟩]) (fun K_u4 hK_u4 => ?_) ?_
 ·skip
  refine am_ ?_
  refine aB_ [6, 8, 9, 10, 11, 12, 13, 14, 15] (fun g nn M => ∃ (i : Nat) (mb3 : I), (bD_ n k nn i mb3) = (bD_ n k ((k.toNat + 1)) 0 (E (Z.of 1))) ∧ k.toNat - i < nn ∧ (i ≤ k.toNat) ∧ (g 6 = .int .i64 ((i : Nat) : Int)) ∧ M = [⟨b3, 38, flat [pI mb3]⟩, ⟨b2, 38, flat [pI I0]⟩, ⟨b1, 38, flat [pI n]⟩]) ((k.toNat + 1)) ?start ?round
  case start => exact ⟨_, s0, 0, (E (Z.of 1)), rfl, (by first | omega | (simp only [List.length_append, List.length_cons, List.length_nil, List.length_set, List.length_take, and_true, true_and, or_true, true_or, Nat.zero_add] <;> omega)), (by first | omega | (simp only [List.length_append, List.length_cons, List.length_nil, List.length_set, List.length_take, and_true, true_and, or_true, true_or, Nat.zero_add] <;> omega)), rfl, rfl⟩
  case round =>
   rintro nn g M ⟨i, mb3, hT0, hq0, hinv0, hg6, rfl⟩
   obtain ⟨k0, rfl⟩ : ∃ m, nn = m + 1 := ⟨nn - 1, by omega⟩
   simp only [setG, hg6]
   clear hg6
   refine Sq fun K6 J6 => Rs fun K J => sE rfl (sE rfl (sE rfl (nl J ?_)))
   rcases bt (decide (((i : Nat) : Int) < k)) with h7 | h7
   ·skip
    have ph7 := of_decide_eq_true h7
    refine W_t h7 rfl (aj_ (J6 _ _ (Sq fun K7 J7 => am_ (Rk fun K J => sQ (qL ty_38 rfl m0 rfl) rfl (sQ (qL ty_38 rfl m2 rfl) rfl (sC (AV [pI (E (Z.mul mb3.dec n.dec))]) en_82 (cF_ mb3.1 n.1 mb3.2 n.2) rfl rfl rfl (sS [pI (E (Z.mul mb3.dec n.dec))] ty_38 rfl rfl rfl rfl rfl (.head _) rfl hb3 (nl J (J7 _ _ (Rk fun K J => sE rfl (sV (.int .i64 (((i + 1) : Nat) : Int)) rfl (congrArg (Value.int .i64) (wx (by omega) (by omega) (by omega))) (sE rfl (nl J (⟨(by repeat first | exact .refl | refine .cons rfl ?_), _, _, s0, (Nat.lt_succ_self _), (i + 1), (E (Z.mul mb3.dec n.dec)), (by exact (hT0.symm.trans (Eq.symm (bif_t h7 rfl))).symm), (Nat.lt_of_lt_of_le (by first | omega | (simp only [List.length_append, List.length_cons, List.length_nil, List.length_set, List.length_take, and_true, true_and, or_true, true_or, Nat.zero_add] <;> omega)) (Nat.le_of_lt_succ hq0)), (by first | omega | (simp only [List.length_append, List.length_cons, List.length_nil, List.length_set, List.length_take, and_true, true_and, or_true, true_or, Nat.zero_add] <;> omega)), rfl, rfl⟩))))))))))))))
   ·skip
    have ph7 := of_decide_eq_false h7
    refine W_f h7 rfl (bh_ (al_ (al_ (ao_ (hK_u4 _ _ (by repeat first | exact .refl | refine .cons rfl ?_) ⟨_, s0, i, mb3, (by exact hT0.symm.trans (Eq.symm (bif_f h7 rfl))), rfl, rfl⟩)))))
 ·skip
  rintro g M ⟨i, mb3, hCu4, hg6, rfl⟩
  simp only [setG, hg6]
  clear hg6
  refine Rs fun K J => sQ (qL ty_38 rfl m0 rfl) rfl (sS [pI mb3] ty_38 rfl rfl rfl rfl rfl (.tail _ (.head _)) rfl hb2 (nl J (W_ret (ret1 rfl (.inr rfl) (resP rfl m1 ty_38 rfl) ?_))))
  exact (by exact congrArg (fun r : I => (AV [pI r] : Value)) (show _ = (bn_ n k) from (by unfold bn_; exact trs (Eq.symm (apS hCu4)) rfl)))

theorem gq_ (a : Rt) :
    Ret Tryz.prog 145 [AV [pI a.n, pI a.d]] (.bool (cb_ a)) := by
 refine aD_ (N := 26) Tryz.func145 rfl rfl (by simp) (fun w0 => ?_)
 simp only [initF, Nat.reduceAdd]
 refine Rs fun K J => WL_r rfl (b5_ rfl rfl (fun b1 hb1 => sE rfl (nl J (Sq fun K1 J1 => ?_))))
 refine bu_ [3, 4, 5, 6, 7, 8, 9, 10, 11, 12, 13, 14, 15, 16, 17, 18] (fun g M => (g 18 = .bool (!(aN_ a.n) || (!(aN_ a.d) || decide ((Z.signW a.d.dec).1 ≤ 0)))) ∧ M = [⟨b1, 44, flat [pI a.n, pI a.d]⟩]) (fun K2 J2 => ?_) ?_
 ·skip
  refine Rk fun K J => sQ (qF em_ rfl rfl) rfl (sQ (qL ty_38 rfl m0 rfl) rfl (sQ (q_ret en_69 (cP_ a.n) rfl) rfl (sE rfl ?_)))
  rcases bt (aN_ a.n) with h4 | h4
  ·skip
   refine sB (not_f h4) rfl (sQ (qF dg_ rfl rfl) rfl (sQ (qL ty_38 rfl m0 rfl) rfl (sQ (q_ret en_69 (cP_ a.d) rfl) rfl (sE rfl (sE rfl ?_)))))
   rcases bt (aN_ a.d) with h5 | h5
   ·skip
    refine sB (not_f h5) rfl (sQ (qF dg_ rfl rfl) rfl (sQ (qL ty_38 rfl m0 rfl) rfl (sC (.int .i64 ((Z.signW a.d.dec).1)) en_71 (b0_ a.d.1 a.d.2) rfl rfl rfl (sE rfl (sE rfl (nl J ?_))))))
    refine J2 _ _ (by repeat first | exact .refl | refine .cons rfl ?_) ⟨_, s0, ?s18, rfl⟩
    case s18 => exact congrArg Value.bool (nor_t h4 (nor_t h5 rfl))
   ·skip
    refine sB (not_t h5) rfl (WL_n rfl (WL_n rfl (WL_n rfl (WL_n rfl (sE rfl (nl J ?_))))))
    refine J2 _ _ (by repeat first | exact .refl | refine .cons rfl ?_) ⟨_, s0, ?s18, rfl⟩
    case s18 => exact congrArg Value.bool (nor_t h4 (nor_f h5))
  ·skip
   refine sB (not_t h4) rfl (WL_n rfl (WL_n rfl (WL_n rfl (WL_n rfl (sE rfl (sE rfl (WL_n rfl (WL_n rfl (WL_n rfl (WL_n rfl (sE rfl (nl J ?_))))))))))))
   refine J2 _ _ (by repeat first | exact .refl | refine .cons rfl ?_) ⟨_, s0, ?s18, rfl⟩
   case s18 => exact congrArg Value.bool (nor_f h4)
 ·skip
  rintro g6 M ⟨hg18, rfl⟩
  simp only [setG, hg18]
  clear hg18
  rcases bt (!(aN_ a.n) || (!(aN_ a.d) || decide ((Z.signW a.d.dec).1 ≤ 0))) with h7 | h7
  ·skip
   refine W_t h7 rfl (Rs fun K J => sE rfl (nl J (W_ret (ah_ (ret1 rfl (.inr rfl) rfl ?_)))))
   exact (by exact congrArg (fun r : Bool => (.bool r : Value)) (show _ = (cb_ a) from bif_t h7 rfl))
  ·skip
   refine W_f h7 rfl (aj_ (J1 _ _ (Rs fun K J => sQ (qF em_ rfl rfl) rfl (sQ (qL ty_38 rfl m0 rfl) rfl (sQ (qF dg_ rfl rfl) rfl (sQ (qL ty_38 rfl m0 rfl) rfl (sC (AV [pI (E (Z.gcd a.n.dec a.d.dec))]) ni_ (d4_ a.n.1 a.d.1 a.n.2 a.d.2) rfl rfl rfl (sC (AV [pI (E (Z.of 1))]) en_81 (b1_ (wl 1).1 (wl 1).2) rfl rfl rfl ?_))))))))
   refine sQ (fI_ (r := decide ((E (Z.gcd a.n.dec a.d.dec)) = (E (Z.of 1)))) rfl rfl (dM_ 8 (by decide) eg_38 lw_38 (dW_ lv_pI) (dW_ lv_pI) (e5_ eq_pI))) rfl (sE rfl (nl J (W_ret (ret1 rfl (.inr rfl) rfl ?_))))
   exact (by exact congrArg (fun r : Bool => (.bool r : Value)) (show _ = (cb_ a) from bif_f h7 rfl))

theorem et_ (vp : Value) (p : (List I)) (x : Rt) (w : World) (hp : Slr w elI vp p) (hpre : p.length ≤ 100) :
    Calls Tryz.prog 103 [vp, AV [pI x.n, pI x.d]].toArray w (fun e w' => e = .returned (AV [pI (ap_ p x)]) ∧ Ext w w') := by
 obtain ⟨p_p, c_p, rfl⟩ := hp.form
 refine aF_ (N := 42) Tryz.func103 rfl rfl (by simp) ?_
 obtain ⟨w0, rfl⟩ : ∃ w0, w0 = w := ⟨_, rfl⟩
 have Hp := hp.old
 have hm_p := hp.max
 simp only [initF, Nat.reduceAdd]
 refine Rs fun K J => WL_r rfl (b5_ rfl rfl (fun b1 hb1 => sN zp_38 rfl fun b2 hb2 => nl J (Sq fun K1 J1 => ?_)))
 refine bu_ [7, 8, 9, 10, 11, 12, 13] (fun g M => (g 13 = .bool ((ab_ p) || (!(cb_ x)))) ∧ M = [⟨b2, 38, flat [pI I0]⟩, ⟨b1, 44, flat [pI x.n, pI x.d]⟩]) (fun K2 J2 => ?_) ?_
 ·skip
  refine Rk fun K J => sE rfl (sQ (q_as (v' := .bool (ab_ p)) (av_ en_19 rfl (fun w hw => aQ_ _ p w (SLe.ap hw (SLe.sub Hp sn)))) rfl) rfl ?_)
  rcases bt (ab_ p) with h4 | h4
  ·skip
   refine sB h4 rfl (WL_n rfl (WL_n rfl (WL_n rfl (sE rfl (nl J ?_)))))
   refine J2 _ _ (by repeat first | exact .refl | refine .cons rfl ?_) ⟨_, s0, ?s13, rfl⟩
   case s13 => exact congrArg Value.bool (or_t h4)
  ·skip
   refine sB h4 rfl (sQ (qL ty_44 rfl m1 rfl) rfl (sQ (q_ret qN_ (gq_ x) rfl) rfl (sE rfl (sE rfl (nl J ?_)))))
   refine J2 _ _ (by repeat first | exact .refl | refine .cons rfl ?_) ⟨_, s0, ?s13, rfl⟩
   case s13 => exact congrArg Value.bool (or_f h4 rfl)
 ·skip
  rintro g5 M ⟨hg13, rfl⟩
  simp only [setG, hg13]
  clear hg13
  rcases bt ((ab_ p) || (!(cb_ x))) with h6 | h6
  ·skip
   refine W_t h6 rfl (Rs fun K J => sC (AV [pI (E Z.bad)]) en_99 aX_ rfl rfl rfl (sS [pI (E Z.bad)] ty_38 rfl rfl rfl rfl rfl (.head _) rfl hb2 (nl J (W_ret (ah_ (ret1 rfl (.inr rfl) (resP rfl m0 ty_38 rfl) ?_))))))
   exact (by exact congrArg (fun r : I => (AV [pI r] : Value)) (show _ = (ap_ p x) from bif_t h6 rfl))
  ·skip
   refine W_f h6 rfl (aj_ (J1 _ _ (Rs fun K J => sQ (dz_ zp_38 pl_38 rfl (.nil _)) rfl (sN zp_38 rfl fun b7 hb7 => sS [pI I0] ty_38 rfl rfl rfl rfl rfl (.head _) rfl hb7 (nl J (Sq fun K3 J3 => Rs fun K J => sE rfl (sQ (q_as (v' := .int .i64 (((p).length : Nat) : Int)) (a0_ (e := elI) sl_24 rfl (SLe.sub Hp sn)) rfl) rfl (sV (.int .i64 ((((p).length : Nat) : Int) - 1)) rfl (congrArg (Value.int .i64) (wx (by omega) (by omega) (by omega))) (sE rfl (nl J ?_))))))))))
   refine cu_ (fun S M h => J3 S M h) [6, 19, 20, 21, 22, 23, 24, 25, 26, 27, 28, 29, 30, 31, 32, 33, 34, 35, 36, 37, 38, 39, 40] (fun g M => ∃ (i : Int) (mb7 : I), (bF_ p x ((p.length + 1)) ((((p).length : Nat) : Int) - 1) I0) = (i, mb7) ∧ (g 6 = .int .i64 i) ∧ M = [⟨b7, 38, flat [pI mb7]⟩, ⟨b2, 38, flat [pI I0]⟩, ⟨b1, 44, flat [pI x.n, pI x.d]⟩]) (fun K_u8 hK_u8 => ?_) ?_
   ·skip
    refine am_ ?_
    refine aB_ [6, 19, 20, 21, 22, 23, 24, 25, 26, 27, 28, 29, 30, 31, 32, 33, 34, 35, 36, 37, 38, 39, 40] (fun g nn M => ∃ (i : Int) (mb7 : I), (bF_ p x nn i mb7) = (bF_ p x ((p.length + 1)) ((((p).length : Nat) : Int) - 1) I0) ∧ (i + 1).toNat < nn ∧ (i < (p.length : Int) ∧ -1 ≤ i) ∧ (g 6 = .int .i64 i) ∧ M = [⟨b7, 38, flat [pI mb7]⟩, ⟨b2, 38, flat [pI I0]⟩, ⟨b1, 44, flat [pI x.n, pI x.d]⟩]) ((p.length + 1)) ?start ?round
    case start => exact ⟨_, s0, ((((p).length : Nat) : Int) - 1), I0, rfl, (by first | omega | (simp only [List.length_append, List.length_cons, List.length_nil, List.length_set, List.length_take, and_true, true_and, or_true, true_or, Nat.zero_add] <;> omega)), (by first | omega | (simp only [List.length_append, List.length_cons, List.length_nil, List.length_set, List.length_take, and_true, true_and, or_true, true_or, Nat.zero_add] <;> omega)), rfl, rfl⟩
    case round =>
     rintro nn g M ⟨i, mb7, hT0, hq0, hinv0, hg6, rfl⟩
     obtain ⟨k0, rfl⟩ : ∃ m, nn = m + 1 := ⟨nn - 1, by omega⟩
     simp only [setG, hg6]
     clear hg6
     refine Sq fun K8 J8 => Rs fun K J => sE rfl (sE rfl (nl J ?_))
     rcases bt (decide (0 ≤ i)) with h13 | h13
     ·skip
      have ph13 := of_decide_eq_true h13
      refine W_t h13 rfl (aj_ (J8 _ _ (Sq fun K9 J9 => am_ (dr (sd s0) [0,4,8,12,16,20,24,28,32,36,40,44,48,52,56,60,64,68,73] [18] mix (by kernel_rfl) (fun K J => pQ rfl (qL ty_38 rfl m0 rfl) (pQ rfl (qF em_ rfl rfl) (pQ rfl (qL ty_38 rfl m2 rfl) (pC (AV [pI (E (Z.mul mb7.dec x.n.dec))]) en_82 (cF_ mb7.1 x.n.1 mb7.2 x.n.2) rfl rfl rfl (pE rfl (pE rfl (pQ rfl (q_as (v' := .pointer (some (slb (.slice p_p p.length c_p) (((i).toNat) * 18 + 0)))) (dF_ (e := elI) (l := p) (k := (i).toNat) sl_24 rfl rfl (by omega) (SLe.sub Hp sn) (by first | omega | (simp only [List.length_set, List.length_append, List.length_cons, List.length_nil]; omega))) rfl) ?_)))))))))))
      refine pQ rfl (q_ldG (e := elI) (l := p) (k := (i).toNat) (o := 0) ty_38 rfl (SLe.sub Hp sn) (aE_ I0 (by first | omega | (simp only [List.length_set, List.length_append, List.length_cons, List.length_nil]; omega))) rfl) ?_
      refine pQ rfl (qF dg_ rfl rfl) (pQ rfl (qL ty_38 rfl m2 rfl) (pE rfl (pQ rfl (q_as (v' := .int .i64 (((p).length : Nat) : Int)) (a0_ (e := elI) sl_24 rfl (SLe.sub Hp sn)) rfl) (pV (.int .i64 ((((p).length : Nat) : Int) - 1)) rfl (congrArg (Value.int .i64) (wx (by omega) (by omega) (by omega))) (pE rfl (pV (.int .i64 (((((p).length : Nat) : Int) - 1) - i)) rfl (congrArg (Value.int .i64) (wx (by omega) (by omega) (by omega))) (pQ rfl (q_as (v' := AV [pI (bn_ x.d (((((p).length : Nat) : Int) - 1) - i))]) (av_ oZ_ rfl (fun w hw => ew_ x.d (((((p).length : Nat) : Int) - 1) - i) w (by first | omega | (simp only [List.length_cons, List.length_nil, and_true, true_and] <;> omega) | simp))) rfl) ?_)))))))
      obtain ⟨r14, hr14⟩ := nm ((E (Z.mul (p.getD ((i).toNat) I0).dec (bn_ x.d (((((p).length : Nat) : Int) - 1) - i)).dec)) : I)
      refine pC (AV [pI r14]) en_82 (cF_ (p.getD ((i).toNat) I0).1 (bn_ x.d (((((p).length : Nat) : Int) - 1) - i)).1 (p.getD ((i).toNat) I0).2 (bn_ x.d (((((p).length : Nat) : Int) - 1) - i)).2) rfl rfl (by rw [hr14]; first | done | rfl) (pC (AV [pI (E (Z.add (Z.mul mb7.dec x.n.dec) r14.dec))]) lE_ (dp_ (E (Z.mul mb7.dec x.n.dec)).1 r14.1 (E (Z.mul mb7.dec x.n.dec)).2 r14.2) rfl rfl (cg2 (fun p q => AV [pI (E (Z.add p q))]) (E_dec _) rfl) (oS [pI (E (Z.add (Z.mul mb7.dec x.n.dec) r14.dec))] ty_38 rfl rfl rfl rfl rfl rfl (.head _) rfl hb7 rfl (sd s0) (fl J (J9 _ _ (Rk fun K J => sE rfl (sV (.int .i64 (i - 1)) rfl (congrArg (Value.int .i64) (wx (by omega) (by omega) (by omega))) (sE rfl (nl J (⟨(by repeat first | exact .refl | refine .cons rfl ?_), _, _, s0, (Nat.lt_succ_self _), (i - 1), (E (Z.add (Z.mul mb7.dec x.n.dec) r14.dec)), (by subst hr14; exact (hT0.symm.trans (Eq.symm (bif_t h13 rfl))).symm), (Nat.lt_of_lt_of_le (by first | omega | (simp only [List.length_append, List.length_cons, List.length_nil, List.length_set, List.length_take, and_true, true_and, or_true, true_or, Nat.zero_add] <;> omega)) (Nat.le_of_lt_succ hq0)), (by first | omega | (simp only [List.length_append, List.length_cons, List.length_nil, List.length_set, List.length_take, and_true, true_and, or_true, true_or, Nat.zero_add] <;> omega)), rfl, rfl⟩)))))))))
     ·skip
      have ph13 := of_decide_eq_false h13
      refine W_f h13 rfl (bh_ (al_ (al_ (ao_ (hK_u8 _ _ (by repeat first | exact .refl | refine .cons rfl ?_) ⟨_, s0, i, mb7, (by exact hT0.symm.trans (Eq.symm (bif_f h13 rfl))), rfl, rfl⟩)))))
   ·skip
    rintro g M ⟨i, mb7, hCu8, hg6, rfl⟩
    simp only [setG, hg6]
    clear hg6
    refine Rs fun K J => sQ (qL ty_38 rfl m0 rfl) rfl (sS [pI mb7] ty_38 rfl rfl rfl rfl rfl (.tail _ (.head _)) rfl hb2 (nl J (W_ret (ret1 rfl (.inr rfl) (resP rfl m1 ty_38 rfl) ?_))))
    exact (by exact congrArg (fun r : I => (AV [pI r] : Value)) (show _ = (ap_ p x) from bif_f h6 (trs (Eq.symm (apS hCu8)) rfl)))

theorem gg_ (vp : Value) (p : (List I)) (x : Rt) (w : World) (hp : Slr w elI vp p) (hpre : p.length ≤ 100) :
    Calls Tryz.prog 39 [vp, AV [pI x.n, pI x.d]].toArray w (fun e w' => e = .returned (AV [ci .i64 (((aL_ p x).s).1), cb ((aL_ p x).ok)]) ∧ Ext w w') := by
 obtain ⟨p_p, c_p, rfl⟩ := hp.form
 refine aF_ (N := 15) Tryz.func39 rfl rfl (by simp) ?_
 obtain ⟨w0, rfl⟩ : ∃ w0, w0 = w := ⟨_, rfl⟩
 have Hp := hp.old
 have hm_p := hp.max
 simp only [initF, Nat.reduceAdd]
 refine Rs fun K J => WL_r rfl (b5_ rfl rfl (fun b1 hb1 => sN zp_49 rfl fun b2 hb2 => nl J (Rs fun K J => sE rfl (sQ (qL ty_44 rfl m1 rfl) rfl (sQ (q_as (v' := AV [pI (ap_ p x)]) (av_ pw_ rfl (fun w hw => et_ _ p x w (SLe.ap hw (SLe.sub Hp sn)) (by first | omega | (simp only [List.length_cons, List.length_nil, and_true, true_and] <;> omega) | simp))) rfl) rfl ?_)))))
 refine sN zp_38 rfl fun b3 hb3 => sS [pI (ap_ p x)] ty_38 rfl rfl rfl rfl rfl (.head _) rfl hb3 (nl J (Sq fun K1 J1 => Rs fun K J => sQ (qF eM_ rfl rfl) rfl (sQ (qC ty_4 rfl m0 rfl) rfl (nl J ?_))))
 rcases bt ((ap_ p x).1.bad) with h4 | h4
 ·skip
  refine W_t h4 rfl (Rs fun K J => sQ (dz_ zp_49 pl_49 rfl (.nil _)) rfl (sS [ci .i64 0, cb false] ty_49 rfl rfl rfl rfl rfl (.tail _ (.head _)) rfl hb2 (nl J (W_ret (ah_ (ret1 rfl (.inr rfl) (resP rfl m1 ty_49 rfl) ?_))))))
  exact (by exact congrArg (fun r : Sgd => (AV [ci .i64 r.s.1, cb r.ok] : Value)) (show _ = (aL_ p x) from bif_t h4 rfl))
 ·skip
  refine W_f h4 rfl (aj_ (J1 _ _ (Rs fun K J => sQ (qL ty_38 rfl m0 rfl) rfl (sC (.int .i64 ((Z.signW (ap_ p x).dec).1)) en_71 (b0_ (ap_ p x).1 (ap_ p x).2) rfl rfl rfl (sQ (dz_ zp_49 pl_49 rfl (.cons [ci .i64 ((Z.signW (ap_ p x).dec).1)] [ci .i64 ((Z.signW (ap_ p x).dec).1), cb false] rfl rfl rfl rfl (.cons [cb true] [ci .i64 ((Z.signW (ap_ p x).dec).1), cb true] rfl rfl rfl rfl (.nil _)))) rfl (sS [ci .i64 ((Z.signW (ap_ p x).dec).1), cb true] ty_49 rfl rfl rfl rfl rfl (.tail _ (.head _)) rfl hb2 (nl J (W_ret (ret1 rfl (.inr rfl) (resP rfl m1 ty_49 rfl) ?_)))))))))
  exact (by exact congrArg (fun r : Sgd => (AV [ci .i64 r.s.1, cb r.ok] : Value)) (show _ = (aL_ p x) from bif_f h4 rfl))

theorem gl_ (vp : Value) (p : (List I)) (x : Rt) (w : World) (hp : Slr w elI vp p) (hpre : p.length ≤ 100) :
    Calls Tryz.prog 41 [vp, AV [pI x.n, pI x.d]].toArray w (fun e w' => e = .returned (AV [pI ((a2_ p x).n), pI ((a2_ p x).d)]) ∧ Ext w w') := by
 obtain ⟨p_p, c_p, rfl⟩ := hp.form
 refine aF_ (N := 16) Tryz.func41 rfl rfl (by simp) ?_
 obtain ⟨w0, rfl⟩ : ∃ w0, w0 = w := ⟨_, rfl⟩
 have Hp := hp.old
 have hm_p := hp.max
 simp only [initF, Nat.reduceAdd]
 refine Rs fun K J => WL_r rfl (b5_ rfl rfl (fun b1 hb1 => sN zp_44 rfl fun b2 hb2 => nl J (ds (sd s0) [0,4,8,12,16,20,24,28,32,36,40,45] [11] mix (by kernel_rfl) (fun K J => pE rfl (pQ rfl (qL ty_44 rfl m1 rfl) (pQ rfl (q_as (v' := AV [pI (ap_ p x)]) (av_ pw_ rfl (fun w hw => et_ _ p x w (SLe.ap hw (SLe.sub Hp sn)) (by first | omega | (simp only [List.length_cons, List.length_nil, and_true, true_and] <;> omega) | simp))) rfl) ?_))))))
 refine pQ rfl (qF dg_ rfl rfl) (pQ rfl (qL ty_38 rfl m1 rfl) (pE rfl (pQ rfl (q_as (v' := .int .i64 (((p).length : Nat) : Int)) (a0_ (e := elI) sl_24 rfl (SLe.sub Hp sn)) rfl) (pV (.int .i64 ((((p).length : Nat) : Int) - 1)) rfl (congrArg (Value.int .i64) (wx (by omega) (by omega) (by omega))) (pQ rfl (q_as (v' := .int .i64 (((((((p).length : Nat) : Int) - 1)).toNat : Nat) : Int)) (hf_ rfl rfl) (congrArg (Value.int .i64) (by omega))) ?_)))))
 obtain ⟨r3, hr3⟩ := nm ((bn_ x.d (((((((p).length : Nat) : Int) - 1)).toNat : Nat) : Int)) : I)
 refine pQ rfl (q_as (v' := AV [pI r3]) (av_ oZ_ rfl (fun w hw => ew_ x.d (((((((p).length : Nat) : Int) - 1)).toNat : Nat) : Int) w (by first | omega | (simp only [List.length_cons, List.length_nil, and_true, true_and] <;> omega) | simp))) (by rw [hr3]; first | done | rfl)) ?_
 obtain ⟨r4, hr4⟩ := nm ((bI_ (ap_ p x) r3) : Rt)
 refine pC (AV [pI r4.n, pI r4.d]) qY_ (go_ (ap_ p x) r3) rfl rfl (by rw [hr4]; first | done | rfl) (oS [pI r4.n, pI r4.d] ty_44 rfl rfl rfl rfl rfl rfl (.head _) rfl hb2 rfl (sd s0) (fl J (W_ret (ret1 rfl (.inr rfl) (resP rfl m0 ty_44 rfl) ?_))))
 exact (by subst hr4; subst hr3; rfl)

theorem ff_ (vp : Value) (p : (List I)) (w : World) (hp : Slr w elI vp p) :
    Calls Tryz.prog 51 [vp].toArray w (fun e w' => e = .returned (.int .i64 ((bd_ p).1)) ∧ Ext w w') := by
 obtain ⟨p_p, c_p, rfl⟩ := hp.form
 refine aF_ (N := 30) Tryz.func51 rfl rfl (by simp) ?_
 obtain ⟨w0, rfl⟩ : ∃ w0, w0 = w := ⟨_, rfl⟩
 have Hp := hp.old
 have hm_p := hp.max
 simp only [initF, Nat.reduceAdd]
 refine Rs fun K J => sE rfl (nl J (Sq fun K1 J1 => Rs fun K J => sE rfl (sQ (q_as (v' := .bool (ab_ p)) (av_ en_19 rfl (fun w hw => aQ_ _ p w (SLe.ap hw (SLe.sub Hp sn)))) rfl) rfl (nl J ?_))))
 rcases bt (ab_ p) with h1 | h1
 ·skip
  refine W_t h1 rfl (Rs fun K J => sE rfl (nl J (W_ret (ah_ (ret1 rfl (.inr rfl) rfl ?_)))))
  exact (by exact congrArg (fun r : W => (.int .i64 r.1 : Value)) (show _ = (bd_ p) from bif_t h1 rfl))
 ·skip
  refine W_f h1 rfl (aj_ (J1 _ _ (Rs fun K J => sE rfl (nl J (Rs fun K J => sE rfl (nl J (Sq fun K2 J2 => Rs fun K J => sE rfl (nl J ?_))))))))
  refine cu_ (fun S M h => J2 S M h) [3, 4, 5, 6, 9, 10, 11, 12, 13, 14, 15, 16, 17, 18, 19, 20, 21, 22, 23, 24, 25, 26, 27, 28] (fun g M => ∃ (n : W) (last : W) (i : Nat), (aM_ p ((p.length + 1)) (wl 0) (wl 0) 0) = (n, last, i) ∧ (g 3 = .int .i64 n.1 ∧ g 4 = .int .i64 last.1 ∧ g 5 = .int .i64 ((i : Nat) : Int)) ∧ M = []) (fun K_u2 hK_u2 => ?_) ?_
  ·skip
   refine am_ ?_
   refine aB_ [3, 4, 5, 6, 9, 10, 11, 12, 13, 14, 15, 16, 17, 18, 19, 20, 21, 22, 23, 24, 25, 26, 27, 28] (fun g nn M => ∃ (n : W) (last : W) (i : Nat), (aM_ p nn n last i) = (aM_ p ((p.length + 1)) (wl 0) (wl 0) 0) ∧ p.length - i < nn ∧ (i ≤ p.length) ∧ (g 3 = .int .i64 n.1 ∧ g 4 = .int .i64 last.1 ∧ g 5 = .int .i64 ((i : Nat) : Int)) ∧ M = []) ((p.length + 1)) ?start ?round
   case start => exact ⟨_, s0, (wl 0), (wl 0), 0, rfl, (by first | omega | (simp only [List.length_append, List.length_cons, List.length_nil, List.length_set, List.length_take, and_true, true_and, or_true, true_or, Nat.zero_add] <;> omega)), (by first | omega | (simp only [List.length_append, List.length_cons, List.length_nil, List.length_set, List.length_take, and_true, true_and, or_true, true_or, Nat.zero_add] <;> omega)), ⟨rfl, rfl, rfl⟩, rfl⟩
   case round =>
    rintro nn g M ⟨n, last, i, hT0, hq0, hinv0, ⟨hg3, hg4, hg5⟩, rfl⟩
    obtain ⟨k0, rfl⟩ : ∃ m, nn = m + 1 := ⟨nn - 1, by omega⟩
    simp only [setG, hg3, hg4, hg5]
    clear hg3 hg4 hg5
    refine Sq fun K7 J7 => Rs fun K J => sE rfl (sE rfl (sQ (q_as (v' := .int .i64 (((p).length : Nat) : Int)) (a0_ (e := elI) sl_24 rfl (SLe.sub Hp sn)) rfl) rfl (sE rfl (nl J ?_))))
    rcases bt (decide (((i : Nat) : Int) < (((p).length : Nat) : Int))) with h6 | h6
    ·skip
     have ph6 := of_decide_eq_true h6
     refine W_t h6 rfl (aj_ (J7 _ _ (Sq fun K8 J8 => am_ (Rs fun K J => sE rfl (sE rfl (sQ (q_as (v' := .pointer (some (slb (.slice p_p p.length c_p) (i * 18 + 0)))) (cW_ (e := elI) (l := p) (k := i) sl_24 rfl rfl (SLe.sub Hp sn) (by first | omega | (simp only [List.length_set, List.length_append, List.length_cons, List.length_nil]; omega))) rfl) rfl ?_))))))
     refine sQ (q_ldG (e := elI) (l := p) (k := i) (o := 0) ty_38 rfl (SLe.sub Hp sn) (aE_ I0 (by first | omega | (simp only [List.length_set, List.length_append, List.length_cons, List.length_nil]; omega))) rfl) rfl ?_
     refine sC (.int .i64 ((Z.signW (p.getD i I0).dec).1)) en_71 (b0_ (p.getD i I0).1 (p.getD i I0).2) rfl rfl rfl (sE rfl (nl J (Sq fun K9 J9 => Rs fun K J => sE rfl (sE rfl (nl J ?_)))))
     rcases bt ((Z.signW (p.getD i I0).dec).1 == 0) with h7 | h7
     ·skip
      refine W_t h7 rfl (bh_ (al_ (ao_ (J8 _ _ (Rk fun K J => sE rfl (sV (.int .i64 (((i + 1) : Nat) : Int)) rfl (congrArg (Value.int .i64) (wx (by omega) (by omega) (by omega))) (sE rfl (nl J (⟨(by repeat first | exact .refl | refine .cons rfl ?_), _, _, s0, (Nat.lt_succ_self _), n, last, (i + 1), (by exact (hT0.symm.trans (Eq.symm (bif_t h6 (bif_t h7 rfl)))).symm), (Nat.lt_of_lt_of_le (by first | omega | (simp only [List.length_append, List.length_cons, List.length_nil, List.length_set, List.length_take, and_true, true_and, or_true, true_or, Nat.zero_add] <;> omega)) (Nat.le_of_lt_succ hq0)), (by first | omega | (simp only [List.length_append, List.length_cons, List.length_nil, List.length_set, List.length_take, and_true, true_and, or_true, true_or, Nat.zero_add] <;> omega)), ⟨rfl, rfl, rfl⟩, rfl⟩)))))))))
     ·skip
      refine W_f h7 rfl (aj_ (J9 _ _ (Sq fun K10 J10 => Rs fun K J => sE rfl (sE rfl (sV (.int .i64 ((W.neg (Z.signW (p.getD i I0).dec)).1)) rfl rfl (sE rfl (nl J ?_)))))))
      rcases bt (last.1 == (W.neg (Z.signW (p.getD i I0).dec)).1) with h8 | h8
      ·skip
       refine W_t h8 rfl (Rk fun K J => sE rfl (sV (.int .i64 ((W.add n (wl 1)).1)) rfl rfl ?_))
       refine sE rfl (nl J (J10 _ _ (Rk fun K J => sE rfl (sE rfl (nl J (J8 _ _ (Rk fun K J => sE rfl (sV (.int .i64 (((i + 1) : Nat) : Int)) rfl (congrArg (Value.int .i64) (wx (by omega) (by omega) (by omega))) (sE rfl (nl J (⟨(by repeat first | exact .refl | refine .cons rfl ?_), _, _, s0, (Nat.lt_succ_self _), (W.add n (wl 1)), (Z.signW (p.getD i I0).dec), (i + 1), (by exact (hT0.symm.trans (Eq.symm (bif_t h6 (bif_f h7 (bif_t h8 rfl))))).symm), (Nat.lt_of_lt_of_le (by first | omega | (simp only [List.length_append, List.length_cons, List.length_nil, List.length_set, List.length_take, and_true, true_and, or_true, true_or, Nat.zero_add] <;> omega)) (Nat.le_of_lt_succ hq0)), (by first | omega | (simp only [List.length_append, List.length_cons, List.length_nil, List.length_set, List.length_take, and_true, true_and, or_true, true_or, Nat.zero_add] <;> omega)), ⟨rfl, rfl, rfl⟩, rfl⟩)))))))))))
      ·skip
       refine W_f h8 rfl (aj_ (J10 _ _ (Rk fun K J => sE rfl (sE rfl (nl J (J8 _ _ (Rk fun K J => sE rfl (sV (.int .i64 (((i + 1) : Nat) : Int)) rfl (congrArg (Value.int .i64) (wx (by omega) (by omega) (by omega))) (sE rfl (nl J (⟨(by repeat first | exact .refl | refine .cons rfl ?_), _, _, s0, (Nat.lt_succ_self _), n, (Z.signW (p.getD i I0).dec), (i + 1), (by exact (hT0.symm.trans (Eq.symm (bif_t h6 (bif_f h7 (bif_f h8 rfl))))).symm), (Nat.lt_of_lt_of_le (by first | omega | (simp only [List.length_append, List.length_cons, List.length_nil, List.length_set, List.length_take, and_true, true_and, or_true, true_or, Nat.zero_add] <;> omega)) (Nat.le_of_lt_succ hq0)), (by first | omega | (simp only [List.length_append, List.length_cons, List.length_nil, List.length_set, List.length_take, and_true, true_and, or_true, true_or, Nat.zero_add] <;> omega)), ⟨rfl, rfl, rfl⟩, rfl⟩)))))))))))
    ·skip
     have ph6 := of_decide_eq_false h6
     refine W_f h6 rfl (bh_ (al_ (al_ (ao_ (hK_u2 _ _ (by repeat first | exact .refl | refine .cons rfl ?_) ⟨_, s0, n, last, i, (by exact hT0.symm.trans (Eq.symm (bif_f h6 rfl))), ⟨rfl, rfl, rfl⟩, rfl⟩)))))
  ·skip
   rintro g M ⟨n, last, i, hCu2, ⟨hg3, hg4, hg5⟩, rfl⟩
   simp only [setG, hg3, hg4, hg5]
   clear hg3 hg4 hg5
   refine Rs fun K J => sE rfl (sE rfl (nl J (W_ret (ret1 rfl (.inr rfl) rfl ?_))))
   exact (by exact congrArg (fun r : W => (.int .i64 r.1 : Value)) (show _ = (bd_ p) from bif_f h1 (trs (Eq.symm (apS hCu2)) rfl)))

theorem az_ (va : Value) (a : (List I)) (vb : Value) (b : (List I)) (w : World) (ha : Slr w elI va a) (hb : Slr w elI vb b) :
    Calls Tryz.prog 17 [va, vb].toArray w (fun e w' => e = .returned (.bool (af_ a b)) ∧ Ext w w') := by
 obtain ⟨p_a, c_a, rfl⟩ := ha.form
 obtain ⟨p_b, c_b, rfl⟩ := hb.form
 refine aF_ (N := 26) Tryz.func17 rfl rfl (by simp) ?_
 obtain ⟨w0, rfl⟩ : ∃ w0, w0 = w := ⟨_, rfl⟩
 have Ha := ha.old
 have hm_a := ha.max
 have Hb := hb.old
 have hm_b := hb.max
 simp only [initF, Nat.reduceAdd]
 refine Rs fun K J => sE rfl (nl J (Sq fun K1 J1 => Rs fun K J => sE rfl (sQ (q_as (v' := .int .i64 (((a).length : Nat) : Int)) (a0_ (e := elI) sl_22 rfl (SLe.sub Ha sn)) rfl) rfl (sE rfl (sQ (q_as (v' := .int .i64 (((b).length : Nat) : Int)) (a0_ (e := elI) sl_22 rfl (SLe.sub Hb sn)) rfl) rfl (sE rfl (nl J ?_)))))))
 rcases bt ((((a).length : Nat) : Int) != (((b).length : Nat) : Int)) with h1 | h1
 ·skip
  have ph2 := neI_t h1
  refine W_t h1 rfl (Rs fun K J => sE rfl (nl J (W_ret (ah_ (ret1 rfl (.inr rfl) rfl ?_)))))
  exact (by exact congrArg (fun r : Bool => (.bool r : Value)) (show _ = (af_ a b) from bif_t h1 rfl))
 ·skip
  have ph3 := neI_f h1
  refine W_f h1 rfl (aj_ (J1 _ _ (Sq fun K2 J2 => Rs fun K J => sE rfl (nl J ?_))))
  refine cu_ (fun S M h => J2 S M h) [4, 5, 11, 12, 13, 14, 15, 16, 17, 18, 19, 20, 21, 22, 23, 24, 25] (fun g M => ∃ (i : Nat), (bM_ a b ((a.length + 1)) 0) = .inl i ∧ (g 5 = .int .i64 ((i : Nat) : Int)) ∧ M = []) (fun K_u4 hK_u4 => ?_) ?_
  ·skip
   refine am_ ?_
   refine aB_ [4, 5, 11, 12, 13, 14, 15, 16, 17, 18, 19, 20, 21, 22, 23, 24, 25] (fun g nn M => ∃ (i : Nat), (bM_ a b nn i) = (bM_ a b ((a.length + 1)) 0) ∧ a.length - i < nn ∧ (i ≤ a.length) ∧ (g 5 = .int .i64 ((i : Nat) : Int)) ∧ M = []) ((a.length + 1)) ?start ?round
   case start => exact ⟨_, s0, 0, rfl, (by first | omega | (simp only [List.length_append, List.length_cons, List.length_nil, List.length_set, List.length_take, and_true, true_and, or_true, true_or, Nat.zero_add] <;> omega)), (by first | omega | (simp only [List.length_append, List.length_cons, List.length_nil, List.length_set, List.length_take, and_true, true_and, or_true, true_or, Nat.zero_add] <;> omega)), rfl, rfl⟩
   case round =>
    rintro nn g M ⟨i, hT0, hq0, hinv0, hg5, rfl⟩
    obtain ⟨k0, rfl⟩ : ∃ m, nn = m + 1 := ⟨nn - 1, by omega⟩
    simp only [setG, hg5]
    clear hg5
    refine Sq fun K7 J7 => Rs fun K J => sE rfl (sE rfl (sQ (q_as (v' := .int .i64 (((a).length : Nat) : Int)) (a0_ (e := elI) sl_22 rfl (SLe.sub Ha sn)) rfl) rfl (sE rfl (nl J ?_))))
    rcases bt (decide (((i : Nat) : Int) < (((a).length : Nat) : Int))) with h9 | h9
    ·skip
     have ph9 := of_decide_eq_true h9
     refine W_t h9 rfl (aj_ (J7 _ _ (Sq fun K8 J8 => am_ (ds sn [0,4,8,12,16,20,24,28,32] [] mix (by kernel_rfl) (fun K J => pE rfl (pE rfl (pQ rfl (q_as (v' := .pointer (some (slb (.slice p_a a.length c_a) (i * 18 + 0)))) (cW_ (e := elI) (l := a) (k := i) sl_22 rfl rfl (SLe.sub Ha sn) (by first | omega | (simp only [List.length_set, List.length_append, List.length_cons, List.length_nil]; omega))) rfl) ?_)))))))
     refine pQ rfl (q_ldG (e := elI) (l := a) (k := i) (o := 0) ty_38 rfl (SLe.sub Ha sn) (aE_ I0 (by first | omega | (simp only [List.length_set, List.length_append, List.length_cons, List.length_nil]; omega))) rfl) ?_
     refine pE rfl (pE rfl (pQ rfl (q_as (v' := .pointer (some (slb (.slice p_b b.length c_b) (i * 18 + 0)))) (cW_ (e := elI) (l := b) (k := i) sl_22 rfl rfl (SLe.sub Hb sn) (by first | omega | (simp only [List.length_set, List.length_append, List.length_cons, List.length_nil]; omega))) rfl) ?_))
     refine pQ rfl (q_ldG (e := elI) (l := b) (k := i) (o := 0) ty_38 rfl (SLe.sub Hb sn) (aE_ I0 (by first | omega | (simp only [List.length_set, List.length_append, List.length_cons, List.length_nil]; omega))) rfl) ?_
     refine pQ rfl (jv_ (r := decide ((a.getD i I0) = (b.getD i I0))) rfl rfl (dM_ 8 (by decide) eg_38 lw_38 (dW_ lv_pI) (dW_ lv_pI) (e5_ eq_pI))) (fl J ?_)
     rcases bt (decide ((a.getD i I0) = (b.getD i I0))) with h10 | h10
     ·skip
      have ph10 := of_decide_eq_true h10
      refine W_f (not_f h10) rfl (aj_ (J8 _ _ (Rk fun K J => sE rfl (sV (.int .i64 (((i + 1) : Nat) : Int)) rfl (congrArg (Value.int .i64) (wx (by omega) (by omega) (by omega))) (sE rfl (nl J (⟨(by repeat first | exact .refl | refine .cons rfl ?_), _, _, s0, (Nat.lt_succ_self _), (i + 1), (by exact (hT0.symm.trans (Eq.symm (bif_t h9 (bif_t h10 rfl)))).symm), (Nat.lt_of_lt_of_le (by first | omega | (simp only [List.length_append, List.length_cons, List.length_nil, List.length_set, List.length_take, and_true, true_and, or_true, true_or, Nat.zero_add] <;> omega)) (Nat.le_of_lt_succ hq0)), (by first | omega | (simp only [List.length_append, List.length_cons, List.length_nil, List.length_set, List.length_take, and_true, true_and, or_true, true_or, Nat.zero_add] <;> omega)), rfl, rfl⟩)))))))
     ·skip
      have ph10 := of_decide_eq_false h10
      refine W_t (not_t h10) rfl (Rs fun K J => sE rfl (nl J (W_ret (be_ (ah_ (ah_ (be_ (ah_ (ah_ (ret1 rfl (.inr rfl) rfl ?_))))))))))
      exact (by exact congrArg (fun r : Bool => (.bool r : Value)) (show _ = (af_ a b) from bif_f h1 ((sm_q rfl (hT0.symm.trans (Eq.symm (bif_t h9 (bif_f h10 rfl))))))))
    ·skip
     have ph9 := of_decide_eq_false h9
     refine W_f h9 rfl (bh_ (al_ (al_ (ao_ (hK_u4 _ _ (by repeat first | exact .refl | refine .cons rfl ?_) ⟨_, s0, i, (by exact hT0.symm.trans (Eq.symm (bif_f h9 rfl))), rfl, rfl⟩)))))
  ·skip
   rintro g M ⟨i, hCu4, hg5, rfl⟩
   simp only [setG, hg5]
   clear hg5
   refine Rs fun K J => sE rfl (nl J (W_ret (ret1 rfl (.inr rfl) rfl ?_)))
   exact (by exact congrArg (fun r : Bool => (.bool r : Value)) (show _ = (af_ a b) from bif_f h1 (trs (Eq.symm (smS hCu4)) rfl)))

theorem dN_ (vp : Value) (p : (List I)) (w : World) (hp : Slr w elI vp p) :
    Calls Tryz.prog 36 [vp].toArray w (fun e w' => e = .returned (.bool (as_ p)) ∧ Ext w w') := by
 obtain ⟨p_p, c_p, rfl⟩ := hp.form
 refine aF_ (N := 33) Tryz.func36 rfl rfl (by simp) ?_
 obtain ⟨w0, rfl⟩ : ∃ w0, w0 = w := ⟨_, rfl⟩
 have Hp := hp.old
 have hm_p := hp.max
 simp only [initF, Nat.reduceAdd]
 refine Rs fun K J => sE rfl (nl J (Sq fun K1 J1 => ?_))
 refine bu_ [3, 4, 5, 6, 7, 8, 9, 10, 11, 12] (fun g M => (g 12 = .bool (((((p).length : Nat) : Int) == 1) && decide ((p.getD 0 I0) = (E Z.bad)))) ∧ M = []) (fun K2 J2 => ?_) ?_
 ·skip
  refine dr sn [0,4,8,12,16,20,24,28,32,36] [] mix (by kernel_rfl) (fun K J => pE rfl (pQ rfl (q_as (v' := .int .i64 (((p).length : Nat) : Int)) (a0_ (e := elI) sl_24 rfl (SLe.sub Hp sn)) rfl) (pE rfl ?_)))
  rcases bt ((((p).length : Nat) : Int) == 1) with h2 | h2
  ·skip
   have ph2 := hh_ h2
   refine pB h2 rfl (pE rfl (pQ rfl (q_as (v' := .pointer (some (slb (.slice p_p p.length c_p) (0 * 18 + 0)))) (cW_ (e := elI) (l := p) (k := 0) sl_24 rfl rfl (SLe.sub Hp sn) (by first | omega | (simp only [List.length_set, List.length_append, List.length_cons, List.length_nil]; omega))) rfl) ?_))
   refine pQ rfl (q_ldG (e := elI) (l := p) (k := 0) (o := 0) ty_38 rfl (SLe.sub Hp sn) (aE_ I0 (by first | omega | (simp only [List.length_set, List.length_append, List.length_cons, List.length_nil]; omega))) rfl) ?_
   refine pC (AV [pI (E Z.bad)]) en_99 aX_ rfl rfl rfl ?_
   refine pQ rfl (fI_ (r := decide ((p.getD 0 I0) = (E Z.bad))) rfl rfl (dM_ 8 (by decide) eg_38 lw_38 (dW_ lv_pI) (dW_ lv_pI) (e5_ eq_pI))) (pE rfl (fl J ?_))
   refine J2 _ _ (by repeat first | exact .refl | refine .cons rfl ?_) ⟨_, s0, ?s12, rfl⟩
   case s12 => exact congrArg Value.bool (and_t h2 rfl)
  ·skip
   have ph2 := e8_ h2
   refine pB h2 rfl (PL_n rfl rfl (PL_n rfl rfl (PL_n rfl rfl (PL_n rfl rfl (PL_n rfl rfl (pE rfl (fl J ?_)))))))
   refine J2 _ _ (by repeat first | exact .refl | refine .cons rfl ?_) ⟨_, s0, ?s12, rfl⟩
   case s12 => exact congrArg Value.bool (and_f h2)
 ·skip
  rintro g3 M ⟨hg12, rfl⟩
  simp only [setG, hg12]
  clear hg12
  rcases bt (((((p).length : Nat) : Int) == 1) && decide ((p.getD 0 I0) = (E Z.bad))) with h4 | h4
  ·skip
   have ph5 := hh_ (Bool.and_eq_true_iff.1 h4).1
   have ph6 := of_decide_eq_true (Bool.and_eq_true_iff.1 h4).2
   refine W_t h4 rfl (Rs fun K J => sE rfl (nl J (W_ret (ah_ (ret1 rfl (.inr rfl) rfl ?_)))))
   exact (by exact congrArg (fun r : Bool => (.bool r : Value)) (show _ = (as_ p) from bif_t h4 rfl))
  ·skip
   refine W_f h4 rfl (aj_ (J1 _ _ (Sq fun K3 J3 => ?_)))
   refine bu_ [13, 14, 15, 16, 17, 18, 19] (fun g M => (g 19 = .bool ((ab_ p) || decide (25 < (((p).length : Nat) : Int)))) ∧ M = []) (fun K4 J4 => ?_) ?_
   ·skip
    refine Rk fun K J => sE rfl (sQ (q_as (v' := .bool (ab_ p)) (av_ en_19 rfl (fun w hw => aQ_ _ p w (SLe.ap hw (SLe.sub Hp sn)))) rfl) rfl ?_)
    rcases bt (ab_ p) with h8 | h8
    ·skip
     refine sB h8 rfl (WL_n rfl (WL_n rfl (WL_n rfl (sE rfl (nl J ?_)))))
     refine J4 _ _ (by repeat first | exact .refl | refine .cons rfl ?_) ⟨_, s0, ?s19, rfl⟩
     case s19 => exact congrArg Value.bool (or_t h8)
    ·skip
     refine sB h8 rfl (sE rfl (sQ (q_as (v' := .int .i64 (((p).length : Nat) : Int)) (a0_ (e := elI) sl_24 rfl (SLe.sub Hp sn)) rfl) rfl (sE rfl (sE rfl (nl J ?_)))))
     refine J4 _ _ (by repeat first | exact .refl | refine .cons rfl ?_) ⟨_, s0, ?s19, rfl⟩
     case s19 => exact congrArg Value.bool (or_f h8 rfl)
   ·skip
    rintro g9 M ⟨hg19, rfl⟩
    simp only [setG, hg19]
    clear hg19
    rcases bt ((ab_ p) || decide (25 < (((p).length : Nat) : Int))) with h10 | h10
    ·skip
     refine W_t h10 rfl (Rs fun K J => sE rfl (nl J (W_ret (ah_ (ret1 rfl (.inr rfl) rfl ?_)))))
     exact (by exact congrArg (fun r : Bool => (.bool r : Value)) (show _ = (as_ p) from bif_f h4 (bif_t h10 rfl)))
    ·skip
     have ph11 := of_decide_eq_false (Bool.or_eq_false_iff.1 h10).2
     refine W_f h10 rfl (aj_ (J3 _ _ ?_))
     refine bu_ [2, 20, 21, 22, 23, 24, 25, 26, 27, 28, 29, 30, 31, 32] (fun g M => (g 2 = .bool (((((p).length : Nat) : Int) == 0) || ((Z.signW (p.getD ((p).length - 1) I0).dec).1 != 0))) ∧ M = []) (fun K5 J5 => ?_) ?_
     ·skip
      refine Rk fun K J => sE rfl (sQ (q_as (v' := .int .i64 (((p).length : Nat) : Int)) (a0_ (e := elI) sl_24 rfl (SLe.sub Hp sn)) rfl) rfl (sE rfl ?_))
      rcases bt ((((p).length : Nat) : Int) == 0) with h13 | h13
      ·skip
       have ph13 := hh_ h13
       refine sB h13 rfl (WL_n rfl (WL_n rfl (WL_n rfl (WL_n rfl (WL_n rfl (WL_n rfl (WL_n rfl (WL_n rfl (sE rfl (sE rfl (nl J ?_)))))))))))
       refine J5 _ _ (by repeat first | exact .refl | refine .cons rfl ?_) ⟨_, s0, ?s2, rfl⟩
       case s2 => exact congrArg Value.bool (or_t h13)
      ·skip
       have ph13 := e8_ h13
       refine sB h13 rfl (sE rfl (sE rfl (sQ (q_as (v' := .int .i64 (((p).length : Nat) : Int)) (a0_ (e := elI) sl_24 rfl (SLe.sub Hp sn)) rfl) rfl (sV (.int .i64 ((((p).length : Nat) : Int) - 1)) rfl (congrArg (Value.int .i64) (wx (by omega) (by omega) (by omega))) (sQ (q_as (v' := .pointer (some (slb (.slice p_p p.length c_p) (((p).length - 1) * 18 + 0)))) (dF_ (e := elI) (l := p) (k := ((p).length - 1)) sl_24 rfl rfl (by omega) (SLe.sub Hp sn) (by first | omega | (simp only [List.length_set, List.length_append, List.length_cons, List.length_nil]; omega))) rfl) rfl ?_)))))
       refine sQ (q_ldG (e := elI) (l := p) (k := ((p).length - 1)) (o := 0) ty_38 rfl (SLe.sub Hp sn) (aE_ I0 (by first | omega | (simp only [List.length_set, List.length_append, List.length_cons, List.length_nil]; omega))) rfl) rfl ?_
       refine sC (.int .i64 ((Z.signW (p.getD ((p).length - 1) I0).dec).1)) en_71 (b0_ (p.getD ((p).length - 1) I0).1 (p.getD ((p).length - 1) I0).2) rfl rfl rfl (sE rfl (sE rfl (sE rfl (nl J ?_))))
       refine J5 _ _ (by repeat first | exact .refl | refine .cons rfl ?_) ⟨_, s0, ?s2, rfl⟩
       case s2 => exact congrArg Value.bool (or_f h13 rfl)
     ·skip
      rintro g14 M ⟨hg2, rfl⟩
      simp only [setG, hg2]
      clear hg2
      refine W_ret (ret1 rfl (.inr rfl) rfl ?_)
      exact (by exact congrArg (fun r : Bool => (.bool r : Value)) (show _ = (as_ p) from bif_f h4 (bif_f h10 rfl)))

end Go.Proofs.YtjdfogfmeibkgaaGreat

