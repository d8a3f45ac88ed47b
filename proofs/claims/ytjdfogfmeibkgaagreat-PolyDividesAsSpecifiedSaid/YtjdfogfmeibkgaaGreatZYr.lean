/- Walks: what these functions return. -/
import Derived.Test.YtjdfogfmeibkgaaGreatZGE
import Derived.Test.YtjdfogfmeibkgaaGreatZFp
import Derived.Test.YtjdfogfmeibkgaaGreatZWi
import Derived.Test.YtjdfogfmeibkgaaGreatZSa
import Derived.Test.YtjdfogfmeibkgaaGreatZSb
import Derived.Test.YtjdfogfmeibkgaaGreatZSg
import Derived.Test.YtjdfogfmeibkgaaGreatZSh
import Derived.Test.YtjdfogfmeibkgaaGreatZPb
import Derived.Test.YtjdfogfmeibkgaaGreatZYl
namespace Go.Proofs.YtjdfogfmeibkgaaGreat
open Go.Kn Go.Num
set_option linter.unusedVariables false
set_option linter.unusedSimpArgs false
set_option maxRecDepth 20000
set_option maxHeartbeats 8000000
theorem dy_ (a : I) :
    Ret Tryz.prog 69 [AV [pI a]] (.bool (bZ_ a)) := by
 refine aJ_ (N := 10) Tryz.func69 rfl rfl (by simp) (fun w0 => ?_)
 simp only [initF, Nat.reduceAdd]
 refine Rs fun K J => WL_r rfl (cw_ rfl rfl (fun b1 hb1 => sE rfl (nl J ?_)))
 refine bL_ [2, 3, 4, 5, 6, 7, 8, 9] (fun g M => (g 2 = .bool (!a.1.bad && a.1.valid)) ∧ M = [⟨b1, 38, flat [pI a]⟩]) (fun K1 J1 => ?_) ?_
 ·skip
  refine Rk fun K J => sQ (qF ep_ rfl rfl) rfl (sQ (qC ty_4 rfl m0 rfl) rfl (sE rfl ?_))
  rcases bt a.1.bad with h3 | h3
  ·skip
   refine sB (not_f h3) rfl (WL_n rfl (WL_n rfl (sE rfl (sE rfl (nl J ?_)))))
   refine J1 _ _ (by repeat first | exact .refl | refine .cons rfl ?_) ⟨_, s0, ?s2, rfl⟩
   case s2 => exact congrArg Value.bool (ny_ h3)
  ·skip
   refine sB (not_t h3) rfl (sQ (qL ty_38 rfl m0 rfl) rfl (sC (.bool a.1.valid) oX_ (ee_ a.1 a.2) rfl rfl rfl (sE rfl (sE rfl (nl J ?_)))))
   refine J1 _ _ (by repeat first | exact .refl | refine .cons rfl ?_) ⟨_, s0, ?s2, rfl⟩
   case s2 => exact congrArg Value.bool (mX_ h3 rfl)
 ·skip
  rintro g4 M ⟨hg2, rfl⟩
  simp only [setG, hg2]
  clear hg2
  refine W_ret (ret1 rfl (.inr rfl) rfl ?_)
  exact (by rfl)

theorem bB_  (w : World)  :
    Calls Tryz.prog 70 [].toArray w (fun e w' => ∃ v, e = .returned (v) ∧ Ext w w' ∧ Slo w.heap.size w' 38 elI v F_skewbackref08_bad) := by
 refine bi_ (n := 3) (fun v => v) Tryz.func70 rfl rfl (by simp) ?_
 obtain ⟨w0, rfl⟩ : ∃ w0, w0 = w := ⟨_, rfl⟩
 simp only [initF, Nat.reduceAdd]
 obtain ⟨q0, hq0⟩ := nm ((E Z.bad) : I)
 refine Rs fun K J => sE rfl (nl J (Rs fun K J => sC (AV [pI q0]) en_99 be_ rfl rfl (by rw [hq0]; first | done | rfl) (WL_r rfl (aE_ [[pI q0]] [pI q0] us_24 z_38 sz_38 rfl (by decide) rfl rfl ⟨rfl, rfl, rfl, trivial⟩ rfl (fun b1 hb1 => sE rfl (nl J (W_ret (ret1 rfl (.inr rfl) rfl ?_))))))))
 have hE : ([q0] : (List I)) = F_skewbackref08_bad := by subst hq0; exact rfl
 rw [← hE]
 exact ⟨_, rfl, ⟨_, (sk sn), OwnG.lit (e := elI) (l := [q0]) (qs := [pI q0]) hb1 rfl (Nat.le_of_ble_eq_true rfl) rfl⟩⟩

theorem cd_ (vl : Value) (l : (List I)) (w : World) (hl : Slr w elI vl l) (hpre : l.length ≤ 200) :
    Calls Tryz.prog 16 [vl].toArray w (fun e w' => ∃ v, e = .returned (v) ∧ Ext w w' ∧ Slo w.heap.size w' 38 elI v (ah_ l)) := by
 obtain ⟨p_l, c_l, rfl⟩ := hl.form
 refine bi_ (n := 45) (fun v => v) Tryz.func16 rfl rfl (by simp) ?_
 obtain ⟨w0, rfl⟩ : ∃ w0, w0 = w := ⟨_, rfl⟩
 have Hl := hl.old
 have hm_l := hl.max
 simp only [initF, Nat.reduceAdd]
 refine Rs fun K J => sE rfl (nl J (Rs fun K J => sE rfl (nl J (Sq fun K1 J1 => Rs fun K J => sE rfl (nl J ?_)))))
 refine cb_ (fun S M h => J1 S M h) [2, 3, 4, 5, 8, 9, 10, 11, 12, 13, 14, 15, 16, 17, 18, 19, 20, 21, 22, 23, 24, 25, 26, 27, 28] (fun g M => ∃ (last : Int) (i : Nat), (bv_ l ((l.length + 1)) (-1) 0) = .inl (last, i) ∧ (last < (l.length : Int) ∧ -1 ≤ last) ∧ (g 3 = .int .i64 last ∧ g 4 = .int .i64 ((i : Nat) : Int)) ∧ M = []) (fun K_u1 hK_u1 => ?_) ?_
 ·skip
  refine ap_ ?_
  refine aC_ [2, 3, 4, 5, 8, 9, 10, 11, 12, 13, 14, 15, 16, 17, 18, 19, 20, 21, 22, 23, 24, 25, 26, 27, 28] (fun g nn M => ∃ (last : Int) (i : Nat), (bv_ l nn last i) = (bv_ l ((l.length + 1)) (-1) 0) ∧ l.length - i < nn ∧ (i ≤ l.length ∧ last < (i : Int) ∧ -1 ≤ last) ∧ (g 3 = .int .i64 last ∧ g 4 = .int .i64 ((i : Nat) : Int)) ∧ M = []) ((l.length + 1)) ?start ?round
  case start => exact ⟨_, s0, (-1), 0, rfl, (by first | omega | (simp only [List.length_append, List.length_cons, List.length_nil, List.length_set, List.length_take, and_true, true_and, or_true, true_or, Nat.zero_add] <;> omega)), (by first | omega | (simp only [List.length_append, List.length_cons, List.length_nil, List.length_set, List.length_take, and_true, true_and, or_true, true_or, Nat.zero_add] <;> omega)), ⟨rfl, rfl⟩, rfl⟩
  case round =>
   rintro nn g M ⟨last, i, hT0, hq0, hinv0, ⟨hg3, hg4⟩, rfl⟩
   obtain ⟨k0, rfl⟩ : ∃ m, nn = m + 1 := ⟨nn - 1, by omega⟩
   simp only [setG, hg3, hg4]
   clear hg3 hg4
   refine Sq fun K8 J8 => Rs fun K J => sE rfl (sE rfl (sQ (q_as (v' := .int .i64 (((l).length : Nat) : Int)) (aY_ (e := elI) sl_22 rfl (SLe.sub Hl sn)) rfl) rfl (sE rfl (nl J ?_))))
   rcases bt (decide (((i : Nat) : Int) < (((l).length : Nat) : Int))) with h16 | h16
   ·skip
    have ph16 := of_decide_eq_true h16
    refine W_t h16 rfl (am_ (J8 _ _ (Sq fun K9 J9 => ap_ (Rs fun K J => sE rfl (sE rfl (sQ (q_as (v' := .pointer (some (slb (.slice p_l l.length c_l) (i * 18 + 0)))) (cj_ (e := elI) (l := l) (k := i) sl_22 rfl rfl (SLe.sub Hl sn) (by first | omega | (simp only [List.length_set, List.length_append, List.length_cons, List.length_nil]; omega))) rfl) rfl ?_))))))
    refine sQ (q_ldG (e := elI) (l := l) (k := i) (o := 0) ty_38 rfl (SLe.sub Hl sn) (aw_ I0 (by first | omega | (simp only [List.length_set, List.length_append, List.length_cons, List.length_nil]; omega))) rfl) rfl ?_
    refine sQ (q_ret en_69 (dy_ (l.getD i I0)) rfl) rfl (sE rfl (nl J (Sq fun K10 J10 => Rs fun K J => sE rfl (sE rfl (nl J ?_)))))
    rcases bt (bZ_ (l.getD i I0)) with h17 | h17
    ·skip
     refine W_f (not_f h17) rfl (am_ (J10 _ _ (Rs fun K J => sE rfl (sE rfl (sQ (q_as (v' := .pointer (some (slb (.slice p_l l.length c_l) (i * 18 + 0)))) (cj_ (e := elI) (l := l) (k := i) sl_22 rfl rfl (SLe.sub Hl sn) (by first | omega | (simp only [List.length_set, List.length_append, List.length_cons, List.length_nil]; omega))) rfl) rfl ?_)))))
     refine sQ (q_ldG (e := elI) (l := l) (k := i) (o := 0) ty_38 rfl (SLe.sub Hl sn) (aw_ I0 (by first | omega | (simp only [List.length_set, List.length_append, List.length_cons, List.length_nil]; omega))) rfl) rfl ?_
     refine sC (.int .i64 ((Z.signW (l.getD i I0).dec).1)) en_71 (cE_ (l.getD i I0).1 (l.getD i I0).2) rfl rfl rfl (sE rfl (nl J ?_))
     rcases bt ((Z.signW (l.getD i I0).dec).1 != 0) with h18 | h18
     ·skip
      refine W_t h18 rfl (Rk fun K J => sE rfl (sE rfl (nl J (J9 _ _ (Rk fun K J => sE rfl (sV (.int .i64 (((i + 1) : Nat) : Int)) rfl (congrArg (Value.int .i64) (wx (by omega) (by omega) (by omega))) (sE rfl (nl J (⟨(by repeat first | exact .refl | refine .cons rfl ?_), _, _, s0, (Nat.lt_succ_self _), ((i : Nat) : Int), (i + 1), (by exact (hT0.symm.trans (Eq.symm (bif_t h16 (bif_t h17 (bif_t h18 rfl))))).symm), (Nat.lt_of_lt_of_le (by first | omega | (simp only [List.length_append, List.length_cons, List.length_nil, List.length_set, List.length_take, and_true, true_and, or_true, true_or, Nat.zero_add] <;> omega)) (Nat.le_of_lt_succ hq0)), (by first | omega | (simp only [List.length_append, List.length_cons, List.length_nil, List.length_set, List.length_take, and_true, true_and, or_true, true_or, Nat.zero_add] <;> omega)), ⟨rfl, rfl⟩, rfl⟩)))))))))
     ·skip
      refine W_f h18 rfl (am_ (J9 _ _ (Rk fun K J => sE rfl (sV (.int .i64 (((i + 1) : Nat) : Int)) rfl (congrArg (Value.int .i64) (wx (by omega) (by omega) (by omega))) (sE rfl (nl J (⟨(by repeat first | exact .refl | refine .cons rfl ?_), _, _, s0, (Nat.lt_succ_self _), last, (i + 1), (by exact (hT0.symm.trans (Eq.symm (bif_t h16 (bif_t h17 (bif_f h18 rfl))))).symm), (Nat.lt_of_lt_of_le (by first | omega | (simp only [List.length_append, List.length_cons, List.length_nil, List.length_set, List.length_take, and_true, true_and, or_true, true_or, Nat.zero_add] <;> omega)) (Nat.le_of_lt_succ hq0)), (by first | omega | (simp only [List.length_append, List.length_cons, List.length_nil, List.length_set, List.length_take, and_true, true_and, or_true, true_or, Nat.zero_add] <;> omega)), ⟨rfl, rfl⟩, rfl⟩)))))))
    ·skip
     refine W_t (not_t h17) rfl (Rs fun K J => WL_r rfl (as_ (E := 38) (e := elI) (l := F_skewbackref08_bad) (fun v => v) en_70 rfl (fun w hw => bB_  w) (fun p19 c20 L21 hF22 => sE rfl (nl J (W_ret (aj_ (aN_ (aj_ (aj_ (aN_ (aj_ (aj_ (ret1 rfl (.inr rfl) rfl ?_)))))))))))))
     have hE : (F_skewbackref08_bad : (List I)) = (ah_ l) := by exact (sm_q rfl (hT0.symm.trans (Eq.symm (bif_t h16 (bif_f h17 rfl)))))
     rw [← hE]
     exact ⟨_, rfl, ⟨L21, (List.sublist_append_left _ _), hF22⟩⟩
   ·skip
    have ph16 := of_decide_eq_false h16
    refine W_f h16 rfl (bg_ (an_ (an_ (ar_ (hK_u1 _ _ (by repeat first | exact .refl | refine .cons rfl ?_) ⟨_, s0, last, i, (by exact hT0.symm.trans (Eq.symm (bif_f h16 rfl))), (by first | omega | (simp only [List.length_append, List.length_cons, List.length_nil, List.length_set, List.length_take, and_true, true_and, or_true, true_or, Nat.zero_add] <;> omega)), ⟨rfl, rfl⟩, rfl⟩)))))
 ·skip
  rintro g M ⟨last, i, hCu1, hPu1, ⟨hg3, hg4⟩, rfl⟩
  simp only [setG, hg3, hg4]
  clear hg3 hg4
  refine Sq fun K11 J11 => Rs fun K J => sE rfl (sE rfl (nl J ?_))
  rcases bt (decide (24 < last)) with h23 | h23
  ·skip
   have ph23 := of_decide_eq_true h23
   refine W_t h23 rfl (Rs fun K J => WL_r rfl (as_ (E := 38) (e := elI) (l := F_skewbackref08_bad) (fun v => v) en_70 rfl (fun w hw => bB_  w) (fun p24 c25 L26 hF27 => sE rfl (nl J (W_ret (aj_ (ret1 rfl (.inr rfl) rfl ?_)))))))
   have hE : (F_skewbackref08_bad : (List I)) = (ah_ l) := by exact trs (Eq.symm (smS hCu1)) (bif_t h23 rfl)
   rw [← hE]
   exact ⟨_, rfl, ⟨L26, (List.sublist_append_left _ _), hF27⟩⟩
  ·skip
   have ph23 := of_decide_eq_false h23
   refine W_f h23 rfl (am_ (J11 _ _ (Rs fun K J => sE rfl (nl J (Sq fun K12 J12 => Rs fun K J => sE rfl (nl J ?_))))))
   refine cb_ (fun S M h => J12 S M h) [6, 7, 32, 33, 34, 35, 36, 37, 38, 39, 40, 41, 42, 43] (fun g M => ∃ (out : List I) (j : Nat) (p_out : Option Addr) (c_out : Nat) (L_out : List Blk), (bH_ l last i (((last + 1).toNat + 1)) ([] : List I) 0) = (out, j) ∧ (g 6 = .slice p_out out.length c_out ∧ g 7 = .int .i64 ((j : Nat) : Int) ∧ OwnG w0 38 elI (.slice p_out out.length c_out) out L_out) ∧ M = (L_out ++ [])) (fun K_u28 hK_u28 => ?_) ?_
   ·skip
    refine ap_ ?_
    refine aC_ [6, 7, 32, 33, 34, 35, 36, 37, 38, 39, 40, 41, 42, 43] (fun g nn M => ∃ (out : List I) (j : Nat) (p_out : Option Addr) (c_out : Nat) (L_out : List Blk), (bH_ l last i nn out j) = (bH_ l last i (((last + 1).toNat + 1)) ([] : List I) 0) ∧ (last + 1).toNat - j < nn ∧ ((j : Int) ≤ last + 1 ∧ out.length = j) ∧ (g 6 = .slice p_out out.length c_out ∧ g 7 = .int .i64 ((j : Nat) : Int) ∧ OwnG w0 38 elI (.slice p_out out.length c_out) out L_out) ∧ M = (L_out ++ [])) (((last + 1).toNat + 1)) ?start ?round
    case start => exact ⟨_, s0, ([] : List I), 0, none, 0, [], rfl, (by first | omega | (simp only [List.length_append, List.length_cons, List.length_nil, List.length_set, List.length_take, and_true, true_and, or_true, true_or, Nat.zero_add] <;> omega)), (by first | omega | (simp only [List.length_append, List.length_cons, List.length_nil, List.length_set, List.length_take, and_true, true_and, or_true, true_or, Nat.zero_add] <;> omega)), ⟨rfl, rfl, OwnG.nil⟩, rfl⟩
    case round =>
     rintro nn g M ⟨out, j, p_out, c_out, L_out, hT1, hq1, hinv1, ⟨hg6, hg7, hO_out⟩, rfl⟩
     obtain ⟨k1, rfl⟩ : ∃ m, nn = m + 1 := ⟨nn - 1, by omega⟩
     simp only [setG, hg6, hg7]
     clear hg6 hg7
     have hm_out := OwnG.max hO_out
     refine Sq fun K15 J15 => Rs fun K J => sE rfl (sE rfl (sE rfl (nl J ?_)))
     rcases bt (decide (((j : Nat) : Int) ≤ last)) with h35 | h35
     ·skip
      have ph35 := of_decide_eq_true h35
      refine W_t h35 rfl (am_ (J15 _ _ (Sq fun K16 J16 => ap_ (Rk fun K J => sE rfl (sE rfl (sE rfl (sQ (q_as (v' := .pointer (some (slb (.slice p_l l.length c_l) (j * 18 + 0)))) (cj_ (e := elI) (l := l) (k := j) sl_22 rfl rfl (SLe.sub Hl sn) (by first | omega | (simp only [List.length_set, List.length_append, List.length_cons, List.length_nil]; omega))) rfl) rfl ?_)))))))
      refine sQ (q_ldG (e := elI) (l := l) (k := j) (o := 0) ty_38 rfl (SLe.sub Hl sn) (aw_ I0 (by first | omega | (simp only [List.length_set, List.length_append, List.length_cons, List.length_nil]; omega))) rfl) rfl ?_
      refine WL_r rfl (aE_ [[pI (l.getD j I0)]] [pI (l.getD j I0)] us_24 z_38 sz_38 rfl (by decide) rfl rfl ⟨rfl, rfl, rfl, trivial⟩ rfl (fun b36 hb36 => WL_r rfl (c3_ (e := elI) (l := out) (m := [(l.getD j I0)]) 68 us_24 (by kernel_rfl) (by decide) rfl rfl hO_out (SLe.lit (e := elI) (l := [(l.getD j I0)]) m0 rfl (Nat.le_of_ble_eq_true rfl) rfl) (fq_s fq_l) (by simp only [List.length_append, List.length_cons, List.length_nil]; omega) (by decide) (fun p37 c38 L39 hO40 => ?_))))
      refine sE rfl (nl J (J16 _ _ (Rk fun K J => sE rfl (sV (.int .i64 (((j + 1) : Nat) : Int)) rfl (congrArg (Value.int .i64) (wx (by omega) (by omega) (by omega))) (sE rfl (nl J (⟨(by repeat first | exact .refl | refine .cons rfl ?_), _, _, (sA (sd (s0))), (Nat.lt_succ_self _), (out ++ [(l.getD j I0)]), (j + 1), p37, c38, L39, (by exact (hT1.symm.trans (Eq.symm (bif_t h35 rfl))).symm), (Nat.lt_of_lt_of_le (by first | omega | (simp only [List.length_append, List.length_cons, List.length_nil, List.length_set, List.length_take, and_true, true_and, or_true, true_or, Nat.zero_add] <;> omega)) (Nat.le_of_lt_succ hq1)), (by first | omega | (simp only [List.length_append, List.length_cons, List.length_nil, List.length_set, List.length_take, and_true, true_and, or_true, true_or, Nat.zero_add] <;> omega)), ⟨rfl, rfl, hO40⟩, rfl⟩)))))))
     ·skip
      have ph35 := of_decide_eq_false h35
      refine W_f h35 rfl (bg_ (an_ (an_ (ar_ (hK_u28 _ _ (by repeat first | exact .refl | refine .cons rfl ?_) ⟨_, s0, out, j, p_out, c_out, L_out, (by exact hT1.symm.trans (Eq.symm (bif_f h35 rfl))), ⟨rfl, rfl, hO_out⟩, rfl⟩)))))
   ·skip
    rintro g M ⟨out, j, p_out, c_out, L_out, hCu28, ⟨hg6, hg7, hO_out⟩, rfl⟩
    simp only [setG, hg6, hg7]
    clear hg6 hg7
    have hm_out := OwnG.max hO_out
    refine Rs fun K J => sE rfl (sE rfl (nl J (W_ret (ret1 rfl (.inr rfl) rfl ?_))))
    have hE : (out : (List I)) = (ah_ l) := by exact trs (Eq.symm (smS hCu1)) (bif_f h23 (trs (Eq.symm (apS hCu28)) rfl))
    rw [← hE]
    exact ⟨_, rfl, ⟨L_out, (List.sublist_append_left _ _), hO_out⟩⟩

theorem bw_ (vl : Value) (l : (List W)) (w : World) (hl : Slr w elW vl l) (hpre : l.length ≤ 200) :
    Calls Tryz.prog 64 [vl].toArray w (fun e w' => ∃ v, e = .returned (v) ∧ Ext w w' ∧ Slo w.heap.size w' 38 elI v (aI_ l)) := by
 obtain ⟨p_l, c_l, rfl⟩ := hl.form
 refine bi_ (n := 21) (fun v => v) Tryz.func64 rfl rfl (by simp) ?_
 obtain ⟨w0, rfl⟩ : ∃ w0, w0 = w := ⟨_, rfl⟩
 have Hl := hl.old
 have hm_l := hl.max
 simp only [initF, Nat.reduceAdd]
 refine Rs fun K J => sE rfl (nl J (Rs fun K J => sE rfl (nl J (Sq fun K1 J1 => Rs fun K J => sE rfl (nl J ?_)))))
 refine cb_ (fun S M h => J1 S M h) [3, 4, 5, 6, 7, 8, 9, 10, 11, 12, 13, 14, 15, 16, 17, 18] (fun g M => ∃ (out : List I) (i : Nat) (p_out : Option Addr) (c_out : Nat) (L_out : List Blk), (cs_ l ((l.length + 1)) ([] : List I) 0) = (out, i) ∧ (out.length ≤ 200) ∧ (g 3 = .slice p_out out.length c_out ∧ g 4 = .int .i64 ((i : Nat) : Int) ∧ OwnG w0 38 elI (.slice p_out out.length c_out) out L_out) ∧ M = (L_out ++ [])) (fun K_u1 hK_u1 => ?_) ?_
 ·skip
  refine ap_ ?_
  refine aC_ [3, 4, 5, 6, 7, 8, 9, 10, 11, 12, 13, 14, 15, 16, 17, 18] (fun g nn M => ∃ (out : List I) (i : Nat) (p_out : Option Addr) (c_out : Nat) (L_out : List Blk), (cs_ l nn out i) = (cs_ l ((l.length + 1)) ([] : List I) 0) ∧ l.length - i < nn ∧ (i ≤ l.length ∧ out.length = i) ∧ (g 3 = .slice p_out out.length c_out ∧ g 4 = .int .i64 ((i : Nat) : Int) ∧ OwnG w0 38 elI (.slice p_out out.length c_out) out L_out) ∧ M = (L_out ++ [])) ((l.length + 1)) ?start ?round
  case start => exact ⟨_, s0, ([] : List I), 0, none, 0, [], rfl, (by first | omega | (simp only [List.length_append, List.length_cons, List.length_nil, List.length_set, List.length_take, and_true, true_and, or_true, true_or, Nat.zero_add] <;> omega)), (by first | omega | (simp only [List.length_append, List.length_cons, List.length_nil, List.length_set, List.length_take, and_true, true_and, or_true, true_or, Nat.zero_add] <;> omega)), ⟨rfl, rfl, OwnG.nil⟩, rfl⟩
  case round =>
   rintro nn g M ⟨out, i, p_out, c_out, L_out, hT0, hq0, hinv0, ⟨hg3, hg4, hO_out⟩, rfl⟩
   obtain ⟨k0, rfl⟩ : ∃ m, nn = m + 1 := ⟨nn - 1, by omega⟩
   simp only [setG, hg3, hg4]
   clear hg3 hg4
   have hm_out := OwnG.max hO_out
   refine Sq fun K4 J4 => Rs fun K J => sE rfl (sE rfl (sQ (q_as (v' := .int .i64 (((l).length : Nat) : Int)) (aY_ (e := elW) sl_70 rfl (SLe.sub Hl sn)) rfl) rfl (sE rfl (nl J ?_))))
   rcases bt (decide (((i : Nat) : Int) < (((l).length : Nat) : Int))) with h8 | h8
   ·skip
    have ph8 := of_decide_eq_true h8
    refine W_t h8 rfl (am_ (J4 _ _ (Sq fun K5 J5 => ap_ (Rk fun K J => sE rfl (sE rfl (sE rfl (sQ (q_as (v' := .pointer (some (slb (.slice p_l l.length c_l) (i * 1 + 0)))) (cj_ (e := elW) (l := l) (k := i) sl_70 rfl rfl (SLe.sub Hl sn) (by first | omega | (simp only [List.length_set, List.length_append, List.length_cons, List.length_nil]; omega))) rfl) rfl ?_)))))))
    refine sQ (h7_ (u := .int .i64 ((l.getD i W.z).1)) (e := elW) (l := l) (k := i) (o := 0) ty_3 rfl (SLe.sub Hl sn) (aw_ W.z (by first | omega | (simp only [List.length_set, List.length_append, List.length_cons, List.length_nil]; omega))) rfl) rfl ?_
    refine sC (AV [pI (E (Z.of (l.getD i W.z).1))]) en_81 (bT_ (l.getD i W.z).1 (l.getD i W.z).2) rfl rfl rfl (WL_r rfl (aE_ [[pI (E (Z.of (l.getD i W.z).1))]] [pI (E (Z.of (l.getD i W.z).1))] us_22 z_38 sz_38 rfl (by decide) rfl rfl ⟨rfl, rfl, rfl, trivial⟩ rfl (fun b9 hb9 => WL_r rfl (c3_ (e := elI) (l := out) (m := [(E (Z.of (l.getD i W.z).1))]) 68 us_22 (by kernel_rfl) (by decide) rfl rfl hO_out (SLe.lit (e := elI) (l := [(E (Z.of (l.getD i W.z).1))]) m0 rfl (Nat.le_of_ble_eq_true rfl) rfl) (fq_s fq_l) (by simp only [List.length_append, List.length_cons, List.length_nil]; omega) (by decide) (fun p10 c11 L12 hO13 => ?_)))))
    refine sE rfl (nl J (J5 _ _ (Rk fun K J => sE rfl (sV (.int .i64 (((i + 1) : Nat) : Int)) rfl (congrArg (Value.int .i64) (wx (by omega) (by omega) (by omega))) (sE rfl (nl J (⟨(by repeat first | exact .refl | refine .cons rfl ?_), _, _, (sA (sd (s0))), (Nat.lt_succ_self _), (out ++ [(E (Z.of (l.getD i W.z).1))]), (i + 1), p10, c11, L12, (by exact (hT0.symm.trans (Eq.symm (bif_t h8 rfl))).symm), (Nat.lt_of_lt_of_le (by first | omega | (simp only [List.length_append, List.length_cons, List.length_nil, List.length_set, List.length_take, and_true, true_and, or_true, true_or, Nat.zero_add] <;> omega)) (Nat.le_of_lt_succ hq0)), (by first | omega | (simp only [List.length_append, List.length_cons, List.length_nil, List.length_set, List.length_take, and_true, true_and, or_true, true_or, Nat.zero_add] <;> omega)), ⟨rfl, rfl, hO13⟩, rfl⟩)))))))
   ·skip
    have ph8 := of_decide_eq_false h8
    refine W_f h8 rfl (bg_ (an_ (an_ (ar_ (hK_u1 _ _ (by repeat first | exact .refl | refine .cons rfl ?_) ⟨_, s0, out, i, p_out, c_out, L_out, (by exact hT0.symm.trans (Eq.symm (bif_f h8 rfl))), (by first | omega | (simp only [List.length_append, List.length_cons, List.length_nil, List.length_set, List.length_take, and_true, true_and, or_true, true_or, Nat.zero_add] <;> omega)), ⟨rfl, rfl, hO_out⟩, rfl⟩)))))
 ·skip
  rintro g M ⟨out, i, p_out, c_out, L_out, hCu1, hPu1, ⟨hg3, hg4, hO_out⟩, rfl⟩
  simp only [setG, hg3, hg4]
  clear hg3 hg4
  have hm_out := OwnG.max hO_out
  refine Rs fun K J => sE rfl (WL_r rfl (as_ (E := 38) (e := elI) (l := (ah_ out)) (fun v => v) en_16 rfl (fun w hw => cd_ _ out w (SLe.ap hw (SLfe.sle (OwnG.slfe hO_out (List.sublist_append_left _ _)))) (by first | omega | (simp only [List.length_cons, List.length_nil, and_true, true_and] <;> omega) | simp)) (fun p14 c15 L16 hF17 => ?_)))
  have hb18 := (ce_ out)
  refine sE rfl (nl J (W_ret (ret1 rfl (.inr rfl) rfl ?_)))
  have hE : ((ah_ out) : (List I)) = (aI_ l) := by exact (by unfold aI_; exact trs (Eq.symm (apS hCu1)) rfl)
  rw [← hE]
  exact ⟨_, rfl, ⟨L16, (List.sublist_append_left _ _), hF17⟩⟩

theorem a1_ (vp : Value) (p : (List I)) (w : World) (hp : Slr w elI vp p) :
    Calls Tryz.prog 19 [vp].toArray w (fun e w' => e = .returned (.bool (ad_ p)) ∧ Ext w w') := by
 obtain ⟨p_p, c_p, rfl⟩ := hp.form
 refine aX_ (N := 18) Tryz.func19 rfl rfl (by simp) ?_
 obtain ⟨w0, rfl⟩ : ∃ w0, w0 = w := ⟨_, rfl⟩
 have Hp := hp.old
 have hm_p := hp.max
 simp only [initF, Nat.reduceAdd]
 refine Rs fun K J => sE rfl (nl J (Sq fun K1 J1 => Rs fun K J => sE rfl (nl J ?_)))
 refine cb_ (fun S M h => J1 S M h) [2, 3, 4, 5, 6, 7, 8, 9, 10, 11, 12, 13, 14, 15, 16, 17] (fun g M => ∃ (i : Nat), (bn_ p ((p.length + 1)) 0) = .inl i ∧ (g 3 = .int .i64 ((i : Nat) : Int)) ∧ M = []) (fun K_u1 hK_u1 => ?_) ?_
 ·skip
  refine ap_ ?_
  refine aC_ [2, 3, 4, 5, 6, 7, 8, 9, 10, 11, 12, 13, 14, 15, 16, 17] (fun g nn M => ∃ (i : Nat), (bn_ p nn i) = (bn_ p ((p.length + 1)) 0) ∧ p.length - i < nn ∧ (i ≤ p.length) ∧ (g 3 = .int .i64 ((i : Nat) : Int)) ∧ M = []) ((p.length + 1)) ?start ?round
  case start => exact ⟨_, s0, 0, rfl, (by first | omega | (simp only [List.length_append, List.length_cons, List.length_nil, List.length_set, List.length_take, and_true, true_and, or_true, true_or, Nat.zero_add] <;> omega)), (by first | omega | (simp only [List.length_append, List.length_cons, List.length_nil, List.length_set, List.length_take, and_true, true_and, or_true, true_or, Nat.zero_add] <;> omega)), rfl, rfl⟩
  case round =>
   rintro nn g M ⟨i, hT0, hq0, hinv0, hg3, rfl⟩
   obtain ⟨k0, rfl⟩ : ∃ m, nn = m + 1 := ⟨nn - 1, by omega⟩
   simp only [setG, hg3]
   clear hg3
   refine Sq fun K6 J6 => Rs fun K J => sE rfl (sE rfl (sQ (q_as (v' := .int .i64 (((p).length : Nat) : Int)) (aY_ (e := elI) sl_24 rfl (SLe.sub Hp sn)) rfl) rfl (sE rfl (nl J ?_))))
   rcases bt (decide (((i : Nat) : Int) < (((p).length : Nat) : Int))) with h6 | h6
   ·skip
    have ph6 := of_decide_eq_true h6
    refine W_t h6 rfl (am_ (J6 _ _ (Sq fun K7 J7 => ap_ (Rs fun K J => sE rfl (sE rfl (sQ (q_as (v' := .pointer (some (slb (.slice p_p p.length c_p) (i * 18 + 0)))) (cj_ (e := elI) (l := p) (k := i) sl_24 rfl rfl (SLe.sub Hp sn) (by first | omega | (simp only [List.length_set, List.length_append, List.length_cons, List.length_nil]; omega))) rfl) rfl ?_))))))
    refine sQ (q_ldG (e := elI) (l := p) (k := i) (o := 0) ty_38 rfl (SLe.sub Hp sn) (aw_ I0 (by first | omega | (simp only [List.length_set, List.length_append, List.length_cons, List.length_nil]; omega))) rfl) rfl ?_
    refine sQ (q_ret en_69 (dy_ (p.getD i I0)) rfl) rfl (sE rfl (nl J (Rs fun K J => sE rfl (sE rfl (nl J ?_)))))
    rcases bt (bZ_ (p.getD i I0)) with h7 | h7
    ·skip
     refine W_f (not_f h7) rfl (am_ (J7 _ _ (Rk fun K J => sE rfl (sV (.int .i64 (((i + 1) : Nat) : Int)) rfl (congrArg (Value.int .i64) (wx (by omega) (by omega) (by omega))) (sE rfl (nl J (⟨(by repeat first | exact .refl | refine .cons rfl ?_), _, _, s0, (Nat.lt_succ_self _), (i + 1), (by exact (hT0.symm.trans (Eq.symm (bif_t h6 (bif_t h7 rfl)))).symm), (Nat.lt_of_lt_of_le (by first | omega | (simp only [List.length_append, List.length_cons, List.length_nil, List.length_set, List.length_take, and_true, true_and, or_true, true_or, Nat.zero_add] <;> omega)) (Nat.le_of_lt_succ hq0)), (by first | omega | (simp only [List.length_append, List.length_cons, List.length_nil, List.length_set, List.length_take, and_true, true_and, or_true, true_or, Nat.zero_add] <;> omega)), rfl, rfl⟩)))))))
    ·skip
     refine W_t (not_t h7) rfl (Rs fun K J => sE rfl (nl J (W_ret (aN_ (aj_ (aj_ (aN_ (aj_ (aj_ (ret1 rfl (.inr rfl) rfl ?_))))))))))
     exact (by exact congrArg (fun r : Bool => (.bool r : Value)) (show _ = (ad_ p) from (sm_q rfl (hT0.symm.trans (Eq.symm (bif_t h6 (bif_f h7 rfl)))))))
   ·skip
    have ph6 := of_decide_eq_false h6
    refine W_f h6 rfl (bg_ (an_ (an_ (ar_ (hK_u1 _ _ (by repeat first | exact .refl | refine .cons rfl ?_) ⟨_, s0, i, (by exact hT0.symm.trans (Eq.symm (bif_f h6 rfl))), rfl, rfl⟩)))))
 ·skip
  rintro g M ⟨i, hCu1, hg3, rfl⟩
  simp only [setG, hg3]
  clear hg3
  refine Rs fun K J => sE rfl (nl J (W_ret (ret1 rfl (.inr rfl) rfl ?_)))
  exact (by exact congrArg (fun r : Bool => (.bool r : Value)) (show _ = (ad_ p) from trs (Eq.symm (smS hCu1)) rfl))

theorem dV_ (vp : Value) (p : (List I)) (k : Int) (w : World) (hp : Slr w elI vp p) :
    Calls Tryz.prog 84 [vp, .int .i64 k].toArray w (fun e w' => e = .returned (AV [pI (aQ_ p k)]) ∧ Ext w w') := by
 obtain ⟨p_p, c_p, rfl⟩ := hp.form
 refine aX_ (N := 18) Tryz.func84 rfl rfl (by simp) ?_
 obtain ⟨w0, rfl⟩ : ∃ w0, w0 = w := ⟨_, rfl⟩
 have Hp := hp.old
 have hm_p := hp.max
 simp only [initF, Nat.reduceAdd]
 refine Rs fun K J => sN zp_38 rfl fun b1 hb1 => nl J (Sq fun K1 J1 => ?_)
 refine bL_ [5, 6, 7, 8, 9, 10, 11, 12] (fun g M => (g 12 = .bool (decide (k < 0) || decide ((((p).length : Nat) : Int) ≤ k))) ∧ M = [⟨b1, 38, flat [pI I0]⟩]) (fun K2 J2 => ?_) ?_
 ·skip
  refine Rk fun K J => sE rfl (sE rfl ?_)
  rcases bt (decide (k < 0)) with h3 | h3
  ·skip
   have ph3 := of_decide_eq_true h3
   refine sB h3 rfl (WL_n rfl (WL_n rfl (WL_n rfl (WL_n rfl (sE rfl (nl J ?_))))))
   refine J2 _ _ (by repeat first | exact .refl | refine .cons rfl ?_) ⟨_, s0, ?s12, rfl⟩
   case s12 => exact congrArg Value.bool (or_t h3)
  ·skip
   have ph3 := of_decide_eq_false h3
   refine sB h3 rfl (sE rfl (sE rfl (sQ (q_as (v' := .int .i64 (((p).length : Nat) : Int)) (aY_ (e := elI) sl_24 rfl (SLe.sub Hp sn)) rfl) rfl (sE rfl (sE rfl (nl J ?_))))))
   refine J2 _ _ (by repeat first | exact .refl | refine .cons rfl ?_) ⟨_, s0, ?s12, rfl⟩
   case s12 => exact congrArg Value.bool (or_f h3 rfl)
 ·skip
  rintro g4 M ⟨hg12, rfl⟩
  simp only [setG, hg12]
  clear hg12
  rcases bt (decide (k < 0) || decide ((((p).length : Nat) : Int) ≤ k)) with h5 | h5
  ·skip
   refine W_t h5 rfl (Rs fun K J => sQ (e3_ zp_38 pl_38 rfl (.nil _)) rfl (sS [pI I0] ty_38 rfl rfl rfl rfl rfl (.head _) rfl hb1 (nl J (W_ret (aj_ (ret1 rfl (.inr rfl) (resP rfl m0 ty_38 rfl) ?_))))))
   exact (by exact congrArg (fun r : I => (AV [pI r] : Value)) (show _ = (aQ_ p k) from bif_t h5 rfl))
  ·skip
   have ph6 := of_decide_eq_false (Bool.or_eq_false_iff.1 h5).1
   have ph7 := of_decide_eq_false (Bool.or_eq_false_iff.1 h5).2
   refine W_f h5 rfl (am_ (J1 _ _ (Rs fun K J => sE rfl (sE rfl (sQ (q_as (v' := .pointer (some (slb (.slice p_p p.length c_p) (((k).toNat) * 18 + 0)))) (cX_ (e := elI) (l := p) (k := (k).toNat) sl_24 rfl rfl (by omega) (SLe.sub Hp sn) (by first | omega | (simp only [List.length_set, List.length_append, List.length_cons, List.length_nil]; omega))) rfl) rfl ?_)))))
   refine sQ (q_ldG (e := elI) (l := p) (k := (k).toNat) (o := 0) ty_38 rfl (SLe.sub Hp sn) (aw_ I0 (by first | omega | (simp only [List.length_set, List.length_append, List.length_cons, List.length_nil]; omega))) rfl) rfl ?_
   refine sS [pI (p.getD ((k).toNat) I0)] ty_38 rfl rfl rfl rfl rfl (.head _) rfl hb1 (nl J (W_ret (ret1 rfl (.inr rfl) (resP rfl m0 ty_38 rfl) ?_)))
   exact (by exact congrArg (fun r : I => (AV [pI r] : Value)) (show _ = (aQ_ p k) from bif_f h5 rfl))

theorem ei_ (vp : Value) (p : (List I)) (n : I) (w : World) (hp : Slr w elI vp p) (hpre : p.length ≤ 100) :
    Calls Tryz.prog 49 [vp, AV [pI n]].toArray w (fun e w' => ∃ v, e = .returned (v) ∧ Ext w w' ∧ Slo w.heap.size w' 38 elI v (a5_ p n)) := by
 obtain ⟨p_p, c_p, rfl⟩ := hp.form
 refine bi_ (n := 32) (fun v => v) Tryz.func49 rfl rfl (by simp) ?_
 obtain ⟨w0, rfl⟩ : ∃ w0, w0 = w := ⟨_, rfl⟩
 have Hp := hp.old
 have hm_p := hp.max
 simp only [initF, Nat.reduceAdd]
 refine Rs fun K J => WL_r rfl (cw_ rfl rfl (fun b1 hb1 => sE rfl (nl J (Sq fun K1 J1 => ?_))))
 refine bL_ [7, 8, 9, 10, 11, 12, 13] (fun g M => (g 13 = .bool ((ad_ p) || (!(bZ_ n)))) ∧ M = [⟨b1, 38, flat [pI n]⟩]) (fun K2 J2 => ?_) ?_
 ·skip
  refine Rk fun K J => sE rfl (sQ (q_as (v' := .bool (ad_ p)) (aB_ en_19 rfl (fun w hw => a1_ _ p w (SLe.ap hw (SLe.sub Hp sn)))) rfl) rfl ?_)
  rcases bt (ad_ p) with h3 | h3
  ·skip
   refine sB h3 rfl (WL_n rfl (WL_n rfl (WL_n rfl (sE rfl (nl J ?_)))))
   refine J2 _ _ (by repeat first | exact .refl | refine .cons rfl ?_) ⟨_, s0, ?s13, rfl⟩
   case s13 => exact congrArg Value.bool (or_t h3)
  ·skip
   refine sB h3 rfl (sQ (qL ty_38 rfl m0 rfl) rfl (sQ (q_ret en_69 (dy_ n) rfl) rfl (sE rfl (sE rfl (nl J ?_)))))
   refine J2 _ _ (by repeat first | exact .refl | refine .cons rfl ?_) ⟨_, s0, ?s13, rfl⟩
   case s13 => exact congrArg Value.bool (or_f h3 rfl)
 ·skip
  rintro g4 M ⟨hg13, rfl⟩
  simp only [setG, hg13]
  clear hg13
  rcases bt ((ad_ p) || (!(bZ_ n))) with h5 | h5
  ·skip
   refine W_t h5 rfl (Rs fun K J => WL_r rfl (as_ (E := 38) (e := elI) (l := F_skewbackref08_bad) (fun v => v) en_70 rfl (fun w hw => bB_  w) (fun p6 c7 L8 hF9 => sE rfl (nl J (W_ret (aj_ (ret1 rfl (.inr rfl) rfl ?_)))))))
   have hE : (F_skewbackref08_bad : (List I)) = (a5_ p n) := by exact bif_t h5 rfl
   rw [← hE]
   exact ⟨_, rfl, ⟨L8, (List.sublist_append_left _ _), hF9⟩⟩
  ·skip
   refine W_f h5 rfl (am_ (J1 _ _ (Rs fun K J => sE rfl (nl J (Sq fun K3 J3 => Rs fun K J => sE rfl (nl J ?_))))))
   refine cb_ (fun S M h => J3 S M h) [5, 6, 15, 16, 17, 18, 19, 20, 21, 22, 23, 24, 25, 26, 27, 28, 29] (fun g M => ∃ (out : List I) (i : Nat) (p_out : Option Addr) (c_out : Nat) (L_out : List Blk), (bp_ p n ((p.length + 1)) ([] : List I) 0) = (out, i) ∧ (out.length ≤ 200) ∧ (g 5 = .slice p_out out.length c_out ∧ g 6 = .int .i64 ((i : Nat) : Int) ∧ OwnG w0 38 elI (.slice p_out out.length c_out) out L_out) ∧ M = (L_out ++ (⟨b1, 38, flat [pI n]⟩ :: []))) (fun K_u10 hK_u10 => ?_) ?_
   ·skip
    refine ap_ ?_
    refine aC_ [5, 6, 15, 16, 17, 18, 19, 20, 21, 22, 23, 24, 25, 26, 27, 28, 29] (fun g nn M => ∃ (out : List I) (i : Nat) (p_out : Option Addr) (c_out : Nat) (L_out : List Blk), (bp_ p n nn out i) = (bp_ p n ((p.length + 1)) ([] : List I) 0) ∧ p.length - i < nn ∧ (i ≤ p.length ∧ out.length = i) ∧ (g 5 = .slice p_out out.length c_out ∧ g 6 = .int .i64 ((i : Nat) : Int) ∧ OwnG w0 38 elI (.slice p_out out.length c_out) out L_out) ∧ M = (L_out ++ (⟨b1, 38, flat [pI n]⟩ :: []))) ((p.length + 1)) ?start ?round
    case start => exact ⟨_, s0, ([] : List I), 0, none, 0, [], rfl, (by first | omega | (simp only [List.length_append, List.length_cons, List.length_nil, List.length_set, List.length_take, and_true, true_and, or_true, true_or, Nat.zero_add] <;> omega)), (by first | omega | (simp only [List.length_append, List.length_cons, List.length_nil, List.length_set, List.length_take, and_true, true_and, or_true, true_or, Nat.zero_add] <;> omega)), ⟨rfl, rfl, OwnG.nil⟩, rfl⟩
    case round =>
     rintro nn g M ⟨out, i, p_out, c_out, L_out, hT0, hq0, hinv0, ⟨hg5, hg6, hO_out⟩, rfl⟩
     obtain ⟨k0, rfl⟩ : ∃ m, nn = m + 1 := ⟨nn - 1, by omega⟩
     simp only [setG, hg5, hg6]
     clear hg5 hg6
     have hm_out := OwnG.max hO_out
     refine Sq fun K6 J6 => Rs fun K J => sE rfl (sE rfl (sQ (q_as (v' := .int .i64 (((p).length : Nat) : Int)) (aY_ (e := elI) sl_24 rfl (SLe.sub Hp sn)) rfl) rfl (sE rfl (nl J ?_))))
     rcases bt (decide (((i : Nat) : Int) < (((p).length : Nat) : Int))) with h17 | h17
     ·skip
      have ph17 := of_decide_eq_true h17
      refine W_t h17 rfl (am_ (J6 _ _ (Sq fun K7 J7 => ap_ (dr sn [0,4,8,12,16,20,24,29,33,36] [8] mix (by kernel_rfl) (fun K J => pE rfl (pE rfl (pE rfl (pQ rfl (q_as (v' := .pointer (some (slb (.slice p_p p.length c_p) (i * 18 + 0)))) (cj_ (e := elI) (l := p) (k := i) sl_24 rfl rfl (SLe.sub Hp sn) (by first | omega | (simp only [List.length_set, List.length_append, List.length_cons, List.length_nil]; omega))) rfl) ?_))))))))
      refine pQ rfl (q_ldG (e := elI) (l := p) (k := i) (o := 0) ty_38 rfl (SLe.sub Hp sn) (aw_ I0 (by first | omega | (simp only [List.length_set, List.length_append, List.length_cons, List.length_nil]; omega))) rfl) ?_
      refine pQ rfl (qL ty_38 rfl (List.mem_append_right _ (List.mem_cons_self)) rfl) (pC (AV [pI (E (Z.mul (p.getD i I0).dec n.dec))]) en_82 (cq_ (p.getD i I0).1 n.1 (p.getD i I0).2 n.2) rfl rfl rfl (PL_o rfl rfl (aE_ [[pI (E (Z.mul (p.getD i I0).dec n.dec))]] [pI (E (Z.mul (p.getD i I0).dec n.dec))] us_22 z_38 sz_38 rfl (by decide) rfl rfl ⟨rfl, rfl, rfl, trivial⟩ rfl (fun b18 hb18 => ⟨(fun _ => sd s0), sn, PL_o rfl rfl (c3_ (e := elI) (l := out) (m := [(E (Z.mul (p.getD i I0).dec n.dec))]) 68 us_22 (by kernel_rfl) (by decide) rfl rfl hO_out (SLe.lit (e := elI) (l := [(E (Z.mul (p.getD i I0).dec n.dec))]) m0 rfl (Nat.le_of_ble_eq_true rfl) rfl) (fq_s fq_l) (by simp only [List.length_append, List.length_cons, List.length_nil]; omega) (by decide) (fun p19 c20 L21 hO22 => ⟨nf, sn, ?_⟩))⟩))))
      refine pE rfl (fl J (J7 _ _ (Rk fun K J => sE rfl (sV (.int .i64 (((i + 1) : Nat) : Int)) rfl (congrArg (Value.int .i64) (wx (by omega) (by omega) (by omega))) (sE rfl (nl J (⟨(by repeat first | exact .refl | refine .cons rfl ?_), _, _, (sA (sd (s0))), (Nat.lt_succ_self _), (out ++ [(E (Z.mul (p.getD i I0).dec n.dec))]), (i + 1), p19, c20, L21, (by exact (hT0.symm.trans (Eq.symm (bif_t h17 rfl))).symm), (Nat.lt_of_lt_of_le (by first | omega | (simp only [List.length_append, List.length_cons, List.length_nil, List.length_set, List.length_take, and_true, true_and, or_true, true_or, Nat.zero_add] <;> omega)) (Nat.le_of_lt_succ hq0)), (by first | omega | (simp only [List.length_append, List.length_cons, List.length_nil, List.length_set, List.length_take, and_true, true_and, or_true, true_or, Nat.zero_add] <;> omega)), ⟨rfl, rfl, hO22⟩, rfl⟩)))))))
     ·skip
      have ph17 := of_decide_eq_false h17
      refine W_f h17 rfl (bg_ (an_ (an_ (ar_ (hK_u10 _ _ (by repeat first | exact .refl | refine .cons rfl ?_) ⟨_, s0, out, i, p_out, c_out, L_out, (by exact hT0.symm.trans (Eq.symm (bif_f h17 rfl))), (by first | omega | (simp only [List.length_append, List.length_cons, List.length_nil, List.length_set, List.length_take, and_true, true_and, or_true, true_or, Nat.zero_add] <;> omega)), ⟨rfl, rfl, hO_out⟩, rfl⟩)))))
   ·skip
    rintro g M ⟨out, i, p_out, c_out, L_out, hCu10, hPu10, ⟨hg5, hg6, hO_out⟩, rfl⟩
    simp only [setG, hg5, hg6]
    clear hg5 hg6
    have hm_out := OwnG.max hO_out
    refine Rs fun K J => sE rfl (WL_r rfl (as_ (E := 38) (e := elI) (l := (ah_ out)) (fun v => v) en_16 rfl (fun w hw => cd_ _ out w (SLe.ap hw (SLfe.sle (OwnG.slfe hO_out (List.sublist_append_left _ _)))) (by first | omega | (simp only [List.length_cons, List.length_nil, and_true, true_and] <;> omega) | simp)) (fun p23 c24 L25 hF26 => ?_)))
    have hb27 := (ce_ out)
    refine sE rfl (nl J (W_ret (ret1 rfl (.inr rfl) rfl ?_)))
    have hE : ((ah_ out) : (List I)) = (a5_ p n) := by exact bif_f h5 (trs (Eq.symm (apS hCu10)) rfl)
    rw [← hE]
    exact ⟨_, rfl, ⟨L25, (List.sublist_append_left _ _), hF26⟩⟩

theorem fA_ (vp : Value) (p : (List I)) (w : World) (hp : Slr w elI vp p) (hpre : p.length ≤ 100) :
    Calls Tryz.prog 50 [vp].toArray w (fun e w' => ∃ v, e = .returned (v) ∧ Ext w w' ∧ Slo w.heap.size w' 38 elI v (ac_ p)) := by
 obtain ⟨p_p, c_p, rfl⟩ := hp.form
 refine bi_ (n := 26) (fun v => v) Tryz.func50 rfl rfl (by simp) ?_
 obtain ⟨w0, rfl⟩ : ∃ w0, w0 = w := ⟨_, rfl⟩
 have Hp := hp.old
 have hm_p := hp.max
 simp only [initF, Nat.reduceAdd]
 refine Rs fun K J => sE rfl (nl J (Sq fun K1 J1 => Rs fun K J => sE rfl (sQ (q_as (v' := .bool (ad_ p)) (aB_ en_19 rfl (fun w hw => a1_ _ p w (SLe.ap hw (SLe.sub Hp sn)))) rfl) rfl (nl J ?_))))
 rcases bt (ad_ p) with h1 | h1
 ·skip
  refine W_t h1 rfl (Rs fun K J => WL_r rfl (as_ (E := 38) (e := elI) (l := F_skewbackref08_bad) (fun v => v) en_70 rfl (fun w hw => bB_  w) (fun p2 c3 L4 hF5 => sE rfl (nl J (W_ret (aj_ (ret1 rfl (.inr rfl) rfl ?_)))))))
  have hE : (F_skewbackref08_bad : (List I)) = (ac_ p) := by exact bif_t h1 rfl
  rw [← hE]
  exact ⟨_, rfl, ⟨L4, (List.sublist_append_left _ _), hF5⟩⟩
 ·skip
  refine W_f h1 rfl (am_ (J1 _ _ (Rs fun K J => sE rfl (nl J (Sq fun K2 J2 => Rs fun K J => sE rfl (nl J ?_))))))
  refine cb_ (fun S M h => J2 S M h) [3, 4, 8, 9, 10, 11, 12, 13, 14, 15, 16, 17, 18, 19, 20, 21, 22, 23] (fun g M => ∃ (out : List I) (i : Nat) (p_out : Option Addr) (c_out : Nat) (L_out : List Blk), (bh_ p ((p.length + 1)) ([] : List I) 1) = (out, i) ∧ (out.length ≤ 200) ∧ (g 3 = .slice p_out out.length c_out ∧ g 4 = .int .i64 ((i : Nat) : Int) ∧ OwnG w0 38 elI (.slice p_out out.length c_out) out L_out) ∧ M = (L_out ++ [])) (fun K_u6 hK_u6 => ?_) ?_
  ·skip
   refine ap_ ?_
   refine aC_ [3, 4, 8, 9, 10, 11, 12, 13, 14, 15, 16, 17, 18, 19, 20, 21, 22, 23] (fun g nn M => ∃ (out : List I) (i : Nat) (p_out : Option Addr) (c_out : Nat) (L_out : List Blk), (bh_ p nn out i) = (bh_ p ((p.length + 1)) ([] : List I) 1) ∧ p.length - i < nn ∧ (out.length + 1 = i ∧ (i ≤ p.length ∨ i = 1)) ∧ (g 3 = .slice p_out out.length c_out ∧ g 4 = .int .i64 ((i : Nat) : Int) ∧ OwnG w0 38 elI (.slice p_out out.length c_out) out L_out) ∧ M = (L_out ++ [])) ((p.length + 1)) ?start ?round
   case start => exact ⟨_, s0, ([] : List I), 1, none, 0, [], rfl, (by first | omega | (simp only [List.length_append, List.length_cons, List.length_nil, List.length_set, List.length_take, and_true, true_and, or_true, true_or, Nat.zero_add] <;> omega)), (by first | omega | (simp only [List.length_append, List.length_cons, List.length_nil, List.length_set, List.length_take, and_true, true_and, or_true, true_or, Nat.zero_add] <;> omega)), ⟨rfl, rfl, OwnG.nil⟩, rfl⟩
   case round =>
    rintro nn g M ⟨out, i, p_out, c_out, L_out, hT0, hq0, hinv0, ⟨hg3, hg4, hO_out⟩, rfl⟩
    obtain ⟨k0, rfl⟩ : ∃ m, nn = m + 1 := ⟨nn - 1, by omega⟩
    simp only [setG, hg3, hg4]
    clear hg3 hg4
    have hm_out := OwnG.max hO_out
    refine Sq fun K5 J5 => Rs fun K J => sE rfl (sE rfl (sQ (q_as (v' := .int .i64 (((p).length : Nat) : Int)) (aY_ (e := elI) sl_24 rfl (SLe.sub Hp sn)) rfl) rfl (sE rfl (nl J ?_))))
    rcases bt (decide (((i : Nat) : Int) < (((p).length : Nat) : Int))) with h13 | h13
    ·skip
     have ph13 := of_decide_eq_true h13
     refine W_t h13 rfl (am_ (J5 _ _ (Sq fun K6 J6 => ap_ (dr sn [0,4,8,12,16,20,24,28,33,37,40] [9] mix (by kernel_rfl) (fun K J => pE rfl (pE rfl (pC (AV [pI (E (Z.of ((i : Nat) : Int)))]) en_81 (bT_ ((i : Nat) : Int) (by unfold I64; omega)) rfl rfl rfl (pE rfl (pE rfl (pQ rfl (q_as (v' := .pointer (some (slb (.slice p_p p.length c_p) (i * 18 + 0)))) (cj_ (e := elI) (l := p) (k := i) sl_24 rfl rfl (SLe.sub Hp sn) (by first | omega | (simp only [List.length_set, List.length_append, List.length_cons, List.length_nil]; omega))) rfl) ?_))))))))))
     refine pQ rfl (q_ldG (e := elI) (l := p) (k := i) (o := 0) ty_38 rfl (SLe.sub Hp sn) (aw_ I0 (by first | omega | (simp only [List.length_set, List.length_append, List.length_cons, List.length_nil]; omega))) rfl) ?_
     refine pC (AV [pI (E (Z.mul (Z.of ((i : Nat) : Int)) (p.getD i I0).dec))]) en_82 (cq_ (E (Z.of ((i : Nat) : Int))).1 (p.getD i I0).1 (E (Z.of ((i : Nat) : Int))).2 (p.getD i I0).2) rfl rfl (cg2 (fun p q => AV [pI (E (Z.mul p q))]) (E_dec _) rfl) (PL_o rfl rfl (aE_ [[pI (E (Z.mul (Z.of ((i : Nat) : Int)) (p.getD i I0).dec))]] [pI (E (Z.mul (Z.of ((i : Nat) : Int)) (p.getD i I0).dec))] us_22 z_38 sz_38 rfl (by decide) rfl rfl ⟨rfl, rfl, rfl, trivial⟩ rfl (fun b14 hb14 => ⟨(fun _ => sd s0), sn, PL_o rfl rfl (c3_ (e := elI) (l := out) (m := [(E (Z.mul (Z.of ((i : Nat) : Int)) (p.getD i I0).dec))]) 68 us_22 (by kernel_rfl) (by decide) rfl rfl hO_out (SLe.lit (e := elI) (l := [(E (Z.mul (Z.of ((i : Nat) : Int)) (p.getD i I0).dec))]) m0 rfl (Nat.le_of_ble_eq_true rfl) rfl) (fq_s fq_l) (by simp only [List.length_append, List.length_cons, List.length_nil]; omega) (by decide) (fun p15 c16 L17 hO18 => ⟨nf, sn, ?_⟩))⟩)))
     refine pE rfl (fl J (J6 _ _ (Rk fun K J => sE rfl (sV (.int .i64 (((i + 1) : Nat) : Int)) rfl (congrArg (Value.int .i64) (wx (by omega) (by omega) (by omega))) (sE rfl (nl J (⟨(by repeat first | exact .refl | refine .cons rfl ?_), _, _, (sA (sd (s0))), (Nat.lt_succ_self _), (out ++ [(E (Z.mul (Z.of ((i : Nat) : Int)) (p.getD i I0).dec))]), (i + 1), p15, c16, L17, (by exact (hT0.symm.trans (Eq.symm (bif_t h13 rfl))).symm), (Nat.lt_of_lt_of_le (by first | omega | (simp only [List.length_append, List.length_cons, List.length_nil, List.length_set, List.length_take, and_true, true_and, or_true, true_or, Nat.zero_add] <;> omega)) (Nat.le_of_lt_succ hq0)), (by first | omega | (simp only [List.length_append, List.length_cons, List.length_nil, List.length_set, List.length_take, and_true, true_and, or_true, true_or, Nat.zero_add] <;> omega)), ⟨rfl, rfl, hO18⟩, rfl⟩)))))))
    ·skip
     have ph13 := of_decide_eq_false h13
     refine W_f h13 rfl (bg_ (an_ (an_ (ar_ (hK_u6 _ _ (by repeat first | exact .refl | refine .cons rfl ?_) ⟨_, s0, out, i, p_out, c_out, L_out, (by exact hT0.symm.trans (Eq.symm (bif_f h13 rfl))), (by first | omega | (simp only [List.length_append, List.length_cons, List.length_nil, List.length_set, List.length_take, and_true, true_and, or_true, true_or, Nat.zero_add] <;> omega)), ⟨rfl, rfl, hO_out⟩, rfl⟩)))))
  ·skip
   rintro g M ⟨out, i, p_out, c_out, L_out, hCu6, hPu6, ⟨hg3, hg4, hO_out⟩, rfl⟩
   simp only [setG, hg3, hg4]
   clear hg3 hg4
   have hm_out := OwnG.max hO_out
   refine Rs fun K J => sE rfl (WL_r rfl (as_ (E := 38) (e := elI) (l := (ah_ out)) (fun v => v) en_16 rfl (fun w hw => cd_ _ out w (SLe.ap hw (SLfe.sle (OwnG.slfe hO_out (List.sublist_append_left _ _)))) (by first | omega | (simp only [List.length_cons, List.length_nil, and_true, true_and] <;> omega) | simp)) (fun p19 c20 L21 hF22 => ?_)))
   have hb23 := (ce_ out)
   refine sE rfl (nl J (W_ret (ret1 rfl (.inr rfl) rfl ?_)))
   have hE : ((ah_ out) : (List I)) = (ac_ p) := by exact bif_f h1 (trs (Eq.symm (apS hCu6)) rfl)
   rw [← hE]
   exact ⟨_, rfl, ⟨L21, (List.sublist_append_left _ _), hF22⟩⟩

theorem fw_ (vl : Value) (l : (List I)) (w : World) (hl : Slr w elI vl l) :
    Calls Tryz.prog 89 [vl].toArray w (fun e w' => e = .returned (AV [pI (ay_ l)]) ∧ Ext w w') := by
 obtain ⟨p_l, c_l, rfl⟩ := hl.form
 refine aX_ (N := 19) Tryz.func89 rfl rfl (by simp) ?_
 obtain ⟨w0, rfl⟩ : ∃ w0, w0 = w := ⟨_, rfl⟩
 have Hl := hl.old
 have hm_l := hl.max
 simp only [initF, Nat.reduceAdd]
 refine Rs fun K J => sN zp_38 rfl fun b1 hb1 => nl J (Rs fun K J => sQ (e3_ zp_38 pl_38 rfl (.nil _)) rfl (sN zp_38 rfl fun b2 hb2 => sS [pI I0] ty_38 rfl rfl rfl rfl rfl (.head _) rfl hb2 (nl J (Sq fun K1 J1 => Rs fun K J => sE rfl (nl J ?_)))))
 refine cb_ (fun S M h => J1 S M h) [4, 6, 7, 8, 9, 10, 11, 12, 13, 14, 15, 16, 17] (fun g M => ∃ (i : Nat) (mb2 : I), (bu_ l ((l.length + 1)) 0 I0) = (i, mb2) ∧ (g 4 = .int .i64 ((i : Nat) : Int)) ∧ M = [⟨b2, 38, flat [pI mb2]⟩, ⟨b1, 38, flat [pI I0]⟩]) (fun K_u3 hK_u3 => ?_) ?_
 ·skip
  refine ap_ ?_
  refine aC_ [4, 6, 7, 8, 9, 10, 11, 12, 13, 14, 15, 16, 17] (fun g nn M => ∃ (i : Nat) (mb2 : I), (bu_ l nn i mb2) = (bu_ l ((l.length + 1)) 0 I0) ∧ l.length - i < nn ∧ (i ≤ l.length) ∧ (g 4 = .int .i64 ((i : Nat) : Int)) ∧ M = [⟨b2, 38, flat [pI mb2]⟩, ⟨b1, 38, flat [pI I0]⟩]) ((l.length + 1)) ?start ?round
  case start => exact ⟨_, s0, 0, I0, rfl, (by first | omega | (simp only [List.length_append, List.length_cons, List.length_nil, List.length_set, List.length_take, and_true, true_and, or_true, true_or, Nat.zero_add] <;> omega)), (by first | omega | (simp only [List.length_append, List.length_cons, List.length_nil, List.length_set, List.length_take, and_true, true_and, or_true, true_or, Nat.zero_add] <;> omega)), rfl, rfl⟩
  case round =>
   rintro nn g M ⟨i, mb2, hT0, hq0, hinv0, hg4, rfl⟩
   obtain ⟨k0, rfl⟩ : ∃ m, nn = m + 1 := ⟨nn - 1, by omega⟩
   simp only [setG, hg4]
   clear hg4
   refine Sq fun K6 J6 => Rs fun K J => sE rfl (sE rfl (sQ (q_as (v' := .int .i64 (((l).length : Nat) : Int)) (aY_ (e := elI) sl_22 rfl (SLe.sub Hl sn)) rfl) rfl (sE rfl (nl J ?_))))
   rcases bt (decide (((i : Nat) : Int) < (((l).length : Nat) : Int))) with h6 | h6
   ·skip
    have ph6 := of_decide_eq_true h6
    refine W_t h6 rfl (am_ (J6 _ _ (Sq fun K7 J7 => ap_ (dr (sd s0) [0,4,8,12,16,20,25] [6] mix (by kernel_rfl) (fun K J => pQ rfl (qL ty_38 rfl m0 rfl) (pE rfl (pE rfl (pQ rfl (q_as (v' := .pointer (some (slb (.slice p_l l.length c_l) (i * 18 + 0)))) (cj_ (e := elI) (l := l) (k := i) sl_22 rfl rfl (SLe.sub Hl sn) (by first | omega | (simp only [List.length_set, List.length_append, List.length_cons, List.length_nil]; omega))) rfl) ?_))))))))
    refine pQ rfl (q_ldG (e := elI) (l := l) (k := i) (o := 0) ty_38 rfl (SLe.sub Hl sn) (aw_ I0 (by first | omega | (simp only [List.length_set, List.length_append, List.length_cons, List.length_nil]; omega))) rfl) ?_
    refine pC (AV [pI (E (Z.gcd mb2.dec (l.getD i I0).dec))]) q8_ (go_ mb2.1 (l.getD i I0).1 mb2.2 (l.getD i I0).2) rfl rfl rfl (oS [pI (E (Z.gcd mb2.dec (l.getD i I0).dec))] ty_38 rfl rfl rfl rfl rfl rfl (.head _) rfl hb2 rfl (sd s0) (fl J (J7 _ _ (Rk fun K J => sE rfl (sV (.int .i64 (((i + 1) : Nat) : Int)) rfl (congrArg (Value.int .i64) (wx (by omega) (by omega) (by omega))) (sE rfl (nl J (⟨(by repeat first | exact .refl | refine .cons rfl ?_), _, _, s0, (Nat.lt_succ_self _), (i + 1), (E (Z.gcd mb2.dec (l.getD i I0).dec)), (by exact (hT0.symm.trans (Eq.symm (bif_t h6 rfl))).symm), (Nat.lt_of_lt_of_le (by first | omega | (simp only [List.length_append, List.length_cons, List.length_nil, List.length_set, List.length_take, and_true, true_and, or_true, true_or, Nat.zero_add] <;> omega)) (Nat.le_of_lt_succ hq0)), (by first | omega | (simp only [List.length_append, List.length_cons, List.length_nil, List.length_set, List.length_take, and_true, true_and, or_true, true_or, Nat.zero_add] <;> omega)), rfl, rfl⟩))))))))
   ·skip
    have ph6 := of_decide_eq_false h6
    refine W_f h6 rfl (bg_ (an_ (an_ (ar_ (hK_u3 _ _ (by repeat first | exact .refl | refine .cons rfl ?_) ⟨_, s0, i, mb2, (by exact hT0.symm.trans (Eq.symm (bif_f h6 rfl))), rfl, rfl⟩)))))
 ·skip
  rintro g M ⟨i, mb2, hCu3, hg4, rfl⟩
  simp only [setG, hg4]
  clear hg4
  refine Rs fun K J => sQ (qL ty_38 rfl m0 rfl) rfl (sS [pI mb2] ty_38 rfl rfl rfl rfl rfl (.tail _ (.head _)) rfl hb1 (nl J (W_ret (ret1 rfl (.inr rfl) (resP rfl m1 ty_38 rfl) ?_))))
  exact (by exact congrArg (fun r : I => (AV [pI r] : Value)) (show _ = (ay_ l) from (by unfold ay_; exact trs (Eq.symm (apS hCu3)) rfl)))

theorem b7_ (vp : Value) (p : (List I)) (w : World) (hp : Slr w elI vp p) (hpre : p.length ≤ 100) :
    Calls Tryz.prog 26 [vp].toArray w (fun e w' => ∃ v, e = .returned (v) ∧ Ext w w' ∧ Slo w.heap.size w' 38 elI v (aa_ p)) := by
 obtain ⟨p_p, c_p, rfl⟩ := hp.form
 refine bi_ (n := 28) (fun v => v) Tryz.func26 rfl rfl (by simp) ?_
 obtain ⟨w0, rfl⟩ : ∃ w0, w0 = w := ⟨_, rfl⟩
 have Hp := hp.old
 have hm_p := hp.max
 simp only [initF, Nat.reduceAdd]
 refine Rs fun K J => sE rfl (nl J (Sq fun K1 J1 => Rs fun K J => sE rfl (sQ (q_as (v' := .bool (ad_ p)) (aB_ en_19 rfl (fun w hw => a1_ _ p w (SLe.ap hw (SLe.sub Hp sn)))) rfl) rfl (nl J ?_))))
 rcases bt (ad_ p) with h1 | h1
 ·skip
  refine W_t h1 rfl (Rs fun K J => WL_r rfl (as_ (E := 38) (e := elI) (l := F_skewbackref08_bad) (fun v => v) en_70 rfl (fun w hw => bB_  w) (fun p2 c3 L4 hF5 => sE rfl (nl J (W_ret (aj_ (ret1 rfl (.inr rfl) rfl ?_)))))))
  have hE : (F_skewbackref08_bad : (List I)) = (aa_ p) := by exact bif_t h1 rfl
  rw [← hE]
  exact ⟨_, rfl, ⟨L4, (List.sublist_append_left _ _), hF5⟩⟩
 ·skip
  refine W_f h1 rfl (am_ (J1 _ _ (Rs fun K J => sE rfl (sQ (q_as (v' := AV [pI (ay_ p)]) (aB_ en_89 rfl (fun w hw => fw_ _ p w (SLe.ap hw (SLe.sub Hp sn)))) rfl) rfl (sN zp_38 rfl fun b6 hb6 => sS [pI (ay_ p)] ty_38 rfl rfl rfl rfl rfl (.head _) rfl hb6 (nl J (Rs fun K J => sE rfl (nl J (Sq fun K2 J2 => Rs fun K J => sE rfl (nl J ?_))))))))))
  refine cb_ (fun S M h => J2 S M h) [4, 5, 11, 12, 13, 14, 15, 16, 17, 18, 19, 20, 21, 22, 23, 24, 25] (fun g M => ∃ (out : List I) (i : Nat) (p_out : Option Addr) (c_out : Nat) (L_out : List Blk), (a6_ p ((p.length + 1)) ([] : List I) 0) = (out, i) ∧ (out.length ≤ 200) ∧ (g 4 = .slice p_out out.length c_out ∧ g 5 = .int .i64 ((i : Nat) : Int) ∧ OwnG w0 38 elI (.slice p_out out.length c_out) out L_out) ∧ M = (L_out ++ (⟨b6, 38, flat [pI (ay_ p)]⟩ :: []))) (fun K_u7 hK_u7 => ?_) ?_
  ·skip
   refine ap_ ?_
   refine aC_ [4, 5, 11, 12, 13, 14, 15, 16, 17, 18, 19, 20, 21, 22, 23, 24, 25] (fun g nn M => ∃ (out : List I) (i : Nat) (p_out : Option Addr) (c_out : Nat) (L_out : List Blk), (a6_ p nn out i) = (a6_ p ((p.length + 1)) ([] : List I) 0) ∧ p.length - i < nn ∧ (i ≤ p.length ∧ out.length = i) ∧ (g 4 = .slice p_out out.length c_out ∧ g 5 = .int .i64 ((i : Nat) : Int) ∧ OwnG w0 38 elI (.slice p_out out.length c_out) out L_out) ∧ M = (L_out ++ (⟨b6, 38, flat [pI (ay_ p)]⟩ :: []))) ((p.length + 1)) ?start ?round
   case start => exact ⟨_, s0, ([] : List I), 0, none, 0, [], rfl, (by first | omega | (simp only [List.length_append, List.length_cons, List.length_nil, List.length_set, List.length_take, and_true, true_and, or_true, true_or, Nat.zero_add] <;> omega)), (by first | omega | (simp only [List.length_append, List.length_cons, List.length_nil, List.length_set, List.length_take, and_true, true_and, or_true, true_or, Nat.zero_add] <;> omega)), ⟨rfl, rfl, OwnG.nil⟩, rfl⟩
   case round =>
    rintro nn g M ⟨out, i, p_out, c_out, L_out, hT0, hq0, hinv0, ⟨hg4, hg5, hO_out⟩, rfl⟩
    obtain ⟨k0, rfl⟩ : ∃ m, nn = m + 1 := ⟨nn - 1, by omega⟩
    simp only [setG, hg4, hg5]
    clear hg4 hg5
    have hm_out := OwnG.max hO_out
    refine Sq fun K5 J5 => Rs fun K J => sE rfl (sE rfl (sQ (q_as (v' := .int .i64 (((p).length : Nat) : Int)) (aY_ (e := elI) sl_24 rfl (SLe.sub Hp sn)) rfl) rfl (sE rfl (nl J ?_))))
    rcases bt (decide (((i : Nat) : Int) < (((p).length : Nat) : Int))) with h14 | h14
    ·skip
     have ph14 := of_decide_eq_true h14
     refine W_t h14 rfl (am_ (J5 _ _ (Sq fun K6 J6 => ap_ (dr sn [0,4,8,12,16,20,24,29,33,36] [8] mix (by kernel_rfl) (fun K J => pE rfl (pE rfl (pE rfl (pQ rfl (q_as (v' := .pointer (some (slb (.slice p_p p.length c_p) (i * 18 + 0)))) (cj_ (e := elI) (l := p) (k := i) sl_24 rfl rfl (SLe.sub Hp sn) (by first | omega | (simp only [List.length_set, List.length_append, List.length_cons, List.length_nil]; omega))) rfl) ?_))))))))
     refine pQ rfl (q_ldG (e := elI) (l := p) (k := i) (o := 0) ty_38 rfl (SLe.sub Hp sn) (aw_ I0 (by first | omega | (simp only [List.length_set, List.length_append, List.length_cons, List.length_nil]; omega))) rfl) ?_
     refine pQ rfl (qL ty_38 rfl (List.mem_append_right _ (List.mem_cons_self)) rfl) (pC (AV [pI (E (Z.quo (p.getD i I0).dec (ay_ p).dec))]) en_90 (eB_ (p.getD i I0).1 (ay_ p).1 (p.getD i I0).2 (ay_ p).2) rfl rfl rfl (PL_o rfl rfl (aE_ [[pI (E (Z.quo (p.getD i I0).dec (ay_ p).dec))]] [pI (E (Z.quo (p.getD i I0).dec (ay_ p).dec))] us_22 z_38 sz_38 rfl (by decide) rfl rfl ⟨rfl, rfl, rfl, trivial⟩ rfl (fun b15 hb15 => ⟨(fun _ => sd s0), sn, PL_o rfl rfl (c3_ (e := elI) (l := out) (m := [(E (Z.quo (p.getD i I0).dec (ay_ p).dec))]) 68 us_22 (by kernel_rfl) (by decide) rfl rfl hO_out (SLe.lit (e := elI) (l := [(E (Z.quo (p.getD i I0).dec (ay_ p).dec))]) m0 rfl (Nat.le_of_ble_eq_true rfl) rfl) (fq_s fq_l) (by simp only [List.length_append, List.length_cons, List.length_nil]; omega) (by decide) (fun p16 c17 L18 hO19 => ⟨nf, sn, ?_⟩))⟩))))
     refine pE rfl (fl J (J6 _ _ (Rk fun K J => sE rfl (sV (.int .i64 (((i + 1) : Nat) : Int)) rfl (congrArg (Value.int .i64) (wx (by omega) (by omega) (by omega))) (sE rfl (nl J (⟨(by repeat first | exact .refl | refine .cons rfl ?_), _, _, (sA (sd (s0))), (Nat.lt_succ_self _), (out ++ [(E (Z.quo (p.getD i I0).dec (ay_ p).dec))]), (i + 1), p16, c17, L18, (by exact (hT0.symm.trans (Eq.symm (bif_t h14 rfl))).symm), (Nat.lt_of_lt_of_le (by first | omega | (simp only [List.length_append, List.length_cons, List.length_nil, List.length_set, List.length_take, and_true, true_and, or_true, true_or, Nat.zero_add] <;> omega)) (Nat.le_of_lt_succ hq0)), (by first | omega | (simp only [List.length_append, List.length_cons, List.length_nil, List.length_set, List.length_take, and_true, true_and, or_true, true_or, Nat.zero_add] <;> omega)), ⟨rfl, rfl, hO19⟩, rfl⟩)))))))
    ·skip
     have ph14 := of_decide_eq_false h14
     refine W_f h14 rfl (bg_ (an_ (an_ (ar_ (hK_u7 _ _ (by repeat first | exact .refl | refine .cons rfl ?_) ⟨_, s0, out, i, p_out, c_out, L_out, (by exact hT0.symm.trans (Eq.symm (bif_f h14 rfl))), (by first | omega | (simp only [List.length_append, List.length_cons, List.length_nil, List.length_set, List.length_take, and_true, true_and, or_true, true_or, Nat.zero_add] <;> omega)), ⟨rfl, rfl, hO_out⟩, rfl⟩)))))
  ·skip
   rintro g M ⟨out, i, p_out, c_out, L_out, hCu7, hPu7, ⟨hg4, hg5, hO_out⟩, rfl⟩
   simp only [setG, hg4, hg5]
   clear hg4 hg5
   have hm_out := OwnG.max hO_out
   refine Rs fun K J => sE rfl (WL_r rfl (as_ (E := 38) (e := elI) (l := (ah_ out)) (fun v => v) en_16 rfl (fun w hw => cd_ _ out w (SLe.ap hw (SLfe.sle (OwnG.slfe hO_out (List.sublist_append_left _ _)))) (by first | omega | (simp only [List.length_cons, List.length_nil, and_true, true_and] <;> omega) | simp)) (fun p20 c21 L22 hF23 => ?_)))
   have hb24 := (ce_ out)
   refine sE rfl (nl J (W_ret (ret1 rfl (.inr rfl) rfl ?_)))
   have hE : ((ah_ out) : (List I)) = (aa_ p) := by exact bif_f h1 (trs (Eq.symm (apS hCu7)) rfl)
   rw [← hE]
   exact ⟨_, rfl, ⟨L22, (List.sublist_append_left _ _), hF23⟩⟩

theorem aG_ (va : Value) (a : (List I)) (vb : Value) (b : (List I)) (w : World) (ha : Slr w elI va a) (hb : Slr w elI vb b) :
    Calls Tryz.prog 17 [va, vb].toArray w (fun e w' => e = .returned (.bool (al_ a b)) ∧ Ext w w') := by
 obtain ⟨p_a, c_a, rfl⟩ := ha.form
 obtain ⟨p_b, c_b, rfl⟩ := hb.form
 refine aX_ (N := 26) Tryz.func17 rfl rfl (by simp) ?_
 obtain ⟨w0, rfl⟩ : ∃ w0, w0 = w := ⟨_, rfl⟩
 have Ha := ha.old
 have hm_a := ha.max
 have Hb := hb.old
 have hm_b := hb.max
 simp only [initF, Nat.reduceAdd]
 refine Rs fun K J => sE rfl (nl J (Sq fun K1 J1 => Rs fun K J => sE rfl (sQ (q_as (v' := .int .i64 (((a).length : Nat) : Int)) (aY_ (e := elI) sl_22 rfl (SLe.sub Ha sn)) rfl) rfl (sE rfl (sQ (q_as (v' := .int .i64 (((b).length : Nat) : Int)) (aY_ (e := elI) sl_22 rfl (SLe.sub Hb sn)) rfl) rfl (sE rfl (nl J ?_)))))))
 rcases bt ((((a).length : Nat) : Int) != (((b).length : Nat) : Int)) with h1 | h1
 ·skip
  have ph2 := neI_t h1
  refine W_t h1 rfl (Rs fun K J => sE rfl (nl J (W_ret (aj_ (ret1 rfl (.inr rfl) rfl ?_)))))
  exact (by exact congrArg (fun r : Bool => (.bool r : Value)) (show _ = (al_ a b) from bif_t h1 rfl))
 ·skip
  have ph3 := neI_f h1
  refine W_f h1 rfl (am_ (J1 _ _ (Sq fun K2 J2 => Rs fun K J => sE rfl (nl J ?_))))
  refine cb_ (fun S M h => J2 S M h) [4, 5, 11, 12, 13, 14, 15, 16, 17, 18, 19, 20, 21, 22, 23, 24, 25] (fun g M => ∃ (i : Nat), (bI_ a b ((a.length + 1)) 0) = .inl i ∧ (g 5 = .int .i64 ((i : Nat) : Int)) ∧ M = []) (fun K_u4 hK_u4 => ?_) ?_
  ·skip
   refine ap_ ?_
   refine aC_ [4, 5, 11, 12, 13, 14, 15, 16, 17, 18, 19, 20, 21, 22, 23, 24, 25] (fun g nn M => ∃ (i : Nat), (bI_ a b nn i) = (bI_ a b ((a.length + 1)) 0) ∧ a.length - i < nn ∧ (i ≤ a.length) ∧ (g 5 = .int .i64 ((i : Nat) : Int)) ∧ M = []) ((a.length + 1)) ?start ?round
   case start => exact ⟨_, s0, 0, rfl, (by first | omega | (simp only [List.length_append, List.length_cons, List.length_nil, List.length_set, List.length_take, and_true, true_and, or_true, true_or, Nat.zero_add] <;> omega)), (by first | omega | (simp only [List.length_append, List.length_cons, List.length_nil, List.length_set, List.length_take, and_true, true_and, or_true, true_or, Nat.zero_add] <;> omega)), rfl, rfl⟩
   case round =>
    rintro nn g M ⟨i, hT0, hq0, hinv0, hg5, rfl⟩
    obtain ⟨k0, rfl⟩ : ∃ m, nn = m + 1 := ⟨nn - 1, by omega⟩
    simp only [setG, hg5]
    clear hg5
    refine Sq fun K7 J7 => Rs fun K J => sE rfl (sE rfl (sQ (q_as (v' := .int .i64 (((a).length : Nat) : Int)) (aY_ (e := elI) sl_22 rfl (SLe.sub Ha sn)) rfl) rfl (sE rfl (nl J ?_))))
    rcases bt (decide (((i : Nat) : Int) < (((a).length : Nat) : Int))) with h9 | h9
    ·skip
     have ph9 := of_decide_eq_true h9
     refine W_t h9 rfl (am_ (J7 _ _ (Sq fun K8 J8 => ap_ (ds sn [0,4,8,12,16,20,24,28,32] [] mix (by kernel_rfl) (fun K J => pE rfl (pE rfl (pQ rfl (q_as (v' := .pointer (some (slb (.slice p_a a.length c_a) (i * 18 + 0)))) (cj_ (e := elI) (l := a) (k := i) sl_22 rfl rfl (SLe.sub Ha sn) (by first | omega | (simp only [List.length_set, List.length_append, List.length_cons, List.length_nil]; omega))) rfl) ?_)))))))
     refine pQ rfl (q_ldG (e := elI) (l := a) (k := i) (o := 0) ty_38 rfl (SLe.sub Ha sn) (aw_ I0 (by first | omega | (simp only [List.length_set, List.length_append, List.length_cons, List.length_nil]; omega))) rfl) ?_
     refine pE rfl (pE rfl (pQ rfl (q_as (v' := .pointer (some (slb (.slice p_b b.length c_b) (i * 18 + 0)))) (cj_ (e := elI) (l := b) (k := i) sl_22 rfl rfl (SLe.sub Hb sn) (by first | omega | (simp only [List.length_set, List.length_append, List.length_cons, List.length_nil]; omega))) rfl) ?_))
     refine pQ rfl (q_ldG (e := elI) (l := b) (k := i) (o := 0) ty_38 rfl (SLe.sub Hb sn) (aw_ I0 (by first | omega | (simp only [List.length_set, List.length_append, List.length_cons, List.length_nil]; omega))) rfl) ?_
     refine pQ rfl (i1_ (r := decide ((a.getD i I0) = (b.getD i I0))) rfl rfl (d4_ 8 (by decide) eg_38 lw_38 (eR_ lv_pI) (eR_ lv_pI) (gq_ eq_pI))) (fl J ?_)
     rcases bt (decide ((a.getD i I0) = (b.getD i I0))) with h10 | h10
     ·skip
      have ph10 := of_decide_eq_true h10
      refine W_f (not_f h10) rfl (am_ (J8 _ _ (Rk fun K J => sE rfl (sV (.int .i64 (((i + 1) : Nat) : Int)) rfl (congrArg (Value.int .i64) (wx (by omega) (by omega) (by omega))) (sE rfl (nl J (⟨(by repeat first | exact .refl | refine .cons rfl ?_), _, _, s0, (Nat.lt_succ_self _), (i + 1), (by exact (hT0.symm.trans (Eq.symm (bif_t h9 (bif_t h10 rfl)))).symm), (Nat.lt_of_lt_of_le (by first | omega | (simp only [List.length_append, List.length_cons, List.length_nil, List.length_set, List.length_take, and_true, true_and, or_true, true_or, Nat.zero_add] <;> omega)) (Nat.le_of_lt_succ hq0)), (by first | omega | (simp only [List.length_append, List.length_cons, List.length_nil, List.length_set, List.length_take, and_true, true_and, or_true, true_or, Nat.zero_add] <;> omega)), rfl, rfl⟩)))))))
     ·skip
      have ph10 := of_decide_eq_false h10
      refine W_t (not_t h10) rfl (Rs fun K J => sE rfl (nl J (W_ret (aN_ (aj_ (aj_ (aN_ (aj_ (aj_ (ret1 rfl (.inr rfl) rfl ?_))))))))))
      exact (by exact congrArg (fun r : Bool => (.bool r : Value)) (show _ = (al_ a b) from bif_f h1 ((sm_q rfl (hT0.symm.trans (Eq.symm (bif_t h9 (bif_f h10 rfl))))))))
    ·skip
     have ph9 := of_decide_eq_false h9
     refine W_f h9 rfl (bg_ (an_ (an_ (ar_ (hK_u4 _ _ (by repeat first | exact .refl | refine .cons rfl ?_) ⟨_, s0, i, (by exact hT0.symm.trans (Eq.symm (bif_f h9 rfl))), rfl, rfl⟩)))))
  ·skip
   rintro g M ⟨i, hCu4, hg5, rfl⟩
   simp only [setG, hg5]
   clear hg5
   refine Rs fun K J => sE rfl (nl J (W_ret (ret1 rfl (.inr rfl) rfl ?_)))
   exact (by exact congrArg (fun r : Bool => (.bool r : Value)) (show _ = (al_ a b) from bif_f h1 (trs (Eq.symm (smS hCu4)) rfl)))

theorem fT_ (vp : Value) (p : (List I)) (w : World) (hp : Slr w elI vp p) :
    Calls Tryz.prog 36 [vp].toArray w (fun e w' => e = .returned (.bool (a7_ p)) ∧ Ext w w') := by
 obtain ⟨p_p, c_p, rfl⟩ := hp.form
 refine aX_ (N := 33) Tryz.func36 rfl rfl (by simp) ?_
 obtain ⟨w0, rfl⟩ : ∃ w0, w0 = w := ⟨_, rfl⟩
 have Hp := hp.old
 have hm_p := hp.max
 simp only [initF, Nat.reduceAdd]
 refine Rs fun K J => sE rfl (nl J (Sq fun K1 J1 => ?_))
 refine bL_ [3, 4, 5, 6, 7, 8, 9, 10, 11, 12] (fun g M => (g 12 = .bool (((((p).length : Nat) : Int) == 1) && decide ((p.getD 0 I0) = (E Z.bad)))) ∧ M = []) (fun K2 J2 => ?_) ?_
 ·skip
  refine dr sn [0,4,8,12,16,20,24,28,32,36] [] mix (by kernel_rfl) (fun K J => pE rfl (pQ rfl (q_as (v' := .int .i64 (((p).length : Nat) : Int)) (aY_ (e := elI) sl_24 rfl (SLe.sub Hp sn)) rfl) (pE rfl ?_)))
  rcases bt ((((p).length : Nat) : Int) == 1) with h2 | h2
  ·skip
   have ph2 := f3_ h2
   refine pB h2 rfl (pE rfl (pQ rfl (q_as (v' := .pointer (some (slb (.slice p_p p.length c_p) (0 * 18 + 0)))) (cj_ (e := elI) (l := p) (k := 0) sl_24 rfl rfl (SLe.sub Hp sn) (by first | omega | (simp only [List.length_set, List.length_append, List.length_cons, List.length_nil]; omega))) rfl) ?_))
   refine pQ rfl (q_ldG (e := elI) (l := p) (k := 0) (o := 0) ty_38 rfl (SLe.sub Hp sn) (aw_ I0 (by first | omega | (simp only [List.length_set, List.length_append, List.length_cons, List.length_nil]; omega))) rfl) ?_
   refine pC (AV [pI (E Z.bad)]) en_99 be_ rfl rfl rfl ?_
   refine pQ rfl (g4_ (r := decide ((p.getD 0 I0) = (E Z.bad))) rfl rfl (d4_ 8 (by decide) eg_38 lw_38 (eR_ lv_pI) (eR_ lv_pI) (gq_ eq_pI))) (pE rfl (fl J ?_))
   refine J2 _ _ (by repeat first | exact .refl | refine .cons rfl ?_) ⟨_, s0, ?s12, rfl⟩
   case s12 => exact congrArg Value.bool (and_t h2 rfl)
  ·skip
   have ph2 := ea_ h2
   refine pB h2 rfl (PL_n rfl rfl (PL_n rfl rfl (PL_n rfl rfl (PL_n rfl rfl (PL_n rfl rfl (pE rfl (fl J ?_)))))))
   refine J2 _ _ (by repeat first | exact .refl | refine .cons rfl ?_) ⟨_, s0, ?s12, rfl⟩
   case s12 => exact congrArg Value.bool (and_f h2)
 ·skip
  rintro g3 M ⟨hg12, rfl⟩
  simp only [setG, hg12]
  clear hg12
  rcases bt (((((p).length : Nat) : Int) == 1) && decide ((p.getD 0 I0) = (E Z.bad))) with h4 | h4
  ·skip
   have ph5 := f3_ (Bool.and_eq_true_iff.1 h4).1
   have ph6 := of_decide_eq_true (Bool.and_eq_true_iff.1 h4).2
   refine W_t h4 rfl (Rs fun K J => sE rfl (nl J (W_ret (aj_ (ret1 rfl (.inr rfl) rfl ?_)))))
   exact (by exact congrArg (fun r : Bool => (.bool r : Value)) (show _ = (a7_ p) from bif_t h4 rfl))
  ·skip
   refine W_f h4 rfl (am_ (J1 _ _ (Sq fun K3 J3 => ?_)))
   refine bL_ [13, 14, 15, 16, 17, 18, 19] (fun g M => (g 19 = .bool ((ad_ p) || decide (25 < (((p).length : Nat) : Int)))) ∧ M = []) (fun K4 J4 => ?_) ?_
   ·skip
    refine Rk fun K J => sE rfl (sQ (q_as (v' := .bool (ad_ p)) (aB_ en_19 rfl (fun w hw => a1_ _ p w (SLe.ap hw (SLe.sub Hp sn)))) rfl) rfl ?_)
    rcases bt (ad_ p) with h8 | h8
    ·skip
     refine sB h8 rfl (WL_n rfl (WL_n rfl (WL_n rfl (sE rfl (nl J ?_)))))
     refine J4 _ _ (by repeat first | exact .refl | refine .cons rfl ?_) ⟨_, s0, ?s19, rfl⟩
     case s19 => exact congrArg Value.bool (or_t h8)
    ·skip
     refine sB h8 rfl (sE rfl (sQ (q_as (v' := .int .i64 (((p).length : Nat) : Int)) (aY_ (e := elI) sl_24 rfl (SLe.sub Hp sn)) rfl) rfl (sE rfl (sE rfl (nl J ?_)))))
     refine J4 _ _ (by repeat first | exact .refl | refine .cons rfl ?_) ⟨_, s0, ?s19, rfl⟩
     case s19 => exact congrArg Value.bool (or_f h8 rfl)
   ·skip
    rintro g9 M ⟨hg19, rfl⟩
    simp only [setG, hg19]
    clear hg19
    rcases bt ((ad_ p) || decide (25 < (((p).length : Nat) : Int))) with h10 | h10
    ·skip
     refine W_t h10 rfl (Rs fun K J => sE rfl (nl J (W_ret (aj_ (ret1 rfl (.inr rfl) rfl ?_)))))
     exact (by exact congrArg (fun r : Bool => (.bool r : Value)) (show _ = (a7_ p) from bif_f h4 (bif_t h10 rfl)))
    ·skip
     have ph11 := of_decide_eq_false (Bool.or_eq_false_iff.1 h10).2
     refine W_f h10 rfl (am_ (J3 _ _ ?_))
     refine bL_ [2, 20, 21, 22, 23, 24, 25, 26, 27, 28, 29, 30, 31, 32] (fun g M => (g 2 = .bool (((((p).length : Nat) : Int) == 0) || ((Z.signW (p.getD ((p).length - 1) I0).dec).1 != 0))) ∧ M = []) (fun K5 J5 => ?_) ?_
     ·skip
      refine Rk fun K J => sE rfl (sQ (q_as (v' := .int .i64 (((p).length : Nat) : Int)) (aY_ (e := elI) sl_24 rfl (SLe.sub Hp sn)) rfl) rfl (sE rfl ?_))
      rcases bt ((((p).length : Nat) : Int) == 0) with h13 | h13
      ·skip
       have ph13 := f3_ h13
       refine sB h13 rfl (WL_n rfl (WL_n rfl (WL_n rfl (WL_n rfl (WL_n rfl (WL_n rfl (WL_n rfl (WL_n rfl (sE rfl (sE rfl (nl J ?_)))))))))))
       refine J5 _ _ (by repeat first | exact .refl | refine .cons rfl ?_) ⟨_, s0, ?s2, rfl⟩
       case s2 => exact congrArg Value.bool (or_t h13)
      ·skip
       have ph13 := ea_ h13
       refine sB h13 rfl (sE rfl (sE rfl (sQ (q_as (v' := .int .i64 (((p).length : Nat) : Int)) (aY_ (e := elI) sl_24 rfl (SLe.sub Hp sn)) rfl) rfl (sV (.int .i64 ((((p).length : Nat) : Int) - 1)) rfl (congrArg (Value.int .i64) (wx (by omega) (by omega) (by omega))) (sQ (q_as (v' := .pointer (some (slb (.slice p_p p.length c_p) (((p).length - 1) * 18 + 0)))) (cX_ (e := elI) (l := p) (k := ((p).length - 1)) sl_24 rfl rfl (by omega) (SLe.sub Hp sn) (by first | omega | (simp only [List.length_set, List.length_append, List.length_cons, List.length_nil]; omega))) rfl) rfl ?_)))))
       refine sQ (q_ldG (e := elI) (l := p) (k := ((p).length - 1)) (o := 0) ty_38 rfl (SLe.sub Hp sn) (aw_ I0 (by first | omega | (simp only [List.length_set, List.length_append, List.length_cons, List.length_nil]; omega))) rfl) rfl ?_
       refine sC (.int .i64 ((Z.signW (p.getD ((p).length - 1) I0).dec).1)) en_71 (cE_ (p.getD ((p).length - 1) I0).1 (p.getD ((p).length - 1) I0).2) rfl rfl rfl (sE rfl (sE rfl (sE rfl (nl J ?_))))
       refine J5 _ _ (by repeat first | exact .refl | refine .cons rfl ?_) ⟨_, s0, ?s2, rfl⟩
       case s2 => exact congrArg Value.bool (or_f h13 rfl)
     ·skip
      rintro g14 M ⟨hg2, rfl⟩
      simp only [setG, hg2]
      clear hg2
      refine W_ret (ret1 rfl (.inr rfl) rfl ?_)
      exact (by exact congrArg (fun r : Bool => (.bool r : Value)) (show _ = (a7_ p) from bif_f h4 (bif_f h10 rfl)))

theorem eN_ (vp : Value) (p : (List I)) (d : Int) (b : Int) (w : World) (hp : Slr w elI vp p) (hpre : 0 ≤ d ∧ d ≤ 1000) :
    Calls Tryz.prog 22 [vp, .int .i64 d, .int .i64 b].toArray w (fun e w' => e = .returned (.bool (aK_ p d b)) ∧ Ext w w') := by
 obtain ⟨p_p, c_p, rfl⟩ := hp.form
 refine aX_ (N := 31) Tryz.func22 rfl rfl (by simp) ?_
 obtain ⟨w0, rfl⟩ : ∃ w0, w0 = w := ⟨_, rfl⟩
 have Hp := hp.old
 have hm_p := hp.max
 simp only [initF, Nat.reduceAdd]
 refine Rs fun K J => sE rfl (nl J (Sq fun K1 J1 => ?_))
 refine bL_ [8, 9, 10, 11, 12, 13, 14, 15, 16, 17] (fun g M => (g 17 = .bool (!(a7_ p) || decide ((d + 1) < (((p).length : Nat) : Int)))) ∧ M = []) (fun K2 J2 => ?_) ?_
 ·skip
  refine Rk fun K J => sE rfl (sQ (q_as (v' := .bool (a7_ p)) (aB_ en_36 rfl (fun w hw => fT_ _ p w (SLe.ap hw (SLe.sub Hp sn)))) rfl) rfl (sE rfl ?_))
  rcases bt (a7_ p) with h2 | h2
  ·skip
   refine sB (not_f h2) rfl (sE rfl (sQ (q_as (v' := .int .i64 (((p).length : Nat) : Int)) (aY_ (e := elI) sl_24 rfl (SLe.sub Hp sn)) rfl) rfl (sE rfl (sV (.int .i64 (d + 1)) rfl (congrArg (Value.int .i64) (wx (by omega) (by omega) (by omega))) (sE rfl (sE rfl (nl J ?_)))))))
   refine J2 _ _ (by repeat first | exact .refl | refine .cons rfl ?_) ⟨_, s0, ?s17, rfl⟩
   case s17 => exact congrArg Value.bool (nor_t h2 rfl)
  ·skip
   refine sB (not_t h2) rfl (WL_n rfl (WL_n rfl (WL_n rfl (WL_n rfl (WL_n rfl (sE rfl (nl J ?_)))))))
   refine J2 _ _ (by repeat first | exact .refl | refine .cons rfl ?_) ⟨_, s0, ?s17, rfl⟩
   case s17 => exact congrArg Value.bool (nor_f h2)
 ·skip
  rintro g3 M ⟨hg17, rfl⟩
  simp only [setG, hg17]
  clear hg17
  rcases bt (!(a7_ p) || decide ((d + 1) < (((p).length : Nat) : Int))) with h4 | h4
  ·skip
   refine W_t h4 rfl (Rs fun K J => sE rfl (nl J (W_ret (aj_ (ret1 rfl (.inr rfl) rfl ?_)))))
   exact (by exact congrArg (fun r : Bool => (.bool r : Value)) (show _ = (aK_ p d b) from bif_t h4 rfl))
  ·skip
   have ph5 := of_decide_eq_false (Bool.or_eq_false_iff.1 h4).2
   refine W_f h4 rfl (am_ (J1 _ _ (Sq fun K3 J3 => Rs fun K J => sE rfl (nl J ?_))))
   refine cb_ (fun S M h => J3 S M h) [6, 7, 18, 19, 20, 21, 22, 23, 24, 25, 26, 27, 28, 29, 30] (fun g M => ∃ (i : Nat), (ci_ p d b ((p.length + 1)) 0) = .inl i ∧ (g 7 = .int .i64 ((i : Nat) : Int)) ∧ M = []) (fun K_u6 hK_u6 => ?_) ?_
   ·skip
    refine ap_ ?_
    refine aC_ [6, 7, 18, 19, 20, 21, 22, 23, 24, 25, 26, 27, 28, 29, 30] (fun g nn M => ∃ (i : Nat), (ci_ p d b nn i) = (ci_ p d b ((p.length + 1)) 0) ∧ p.length - i < nn ∧ (i ≤ p.length) ∧ (g 7 = .int .i64 ((i : Nat) : Int)) ∧ M = []) ((p.length + 1)) ?start ?round
    case start => exact ⟨_, s0, 0, rfl, (by first | omega | (simp only [List.length_append, List.length_cons, List.length_nil, List.length_set, List.length_take, and_true, true_and, or_true, true_or, Nat.zero_add] <;> omega)), (by first | omega | (simp only [List.length_append, List.length_cons, List.length_nil, List.length_set, List.length_take, and_true, true_and, or_true, true_or, Nat.zero_add] <;> omega)), rfl, rfl⟩
    case round =>
     rintro nn g M ⟨i, hT0, hq0, hinv0, hg7, rfl⟩
     obtain ⟨k0, rfl⟩ : ∃ m, nn = m + 1 := ⟨nn - 1, by omega⟩
     simp only [setG, hg7]
     clear hg7
     refine Sq fun K8 J8 => Rs fun K J => sE rfl (sE rfl (sQ (q_as (v' := .int .i64 (((p).length : Nat) : Int)) (aY_ (e := elI) sl_24 rfl (SLe.sub Hp sn)) rfl) rfl (sE rfl (nl J ?_))))
     rcases bt (decide (((i : Nat) : Int) < (((p).length : Nat) : Int))) with h11 | h11
     ·skip
      have ph11 := of_decide_eq_true h11
      refine W_t h11 rfl (am_ (J8 _ _ (Sq fun K9 J9 => ap_ (Rs fun K J => sE rfl (sE rfl (sQ (q_as (v' := .pointer (some (slb (.slice p_p p.length c_p) (i * 18 + 0)))) (cj_ (e := elI) (l := p) (k := i) sl_24 rfl rfl (SLe.sub Hp sn) (by first | omega | (simp only [List.length_set, List.length_append, List.length_cons, List.length_nil]; omega))) rfl) rfl ?_))))))
      refine sQ (q_ldG (e := elI) (l := p) (k := i) (o := 0) ty_38 rfl (SLe.sub Hp sn) (aw_ I0 (by first | omega | (simp only [List.length_set, List.length_append, List.length_cons, List.length_nil]; omega))) rfl) rfl ?_
      refine sC (.int .i64 ((Z.bitsW (p.getD i I0).dec).1)) en_75 (f6_ (p.getD i I0).1 (p.getD i I0).2) rfl rfl rfl (sE rfl (sE rfl (nl J ?_)))
      rcases bt (decide (b < (Z.bitsW (p.getD i I0).dec).1)) with h12 | h12
      ·skip
       have ph12 := of_decide_eq_true h12
       refine W_t h12 rfl (Rs fun K J => sE rfl (nl J (W_ret (aN_ (aj_ (aj_ (aN_ (aj_ (aj_ (ret1 rfl (.inr rfl) rfl ?_))))))))))
       exact (by exact congrArg (fun r : Bool => (.bool r : Value)) (show _ = (aK_ p d b) from bif_f h4 ((sm_q rfl (hT0.symm.trans (Eq.symm (bif_t h11 (bif_t h12 rfl))))))))
      ·skip
       have ph12 := of_decide_eq_false h12
       refine W_f h12 rfl (am_ (J9 _ _ (Rk fun K J => sE rfl (sV (.int .i64 (((i + 1) : Nat) : Int)) rfl (congrArg (Value.int .i64) (wx (by omega) (by omega) (by omega))) (sE rfl (nl J (⟨(by repeat first | exact .refl | refine .cons rfl ?_), _, _, s0, (Nat.lt_succ_self _), (i + 1), (by exact (hT0.symm.trans (Eq.symm (bif_t h11 (bif_f h12 rfl)))).symm), (Nat.lt_of_lt_of_le (by first | omega | (simp only [List.length_append, List.length_cons, List.length_nil, List.length_set, List.length_take, and_true, true_and, or_true, true_or, Nat.zero_add] <;> omega)) (Nat.le_of_lt_succ hq0)), (by first | omega | (simp only [List.length_append, List.length_cons, List.length_nil, List.length_set, List.length_take, and_true, true_and, or_true, true_or, Nat.zero_add] <;> omega)), rfl, rfl⟩)))))))
     ·skip
      have ph11 := of_decide_eq_false h11
      refine W_f h11 rfl (bg_ (an_ (an_ (ar_ (hK_u6 _ _ (by repeat first | exact .refl | refine .cons rfl ?_) ⟨_, s0, i, (by exact hT0.symm.trans (Eq.symm (bif_f h11 rfl))), rfl, rfl⟩)))))
   ·skip
    rintro g M ⟨i, hCu6, hg7, rfl⟩
    simp only [setG, hg7]
    clear hg7
    refine Rs fun K J => sE rfl (nl J (W_ret (ret1 rfl (.inr rfl) rfl ?_)))
    exact (by exact congrArg (fun r : Bool => (.bool r : Value)) (show _ = (aK_ p d b) from bif_f h4 (trs (Eq.symm (smS hCu6)) rfl)))

theorem eM_ (vp : Value) (p : (List I)) (vq : Value) (q : (List I)) (w : World) (hp : Slr w elI vp p) (hq : Slr w elI vq q) (hpre : p.length ≤ 100 ∧ q.length ≤ 100) :
    Calls Tryz.prog 24 [vp, vq].toArray w (fun e w' => ∃ v, e = .returned (v) ∧ Ext w w' ∧ Slo w.heap.size w' 38 elI v (ax_ p q)) := by
 obtain ⟨p_p, c_p, rfl⟩ := hp.form
 obtain ⟨p_q, c_q, rfl⟩ := hq.form
 refine bi_ (n := 94) (fun v => v) Tryz.func24 rfl rfl (by simp) ?_
 obtain ⟨w0, rfl⟩ : ∃ w0, w0 = w := ⟨_, rfl⟩
 have Hp := hp.old
 have hm_p := hp.max
 have Hq := hq.old
 have hm_q := hq.max
 simp only [initF, Nat.reduceAdd]
 refine Rs fun K J => sE rfl (nl J (Sq fun K1 J1 => ?_))
 refine bL_ [13, 14, 15, 16, 17, 18, 19, 20, 21, 22, 23] (fun g M => (g 23 = .bool ((ad_ p) || ((ad_ q) || ((((q).length : Nat) : Int) == 0)))) ∧ M = []) (fun K2 J2 => ?_) ?_
 ·skip
  refine Rk fun K J => sE rfl (sQ (q_as (v' := .bool (ad_ p)) (aB_ en_19 rfl (fun w hw => a1_ _ p w (SLe.ap hw (SLe.sub Hp sn)))) rfl) rfl ?_)
  rcases bt (ad_ p) with h3 | h3
  ·skip
   refine sB h3 rfl (WL_n rfl (WL_n rfl (sE rfl (sE rfl (WL_n rfl (WL_n rfl (WL_n rfl (sE rfl (nl J ?_)))))))))
   refine J2 _ _ (by repeat first | exact .refl | refine .cons rfl ?_) ⟨_, s0, ?s23, rfl⟩
   case s23 => exact congrArg Value.bool (or_t h3)
  ·skip
   refine sB h3 rfl (sE rfl (sQ (q_as (v' := .bool (ad_ q)) (aB_ en_19 rfl (fun w hw => a1_ _ q w (SLe.ap hw (SLe.sub Hq sn)))) rfl) rfl (sE rfl ?_)))
   rcases bt (ad_ q) with h4 | h4
   ·skip
    refine sB h4 rfl (WL_n rfl (WL_n rfl (WL_n rfl (sE rfl (nl J ?_)))))
    refine J2 _ _ (by repeat first | exact .refl | refine .cons rfl ?_) ⟨_, s0, ?s23, rfl⟩
    case s23 => exact congrArg Value.bool (or_f h3 (or_t h4))
   ·skip
    refine sB h4 rfl (sE rfl (sQ (q_as (v' := .int .i64 (((q).length : Nat) : Int)) (aY_ (e := elI) sl_24 rfl (SLe.sub Hq sn)) rfl) rfl (sE rfl (sE rfl (nl J ?_)))))
    refine J2 _ _ (by repeat first | exact .refl | refine .cons rfl ?_) ⟨_, s0, ?s23, rfl⟩
    case s23 => exact congrArg Value.bool (or_f h3 (or_f h4 rfl))
 ·skip
  rintro g5 M ⟨hg23, rfl⟩
  simp only [setG, hg23]
  clear hg23
  rcases bt ((ad_ p) || ((ad_ q) || ((((q).length : Nat) : Int) == 0))) with h6 | h6
  ·skip
   refine W_t h6 rfl (Rs fun K J => WL_r rfl (as_ (E := 38) (e := elI) (l := F_skewbackref08_bad) (fun v => v) en_70 rfl (fun w hw => bB_  w) (fun p7 c8 L9 hF10 => sE rfl (nl J (W_ret (aj_ (ret1 rfl (.inr rfl) rfl ?_)))))))
   have hE : (F_skewbackref08_bad : (List I)) = (ax_ p q) := by exact bif_t h6 rfl
   rw [← hE]
   exact ⟨_, rfl, ⟨L9, (List.sublist_append_left _ _), hF10⟩⟩
  ·skip
   have ph11 := ea_ (Bool.or_eq_false_iff.1 (Bool.or_eq_false_iff.1 h6).2).2
   refine W_f h6 rfl (am_ (J1 _ _ (Rs fun K J => sE rfl (sQ (q_as (v' := .int .i64 (((q).length : Nat) : Int)) (aY_ (e := elI) sl_24 rfl (SLe.sub Hq sn)) rfl) rfl (sV (.int .i64 ((((q).length : Nat) : Int) - 1)) rfl (congrArg (Value.int .i64) (wx (by omega) (by omega) (by omega))) (sE rfl (nl J (Rs fun K J => sE rfl (sE rfl (sQ (q_as (v' := .pointer (some (slb (.slice p_q q.length c_q) (((q).length - 1) * 18 + 0)))) (cX_ (e := elI) (l := q) (k := ((q).length - 1)) sl_24 rfl rfl (by omega) (SLe.sub Hq sn) (by first | omega | (simp only [List.length_set, List.length_append, List.length_cons, List.length_nil]; omega))) rfl) rfl ?_))))))))))
   refine sQ (q_ldG (e := elI) (l := q) (k := ((q).length - 1)) (o := 0) ty_38 rfl (SLe.sub Hq sn) (aw_ I0 (by first | omega | (simp only [List.length_set, List.length_append, List.length_cons, List.length_nil]; omega))) rfl) rfl ?_
   refine sC (AV [pI (E (Z.abs (q.getD ((q).length - 1) I0).dec))]) en_80 (eH_ (q.getD ((q).length - 1) I0).1 (q.getD ((q).length - 1) I0).2) rfl rfl rfl (sN zp_38 rfl fun b12 hb12 => sS [pI (E (Z.abs (q.getD ((q).length - 1) I0).dec))] ty_38 rfl rfl rfl rfl rfl (.head _) rfl hb12 (nl J (Rs fun K J => sE rfl (sE rfl (sQ (q_as (v' := .pointer (some (slb (.slice p_q q.length c_q) (((q).length - 1) * 18 + 0)))) (cX_ (e := elI) (l := q) (k := ((q).length - 1)) sl_24 rfl rfl (by omega) (SLe.sub Hq sn) (by first | omega | (simp only [List.length_set, List.length_append, List.length_cons, List.length_nil]; omega))) rfl) rfl ?_)))))
   refine sQ (q_ldG (e := elI) (l := q) (k := ((q).length - 1)) (o := 0) ty_38 rfl (SLe.sub Hq sn) (aw_ I0 (by first | omega | (simp only [List.length_set, List.length_append, List.length_cons, List.length_nil]; omega))) rfl) rfl ?_
   refine sC (.int .i64 ((Z.signW (q.getD ((q).length - 1) I0).dec).1)) en_71 (cE_ (q.getD ((q).length - 1) I0).1 (q.getD ((q).length - 1) I0).2) rfl rfl rfl (sC (AV [pI (E (Z.of (Z.signW (q.getD ((q).length - 1) I0).dec).1))]) en_81 (bT_ (Z.signW (q.getD ((q).length - 1) I0).dec).1 (Z.signW (q.getD ((q).length - 1) I0).dec).2) rfl rfl rfl (sN zp_38 rfl fun b13 hb13 => sS [pI (E (Z.of (Z.signW (q.getD ((q).length - 1) I0).dec).1))] ty_38 rfl rfl rfl rfl rfl (.head _) rfl hb13 (nl J (Rs fun K J => WL_r rfl (aE_ [] [] us_22 z_38 sz_38 rfl (by decide) rfl rfl trivial rfl (fun b14 hb14 => sE rfl (WL_r rfl (oP_ us_22 us_24 (c3_ (e := elI) (l := []) (m := p) 68 us_22 (by kernel_rfl) (by decide) rfl rfl (OwnG.lit (e := elI) (l := []) (qs := []) hb14 rfl (Nat.le_of_ble_eq_true rfl) rfl) (SLe.sub Hp sn) fq_b (by simp only [List.length_append, List.length_cons, List.length_nil]; omega) (by decide) (fun p15 c16 L17 hO18 => ?_))))))))))
   refine sE rfl (nl J (Sq fun K3 J3 => Rs fun K J => sE rfl (sQ (q_as (v' := .int .i64 (((p).length : Nat) : Int)) (aY_ (e := elI) sl_24 rfl (SLe.sub Hp sn)) rfl) rfl (sV (.int .i64 ((((p).length : Nat) : Int) - 1)) rfl (congrArg (Value.int .i64) (wx (by omega) (by omega) (by omega))) (sE rfl (sV (.int .i64 (((((p).length : Nat) : Int) - 1) - ((((q).length : Nat) : Int) - 1))) rfl (congrArg (Value.int .i64) (wx (by omega) (by omega) (by omega))) (sE rfl (nl J ?_))))))))
   refine cb_ (fun S M h => J3 S M h) [4, 8, 9, 10, 11, 12, 47, 48, 49, 50, 51, 52, 53, 54, 55, 56, 57, 58, 59, 60, 61, 62, 63, 64, 65, 66, 67, 68, 69, 70, 71, 72, 73, 74, 75, 76, 77, 78, 79, 80, 81, 82, 83, 84, 85, 86, 87, 88, 89, 90, 91] (fun g M => ∃ (r : List I) (i : Int) (p_r : Option Addr) (c_r : Nat) (L_r : List Blk), (bP_ p q ((p.length + 1)) ([] ++ p) (((((p).length : Nat) : Int) - 1) - ((((q).length : Nat) : Int) - 1))) = .inl (r, i) ∧ (r.length = p.length) ∧ (g 8 = .slice p_r r.length c_r ∧ g 9 = .int .i64 i ∧ OwnG w0 38 elI (.slice p_r r.length c_r) r L_r) ∧ M = (L_r ++ (⟨b13, 38, flat [pI (E (Z.of (Z.signW (q.getD ((q).length - 1) I0).dec).1))]⟩ :: (⟨b12, 38, flat [pI (E (Z.abs (q.getD ((q).length - 1) I0).dec))]⟩ :: [])))) (fun K_u19 hK_u19 => ?_) ?_
   ·skip
    refine ap_ ?_
    refine aC_ [4, 8, 9, 10, 11, 12, 47, 48, 49, 50, 51, 52, 53, 54, 55, 56, 57, 58, 59, 60, 61, 62, 63, 64, 65, 66, 67, 68, 69, 70, 71, 72, 73, 74, 75, 76, 77, 78, 79, 80, 81, 82, 83, 84, 85, 86, 87, 88, 89, 90, 91] (fun g nn M => ∃ (r : List I) (i : Int) (p_r : Option Addr) (c_r : Nat) (L_r : List Blk), (bP_ p q nn r i) = (bP_ p q ((p.length + 1)) ([] ++ p) (((((p).length : Nat) : Int) - 1) - ((((q).length : Nat) : Int) - 1))) ∧ (i + 1).toNat < nn ∧ ((i + q.length ≤ p.length ∧ -1 ≤ i ∨ i < 0) ∧ r.length = p.length) ∧ (g 8 = .slice p_r r.length c_r ∧ g 9 = .int .i64 i ∧ OwnG w0 38 elI (.slice p_r r.length c_r) r L_r) ∧ M = (L_r ++ (⟨b13, 38, flat [pI (E (Z.of (Z.signW (q.getD ((q).length - 1) I0).dec).1))]⟩ :: (⟨b12, 38, flat [pI (E (Z.abs (q.getD ((q).length - 1) I0).dec))]⟩ :: [])))) ((p.length + 1)) ?start ?round
    case start => exact ⟨_, s0, ([] ++ p), (((((p).length : Nat) : Int) - 1) - ((((q).length : Nat) : Int) - 1)), p15, c16, L17, rfl, (by first | omega | (simp only [List.length_append, List.length_cons, List.length_nil, List.length_set, List.length_take, and_true, true_and, or_true, true_or, Nat.zero_add] <;> omega)), (by first | omega | (simp only [List.length_append, List.length_cons, List.length_nil, List.length_set, List.length_take, and_true, true_and, or_true, true_or, Nat.zero_add] <;> omega)), ⟨rfl, rfl, hO18⟩, rfl⟩
    case round =>
     rintro nn g M ⟨r, i, p_r, c_r, L_r, hT0, hq0, hinv0, ⟨hg8, hg9, hO_r⟩, rfl⟩
     obtain ⟨k0, rfl⟩ : ∃ m, nn = m + 1 := ⟨nn - 1, by omega⟩
     simp only [setG, hg8, hg9]
     clear hg8 hg9
     have hm_r := OwnG.max hO_r
     refine Sq fun K22 J22 => Rs fun K J => sE rfl (sE rfl (nl J ?_))
     rcases bt (decide (0 ≤ i)) with h92 | h92
     ·skip
      have ph92 := of_decide_eq_true h92
      refine W_t h92 rfl (am_ (J22 _ _ (Sq fun K23 J23 => ap_ (ds s0 [0,4,8,12,16,20,24,28,33,37] [9] mix (by kernel_rfl) (fun K J => pQ rfl (qL ty_38 rfl (List.mem_append_right _ (List.mem_cons_self)) rfl) (pE rfl (pE rfl (pE rfl (pV (.int .i64 (i + ((((q).length : Nat) : Int) - 1))) rfl (congrArg (Value.int .i64) (wx (by omega) (by omega) (by omega))) (pQ rfl (q_as (v' := .pointer (some (slb (.slice p_r r.length c_r) (((i).toNat + ((q).length - 1)) * 18 + 0)))) (cX_ (e := elI) (l := r) (k := ((i).toNat + ((q).length - 1))) sl_22 rfl rfl (by omega) (SLfe.sle (OwnG.slfe hO_r (List.sublist_append_left _ _))) (by first | omega | (simp only [List.length_set, List.length_append, List.length_cons, List.length_nil]; omega))) rfl) ?_))))))))))
      refine pQ rfl (q_ldG (e := elI) (l := r) (k := ((i).toNat + ((q).length - 1))) (o := 0) ty_38 rfl (SLfe.sle (OwnG.slfe hO_r (List.sublist_append_left _ _))) (aw_ I0 (by first | omega | (simp only [List.length_set, List.length_append, List.length_cons, List.length_nil]; omega))) rfl) ?_
      obtain ⟨r93, hr93⟩ := nm ((E (Z.mul (Z.of (Z.signW (q.getD ((q).length - 1) I0).dec).1) (r.getD ((i).toNat + ((q).length - 1)) I0).dec)) : I)
      refine pC (AV [pI r93]) en_82 (cq_ (E (Z.of (Z.signW (q.getD ((q).length - 1) I0).dec).1)).1 (r.getD ((i).toNat + ((q).length - 1)) I0).1 (E (Z.of (Z.signW (q.getD ((q).length - 1) I0).dec).1)).2 (r.getD ((i).toNat + ((q).length - 1)) I0).2) rfl rfl ((cg2 (fun p q => AV [pI (E (Z.mul p q))]) (E_dec _) rfl).trans (by rw [hr93])) (PL_o rfl rfl (d0_ zp_38 (fun b94 hb94 => ⟨(fun _ => sd s0), (sd s0), oS [pI r93] ty_38 rfl rfl rfl rfl rfl rfl (.head _) rfl hb94 rfl (sd s0) (fl J (Rs fun K J => WL_r rfl (aE_ [] [] us_22 z_38 sz_38 rfl (by decide) rfl rfl trivial rfl (fun b95 hb95 => sE rfl (WL_r rfl (c3_ (e := elI) (l := []) (m := r) 68 us_22 (by kernel_rfl) (by decide) rfl rfl (OwnG.lit (e := elI) (l := []) (qs := []) hb95 rfl (Nat.le_of_ble_eq_true rfl) rfl) (SLfe.sle (OwnG.slfe hO_r (sd (sd (List.sublist_append_left _ _))))) fq_b (by simp only [List.length_append, List.length_cons, List.length_nil]; omega) (by decide) (fun p96 c97 L98 hO99 => ?_)))))))⟩)))
      refine sE rfl (nl J (Sq fun K24 J24 => Rs fun K J => sE rfl (nl J ?_)))
      refine cb_ (fun S M h => J24 S M h) [4, 12, 62, 63, 64, 65, 66, 67, 68, 69, 70, 71, 72, 73, 74, 75, 76, 77, 78, 79, 80, 81, 82, 83, 84, 85, 86, 87, 88, 89, 90] (fun g M => ∃ (k : Nat) (t : List I) (L_t : List Blk), (bN_ p q r i r93 ((r.length + 1)) 0 ([] ++ r)) = .inl (k, t) ∧ (t.length = r.length) ∧ (g 12 = .int .i64 ((k : Nat) : Int) ∧ OwnG w0 38 elI (.slice p96 ([] ++ r).length c97) t L_t) ∧ M = (L_t ++ (⟨b94, 38, flat [pI r93]⟩ :: (L_r ++ (⟨b13, 38, flat [pI (E (Z.of (Z.signW (q.getD ((q).length - 1) I0).dec).1))]⟩ :: (⟨b12, 38, flat [pI (E (Z.abs (q.getD ((q).length - 1) I0).dec))]⟩ :: [])))))) (fun K_u100 hK_u100 => ?_) ?_
      ·skip
       refine ap_ ?_
       refine aC_ [4, 12, 62, 63, 64, 65, 66, 67, 68, 69, 70, 71, 72, 73, 74, 75, 76, 77, 78, 79, 80, 81, 82, 83, 84, 85, 86, 87, 88, 89, 90] (fun g nn M => ∃ (k : Nat) (t : List I) (L_t : List Blk), (bN_ p q r i r93 nn k t) = (bN_ p q r i r93 ((r.length + 1)) 0 ([] ++ r)) ∧ r.length - k < nn ∧ (k ≤ r.length ∧ t.length = r.length) ∧ (g 12 = .int .i64 ((k : Nat) : Int) ∧ OwnG w0 38 elI (.slice p96 ([] ++ r).length c97) t L_t) ∧ M = (L_t ++ (⟨b94, 38, flat [pI r93]⟩ :: (L_r ++ (⟨b13, 38, flat [pI (E (Z.of (Z.signW (q.getD ((q).length - 1) I0).dec).1))]⟩ :: (⟨b12, 38, flat [pI (E (Z.abs (q.getD ((q).length - 1) I0).dec))]⟩ :: [])))))) ((r.length + 1)) ?start ?round
       case start => exact ⟨_, s0, 0, ([] ++ r), L98, rfl, (by first | omega | (simp only [List.length_append, List.length_cons, List.length_nil, List.length_set, List.length_take, and_true, true_and, or_true, true_or, Nat.zero_add] <;> omega)), (by first | omega | (simp only [List.length_append, List.length_cons, List.length_nil, List.length_set, List.length_take, and_true, true_and, or_true, true_or, Nat.zero_add] <;> omega)), ⟨rfl, hO99⟩, rfl⟩
       case round =>
        rintro nn g M ⟨k, t, L_t, hT1, hq1, hinv1, ⟨hg12, hO_t⟩, rfl⟩
        obtain ⟨k1, rfl⟩ : ∃ m, nn = m + 1 := ⟨nn - 1, by omega⟩
        simp only [setG, hg12]
        clear hg12
        have hm_t := OwnG.max hO_t
        refine Sq fun K29 J29 => Rs fun K J => sE rfl (sE rfl (sQ (q_as (v' := .int .i64 (((r).length : Nat) : Int)) (aY_ (e := elI) sl_22 rfl (SLfe.sle (OwnG.slfe hO_r (sR (sd (List.sublist_append_left _ _)))))) rfl) rfl (sE rfl (nl J ?_))))
        rcases bt (decide (((k : Nat) : Int) < (((r).length : Nat) : Int))) with h119 | h119
        ·skip
         have ph119 := of_decide_eq_true h119
         refine W_t h119 rfl (am_ (J29 _ _ (Sq fun K30 J30 => ap_ (ds (sR s0) [0,4,8,12,16,20,24,28,32,36,40,44,48,52,56,60,64,69] [17] mix (by kernel_rfl) (fun K J => pE rfl (pE rfl (pQ rfl (qL ty_38 rfl (List.mem_append_right _ (List.mem_cons_of_mem _ (List.mem_append_right _ (List.mem_cons_of_mem _ (List.mem_cons_self))))) rfl) (pE rfl (pE rfl (pQ rfl (q_as (v' := .pointer (some (slb (.slice p_r r.length c_r) (k * 18 + 0)))) (cj_ (e := elI) (l := r) (k := k) sl_22 rfl rfl (SLfe.sle (OwnG.slfe hO_r (sR (sd (List.sublist_append_left _ _))))) (by first | omega | (simp only [List.length_set, List.length_append, List.length_cons, List.length_nil]; omega))) rfl) ?_))))))))))
         refine pQ rfl (q_ldG (e := elI) (l := r) (k := k) (o := 0) ty_38 rfl (SLfe.sle (OwnG.slfe hO_r (sR (sd (List.sublist_append_left _ _))))) (aw_ I0 (by first | omega | (simp only [List.length_set, List.length_append, List.length_cons, List.length_nil]; omega))) rfl) ?_
         refine pC (AV [pI (E (Z.mul (Z.abs (q.getD ((q).length - 1) I0).dec) (r.getD k I0).dec))]) en_82 (cq_ (E (Z.abs (q.getD ((q).length - 1) I0).dec)).1 (r.getD k I0).1 (E (Z.abs (q.getD ((q).length - 1) I0).dec)).2 (r.getD k I0).2) rfl rfl (cg2 (fun p q => AV [pI (E (Z.mul p q))]) (E_dec _) rfl) (pQ rfl (qL ty_38 rfl (List.mem_append_right _ (List.mem_cons_self)) rfl) (pE rfl (pE rfl (pE rfl (pV (.int .i64 (((k : Nat) : Int) - i)) rfl (congrArg (Value.int .i64) (wx (by omega) (by omega) (by omega))) (pQ rfl (q_as (v' := AV [pI (aQ_ q (((k : Nat) : Int) - i))]) (aB_ en_84 rfl (fun w hw => dV_ _ q (((k : Nat) : Int) - i) w (SLe.ap hw (SLe.sub Hq sn)))) rfl) (pC (AV [pI (E (Z.mul r93.dec (aQ_ q (((k : Nat) : Int) - i)).dec))]) en_82 (cq_ r93.1 (aQ_ q (((k : Nat) : Int) - i)).1 r93.2 (aQ_ q (((k : Nat) : Int) - i)).2) rfl rfl rfl ?_)))))))
         obtain ⟨r120, hr120⟩ := nm ((E (Z.sub (Z.mul (Z.abs (q.getD ((q).length - 1) I0).dec) (r.getD k I0).dec) (Z.mul r93.dec (aQ_ q (((k : Nat) : Int) - i)).dec))) : I)
         refine pC (AV [pI r120]) en_83 (eJ_ (E (Z.mul (Z.abs (q.getD ((q).length - 1) I0).dec) (r.getD k I0).dec)).1 (E (Z.mul r93.dec (aQ_ q (((k : Nat) : Int) - i)).dec)).1 (E (Z.mul (Z.abs (q.getD ((q).length - 1) I0).dec) (r.getD k I0).dec)).2 (E (Z.mul r93.dec (aQ_ q (((k : Nat) : Int) - i)).dec)).2) rfl rfl ((cg2 (fun p q => AV [pI (E (Z.sub p q))]) (E_dec _) (E_dec _)).trans (by rw [hr120])) (pQ rfl (q_as (v' := .pointer (some (slb (.slice p96 ([] ++ r).length c97) (k * 18 + 0)))) (cj_ (e := elI) (l := t) (k := k) sl_22 rfl rfl (SLfe.sle (OwnG.slfe hO_t (List.sublist_append_left _ _))) (by first | omega | (simp only [List.length_set, List.length_append, List.length_cons, List.length_nil]; omega))) rfl) ?_)
         refine PL_o rfl rfl (fj_ (e := elI) (l := t) (k := k) (z := r120) ty_38 rfl rfl hO_t (by first | omega | (simp only [List.length_set, List.length_append, List.length_cons, List.length_nil]; omega)) rp_l rfl rfl (fun L121 hO122 => ⟨nf, (sR s0), ?_⟩))
         refine fl J (Rs fun K J => sE rfl (sE rfl (sQ (q_as (v' := .pointer (some (slb (.slice p96 ([] ++ r).length c97) (k * 18 + 0)))) (cj_ (e := elI) (l := (t.set k r120)) (k := k) sl_22 rfl rfl (SLfe.sle (OwnG.slfe hO122 (List.sublist_append_left _ _))) (by first | omega | (simp only [List.length_set, List.length_append, List.length_cons, List.length_nil]; omega))) rfl) rfl ?_)))
         refine sQ (q_as (v' := .pointer (some (slb (.slice p96 ([] ++ r).length c97) (k * 18 + 0)))) (j6_ ep_ rfl rfl) rfl) rfl (sQ (h7_ (u := .bool (((t.set k r120).getD k I0).1.bad)) (e := elI) (l := (t.set k r120)) (k := k) (o := 0) ty_4 rfl (SLfe.sle (OwnG.slfe hO122 (List.sublist_append_left _ _))) (aw_ I0 (by first | omega | (simp only [List.length_set, List.length_append, List.length_cons, List.length_nil]; omega))) rfl) rfl ?_)
         refine nl J ?_
         rcases bt (((t.set k r120).getD k I0).1.bad) with h123 | h123
         ·skip
          refine W_t h123 rfl (Rs fun K J => WL_r rfl (as_ (E := 38) (e := elI) (l := F_skewbackref08_bad) (fun v => v) en_70 rfl (fun w hw => bB_  w) (fun p124 c125 L126 hF127 => sE rfl (nl J (W_ret (aN_ (aj_ (aj_ (aN_ (aj_ (aj_ (aN_ (aj_ (aj_ (aN_ (aj_ (aj_ (ret1 rfl (.inr rfl) rfl ?_))))))))))))))))))
          have hE : (F_skewbackref08_bad : (List I)) = (ax_ p q) := by subst hr120; subst hr93; exact bif_f h6 ((sm_q rfl (hT0.symm.trans (Eq.symm (bif_t h92 ((sm_q rfl (hT1.symm.trans (Eq.symm (bif_t h119 (bif_t h123 rfl)))))))))))
          rw [← hE]
          exact ⟨_, rfl, ⟨L126, (List.sublist_append_left _ _), hF127⟩⟩
         ·skip
          refine W_f h123 rfl (am_ (J30 _ _ (Rk fun K J => sE rfl (sV (.int .i64 (((k + 1) : Nat) : Int)) rfl (congrArg (Value.int .i64) (wx (by omega) (by omega) (by omega))) (sE rfl (nl J (⟨(by repeat first | exact .refl | refine .cons rfl ?_), _, _, s0, (Nat.lt_succ_self _), (k + 1), (t.set k r120), L121, (by subst hr120; exact (hT1.symm.trans (Eq.symm (bif_t h119 (bif_f h123 rfl)))).symm), (Nat.lt_of_lt_of_le (by first | omega | (simp only [List.length_append, List.length_cons, List.length_nil, List.length_set, List.length_take, and_true, true_and, or_true, true_or, Nat.zero_add] <;> omega)) (Nat.le_of_lt_succ hq1)), (by first | omega | (simp only [List.length_append, List.length_cons, List.length_nil, List.length_set, List.length_take, and_true, true_and, or_true, true_or, Nat.zero_add] <;> omega)), ⟨rfl, hO122⟩, rfl⟩)))))))
        ·skip
         have ph119 := of_decide_eq_false h119
         refine W_f h119 rfl (bg_ (an_ (an_ (ar_ (hK_u100 _ _ (by repeat first | exact .refl | refine .cons rfl ?_) ⟨_, s0, k, t, L_t, (by exact hT1.symm.trans (Eq.symm (bif_f h119 rfl))), (by first | omega | (simp only [List.length_append, List.length_cons, List.length_nil, List.length_set, List.length_take, and_true, true_and, or_true, true_or, Nat.zero_add] <;> omega)), ⟨rfl, hO_t⟩, rfl⟩)))))
      ·skip
       rintro g M ⟨k, t, L_t, hCu100, hPu100, ⟨hg12, hO_t⟩, rfl⟩
       simp only [setG, hg12]
       clear hg12
       have hm_t := OwnG.max hO_t
       refine Rk fun K J => sE rfl (sE rfl (nl J (J23 _ _ (Rk fun K J => sE rfl (sV (.int .i64 (i - 1)) rfl (congrArg (Value.int .i64) (wx (by omega) (by omega) (by omega))) (sE rfl (nl J (⟨(by repeat first | exact .refl | refine .cons rfl ?_), _, _, (sA (sd (sR (s0)))), (Nat.lt_succ_self _), t, (i - 1), p96, c97, L_t, (by subst hr93; exact (hT0.symm.trans (Eq.symm (bif_t h92 (trs (Eq.symm (smS hCu100)) rfl)))).symm), (Nat.lt_of_lt_of_le (by first | omega | (simp only [List.length_append, List.length_cons, List.length_nil, List.length_set, List.length_take, and_true, true_and, or_true, true_or, Nat.zero_add] <;> omega)) (Nat.le_of_lt_succ hq0)), (by first | omega | (simp only [List.length_append, List.length_cons, List.length_nil, List.length_set, List.length_take, and_true, true_and, or_true, true_or, Nat.zero_add] <;> omega)), ⟨(slEq (OwnG.len hO_t)), rfl, (OwnG.fix hO_t)⟩, rfl⟩))))))))
     ·skip
      have ph92 := of_decide_eq_false h92
      refine W_f h92 rfl (bg_ (an_ (an_ (ar_ (hK_u19 _ _ (by repeat first | exact .refl | refine .cons rfl ?_) ⟨_, s0, r, i, p_r, c_r, L_r, (by exact hT0.symm.trans (Eq.symm (bif_f h92 rfl))), (by first | omega | (simp only [List.length_append, List.length_cons, List.length_nil, List.length_set, List.length_take, and_true, true_and, or_true, true_or, Nat.zero_add] <;> omega)), ⟨rfl, rfl, hO_r⟩, rfl⟩)))))
   ·skip
    rintro g M ⟨r, i, p_r, c_r, L_r, hCu19, hPu19, ⟨hg8, hg9, hO_r⟩, rfl⟩
    simp only [setG, hg8, hg9]
    clear hg8 hg9
    have hm_r := OwnG.max hO_r
    refine Rs fun K J => sE rfl (WL_r rfl (as_ (E := 38) (e := elI) (l := (ah_ r)) (fun v => v) en_16 rfl (fun w hw => cd_ _ r w (SLe.ap hw (SLfe.sle (OwnG.slfe hO_r (List.sublist_append_left _ _)))) (by first | omega | (simp only [List.length_cons, List.length_nil, and_true, true_and] <;> omega) | simp)) (fun p128 c129 L130 hF131 => ?_)))
    have hb132 := (ce_ r)
    refine sE rfl (nl J (W_ret (ret1 rfl (.inr rfl) rfl ?_)))
    have hE : ((ah_ r) : (List I)) = (ax_ p q) := by exact bif_f h6 (trs (Eq.symm (smS hCu19)) rfl)
    rw [← hE]
    exact ⟨_, rfl, ⟨L130, (List.sublist_append_left _ _), hF131⟩⟩
end Go.Proofs.YtjdfogfmeibkgaaGreat

