/- Walks: what these functions return. -/
import Derived.Test.YtapbefpeopaecaaGreatDoorYGE
import Derived.Test.YtapbefpeopaecaaGreatDoorYCa
import Derived.Test.YtapbefpeopaecaaGreatDoorYSk
import Derived.Test.YtapbefpeopaecaaGreatDoorYFn
import Derived.Test.YtapbefpeopaecaaGreatDoorYGa
namespace Go.Proofs.YtapbefpeopaecaaGreatDoor
open Go.Kn Go.Num
set_option linter.unusedVariables false
set_option linter.unusedSimpArgs false
set_option maxRecDepth 20000
set_option maxHeartbeats 8000000
theorem bL_ (a : W) (b : W) (c : W) (d : W) :
    Ret Tryz.prog 49 [.int .i64 a.1, .int .i64 b.1, .int .i64 c.1, .int .i64 d.1] (AV [pI (((aT_ a b c d).x).n), pI (((aT_ a b c d).x).d), pI (((aT_ a b c d).y).n), pI (((aT_ a b c d).y).d), pI (((aT_ a b c d).z).n), pI (((aT_ a b c d).z).d)]) := by
 refine av_ (N := 19) Tryz.func49 rfl rfl (by simp) (fun w0 => ?_)
 simp only [initF, Nat.reduceAdd]
 refine Rs fun K J => sN zp_41 rfl fun b1 hb1 => nl J (Rs fun K J => sE rfl (sE rfl (sQ (q_ret en_37 (dm_ a d) rfl) rfl (sE rfl (sE rfl (sQ (q_ret en_37 (dm_ b d) rfl) rfl (sE rfl (sE rfl (sQ (q_ret en_37 (dm_ c d) rfl) rfl (sQ (bH_ zp_41 ar_41 rfl (.cons [pI ((ay_ a d).n), pI ((ay_ a d).d)] [pI ((ay_ a d).n), pI ((ay_ a d).d), pI I0, pI I0, pI I0, pI I0] rfl rfl rfl rfl (.cons [pI ((ay_ b d).n), pI ((ay_ b d).d)] [pI ((ay_ a d).n), pI ((ay_ a d).d), pI ((ay_ b d).n), pI ((ay_ b d).d), pI I0, pI I0] rfl rfl rfl rfl (.cons [pI ((ay_ c d).n), pI ((ay_ c d).d)] [pI ((ay_ a d).n), pI ((ay_ a d).d), pI ((ay_ b d).n), pI ((ay_ b d).d), pI ((ay_ c d).n), pI ((ay_ c d).d)] rfl rfl rfl rfl (.nil _))))) rfl (sS [pI ((ay_ a d).n), pI ((ay_ a d).d), pI ((ay_ b d).n), pI ((ay_ b d).d), pI ((ay_ c d).n), pI ((ay_ c d).d)] ty_41 rfl rfl rfl rfl rfl (.head _) rfl hb1 (nl J (W_ret (ret1 rfl (.inr rfl) (resP rfl m0 ty_41 rfl) ?_))))))))))))))
 exact (by rfl)

theorem d8_ (va : Value) (a : (List Rt)) (vb : Value) (b : (List Rt)) (w : World) (ha : Slr w elRt va a) (hb : Slr w elRt vb b) :
    Calls Tryz.prog 20 [va, vb].toArray w (fun e w' => e = .returned (.bool (bR_ a b)) ∧ Ext w w') := by
 refine di_ (N := 26) Tryz.func20 rfl rfl (by simp) ?_
 obtain ⟨w0, rfl⟩ : ∃ w0, w0 = w := ⟨_, rfl⟩
 have Ha := ha.old
 have hm_a := ha.max
 have Hb := hb.old
 have hm_b := hb.max
 simp only [initF, Nat.reduceAdd]
 refine Rs fun K J => sE rfl (nl J (Sq fun K1 J1 => Rs fun K J => sE rfl (sQ (q_as (v' := .int .i64 (((a).length : Nat) : Int)) (e7_ (e := elRt) sl_43 rfl (SLe.sub Ha sn)) rfl) rfl (sE rfl (sQ (q_as (v' := .int .i64 (((b).length : Nat) : Int)) (e7_ (e := elRt) sl_43 rfl (SLe.sub Hb sn)) rfl) rfl (sE rfl (nl J ?_)))))))
 rcases bt ((((a).length : Nat) : Int) != (((b).length : Nat) : Int)) with h1 | h1
 ·skip
  have ph2 := neI_t h1
  refine W_t h1 rfl (Rs fun K J => sE rfl (nl J (W_ret (ai_ (ret1 rfl (.inr rfl) rfl ?_)))))
  exact (by exact congrArg (fun r : Bool => (.bool r : Value)) (show _ = (bR_ a b) from bif_t h1 rfl))
 ·skip
  have ph3 := neI_f h1
  refine W_f h1 rfl (ak_ (J1 _ _ (Sq fun K2 J2 => Rs fun K J => sE rfl (nl J ?_))))
  refine ia_ (fun S M h => J2 S M h) [4, 5, 11, 12, 13, 14, 15, 16, 17, 18, 19, 20, 21, 22, 23, 24, 25] (fun g M => ∃ (i : Nat), (ca_ a b ((a.length + 1)) 0) = .inl i ∧ (g 5 = .int .i64 ((i : Nat) : Int)) ∧ M = []) (fun K_u4 hK_u4 => ?_) ?_
  ·skip
   refine ar_ ?_
   refine bN_ [4, 5, 11, 12, 13, 14, 15, 16, 17, 18, 19, 20, 21, 22, 23, 24, 25] (fun g nn M => ∃ (i : Nat), (ca_ a b nn i) = (ca_ a b ((a.length + 1)) 0) ∧ a.length - i < nn ∧ (i ≤ a.length) ∧ (g 5 = .int .i64 ((i : Nat) : Int)) ∧ M = []) ((a.length + 1)) ?start ?round
   case start => exact ⟨_, s0, 0, rfl, (by omega), (by omega), rfl, rfl⟩
   case round =>
    rintro nn g M ⟨i, hT0, hq0, hinv0, hg5, rfl⟩
    obtain ⟨k0, rfl⟩ : ∃ m, nn = m + 1 := ⟨nn - 1, by omega⟩
    simp only [setG, hg5]
    clear hg5
    refine Sq fun K7 J7 => Rs fun K J => sE rfl (sE rfl (sQ (q_as (v' := .int .i64 (((a).length : Nat) : Int)) (e7_ (e := elRt) sl_43 rfl (SLe.sub Ha sn)) rfl) rfl (sE rfl (nl J ?_))))
    rcases bt (decide (((i : Nat) : Int) < (((a).length : Nat) : Int))) with h9 | h9
    ·skip
     have ph9 := of_decide_eq_true h9
     refine W_t h9 rfl (ak_ (J7 _ _ (Sq fun K8 J8 => ar_ (ds sn [0,4,8,12,16,20,24,28,32] [] mix (by kernel_rfl) (fun K J => pE rfl (pE rfl (pQ rfl (q_as (v' := .pointer (some (slb va (i * 36 + 0)))) (br_ (e := elRt) (l := a) (k := i) sl_43 rfl rfl (SLe.sub Ha sn) (by omega)) rfl) (pQ rfl (q_ldG (e := elRt) (l := a) (k := i) (o := 0) ty_39 rfl (SLe.sub Ha sn) (bo_ Rt0 (by omega)) rfl) (pE rfl (pE rfl (pQ rfl (q_as (v' := .pointer (some (slb vb (i * 36 + 0)))) (br_ (e := elRt) (l := b) (k := i) sl_43 rfl rfl (SLe.sub Hb sn) (by omega)) rfl) (pQ rfl (q_ldG (e := elRt) (l := b) (k := i) (o := 0) ty_39 rfl (SLe.sub Hb sn) (bo_ Rt0 (by omega)) rfl) ?_))))))))))))
     refine pQ rfl (gw_ (r := (decide (((a.getD i Rt0).n) = ((b.getD i Rt0).n)) && decide (((a.getD i Rt0).d) = ((b.getD i Rt0).d)))) rfl rfl (dU_ 8 (by decide) eg_39 lw_39 (bg_ lv_pI (d9_ lv_pI)) (bg_ lv_pI (d9_ lv_pI)) (b6_ rfl eq_pI (e4_ eq_pI)))) (fl J ?_)
     rcases bt (decide (((a.getD i Rt0).n) = ((b.getD i Rt0).n)) && decide (((a.getD i Rt0).d) = ((b.getD i Rt0).d))) with h10 | h10
     ·skip
      refine W_f (not_f h10) rfl (ak_ (J8 _ _ (Rk fun K J => sE rfl (sV (.int .i64 ((i + 1 : Nat) : Int)) rfl (congrArg (Value.int .i64) (wx (by omega) (by omega) (by omega))) (sE rfl (nl J (⟨(by repeat first | exact .refl | refine .cons rfl ?_), _, _, s0, (Nat.lt_succ_self _), i + 1, (by exact (hT0.symm.trans (Eq.symm (bif_t h9 (bif_t h10 rfl)))).symm), (Nat.lt_of_lt_of_le (by omega) (Nat.le_of_lt_succ hq0)), (by omega), rfl, rfl⟩)))))))
     ·skip
      refine W_t (not_t h10) rfl (Rs fun K J => sE rfl (nl J (W_ret (aB_ (ai_ (ai_ (aB_ (ai_ (ai_ (ret1 rfl (.inr rfl) rfl ?_))))))))))
      exact (by exact congrArg (fun r : Bool => (.bool r : Value)) (show _ = (bR_ a b) from bif_f h1 ((sm_q rfl (hT0.symm.trans (Eq.symm (bif_t h9 (bif_f h10 rfl))))))))
    ·skip
     have ph9 := of_decide_eq_false h9
     refine W_f h9 rfl (bB_ (ax_ (ax_ (aF_ (hK_u4 _ _ (by repeat first | exact .refl | refine .cons rfl ?_) ⟨_, s0, i, (by exact hT0.symm.trans (Eq.symm (bif_f h9 rfl))), rfl, rfl⟩)))))
  ·skip
   rintro g M ⟨i, hCu4, hg5, rfl⟩
   simp only [setG, hg5]
   clear hg5
   refine Rs fun K J => sE rfl (nl J (W_ret (ret1 rfl (.inr rfl) rfl ?_)))
   exact (by exact congrArg (fun r : Bool => (.bool r : Value)) (show _ = (bR_ a b) from bif_f h1 (trs (Eq.symm (smS hCu4)) rfl)))

theorem es_ (vl : Value) (l : (List W)) (w : World) (hl : Slr w elW vl l) (hpre : l.length ≤ 100) :
    Calls Tryz.prog 50 [vl].toArray w (fun e w' => ∃ v, e = .returned (v) ∧ Ext w w' ∧ Slfe w.heap.size w' elRt v (cA_ l)) := by
 refine gR_ (n := 20) (fun v => v) Tryz.func50 rfl rfl (by simp) ?_
 obtain ⟨w0, rfl⟩ : ∃ w0, w0 = w := ⟨_, rfl⟩
 have Hl := hl.old
 have hm_l := hl.max
 simp only [initF, Nat.reduceAdd]
 refine Rs fun K J => sE rfl (nl J (Rs fun K J => sE rfl (nl J (Sq fun K1 J1 => Rs fun K J => sE rfl (nl J ?_)))))
 refine ia_ (fun S M h => J1 S M h) [3, 4, 5, 6, 7, 8, 9, 10, 11, 12, 13, 14, 15, 16, 17, 18] (fun g M => ∃ (out : List Rt) (p_out : Option Addr) (c_out : Nat) (L_out : List Blk), (cz_ l l ([] : List Rt)) = out ∧ (g 3 = .slice p_out out.length c_out ∧ OwnG w0 39 elRt (.slice p_out out.length c_out) out L_out) ∧ M = (L_out ++ [])) (fun K_u1 hK_u1 => ?_) ?_
 ·skip
  refine ar_ ?_
  have hmx0 : (l).length ≤ 9223372036854775807 := hm_l
  refine bN_ [3, 4, 5, 6, 7, 8, 9, 10, 11, 12, 13, 14, 15, 16, 17, 18] (fun g nn M => ∃ (i0 : Nat) (l0 : List W) (out : List Rt) (p_out : Option Addr) (c_out : Nat) (L_out : List Blk), (cz_ l l0 out) = (cz_ l l ([] : List Rt)) ∧ (l).drop i0 = l0 ∧ l0.length = nn ∧ g 4 = .int .i64 ((i0 : Nat) : Int) ∧ (out.length = i0) ∧ (g 3 = .slice p_out out.length c_out ∧ OwnG w0 39 elRt (.slice p_out out.length c_out) out L_out) ∧ M = (L_out ++ [])) (l).length ?start ?round
  case start => exact ⟨_, s0, 0, l, ([] : List Rt), none, 0, [], rfl, rfl, rfl, rfl, rfl, ⟨rfl, OwnG.nil⟩, rfl⟩
  case round =>
   rintro nn g M ⟨i0, l0, out, p_out, c_out, L_out, hT0, hr0, rfl, hgi, hli0, ⟨hg3, hO_out⟩, rfl⟩
   simp only [setG, hgi, hg3]
   clear hgi hg3
   refine Sq fun K4 J4 => Rs fun K J => sE rfl (sE rfl (sQ (q_as (v' := .int .i64 (((l).length : Nat) : Int)) (e7_ (e := elW) sl_81 rfl (SLe.sub Hl sn)) rfl) rfl (sE rfl (nl J ?_))))
   rcases l0 with _ | ⟨x0, l0⟩
   ·skip
    have h10 := nG_ hr0
    refine W_f h10 rfl (bB_ (ax_ (ax_ (aF_ (hK_u1 _ _ (by repeat first | exact .refl | refine .cons rfl ?_) ⟨_, s0, out, p_out, c_out, L_out, (by exact hT0.symm.trans (Eq.symm (rfl))), ⟨rfl, hO_out⟩, rfl⟩)))))
   ·skip
    have h11 := k9_ hr0
    have g12 := h6_ hr0
    refine W_t h11 rfl (ak_ (J4 _ _ (Sq fun K5 J5 => ar_ (Rk fun K J => sE rfl (sE rfl (sE rfl (sQ (q_as (v' := .pointer (some (slb vl (i0 * 1 + 0)))) (br_ (e := elW) (l := l) (k := i0) sl_81 rfl rfl (SLe.sub Hl sn) g12.2.1) rfl) rfl (sQ (q2_ (u := .int .i64 x0.1) (e := elW) (l := l) (k := i0) (o := 0) ty_3 rfl (SLe.sub Hl sn) g12.1 rfl) rfl (sQ (q_ret en_25 (bx_ x0) rfl) rfl (WL_r rfl (bi_ [[pI ((ac_ x0).n), pI ((ac_ x0).d)]] [pI ((ac_ x0).n), pI ((ac_ x0).d)] us_43 z_39 sz_39 rfl (by decide) rfl rfl ⟨rfl, rfl, rfl, trivial⟩ rfl (fun b13 hb13 => WL_r rfl (dy_ (e := elRt) (l := out) (m := [(ac_ x0)]) 136 us_43 (by kernel_rfl) (by decide) rfl rfl hO_out (SLe.lit (e := elRt) (l := [(ac_ x0)]) m0 rfl (Nat.le_of_ble_eq_true rfl) rfl) (fq_s fq_l) (by show (out.length + 1) * 136 ≤ _; omega) (by decide) (fun p14 c15 L16 hO17 => sE rfl (nl J (J5 _ _ (Rk fun K J => sE rfl (sV (.int .i64 ((i0 + 1 : Nat) : Int)) rfl (congrArg (Value.int .i64) (nxt g12.2.1 hmx0)) ?_))))))))))))))))))
    refine sE rfl (nl J (⟨(by repeat first | exact .refl | refine .cons rfl ?_), _, _, (sA (sd (s0))), (Nat.lt_succ_self _), i0 + 1, l0, (out ++ [(ac_ x0)]), p14, c15, L16, (by exact (hT0.symm.trans (Eq.symm (rfl))).symm), g12.2.2, rfl, rfl, (by rw [List.length_append, hli0]; rfl), ⟨rfl, hO17⟩, rfl⟩))
 ·skip
  rintro g M ⟨out, p_out, c_out, L_out, hCu1, ⟨hg3, hO_out⟩, rfl⟩
  simp only [setG, hg3]
  clear hg3
  refine Rs fun K J => sE rfl (sE rfl (nl J (W_ret (ret1 rfl (.inr rfl) rfl ?_))))
  have hE : (out : (List Rt)) = (cA_ l) := by exact (by unfold cA_; exact trs (Eq.symm (apS hCu1)) rfl)
  rw [← hE]
  exact ⟨_, rfl, (OwnG.slfe hO_out (List.sublist_append_left _ _))⟩

theorem cO_  :
    Ret Tryz.prog 12 [] (.bool dn_) := by
 refine av_ (N := 139) Tryz.func12 rfl rfl (by simp) (fun w0 => ?_)
 simp only [initF, Nat.reduceAdd]
 obtain ⟨q0, hq0⟩ := nm ((af_ (⟨(wl 0), (wl 0), (wl 1)⟩ : (A3 W)) (wl 500)).1 : (List (A3 Rt)))
 obtain ⟨q1, hq1⟩ := nm ((af_ (⟨(wl 0), (wl 0), (wl 1)⟩ : (A3 W)) (wl 500)).2 : W)
 obtain ⟨q2, hq2⟩ := nm ((af_ (⟨(wl 0), (wl 0), (wl 0)⟩ : (A3 W)) (wl 500)).1 : (List (A3 Rt)))
 obtain ⟨q3, hq3⟩ := nm ((af_ (⟨(wl 0), (wl 0), (wl 0)⟩ : (A3 W)) (wl 500)).2 : W)
 obtain ⟨q4, hq4⟩ := nm ((af_ (⟨(wl 0), (wl 0), (wl 1)⟩ : (A3 W)) (wl 4001)).1 : (List (A3 Rt)))
 obtain ⟨q5, hq5⟩ := nm ((af_ (⟨(wl 0), (wl 0), (wl 1)⟩ : (A3 W)) (wl 4001)).2 : W)
 obtain ⟨q6, hq6⟩ := nm ((aT_ (wl 1) (wl 0) (wl 2) (wl 2)) : (A3 Rt))
 obtain ⟨q7, hq7⟩ := nm ((aT_ (wl (-1)) (wl 0) (wl 2) (wl 2)) : (A3 Rt))
 obtain ⟨q8, hq8⟩ := nm ((aT_ (wl 0) (wl 1) (wl 2) (wl 2)) : (A3 Rt))
 obtain ⟨q9, hq9⟩ := nm ((aT_ (wl 0) (wl (-1)) (wl 2) (wl 2)) : (A3 Rt))
 obtain ⟨q10, hq10⟩ := nm ((cp_ q0 [q6, q7, q8, q9]) : Bool)
 obtain ⟨q11, hq11⟩ := nm ((aT_ (wl 1) (wl 0) (wl 2) (wl 1)) : (A3 Rt))
 obtain ⟨q12, hq12⟩ := nm ((aT_ (wl 3) (wl 4) (wl 10) (wl 5)) : (A3 Rt))
 obtain ⟨q13, hq13⟩ := nm ((aT_ (wl 1) (wl 1) (wl 2) (wl 1)) : (A3 Rt))
 obtain ⟨q14, hq14⟩ := nm ((dd_ (⟨(wl 0), (wl 0), (wl 1)⟩ : (A3 W)) (wl 500) q11) : Bool)
 obtain ⟨q15, hq15⟩ := nm ((ey_ (⟨(wl 0), (wl 0), (wl 1)⟩ : (A3 W)) (wl 500) q11) : Bool)
 obtain ⟨q16, hq16⟩ := nm ((dd_ (⟨(wl 0), (wl 0), (wl 1)⟩ : (A3 W)) (wl 500) q12) : Bool)
 obtain ⟨q17, hq17⟩ := nm ((ey_ (⟨(wl 0), (wl 0), (wl 1)⟩ : (A3 W)) (wl 500) q12) : Bool)
 obtain ⟨q18, hq18⟩ := nm ((dd_ (⟨(wl 0), (wl 0), (wl 1)⟩ : (A3 W)) (wl 500) q13) : Bool)
 obtain ⟨q19, hq19⟩ := nm ((ey_ (⟨(wl 0), (wl 0), (wl 1)⟩ : (A3 W)) (wl 500) q13) : Bool)
 obtain ⟨q20, hq20⟩ := nm ((aT_ (wl 1) (wl 0) (wl 4) (wl 1)) : (A3 Rt))
 obtain ⟨q21, hq21⟩ := nm ((aM_ (⟨(wl 0), (wl 0), (wl 1)⟩ : (A3 W)) (wl 500) q20).1 : (List Rt))
 obtain ⟨q22, hq22⟩ := nm ((aM_ (⟨(wl 0), (wl 0), (wl 1)⟩ : (A3 W)) (wl 500) q20).2 : Bool)
 obtain ⟨q23, hq23⟩ := nm ((aT_ (wl 0) (wl (-1)) (wl 2) (wl 1)) : (A3 Rt))
 obtain ⟨q24, hq24⟩ := nm ((aM_ (⟨(wl 0), (wl 0), (wl 1)⟩ : (A3 W)) (wl 500) q23).1 : (List Rt))
 obtain ⟨q25, hq25⟩ := nm ((aM_ (⟨(wl 0), (wl 0), (wl 1)⟩ : (A3 W)) (wl 500) q23).2 : Bool)
 obtain ⟨q26, hq26⟩ := nm ((aT_ (wl 0) (wl 0) (wl (-1)) (wl 1)) : (A3 Rt))
 obtain ⟨q27, hq27⟩ := nm ((aM_ (⟨(wl 0), (wl 0), (wl 1)⟩ : (A3 W)) (wl 500) q26).1 : (List Rt))
 obtain ⟨q28, hq28⟩ := nm ((aM_ (⟨(wl 0), (wl 0), (wl 1)⟩ : (A3 W)) (wl 500) q26).2 : Bool)
 obtain ⟨q29, hq29⟩ := nm ((cA_ [(wl 3), (wl 1), (wl 0), (wl 0)]) : (List Rt))
 obtain ⟨q30, hq30⟩ := nm ((bR_ q21 q29) : Bool)
 obtain ⟨q31, hq31⟩ := nm ((cA_ [(wl 0), (wl 0), (wl 0), (wl 2)]) : (List Rt))
 obtain ⟨q32, hq32⟩ := nm ((bR_ q24 q31) : Bool)
 obtain ⟨q33, hq33⟩ := nm ((cS_ q0 q21) : (A3 Rt))
 refine Rs fun K J => sE rfl (nl J (Rs fun K J => sQ (bH_ zp_23 ar_23 rfl (.cons [ci .i64 0] [ci .i64 0, ci .i64 0, ci .i64 0] rfl rfl rfl rfl (.cons [ci .i64 0] [ci .i64 0, ci .i64 0, ci .i64 0] rfl rfl rfl rfl (.cons [ci .i64 1] [ci .i64 0, ci .i64 0, ci .i64 1] rfl rfl rfl rfl (.nil _))))) rfl (sN zp_23 rfl fun b1 hb1 => sS [ci .i64 0, ci .i64 0, ci .i64 1] ty_23 rfl rfl rfl rfl rfl (.head _) rfl hb1 (nl J (Rs fun K J => sQ (qL ty_23 rfl m0 rfl) rfl (WL_r rfl (fq_ (e := elVr) (l := q0) (fun v => .tuple #[v, .int .i64 q1.1]) en_10 rfl (fun w hw => (by rw [hq0, hq1]; exact eg_ (⟨(wl 0), (wl 0), (wl 1)⟩ : (A3 W)) (wl 500) w)) (fun p2 c3 L4 hF5 => ?_))))))))
 refine sE rfl (sE rfl (sE rfl (sE rfl (sE rfl (nl J (Rs fun K J => sQ (bH_ zp_23 ar_23 rfl (.nil _)) rfl (WL_r rfl (fq_ (e := elVr) (l := q2) (fun v => .tuple #[v, .int .i64 q3.1]) en_10 rfl (fun w hw => (by rw [hq2, hq3]; exact eg_ (⟨(wl 0), (wl 0), (wl 0)⟩ : (A3 W)) (wl 500) w)) (fun p6 c7 L8 hF9 => ?_)))))))))
 refine sE rfl (sE rfl (sE rfl (sE rfl (sE rfl (nl J (Rs fun K J => sQ (qL ty_23 rfl (List.mem_append_right _ (List.mem_append_right _ (List.mem_cons_self))) rfl) rfl (WL_r rfl (fq_ (e := elVr) (l := q4) (fun v => .tuple #[v, .int .i64 q5.1]) en_10 rfl (fun w hw => (by rw [hq4, hq5]; exact eg_ (⟨(wl 0), (wl 0), (wl 1)⟩ : (A3 W)) (wl 4001) w)) (fun p10 c11 L12 hF13 => ?_)))))))))
 refine sE rfl (sE rfl (sE rfl (sE rfl (sE rfl (nl J ?_)))))
 refine bQ_ [8, 35, 36, 37, 38, 39, 40, 41, 42, 43, 44, 45, 46, 47, 48, 49, 50, 51, 52, 53] (fun g M => (g 8 = .bool ((q1.1 == 0) && ((q3.1 == 1) && ((q5.1 == 1) && q10)))) ∧ M = (L12 ++ (L8 ++ (L4 ++ (⟨b1, 23, flat [ci .i64 0, ci .i64 0, ci .i64 1]⟩ :: []))))) (fun K1 J1 => ?_) ?_
 ·skip
  refine Rk fun K J => sE rfl (sE rfl ?_)
  rcases bt (q1.1 == 0) with h18 | h18
  ·skip
   refine sB h18 rfl (sE rfl (sE rfl (sE rfl ?_)))
   rcases bt (q3.1 == 1) with h19 | h19
   ·skip
    refine sB h19 rfl (sE rfl (sE rfl (sE rfl ?_)))
    rcases bt (q5.1 == 1) with h20 | h20
    ·skip
     refine sB h20 rfl (sE rfl (sC (AV [pI q6.x.n, pI q6.x.d, pI q6.y.n, pI q6.y.d, pI q6.z.n, pI q6.z.d]) en_49 (bL_ (wl 1) (wl 0) (wl 2) (wl 2)) rfl rfl (by rw [hq6]; first | done | rfl) ?_))
     refine sC (AV [pI q7.x.n, pI q7.x.d, pI q7.y.n, pI q7.y.d, pI q7.z.n, pI q7.z.d]) en_49 (bL_ (wl (-1)) (wl 0) (wl 2) (wl 2)) rfl rfl (by rw [hq7]; first | done | rfl) ?_
     refine sC (AV [pI q8.x.n, pI q8.x.d, pI q8.y.n, pI q8.y.d, pI q8.z.n, pI q8.z.d]) en_49 (bL_ (wl 0) (wl 1) (wl 2) (wl 2)) rfl rfl (by rw [hq8]; first | done | rfl) ?_
     refine sC (AV [pI q9.x.n, pI q9.x.d, pI q9.y.n, pI q9.y.d, pI q9.z.n, pI q9.z.d]) en_49 (bL_ (wl 0) (wl (-1)) (wl 2) (wl 2)) rfl rfl (by rw [hq9]; first | done | rfl) ?_
     refine WL_r rfl (bi_ [[pI q6.x.n, pI q6.x.d, pI q6.y.n, pI q6.y.d, pI q6.z.n, pI q6.z.d], [pI q7.x.n, pI q7.x.d, pI q7.y.n, pI q7.y.d, pI q7.z.n, pI q7.z.d], [pI q8.x.n, pI q8.x.d, pI q8.y.n, pI q8.y.d, pI q8.z.n, pI q8.z.d], [pI q9.x.n, pI q9.x.d, pI q9.y.n, pI q9.y.d, pI q9.z.n, pI q9.z.d]] [pI q6.x.n, pI q6.x.d, pI q6.y.n, pI q6.y.d, pI q6.z.n, pI q6.z.d, pI q7.x.n, pI q7.x.d, pI q7.y.n, pI q7.y.d, pI q7.z.n, pI q7.z.d, pI q8.x.n, pI q8.x.d, pI q8.y.n, pI q8.y.d, pI q8.z.n, pI q8.z.d, pI q9.x.n, pI q9.x.d, pI q9.y.n, pI q9.y.d, pI q9.z.n, pI q9.z.d] us_24 z_41 sz_41 rfl (by decide) rfl rfl ⟨rfl, rfl, rfl, rfl, rfl, rfl, rfl, rfl, rfl, rfl, rfl, rfl, trivial⟩ rfl (fun b21 hb21 => sQ (q_as (v' := .bool q10) (bU_ en_13 rfl (fun w hw => fg_ _ (q0) _ ([q6, q7, q8, q9]) w (SLe.ap hw (SLe.sub (SLfe.sle hF5) (sd (sR (sR (List.sublist_append_left _ _)))))) (SLe.ap hw (SLe.lit (e := elVr) (l := [q6, q7, q8, q9]) m0 rfl (Nat.le_of_ble_eq_true rfl) rfl)))) (by rw [hq10]; first | done | rfl)) rfl (sE rfl (sE rfl (nl J ?_)))))
     refine J1 _ _ (by repeat first | exact .refl | refine .cons rfl ?_) ⟨_, (sd (s0)), ?s8, rfl⟩
     case s8 => exact congrArg Value.bool (and_t h18 (and_t h19 (and_t h20 rfl)))
    ·skip
     refine sB h20 rfl (WL_n rfl (WL_n rfl (WL_n rfl (WL_n rfl (WL_n rfl (WL_n rfl (WL_n rfl (sE rfl (sE rfl (nl J ?_))))))))))
     refine J1 _ _ (by repeat first | exact .refl | refine .cons rfl ?_) ⟨_, s0, ?s8, rfl⟩
     case s8 => exact congrArg Value.bool (and_t h18 (and_t h19 (and_f h20)))
   ·skip
    refine sB h19 rfl (WL_n rfl (WL_n rfl (sE rfl (sE rfl (WL_n rfl (WL_n rfl (WL_n rfl (WL_n rfl (WL_n rfl (WL_n rfl (WL_n rfl (sE rfl (sE rfl (nl J ?_))))))))))))))
    refine J1 _ _ (by repeat first | exact .refl | refine .cons rfl ?_) ⟨_, s0, ?s8, rfl⟩
    case s8 => exact congrArg Value.bool (and_t h18 (and_f h19))
  ·skip
   refine sB h18 rfl (WL_n rfl (WL_n rfl (sE rfl (sE rfl (WL_n rfl (WL_n rfl (sE rfl (sE rfl (WL_n rfl (WL_n rfl (WL_n rfl (WL_n rfl (WL_n rfl (WL_n rfl (WL_n rfl (sE rfl (sE rfl (nl J ?_))))))))))))))))))
   refine J1 _ _ (by repeat first | exact .refl | refine .cons rfl ?_) ⟨_, s0, ?s8, rfl⟩
   case s8 => exact congrArg Value.bool (and_f h18)
 ·skip
  rintro g22 M ⟨hg8, rfl⟩
  simp only [setG, hg8]
  clear hg8
  refine Rs fun K J => sC (AV [pI q11.x.n, pI q11.x.d, pI q11.y.n, pI q11.y.d, pI q11.z.n, pI q11.z.d]) en_49 (bL_ (wl 1) (wl 0) (wl 2) (wl 1)) rfl rfl (by rw [hq11]; first | done | rfl) ?_
  refine sN zp_41 rfl fun b23 hb23 => sS [pI q11.x.n, pI q11.x.d, pI q11.y.n, pI q11.y.d, pI q11.z.n, pI q11.z.d] ty_41 rfl rfl rfl rfl rfl (.head _) rfl hb23 (nl J (Rs fun K J => sC (AV [pI q12.x.n, pI q12.x.d, pI q12.y.n, pI q12.y.d, pI q12.z.n, pI q12.z.d]) en_49 (bL_ (wl 3) (wl 4) (wl 10) (wl 5)) rfl rfl (by rw [hq12]; first | done | rfl) ?_))
  refine sN zp_41 rfl fun b24 hb24 => sS [pI q12.x.n, pI q12.x.d, pI q12.y.n, pI q12.y.d, pI q12.z.n, pI q12.z.d] ty_41 rfl rfl rfl rfl rfl (.head _) rfl hb24 (nl J (Rs fun K J => sC (AV [pI q13.x.n, pI q13.x.d, pI q13.y.n, pI q13.y.d, pI q13.z.n, pI q13.z.d]) en_49 (bL_ (wl 1) (wl 1) (wl 2) (wl 1)) rfl rfl (by rw [hq13]; first | done | rfl) ?_))
  refine sN zp_41 rfl fun b25 hb25 => sS [pI q13.x.n, pI q13.x.d, pI q13.y.n, pI q13.y.d, pI q13.z.n, pI q13.z.d] ty_41 rfl rfl rfl rfl rfl (.head _) rfl hb25 (nl J ?_)
  refine bQ_ [12, 57, 58, 59, 60, 61, 62, 63, 64, 65, 66, 67, 68, 69, 70, 71, 72, 73, 74, 75, 76, 77, 78, 79, 80, 81, 82, 83, 84, 85, 86, 87] (fun g M => (g 12 = .bool (q14 && (q15 && (q16 && (!q17 && (!q18 && (!q19))))))) ∧ M = (⟨b25, 41, flat [pI q13.x.n, pI q13.x.d, pI q13.y.n, pI q13.y.d, pI q13.z.n, pI q13.z.d]⟩ :: (⟨b24, 41, flat [pI q12.x.n, pI q12.x.d, pI q12.y.n, pI q12.y.d, pI q12.z.n, pI q12.z.d]⟩ :: (⟨b23, 41, flat [pI q11.x.n, pI q11.x.d, pI q11.y.n, pI q11.y.d, pI q11.z.n, pI q11.z.d]⟩ :: (L12 ++ (L8 ++ (L4 ++ (⟨b1, 23, flat [ci .i64 0, ci .i64 0, ci .i64 1]⟩ :: [])))))))) (fun K2 J2 => ?_) ?_
  ·skip
   refine Rk fun K J => sQ (qL ty_23 rfl (List.mem_cons_of_mem _ (List.mem_cons_of_mem _ (List.mem_cons_of_mem _ (List.mem_append_right _ (List.mem_append_right _ (List.mem_append_right _ (List.mem_cons_self))))))) rfl) rfl (sQ (qL ty_41 rfl m2 rfl) rfl (sC (.bool q14) en_17 (fb_ (⟨(wl 0), (wl 0), (wl 1)⟩ : (A3 W)) (wl 500) q11) rfl rfl (by rw [hq14]; first | done | rfl) ?_))
   rcases bt q14 with h31 | h31
   ·skip
    refine sB h31 rfl (sQ (qL ty_23 rfl (List.mem_cons_of_mem _ (List.mem_cons_of_mem _ (List.mem_cons_of_mem _ (List.mem_append_right _ (List.mem_append_right _ (List.mem_append_right _ (List.mem_cons_self))))))) rfl) rfl (sQ (qL ty_41 rfl m2 rfl) rfl (sC (.bool q15) en_19 (f8_ (⟨(wl 0), (wl 0), (wl 1)⟩ : (A3 W)) (wl 500) q11) rfl rfl (by rw [hq15]; first | done | rfl) ?_)))
    refine sE rfl ?_
    rcases bt q15 with h32 | h32
    ·skip
     refine sB h32 rfl (sQ (qL ty_23 rfl (List.mem_cons_of_mem _ (List.mem_cons_of_mem _ (List.mem_cons_of_mem _ (List.mem_append_right _ (List.mem_append_right _ (List.mem_append_right _ (List.mem_cons_self))))))) rfl) rfl (sQ (qL ty_41 rfl m1 rfl) rfl (sC (.bool q16) en_17 (fb_ (⟨(wl 0), (wl 0), (wl 1)⟩ : (A3 W)) (wl 500) q12) rfl rfl (by rw [hq16]; first | done | rfl) ?_)))
     refine sE rfl ?_
     rcases bt q16 with h33 | h33
     ·skip
      refine sB h33 rfl (sQ (qL ty_23 rfl (List.mem_cons_of_mem _ (List.mem_cons_of_mem _ (List.mem_cons_of_mem _ (List.mem_append_right _ (List.mem_append_right _ (List.mem_append_right _ (List.mem_cons_self))))))) rfl) rfl (sQ (qL ty_41 rfl m1 rfl) rfl (sC (.bool q17) en_19 (f8_ (⟨(wl 0), (wl 0), (wl 1)⟩ : (A3 W)) (wl 500) q12) rfl rfl (by rw [hq17]; first | done | rfl) ?_)))
      refine sE rfl (sE rfl ?_)
      rcases bt q17 with h34 | h34
      ·skip
       refine sB (not_f h34) rfl (WL_n rfl (WL_n rfl (WL_n rfl (WL_n rfl (sE rfl (sE rfl (WL_n rfl (WL_n rfl (WL_n rfl (WL_n rfl (sE rfl (sE rfl (nl J ?_)))))))))))))
       refine J2 _ _ (by repeat first | exact .refl | refine .cons rfl ?_) ⟨_, s0, ?s12, rfl⟩
       case s12 => exact congrArg Value.bool (and_t h31 (and_t h32 (and_t h33 (hu_ h34))))
      ·skip
       refine sB (not_t h34) rfl (sQ (qL ty_23 rfl (List.mem_cons_of_mem _ (List.mem_cons_of_mem _ (List.mem_cons_of_mem _ (List.mem_append_right _ (List.mem_append_right _ (List.mem_append_right _ (List.mem_cons_self))))))) rfl) rfl (sQ (qL ty_41 rfl m0 rfl) rfl (sC (.bool q18) en_17 (fb_ (⟨(wl 0), (wl 0), (wl 1)⟩ : (A3 W)) (wl 500) q13) rfl rfl (by rw [hq18]; first | done | rfl) ?_)))
       refine sE rfl (sE rfl ?_)
       rcases bt q18 with h35 | h35
       ·skip
        refine sB (not_f h35) rfl (WL_n rfl (WL_n rfl (WL_n rfl (WL_n rfl (sE rfl (sE rfl (nl J ?_)))))))
        refine J2 _ _ (by repeat first | exact .refl | refine .cons rfl ?_) ⟨_, s0, ?s12, rfl⟩
        case s12 => exact congrArg Value.bool (and_t h31 (and_t h32 (and_t h33 (fz_ h34 (hu_ h35)))))
       ·skip
        refine sB (not_t h35) rfl (sQ (qL ty_23 rfl (List.mem_cons_of_mem _ (List.mem_cons_of_mem _ (List.mem_cons_of_mem _ (List.mem_append_right _ (List.mem_append_right _ (List.mem_append_right _ (List.mem_cons_self))))))) rfl) rfl (sQ (qL ty_41 rfl m0 rfl) rfl (sC (.bool q19) en_19 (f8_ (⟨(wl 0), (wl 0), (wl 1)⟩ : (A3 W)) (wl 500) q13) rfl rfl (by rw [hq19]; first | done | rfl) ?_)))
        refine sE rfl (sE rfl (sE rfl (nl J ?_)))
        refine J2 _ _ (by repeat first | exact .refl | refine .cons rfl ?_) ⟨_, s0, ?s12, rfl⟩
        case s12 => exact congrArg Value.bool (and_t h31 (and_t h32 (and_t h33 (fz_ h34 (fz_ h35 rfl)))))
     ·skip
      refine sB h33 rfl (WL_n rfl (WL_n rfl (WL_n rfl (WL_n rfl (sE rfl (sE rfl (WL_n rfl (WL_n rfl (WL_n rfl (WL_n rfl (sE rfl (sE rfl (WL_n rfl (WL_n rfl (WL_n rfl (WL_n rfl (sE rfl (sE rfl (nl J ?_)))))))))))))))))))
      refine J2 _ _ (by repeat first | exact .refl | refine .cons rfl ?_) ⟨_, s0, ?s12, rfl⟩
      case s12 => exact congrArg Value.bool (and_t h31 (and_t h32 (and_f h33)))
    ·skip
     refine sB h32 rfl (WL_n rfl (WL_n rfl (WL_n rfl (sE rfl (sE rfl (WL_n rfl (WL_n rfl (WL_n rfl (WL_n rfl (sE rfl (sE rfl (WL_n rfl (WL_n rfl (WL_n rfl (WL_n rfl (sE rfl (sE rfl (WL_n rfl (WL_n rfl ?_)))))))))))))))))))
     refine WL_n rfl (WL_n rfl (sE rfl (sE rfl (nl J ?_))))
     refine J2 _ _ (by repeat first | exact .refl | refine .cons rfl ?_) ⟨_, s0, ?s12, rfl⟩
     case s12 => exact congrArg Value.bool (and_t h31 (and_f h32))
   ·skip
    refine sB h31 rfl (WL_n rfl (WL_n rfl (WL_n rfl (sE rfl (sE rfl (WL_n rfl (WL_n rfl (WL_n rfl (sE rfl (sE rfl (WL_n rfl (WL_n rfl (WL_n rfl (WL_n rfl (sE rfl (sE rfl (WL_n rfl (WL_n rfl (WL_n rfl ?_)))))))))))))))))))
    refine WL_n rfl (sE rfl (sE rfl (WL_n rfl (WL_n rfl (WL_n rfl (WL_n rfl (sE rfl (sE rfl (nl J ?_)))))))))
    refine J2 _ _ (by repeat first | exact .refl | refine .cons rfl ?_) ⟨_, s0, ?s12, rfl⟩
    case s12 => exact congrArg Value.bool (and_f h31)
  ·skip
   rintro g36 M ⟨hg12, rfl⟩
   simp only [setG, hg12]
   clear hg12
   refine ds sn [0,4,9,12,16,20,24,28] [] mix (by kernel_rfl) (fun K J => pQ rfl (qL ty_23 rfl (List.mem_cons_of_mem _ (List.mem_cons_of_mem _ (List.mem_cons_of_mem _ (List.mem_append_right _ (List.mem_append_right _ (List.mem_append_right _ (List.mem_cons_self))))))) rfl) (pC (AV [pI q20.x.n, pI q20.x.d, pI q20.y.n, pI q20.y.d, pI q20.z.n, pI q20.z.d]) en_49 (bL_ (wl 1) (wl 0) (wl 4) (wl 1)) rfl rfl (by rw [hq20]; first | done | rfl) ?_))
   refine PL_o rfl rfl (fq_ (e := elRt) (l := q21) (fun v => .tuple #[v, .bool q22]) en_16 rfl (fun w hw => (by rw [hq21, hq22]; exact eB_ (⟨(wl 0), (wl 0), (wl 1)⟩ : (A3 W)) (wl 500) q20 w)) (fun p37 c38 L39 hF40 => ⟨(fun _ => sR s0), sn, ?_⟩))
   refine pE rfl (pE rfl (pE rfl (pE rfl (pE rfl (fl J (ds sn [0,4,9,12,16,20,24,28] [] mix (by kernel_rfl) (fun K J => pQ rfl (qL ty_23 rfl (List.mem_append_right _ (List.mem_cons_of_mem _ (List.mem_cons_of_mem _ (List.mem_cons_of_mem _ (List.mem_append_right _ (List.mem_append_right _ (List.mem_append_right _ (List.mem_cons_self)))))))) rfl) (pC (AV [pI q23.x.n, pI q23.x.d, pI q23.y.n, pI q23.y.d, pI q23.z.n, pI q23.z.d]) en_49 (bL_ (wl 0) (wl (-1)) (wl 2) (wl 1)) rfl rfl (by rw [hq23]; first | done | rfl) ?_))))))))
   refine PL_o rfl rfl (fq_ (e := elRt) (l := q24) (fun v => .tuple #[v, .bool q25]) en_16 rfl (fun w hw => (by rw [hq24, hq25]; exact eB_ (⟨(wl 0), (wl 0), (wl 1)⟩ : (A3 W)) (wl 500) q23 w)) (fun p41 c42 L43 hF44 => ⟨(fun _ => sR s0), sn, ?_⟩))
   refine pE rfl (pE rfl (pE rfl (pE rfl (pE rfl (fl J (ds sn [0,4,9,12,16,20,24,28] [] mix (by kernel_rfl) (fun K J => pQ rfl (qL ty_23 rfl (List.mem_append_right _ (List.mem_append_right _ (List.mem_cons_of_mem _ (List.mem_cons_of_mem _ (List.mem_cons_of_mem _ (List.mem_append_right _ (List.mem_append_right _ (List.mem_append_right _ (List.mem_cons_self))))))))) rfl) (pC (AV [pI q26.x.n, pI q26.x.d, pI q26.y.n, pI q26.y.d, pI q26.z.n, pI q26.z.d]) en_49 (bL_ (wl 0) (wl 0) (wl (-1)) (wl 1)) rfl rfl (by rw [hq26]; first | done | rfl) ?_))))))))
   refine PL_o rfl rfl (fq_ (e := elRt) (l := q27) (fun v => .tuple #[v, .bool q28]) en_16 rfl (fun w hw => (by rw [hq27, hq28]; exact eB_ (⟨(wl 0), (wl 0), (wl 1)⟩ : (A3 W)) (wl 500) q26 w)) (fun p45 c46 L47 hF48 => ⟨(fun _ => sR s0), sn, ?_⟩))
   refine pE rfl (pE rfl (pE rfl (pE rfl (pE rfl (fl J ?_)))))
   refine bQ_ [0, 106, 107, 108, 109, 110, 111, 112, 113, 114, 115, 116, 117, 118, 119, 120, 121, 122, 123, 124, 125, 126, 127, 128, 129, 130, 131, 132, 133, 134, 135, 136, 137, 138] (fun g M => (g 0 = .bool (((q1.1 == 0) && ((q3.1 == 1) && ((q5.1 == 1) && q10))) && ((q14 && (q15 && (q16 && (!q17 && (!q18 && (!q19)))))) && (q22 && (q25 && (!q28 && (q30 && (q32 && (decide (q33.x.n = q20.x.n) && (decide (q33.x.d = q20.x.d) && (decide (q33.y.n = q20.y.n) && (decide (q33.y.d = q20.y.d) && (decide (q33.z.n = q20.z.n) && decide (q33.z.d = q20.z.d)))))))))))))) ∧ M = (L47 ++ (L43 ++ (L39 ++ (⟨b25, 41, flat [pI q13.x.n, pI q13.x.d, pI q13.y.n, pI q13.y.d, pI q13.z.n, pI q13.z.d]⟩ :: (⟨b24, 41, flat [pI q12.x.n, pI q12.x.d, pI q12.y.n, pI q12.y.d, pI q12.z.n, pI q12.z.d]⟩ :: (⟨b23, 41, flat [pI q11.x.n, pI q11.x.d, pI q11.y.n, pI q11.y.d, pI q11.z.n, pI q11.z.d]⟩ :: (L12 ++ (L8 ++ (L4 ++ (⟨b1, 23, flat [ci .i64 0, ci .i64 0, ci .i64 1]⟩ :: []))))))))))) (fun K3 J3 => ?_) ?_
   ·skip
    refine Rk fun K J => sE rfl ?_
    rcases bt ((q1.1 == 0) && ((q3.1 == 1) && ((q5.1 == 1) && q10))) with h66 | h66
    ·skip
     refine sB h66 rfl (sE rfl (sE rfl ?_))
     rcases bt (q14 && (q15 && (q16 && (!q17 && (!q18 && (!q19)))))) with h67 | h67
     ·skip
      refine sB h67 rfl (sE rfl (sE rfl ?_))
      rcases bt q22 with h68 | h68
      ·skip
       refine sB h68 rfl (sE rfl (sE rfl ?_))
       rcases bt q25 with h69 | h69
       ·skip
        refine sB h69 rfl (sE rfl (sE rfl (sE rfl ?_)))
        rcases bt q28 with h70 | h70
        ·skip
         refine sB (not_f h70) rfl (WL_n rfl (WL_n rfl (WL_n rfl (WL_n rfl (sE rfl (sE rfl (WL_n rfl (WL_n rfl (WL_n rfl (WL_n rfl (sE rfl (sE rfl (WL_n rfl (WL_n rfl (WL_n rfl (WL_n rfl (WL_n rfl (sE rfl (sE rfl ?_)))))))))))))))))))
         refine nl J ?_
         refine J3 _ _ (by repeat first | exact .refl | refine .cons rfl ?_) ⟨_, s0, ?s0, rfl⟩
         case s0 => exact congrArg Value.bool (and_t h66 (and_t h67 (and_t h68 (and_t h69 (hu_ h70)))))
        ·skip
         refine sB (not_t h70) rfl (sE rfl (WL_r rfl (bi_ [[ci .i64 3], [ci .i64 1], [ci .i64 0], [ci .i64 0]] [ci .i64 3, ci .i64 1, ci .i64 0, ci .i64 0] us_81 z_3 sz_3 rfl (by decide) rfl rfl ⟨rfl, rfl, rfl, rfl, rfl, rfl, rfl, rfl, rfl, rfl, rfl, rfl, trivial⟩ rfl (fun b71 hb71 => WL_r rfl (fq_ (e := elRt) (l := q29) (fun v => v) en_50 rfl (fun w hw => (by rw [hq29]; exact es_ _ [(wl 3), (wl 1), (wl 0), (wl 0)] w (SLe.ap hw (SLe.lit (e := elW) (l := [(wl 3), (wl 1), (wl 0), (wl 0)]) m0 rfl (Nat.le_of_ble_eq_true rfl) rfl)) (Nat.le_of_ble_eq_true rfl))) (fun p72 c73 L74 hF75 => ?_))))))
         refine sQ (q_as (v' := .bool q30) (bU_ en_20 rfl (fun w hw => d8_ _ (q21) _ (q29) w (SLe.ap hw (SLe.sub (SLfe.sle hF40) (sR (sd (sR (sR (List.sublist_append_left _ _))))))) (SLe.ap hw (SLe.sub (SLfe.sle hF75) (List.sublist_append_left _ _))))) (by rw [hq30]; first | done | rfl)) rfl (sE rfl ?_)
         rcases bt q30 with h76 | h76
         ·skip
          refine sB h76 rfl (sE rfl (WL_r rfl (bi_ [[ci .i64 0], [ci .i64 0], [ci .i64 0], [ci .i64 2]] [ci .i64 0, ci .i64 0, ci .i64 0, ci .i64 2] us_81 z_3 sz_3 rfl (by decide) rfl rfl ⟨rfl, rfl, rfl, rfl, rfl, rfl, rfl, rfl, rfl, rfl, rfl, rfl, trivial⟩ rfl (fun b77 hb77 => WL_r rfl (fq_ (e := elRt) (l := q31) (fun v => v) en_50 rfl (fun w hw => (by rw [hq31]; exact es_ _ [(wl 0), (wl 0), (wl 0), (wl 2)] w (SLe.ap hw (SLe.lit (e := elW) (l := [(wl 0), (wl 0), (wl 0), (wl 2)]) m0 rfl (Nat.le_of_ble_eq_true rfl) rfl)) (Nat.le_of_ble_eq_true rfl))) (fun p78 c79 L80 hF81 => ?_))))))
          refine sQ (q_as (v' := .bool q32) (bU_ en_20 rfl (fun w hw => d8_ _ (q24) _ (q31) w (SLe.ap hw (SLe.sub (SLfe.sle hF44) (sR (sd (sR (sd (sR (List.sublist_append_left _ _)))))))) (SLe.ap hw (SLe.sub (SLfe.sle hF81) (List.sublist_append_left _ _))))) (by rw [hq32]; first | done | rfl)) rfl (sE rfl ?_)
          rcases bt q32 with h82 | h82
          ·skip
           refine sB h82 rfl (sE rfl (sE rfl (sQ (q_as (v' := AV [pI q33.x.n, pI q33.x.d, pI q33.y.n, pI q33.y.d, pI q33.z.n, pI q33.z.d]) (bU_ en_21 rfl (fun w hw => hE_ _ (q0) _ (q21) w (SLe.ap hw (SLe.sub (SLfe.sle hF5) (sR (sd (sR (sd (sR (sR (sR (sd (sd (sd (sR (sR (List.sublist_append_left _ _))))))))))))))) (SLe.ap hw (SLe.sub (SLfe.sle hF40) (sR (sd (sR (sd (sR (sR (List.sublist_append_left _ _))))))))))) (by rw [hq33]; first | done | rfl)) rfl (sC (AV [pI q20.x.n, pI q20.x.d, pI q20.y.n, pI q20.y.d, pI q20.z.n, pI q20.z.d]) en_49 (bL_ (wl 1) (wl 0) (wl 4) (wl 1)) rfl rfl (by rw [hq20]; first | done | rfl) ?_))))
           refine sQ (h0_ (r := (decide (q33.x.n = q20.x.n) && (decide (q33.x.d = q20.x.d) && (decide (q33.y.n = q20.y.n) && (decide (q33.y.d = q20.y.d) && (decide (q33.z.n = q20.z.n) && decide (q33.z.d = q20.z.d))))))) rfl rfl (dU_ 8 (by decide) eg_41 lw_41 (bg_ lv_pI (bg_ lv_pI (bg_ lv_pI (bg_ lv_pI (bg_ lv_pI (d9_ lv_pI)))))) (bg_ lv_pI (bg_ lv_pI (bg_ lv_pI (bg_ lv_pI (bg_ lv_pI (d9_ lv_pI)))))) (b6_ rfl eq_pI (b6_ rfl eq_pI (b6_ rfl eq_pI (b6_ rfl eq_pI (b6_ rfl eq_pI (e4_ eq_pI)))))))) rfl (sE rfl (sE rfl (nl J ?_)))
           refine J3 _ _ (by repeat first | exact .refl | refine .cons rfl ?_) ⟨_, (sR (sd (sR (sd (s0))))), ?s0, rfl⟩
           case s0 => exact congrArg Value.bool (and_t h66 (and_t h67 (and_t h68 (and_t h69 (fz_ h70 (and_t h76 (and_t h82 rfl)))))))
          ·skip
           refine sB h82 rfl (WL_n rfl (WL_n rfl (WL_n rfl (WL_n rfl (WL_n rfl (sE rfl (sE rfl (nl J ?_))))))))
           refine J3 _ _ (by repeat first | exact .refl | refine .cons rfl ?_) ⟨_, (sR (sd (sR (sd (s0))))), ?s0, rfl⟩
           case s0 => exact congrArg Value.bool (and_t h66 (and_t h67 (and_t h68 (and_t h69 (fz_ h70 (and_t h76 (and_f h82)))))))
         ·skip
          refine sB h76 rfl (WL_n rfl (WL_n rfl (WL_n rfl (WL_n rfl (sE rfl (sE rfl (WL_n rfl (WL_n rfl (WL_n rfl (WL_n rfl (WL_n rfl (sE rfl (sE rfl (nl J ?_))))))))))))))
          refine J3 _ _ (by repeat first | exact .refl | refine .cons rfl ?_) ⟨_, (sR (sd (s0))), ?s0, rfl⟩
          case s0 => exact congrArg Value.bool (and_t h66 (and_t h67 (and_t h68 (and_t h69 (fz_ h70 (and_f h76))))))
       ·skip
        refine sB h69 rfl (WL_n rfl (WL_n rfl (sE rfl (sE rfl (WL_n rfl (WL_n rfl (WL_n rfl (WL_n rfl (sE rfl (sE rfl (WL_n rfl (WL_n rfl (WL_n rfl (WL_n rfl (sE rfl (sE rfl (WL_n rfl (WL_n rfl (WL_n rfl ?_)))))))))))))))))))
        refine WL_n rfl (WL_n rfl (sE rfl (sE rfl (nl J ?_))))
        refine J3 _ _ (by repeat first | exact .refl | refine .cons rfl ?_) ⟨_, s0, ?s0, rfl⟩
        case s0 => exact congrArg Value.bool (and_t h66 (and_t h67 (and_t h68 (and_f h69))))
      ·skip
       refine sB h68 rfl (WL_n rfl (sE rfl (sE rfl (WL_n rfl (WL_n rfl (sE rfl (sE rfl (WL_n rfl (WL_n rfl (WL_n rfl (WL_n rfl (sE rfl (sE rfl (WL_n rfl (WL_n rfl (WL_n rfl (WL_n rfl (sE rfl (sE rfl ?_)))))))))))))))))))
       refine WL_n rfl (WL_n rfl (WL_n rfl (WL_n rfl (WL_n rfl (sE rfl (sE rfl (nl J ?_)))))))
       refine J3 _ _ (by repeat first | exact .refl | refine .cons rfl ?_) ⟨_, s0, ?s0, rfl⟩
       case s0 => exact congrArg Value.bool (and_t h66 (and_t h67 (and_f h68)))
     ·skip
      refine sB h67 rfl (WL_n rfl (sE rfl (sE rfl (WL_n rfl (sE rfl (sE rfl (WL_n rfl (WL_n rfl (sE rfl (sE rfl (WL_n rfl (WL_n rfl (WL_n rfl (WL_n rfl (sE rfl (sE rfl (WL_n rfl (WL_n rfl (WL_n rfl ?_)))))))))))))))))))
      refine WL_n rfl (sE rfl (sE rfl (WL_n rfl (WL_n rfl (WL_n rfl (WL_n rfl (WL_n rfl (sE rfl (sE rfl (nl J ?_))))))))))
      refine J3 _ _ (by repeat first | exact .refl | refine .cons rfl ?_) ⟨_, s0, ?s0, rfl⟩
      case s0 => exact congrArg Value.bool (and_t h66 (and_f h67))
    ·skip
     refine sB h66 rfl (WL_n rfl (sE rfl (sE rfl (WL_n rfl (sE rfl (sE rfl (WL_n rfl (sE rfl (sE rfl (WL_n rfl (WL_n rfl (sE rfl (sE rfl (WL_n rfl (WL_n rfl (WL_n rfl (WL_n rfl (sE rfl (sE rfl ?_)))))))))))))))))))
     refine WL_n rfl (WL_n rfl (WL_n rfl (WL_n rfl (sE rfl (sE rfl (WL_n rfl (WL_n rfl (WL_n rfl (WL_n rfl (WL_n rfl (sE rfl (sE rfl (nl J ?_)))))))))))))
     refine J3 _ _ (by repeat first | exact .refl | refine .cons rfl ?_) ⟨_, s0, ?s0, rfl⟩
     case s0 => exact congrArg Value.bool (and_f h66)
   ·skip
    rintro g83 M ⟨hg0, rfl⟩
    simp only [setG, hg0]
    clear hg0
    refine W_ret (ret1 rfl (.inr rfl) rfl ?_)
    exact (by subst hq33; subst hq32; subst hq31; subst hq30; subst hq29; subst hq28; subst hq27; subst hq26; subst hq25; subst hq24; subst hq23; subst hq22; subst hq21; subst hq20; subst hq19; subst hq18; subst hq17; subst hq16; subst hq15; subst hq14; subst hq13; subst hq12; subst hq11; subst hq10; subst hq9; subst hq8; subst hq7; subst hq6; subst hq5; subst hq4; subst hq3; subst hq2; subst hq1; subst hq0; rfl)
end Go.Proofs.YtapbefpeopaecaaGreatDoor

