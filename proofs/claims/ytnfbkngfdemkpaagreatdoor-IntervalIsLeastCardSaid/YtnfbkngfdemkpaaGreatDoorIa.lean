/- Walks: what these functions return. -/
import Derived.Test.YtnfbkngfdemkpaaGreatDoorFa0
import Derived.Test.YtnfbkngfdemkpaaGreatDoorFi
import Derived.Test.YtnfbkngfdemkpaaGreatDoorGa
import Derived.Test.YtnfbkngfdemkpaaGreatDoorGc
import Derived.Test.YtnfbkngfdemkpaaGreatDoorGf
namespace Go.Proofs.YtnfbkngfdemkpaaGreatDoor
open Go.Kn Go.Num
set_option linter.unusedVariables false
set_option linter.unusedSimpArgs false
set_option maxRecDepth 20000
set_option maxHeartbeats 8000000
theorem interval_Bad_ret  :
    Ret Tryz.prog 63 [] (AV [pI F_interval_Bad.lo.n, pI F_interval_Bad.lo.d, pI F_interval_Bad.hi.n, pI F_interval_Bad.hi.d]) := by
 refine ret_of_W (N := 4) Tryz.func63 rfl rfl (by simp) (fun w0 => ?_)
 simp only [initF, Nat.reduceAdd]
 obtain ⟨q0, hq0⟩ := nm (F_ratio_Bad : Rt)
 refine Rs fun K J => sN zp_31 rfl fun b1 hb1 => nl J (Rs fun K J => sC (AV [pI q0.n, pI q0.d]) en_76 ratio_Bad_ret rfl rfl (by rw [hq0]; first | done | rfl) (sC (AV [pI q0.n, pI q0.d]) en_76 ratio_Bad_ret rfl rfl (by rw [hq0]; first | done | rfl) (sQ (q_buildsp zp_31 pl_31 rfl (.cons [pI q0.n, pI q0.d] [pI q0.n, pI q0.d, pI I0, pI I0] rfl rfl rfl rfl (.cons [pI q0.n, pI q0.d] [pI q0.n, pI q0.d, pI q0.n, pI q0.d] rfl rfl rfl rfl (.nil _)))) rfl (sS [pI q0.n, pI q0.d, pI q0.n, pI q0.d] ty_31 rfl rfl rfl rfl rfl (.head _) rfl hb1 (nl J (W_ret (ret1 rfl (.inr rfl) (resP rfl m0 ty_31 rfl) ?_)))))))
 exact (by subst hq0; rfl)

theorem interval_IsBad_ret (a : Iv) :
    Ret Tryz.prog 15 [AV [pI a.lo.n, pI a.lo.d, pI a.hi.n, pI a.hi.d]] (.bool (F_interval_IsBad a)) := by
 refine ret_of_W (N := 26) Tryz.func15 rfl rfl (by simp) (fun w0 => ?_)
 simp only [initF, Nat.reduceAdd]
 refine Rs fun K J => WL_r rfl (r_boxp rfl rfl (fun b1 hb1 => sE rfl (nl J ?_)))
 refine W_join [2, 3, 4, 5, 6, 7, 8, 9, 10, 11, 12, 13, 14, 15, 16, 17, 18, 19, 20, 21, 22, 23, 24, 25] (fun g M => (g 2 = .bool ((decide (a.lo.n = F_interval_Bad.lo.n) && (decide (a.lo.d = F_interval_Bad.lo.d) && (decide (a.hi.n = F_interval_Bad.hi.n) && decide (a.hi.d = F_interval_Bad.hi.d)))) || (!(F_ratio_Good a.lo) || (!(F_ratio_Good a.hi) || decide (0 < (F_ratio_Cmp a.lo a.hi).1))))) ∧ M = [⟨b1, 31, flat [pI a.lo.n, pI a.lo.d, pI a.hi.n, pI a.hi.d]⟩]) (fun K1 J1 => ?_) ?_
 ·skip
  refine dr (sk (s0)) [0,4,8,12,16,20,24,28,32,36,40,44,48,52,56,60,64,68,72,76,80,84,88,92] [] mix (by kernel_rfl) (fun K J => pQ rfl (qL ty_31 rfl m0 rfl) (pQ rfl (q_ret en_63 interval_Bad_ret  rfl) ?_))
  refine pQ rfl (q_eqla (r := (decide (a.lo.n = F_interval_Bad.lo.n) && (decide (a.lo.d = F_interval_Bad.lo.d) && (decide (a.hi.n = F_interval_Bad.hi.n) && decide (a.hi.d = F_interval_Bad.hi.d))))) rfl rfl (eqOk_of 8 (by decide) eg_31 lw_31 (lv_cons lv_pI (lv_cons lv_pI (lv_cons lv_pI (lv_one lv_pI)))) (lv_cons lv_pI (lv_cons lv_pI (lv_cons lv_pI (lv_one lv_pI)))) (eqP_cons rfl eq_pI (eqP_cons rfl eq_pI (eqP_cons rfl eq_pI (eqP_one eq_pI)))))) ?_
  rcases bt (decide (a.lo.n = F_interval_Bad.lo.n) && (decide (a.lo.d = F_interval_Bad.lo.d) && (decide (a.hi.n = F_interval_Bad.hi.n) && decide (a.hi.d = F_interval_Bad.hi.d)))) with h5 | h5
  ·skip
   refine pB h5 rfl (PL_n rfl rfl (PL_n rfl rfl (PL_n rfl rfl (PL_n rfl rfl (pE rfl (pE rfl (PL_n rfl rfl (PL_n rfl rfl (PL_n rfl rfl (PL_n rfl rfl (pE rfl (pE rfl (PL_n rfl rfl (PL_n rfl rfl (PL_n rfl rfl (PL_n rfl rfl (PL_n rfl rfl (PL_n rfl rfl (pE rfl ?_)))))))))))))))))))
   refine pE rfl (fl J ?_)
   refine J1 _ _ (by repeat first | exact .refl | refine .cons rfl ?_) ⟨_, s0, ?s2, rfl⟩
   case s2 => exact congrArg Value.bool (or_t h5)
  ·skip
   refine pB h5 rfl (pQ rfl (qF fd_31_0 rfl rfl) (pQ rfl (qL ty_28 rfl m0 rfl) (pQ rfl (q_ret en_65 (ratio_Good_ret a.lo) rfl) (pE rfl (pE rfl ?_)))))
   rcases bt (F_ratio_Good a.lo) with h6 | h6
   ·skip
    refine pB (not_f h6) rfl (pQ rfl (qF fd_31_1 rfl rfl) (pQ rfl (qL ty_28 rfl m0 rfl) (pQ rfl (q_ret en_65 (ratio_Good_ret a.hi) rfl) (pE rfl (pE rfl ?_)))))
    rcases bt (F_ratio_Good a.hi) with h7 | h7
    ·skip
     refine pB (not_f h7) rfl (pQ rfl (qF fd_31_0 rfl rfl) (pQ rfl (qL ty_28 rfl m0 rfl) (pQ rfl (qF fd_31_1 rfl rfl) (pQ rfl (qL ty_28 rfl m0 rfl) (pQ rfl (q_ret en_60 (ratio_Cmp_ret a.lo a.hi) rfl) (pE rfl (pE rfl (pE rfl (fl J ?_)))))))))
     refine J1 _ _ (by repeat first | exact .refl | refine .cons rfl ?_) ⟨_, s0, ?s2, rfl⟩
     case s2 => exact congrArg Value.bool (or_f h5 (nor_t h6 (nor_t h7 rfl)))
    ·skip
     refine pB (not_t h7) rfl (PL_n rfl rfl (PL_n rfl rfl (PL_n rfl rfl (PL_n rfl rfl (PL_n rfl rfl (PL_n rfl rfl (pE rfl (pE rfl (fl J ?_)))))))))
     refine J1 _ _ (by repeat first | exact .refl | refine .cons rfl ?_) ⟨_, s0, ?s2, rfl⟩
     case s2 => exact congrArg Value.bool (or_f h5 (nor_t h6 (nor_f h7)))
   ·skip
    refine pB (not_t h6) rfl (PL_n rfl rfl (PL_n rfl rfl (PL_n rfl rfl (PL_n rfl rfl (pE rfl (pE rfl (PL_n rfl rfl (PL_n rfl rfl (PL_n rfl rfl (PL_n rfl rfl (PL_n rfl rfl (PL_n rfl rfl (pE rfl (pE rfl (fl J ?_)))))))))))))))
    refine J1 _ _ (by repeat first | exact .refl | refine .cons rfl ?_) ⟨_, s0, ?s2, rfl⟩
    case s2 => exact congrArg Value.bool (or_f h5 (nor_f h6))
 ·skip
  rintro g8 M ⟨hg2, rfl⟩
  simp only [setG, hg2]
  clear hg2
  refine W_ret (ret1 rfl (.inr rfl) rfl ?_)
  exact (by rfl)

theorem interval_Make_ret (a : Rt) (b : Rt) :
    Ret Tryz.prog 11 [AV [pI a.n, pI a.d], AV [pI b.n, pI b.d]] (AV [pI (((F_interval_Make a b).lo).n), pI (((F_interval_Make a b).lo).d), pI (((F_interval_Make a b).hi).n), pI (((F_interval_Make a b).hi).d)]) := by
 refine ret_of_W (N := 13) Tryz.func11 rfl rfl (by simp) (fun w0 => ?_)
 simp only [initF, Nat.reduceAdd]
 refine Rs fun K J => WL_r rfl (r_boxp rfl rfl (fun b1 hb1 => WL_r rfl (r_boxp rfl rfl (fun b2 hb2 => sN zp_31 rfl fun b3 hb3 => nl J (Rs fun K J => sQ (qL ty_28 rfl m2 rfl) rfl (sQ (qL ty_28 rfl m1 rfl) rfl (sQ (q_buildsp zp_31 pl_31 rfl (.cons [pI a.n, pI a.d] [pI a.n, pI a.d, pI I0, pI I0] rfl rfl rfl rfl (.cons [pI b.n, pI b.d] [pI a.n, pI a.d, pI b.n, pI b.d] rfl rfl rfl rfl (.nil _)))) rfl (sN zp_31 rfl fun b4 hb4 => sS [pI a.n, pI a.d, pI b.n, pI b.d] ty_31 rfl rfl rfl rfl rfl (.head _) rfl hb4 (nl J (Sq fun K1 J1 => Rs fun K J => sQ (qL ty_31 rfl m0 rfl) rfl (sQ (q_ret en_15 (interval_IsBad_ret (⟨a, b⟩ : Iv)) rfl) rfl (nl J ?_))))))))))))
 rcases bt (F_interval_IsBad (⟨a, b⟩ : Iv)) with h5 | h5
 ·skip
  refine W_t h5 rfl (Rs fun K J => sQ (q_ret en_63 interval_Bad_ret  rfl) rfl (sS [pI F_interval_Bad.lo.n, pI F_interval_Bad.lo.d, pI F_interval_Bad.hi.n, pI F_interval_Bad.hi.d] ty_31 rfl rfl rfl rfl rfl (.tail _ (.head _)) rfl hb3 (nl J (W_ret (thenK_r (ret1 rfl (.inr rfl) (resP rfl m1 ty_31 rfl) ?_))))))
  exact (by exact congrArg (fun r : Iv => (AV [pI r.lo.n, pI r.lo.d, pI r.hi.n, pI r.hi.d] : Value)) (show _ = (F_interval_Make a b) from bif_t h5 rfl))
 ·skip
  refine W_f h5 rfl (W_skip (J1 _ _ (Rs fun K J => sQ (qL ty_31 rfl m0 rfl) rfl (sS [pI a.n, pI a.d, pI b.n, pI b.d] ty_31 rfl rfl rfl rfl rfl (.tail _ (.head _)) rfl hb3 (nl J (W_ret (ret1 rfl (.inr rfl) (resP rfl m1 ty_31 rfl) ?_)))))))
  exact (by exact congrArg (fun r : Iv => (AV [pI r.lo.n, pI r.lo.d, pI r.hi.n, pI r.hi.d] : Value)) (show _ = (F_interval_Make a b) from bif_f h5 rfl))

theorem interval_Of_ret (a : Rt) :
    Ret Tryz.prog 13 [AV [pI a.n, pI a.d]] (AV [pI (((F_interval_Of a).lo).n), pI (((F_interval_Of a).lo).d), pI (((F_interval_Of a).hi).n), pI (((F_interval_Of a).hi).d)]) := by
 refine ret_of_W (N := 6) Tryz.func13 rfl rfl (by simp) (fun w0 => ?_)
 simp only [initF, Nat.reduceAdd]
 refine Rs fun K J => WL_r rfl (r_boxp rfl rfl (fun b1 hb1 => sN zp_31 rfl fun b2 hb2 => nl J (Rs fun K J => sQ (qL ty_28 rfl m1 rfl) rfl (sQ (qL ty_28 rfl m1 rfl) rfl ?_))))
 obtain ⟨r3, hr3⟩ := nm ((F_interval_Make a a) : Iv)
 refine sC (AV [pI r3.lo.n, pI r3.lo.d, pI r3.hi.n, pI r3.hi.d]) en_11 (interval_Make_ret a a) rfl rfl (by rw [hr3]; first | done | rfl) (sS [pI r3.lo.n, pI r3.lo.d, pI r3.hi.n, pI r3.hi.d] ty_31 rfl rfl rfl rfl rfl (.head _) rfl hb2 (nl J (W_ret (ret1 rfl (.inr rfl) (resP rfl m0 ty_31 rfl) ?_))))
 exact (by subst hr3; rfl)

theorem interval_right_ret (vl : Value) (l : (List Iv)) (w : World) (hl : Slr w elIv vl l) :
    Calls Tryz.prog 68 [vl].toArray w (fun e w' => e = .returned (.bool (F_interval_right l)) ∧ Ext w w') := by
 refine callsq_of_W (N := 14) Tryz.func68 rfl rfl (by simp) ?_
 obtain ⟨w0, rfl⟩ : ∃ w0, w0 = w := ⟨_, rfl⟩
 have Hl := hl.old
 have hm_l := hl.max
 simp only [initF, Nat.reduceAdd]
 refine Rs fun K J => sE rfl (nl J (Sq fun K1 J1 => Rs fun K J => sE rfl (sQ (q_as (v' := .int .i64 (((l).length : Nat) : Int)) (q_lenG (e := elIv) sl_22 rfl (SLe.sub Hl sn)) rfl) rfl (sE rfl (nl J ?_)))))
 refine W_join3 (fun S M h => J1 S M h) [2, 4, 7, 8, 9, 10, 11, 12, 13] (fun g M => (F_interval_right_loop0 l l) = .inl () ∧ (True) ∧ M = []) (fun K_u1 hK_u1 => ?_) ?_
 ·skip
  refine W_block ?_
  have hmx0 : (l).length ≤ 9223372036854775807 := hm_l
  refine W_loop_g [2, 4, 7, 8, 9, 10, 11, 12, 13] (fun g nn M => ∃ (i0 : Nat) (l0 : List Iv), (F_interval_right_loop0 l l0) = (F_interval_right_loop0 l l) ∧ (l).drop i0 = l0 ∧ l0.length = nn ∧ g 7 = .int .i64 ((i0 : Nat) : Int) ∧ (True) ∧ M = []) (l).length ?start ?round
  case start => exact ⟨_, s0, 0, l, rfl, rfl, rfl, rfl, trivial, rfl⟩
  case round =>
   rintro nn g M ⟨i0, l0, hT0, hr0, rfl, hgi, -, rfl⟩
   simp only [setG, hgi]
   clear hgi
   refine Rs fun K J => sE rfl (nl J (Sq fun K6 J6 => ?_))
   rcases l0 with _ | ⟨x0, l0⟩
   ·skip
    have h12 := dec_nil hr0
    refine W_f h12 rfl (W_exit (thenK_x (thenK_x (blockK_hit (hK_u1 _ _ (by repeat first | exact .refl | refine .cons rfl ?_) ⟨_, s0, (by exact hT0.symm.trans (Eq.symm (rfl))), trivial, rfl⟩)))))
   ·skip
    have h13 := dec_cons hr0
    have g14 := drop_cons hr0
    refine W_t h13 rfl (W_skip (J6 _ _ (Sq fun K7 J7 => W_block (Rs fun K J => sQ (q_as (v' := .pointer (some (slb vl (i0 * 72 + 0)))) (q_idxG (e := elIv) (l := l) (k := i0) sl_22 rfl rfl (SLe.sub Hl sn) g14.2.1) rfl) rfl (sQ (q_ldG (e := elIv) (l := l) (k := i0) (o := 0) ty_31 rfl (SLe.sub Hl sn) g14.1 rfl) rfl (sN zp_31 rfl fun b15 hb15 => sS [pI x0.lo.n, pI x0.lo.d, pI x0.hi.n, pI x0.hi.d] ty_31 rfl rfl rfl rfl rfl (.head _) rfl hb15 (nl J (Rs fun K J => sQ (qL ty_31 rfl m0 rfl) rfl (sQ (q_ret en_15 (interval_IsBad_ret x0) rfl) rfl (nl J ?_))))))))))
    rcases bt (F_interval_IsBad x0) with h16 | h16
    ·skip
     refine W_t h16 rfl (Rs fun K J => sE rfl (nl J (W_ret (blockK_r (thenK_r (thenK_r (blockK_r (thenK_r (thenK_r (ret1 rfl (.inr rfl) rfl ?_))))))))))
     exact (by exact congrArg (fun r : Bool => (.bool r : Value)) (show _ = (F_interval_right l) from (sm_q rfl (hT0.symm.trans (Eq.symm (bif_t h16 rfl))))))
    ·skip
     refine W_f h16 rfl (W_skip (J7 _ _ (Rk fun K J => sV (.int .i64 ((i0 + 1 : Nat) : Int)) rfl (congrArg (Value.int .i64) (nxt g14.2.1 hmx0)) (sE rfl (nl J (⟨(by repeat first | exact .refl | refine .cons rfl ?_), _, _, (sd (s0)), (Nat.lt_succ_self _), i0 + 1, l0, (by exact (hT0.symm.trans (Eq.symm (bif_f h16 rfl))).symm), g14.2.2, rfl, rfl, trivial, rfl⟩))))))
 ·skip
  rintro g M ⟨hCu1, -, rfl⟩
  simp only [setG]
  refine Rs fun K J => sE rfl (nl J (W_ret (ret1 rfl (.inr rfl) rfl ?_)))
  exact (by exact congrArg (fun r : Bool => (.bool r : Value)) (show _ = (F_interval_right l) from sm_l hCu1 rfl))

theorem interval_Add_ret (a : Iv) (b : Iv) :
    Ret Tryz.prog 28 [AV [pI a.lo.n, pI a.lo.d, pI a.hi.n, pI a.hi.d], AV [pI b.lo.n, pI b.lo.d, pI b.hi.n, pI b.hi.d]] (AV [pI (((F_interval_Add a b).lo).n), pI (((F_interval_Add a b).lo).d), pI (((F_interval_Add a b).hi).n), pI (((F_interval_Add a b).hi).d)]) := by
 refine ret_of_W (N := 22) Tryz.func28 rfl rfl (by simp) (fun w0 => ?_)
 simp only [initF, Nat.reduceAdd]
 refine Rs fun K J => WL_r rfl (r_boxp rfl rfl (fun b1 hb1 => WL_r rfl (r_boxp rfl rfl (fun b2 hb2 => sN zp_31 rfl fun b3 hb3 => nl J (Sq fun K1 J1 => Rs fun K J => sQ (qL ty_31 rfl m2 rfl) rfl (sQ (qL ty_31 rfl m1 rfl) rfl (WL_r rfl (r_bsliceA [[pI a.lo.n, pI a.lo.d, pI a.hi.n, pI a.hi.d], [pI b.lo.n, pI b.lo.d, pI b.hi.n, pI b.hi.d]] [pI a.lo.n, pI a.lo.d, pI a.hi.n, pI a.hi.d, pI b.lo.n, pI b.lo.d, pI b.hi.n, pI b.hi.d] us_22 z_31 sz_31 rfl (by decide) rfl rfl ⟨rfl, rfl, rfl, rfl, rfl, rfl, trivial⟩ rfl (fun b4 hb4 => sQ (q_as (v' := .bool (F_interval_right [a, b])) (q_call en_68 rfl (fun w hw => interval_right_ret _ ([a, b]) w (SLe.ap hw (SLe.lit (e := elIv) (l := [a, b]) m0 rfl (Nat.le_of_ble_eq_true rfl) rfl)))) rfl) rfl (sE rfl (nl J ?_)))))))))))
 rcases bt (F_interval_right [a, b]) with h5 | h5
 ·skip
  refine W_f (not_f h5) rfl (W_skip (J1 _ _ (ds (sk (sd (sk (sk (s0))))) [0,4,8,12,16,20,24,28,32,36,40,45] [11] mix (by kernel_rfl) (fun K J => pQ rfl (qF fd_31_0 rfl rfl) (pQ rfl (qL ty_28 rfl m3 rfl) (pQ rfl (qF fd_31_0 rfl rfl) (pQ rfl (qL ty_28 rfl m2 rfl) (pQ rfl (q_ret en_55 (ratio_Add_ret a.lo b.lo) rfl) (pQ rfl (qF fd_31_1 rfl rfl) (pQ rfl (qL ty_28 rfl m3 rfl) (pQ rfl (qF fd_31_1 rfl rfl) (pQ rfl (qL ty_28 rfl m2 rfl) (pQ rfl (q_ret en_55 (ratio_Add_ret a.hi b.hi) rfl) ?_)))))))))))))
  obtain ⟨r6, hr6⟩ := nm ((F_interval_Make (F_ratio_Add a.lo b.lo) (F_ratio_Add a.hi b.hi)) : Iv)
  refine pC (AV [pI r6.lo.n, pI r6.lo.d, pI r6.hi.n, pI r6.hi.d]) en_11 (interval_Make_ret (F_ratio_Add a.lo b.lo) (F_ratio_Add a.hi b.hi)) rfl rfl (by rw [hr6]; first | done | rfl) (oS [pI r6.lo.n, pI r6.lo.d, pI r6.hi.n, pI r6.hi.d] ty_31 rfl rfl rfl rfl rfl rfl (.tail _ (.head _)) rfl hb3 rfl (sk (sd s0)) (fl J (W_ret (ret1 rfl (.inr rfl) (resP rfl m1 ty_31 rfl) ?_))))
  exact (by subst hr6; exact congrArg (fun r : Iv => (AV [pI r.lo.n, pI r.lo.d, pI r.hi.n, pI r.hi.d] : Value)) (show _ = (F_interval_Add a b) from bif_t h5 rfl))
 ·skip
  refine W_t (not_t h5) rfl (Rs fun K J => sQ (q_ret en_63 interval_Bad_ret  rfl) rfl (sS [pI F_interval_Bad.lo.n, pI F_interval_Bad.lo.d, pI F_interval_Bad.hi.n, pI F_interval_Bad.hi.d] ty_31 rfl rfl rfl rfl rfl (.tail _ (.head _)) rfl hb3 (nl J (W_ret (thenK_r (ret1 rfl (.inr rfl) (resP rfl m1 ty_31 rfl) ?_))))))
  exact (by exact congrArg (fun r : Iv => (AV [pI r.lo.n, pI r.lo.d, pI r.hi.n, pI r.hi.d] : Value)) (show _ = (F_interval_Add a b) from bif_f h5 rfl))

theorem interval_Neg_ret (a : Iv) :
    Ret Tryz.prog 31 [AV [pI a.lo.n, pI a.lo.d, pI a.hi.n, pI a.hi.d]] (AV [pI (((F_interval_Neg a).lo).n), pI (((F_interval_Neg a).lo).d), pI (((F_interval_Neg a).hi).n), pI (((F_interval_Neg a).hi).d)]) := by
 refine ret_of_W (N := 15) Tryz.func31 rfl rfl (by simp) (fun w0 => ?_)
 simp only [initF, Nat.reduceAdd]
 refine Rs fun K J => WL_r rfl (r_boxp rfl rfl (fun b1 hb1 => sN zp_31 rfl fun b2 hb2 => nl J (Sq fun K1 J1 => Rs fun K J => sQ (qL ty_31 rfl m1 rfl) rfl (WL_r rfl (r_bsliceA [[pI a.lo.n, pI a.lo.d, pI a.hi.n, pI a.hi.d]] [pI a.lo.n, pI a.lo.d, pI a.hi.n, pI a.hi.d] us_22 z_31 sz_31 rfl (by decide) rfl rfl ⟨rfl, rfl, rfl, trivial⟩ rfl (fun b3 hb3 => sQ (q_as (v' := .bool (F_interval_right [a])) (q_call en_68 rfl (fun w hw => interval_right_ret _ ([a]) w (SLe.ap hw (SLe.lit (e := elIv) (l := [a]) m0 rfl (Nat.le_of_ble_eq_true rfl) rfl)))) rfl) rfl (sE rfl (nl J ?_))))))))
 rcases bt (F_interval_right [a]) with h4 | h4
 ·skip
  refine W_f (not_f h4) rfl (W_skip (J1 _ _ (ds (sk (sd (sk (s0)))) [0,4,8,12,16,20,24,29] [7] mix (by kernel_rfl) (fun K J => pQ rfl (qF fd_31_1 rfl rfl) (pQ rfl (qL ty_28 rfl m2 rfl) (pQ rfl (q_ret en_57 (ratio_Neg_ret a.hi) rfl) (pQ rfl (qF fd_31_0 rfl rfl) (pQ rfl (qL ty_28 rfl m2 rfl) (pQ rfl (q_ret en_57 (ratio_Neg_ret a.lo) rfl) ?_)))))))))
  obtain ⟨r5, hr5⟩ := nm ((F_interval_Make (F_ratio_Neg a.hi) (F_ratio_Neg a.lo)) : Iv)
  refine pC (AV [pI r5.lo.n, pI r5.lo.d, pI r5.hi.n, pI r5.hi.d]) en_11 (interval_Make_ret (F_ratio_Neg a.hi) (F_ratio_Neg a.lo)) rfl rfl (by rw [hr5]; first | done | rfl) (oS [pI r5.lo.n, pI r5.lo.d, pI r5.hi.n, pI r5.hi.d] ty_31 rfl rfl rfl rfl rfl rfl (.tail _ (.head _)) rfl hb2 rfl (sk (sd s0)) (fl J (W_ret (ret1 rfl (.inr rfl) (resP rfl m1 ty_31 rfl) ?_))))
  exact (by subst hr5; exact congrArg (fun r : Iv => (AV [pI r.lo.n, pI r.lo.d, pI r.hi.n, pI r.hi.d] : Value)) (show _ = (F_interval_Neg a) from bif_t h4 rfl))
 ·skip
  refine W_t (not_t h4) rfl (Rs fun K J => sQ (q_ret en_63 interval_Bad_ret  rfl) rfl (sS [pI F_interval_Bad.lo.n, pI F_interval_Bad.lo.d, pI F_interval_Bad.hi.n, pI F_interval_Bad.hi.d] ty_31 rfl rfl rfl rfl rfl (.tail _ (.head _)) rfl hb2 (nl J (W_ret (thenK_r (ret1 rfl (.inr rfl) (resP rfl m1 ty_31 rfl) ?_))))))
  exact (by exact congrArg (fun r : Iv => (AV [pI r.lo.n, pI r.lo.d, pI r.hi.n, pI r.hi.d] : Value)) (show _ = (F_interval_Neg a) from bif_f h4 rfl))

theorem interval_Sub_ret (a : Iv) (b : Iv) :
    Ret Tryz.prog 29 [AV [pI a.lo.n, pI a.lo.d, pI a.hi.n, pI a.hi.d], AV [pI b.lo.n, pI b.lo.d, pI b.hi.n, pI b.hi.d]] (AV [pI (((F_interval_Sub a b).lo).n), pI (((F_interval_Sub a b).lo).d), pI (((F_interval_Sub a b).hi).n), pI (((F_interval_Sub a b).hi).d)]) := by
 refine ret_of_W (N := 9) Tryz.func29 rfl rfl (by simp) (fun w0 => ?_)
 simp only [initF, Nat.reduceAdd]
 refine Rs fun K J => WL_r rfl (r_boxp rfl rfl (fun b1 hb1 => WL_r rfl (r_boxp rfl rfl (fun b2 hb2 => sN zp_31 rfl fun b3 hb3 => nl J (ds (sd (sk (sk (s0)))) [0,4,8,12,17] [4] mix (by kernel_rfl) (fun K J => pQ rfl (qL ty_31 rfl m2 rfl) (pQ rfl (qL ty_31 rfl m1 rfl) ?_)))))))
 obtain ⟨r4, hr4⟩ := nm ((F_interval_Neg b) : Iv)
 refine pC (AV [pI r4.lo.n, pI r4.lo.d, pI r4.hi.n, pI r4.hi.d]) en_31 (interval_Neg_ret b) rfl rfl (by rw [hr4]; first | done | rfl) ?_
 obtain ⟨r5, hr5⟩ := nm ((F_interval_Add a r4) : Iv)
 refine pC (AV [pI r5.lo.n, pI r5.lo.d, pI r5.hi.n, pI r5.hi.d]) en_28 (interval_Add_ret a r4) rfl rfl (by rw [hr5]; first | done | rfl) (oS [pI r5.lo.n, pI r5.lo.d, pI r5.hi.n, pI r5.hi.d] ty_31 rfl rfl rfl rfl rfl rfl (.head _) rfl hb3 rfl (sd s0) (fl J (W_ret (ret1 rfl (.inr rfl) (resP rfl m0 ty_31 rfl) ?_))))
 exact (by subst hr5; subst hr4; rfl)

theorem interval_Hull_ret (vl : Value) (l : (List Iv)) (w : World) (hl : Slr w elIv vl l) :
    Calls Tryz.prog 25 [vl].toArray w (fun e w' => e = .returned (AV [pI (((F_interval_Hull l).lo).n), pI (((F_interval_Hull l).lo).d), pI (((F_interval_Hull l).hi).n), pI (((F_interval_Hull l).hi).d)]) ∧ Ext w w') := by
 refine callsq_of_W (N := 39) Tryz.func25 rfl rfl (by simp) ?_
 obtain ⟨w0, rfl⟩ : ∃ w0, w0 = w := ⟨_, rfl⟩
 have Hl := hl.old
 have hm_l := hl.max
 simp only [initF, Nat.reduceAdd]
 refine Rs fun K J => sN zp_31 rfl fun b1 hb1 => nl J (Sq fun K1 J1 => ?_)
 refine W_join [6, 7, 8, 9, 10, 11, 12, 13] (fun g M => (g 13 = .bool (((((l).length : Nat) : Int) == 0) || (!(F_interval_right l)))) ∧ M = [⟨b1, 31, flat [pI I0, pI I0, pI I0, pI I0]⟩]) (fun K2 J2 => ?_) ?_
 ·skip
  refine Rk fun K J => sE rfl (sQ (q_as (v' := .int .i64 (((l).length : Nat) : Int)) (q_lenG (e := elIv) sl_22 rfl (SLe.sub Hl sn)) rfl) rfl (sE rfl ?_))
  rcases bt ((((l).length : Nat) : Int) == 0) with h3 | h3
  ·skip
   have ph3 := beqI_t h3
   refine sB h3 rfl (WL_n rfl (WL_n rfl (WL_n rfl (sE rfl (nl J ?_)))))
   refine J2 _ _ (by repeat first | exact .refl | refine .cons rfl ?_) ⟨_, s0, ?s13, rfl⟩
   case s13 => exact congrArg Value.bool (or_t h3)
  ·skip
   have ph3 := beqI_f h3
   refine sB h3 rfl (sE rfl (sQ (q_as (v' := .bool (F_interval_right l)) (q_call en_68 rfl (fun w hw => interval_right_ret _ (l) w (SLe.ap hw (SLe.sub Hl sn)))) rfl) rfl (sE rfl (sE rfl (nl J ?_)))))
   refine J2 _ _ (by repeat first | exact .refl | refine .cons rfl ?_) ⟨_, s0, ?s13, rfl⟩
   case s13 => exact congrArg Value.bool (or_f h3 rfl)
 ·skip
  rintro g4 M ⟨hg13, rfl⟩
  simp only [setG, hg13]
  clear hg13
  rcases bt (((((l).length : Nat) : Int) == 0) || (!(F_interval_right l))) with h5 | h5
  ·skip
   refine W_t h5 rfl (Rs fun K J => sQ (q_ret en_63 interval_Bad_ret  rfl) rfl (sS [pI F_interval_Bad.lo.n, pI F_interval_Bad.lo.d, pI F_interval_Bad.hi.n, pI F_interval_Bad.hi.d] ty_31 rfl rfl rfl rfl rfl (.head _) rfl hb1 (nl J (W_ret (thenK_r (ret1 rfl (.inr rfl) (resP rfl m0 ty_31 rfl) ?_))))))
   exact (by exact congrArg (fun r : Iv => (AV [pI r.lo.n, pI r.lo.d, pI r.hi.n, pI r.hi.d] : Value)) (show _ = (F_interval_Hull l) from bif_t h5 rfl))
  ·skip
   refine W_f h5 rfl (W_skip (J1 _ _ (Rs fun K J => sE rfl ?_)))
   have pl := beqI_f (Bool.or_eq_false_iff.1 h5).1
   refine sQ (q_as (v' := .pointer (some (slb vl (0 * 72 + 0)))) (q_idxG (e := elIv) (l := l) (k := 0) sl_22 rfl rfl (SLe.sub Hl sn) (by omega)) rfl) rfl (sQ (q_ldG (e := elIv) (l := l) (k := 0) (o := 0) ty_31 rfl (SLe.sub Hl sn) (getD_some _ (by omega)) rfl) rfl (sN zp_31 rfl fun b6 hb6 => sS [pI (((l.getD 0 Iv0).lo).n), pI (((l.getD 0 Iv0).lo).d), pI (((l.getD 0 Iv0).hi).n), pI (((l.getD 0 Iv0).hi).d)] ty_31 rfl rfl rfl rfl rfl (.head _) rfl hb6 (nl J (Sq fun K3 J3 => Rs fun K J => sE rfl (sQ (q_sldG (e := elIv) (k := 1) sl_22 rfl rfl (SLe.sub Hl sn) (by omega)) rfl (sQ (q_as (v' := .int .i64 ((((l.drop 1)).length : Nat) : Int)) (q_lenG (e := elIv) sl_22 rfl (SLe.sub (SLe.drop (e := elIv) Hl (by omega)) sn)) rfl) rfl (sE rfl (nl J ?_))))))))
   refine W_join3 (fun S M h => J3 S M h) [5, 21, 22, 23, 24, 25, 26, 27, 28, 29, 30, 31, 32, 33, 34, 35, 36, 37] (fun g M => ∃ (mb6 : Iv), (F_interval_Hull_loop0 l (l.drop 1) (l.getD 0 Iv0)) = mb6 ∧ (True) ∧ M = [⟨b6, 31, flat [pI mb6.lo.n, pI mb6.lo.d, pI mb6.hi.n, pI mb6.hi.d]⟩, ⟨b1, 31, flat [pI I0, pI I0, pI I0, pI I0]⟩]) (fun K_u7 hK_u7 => ?_) ?_
   ·skip
    refine W_block ?_
    have hmx0 : ((l.drop 1)).length ≤ 9223372036854775807 := (by simp; omega)
    refine W_loop_g [5, 21, 22, 23, 24, 25, 26, 27, 28, 29, 30, 31, 32, 33, 34, 35, 36, 37] (fun g nn M => ∃ (i0 : Nat) (l0 : List Iv) (mb6 : Iv), (F_interval_Hull_loop0 l l0 mb6) = (F_interval_Hull_loop0 l (l.drop 1) (l.getD 0 Iv0)) ∧ ((l.drop 1)).drop i0 = l0 ∧ l0.length = nn ∧ g 21 = .int .i64 ((i0 : Nat) : Int) ∧ (True) ∧ M = [⟨b6, 31, flat [pI mb6.lo.n, pI mb6.lo.d, pI mb6.hi.n, pI mb6.hi.d]⟩, ⟨b1, 31, flat [pI I0, pI I0, pI I0, pI I0]⟩]) ((l.drop 1)).length ?start ?round
    case start => exact ⟨_, s0, 0, (l.drop 1), (l.getD 0 Iv0), rfl, rfl, rfl, rfl, trivial, rfl⟩
    case round =>
     rintro nn g M ⟨i0, l0, mb6, hT0, hr0, rfl, hgi, -, rfl⟩
     simp only [setG, hgi]
     clear hgi
     refine Rs fun K J => sE rfl (nl J (Sq fun K8 J8 => ?_))
     rcases l0 with _ | ⟨x0, l0⟩
     ·skip
      have h18 := dec_nil hr0
      refine W_f h18 rfl (W_exit (thenK_x (thenK_x (blockK_hit (hK_u7 _ _ (by repeat first | exact .refl | refine .cons rfl ?_) ⟨_, s0, mb6, (by exact hT0.symm.trans (Eq.symm (rfl))), trivial, rfl⟩)))))
     ·skip
      have h19 := dec_cons hr0
      have g20 := drop_cons hr0
      refine W_t h19 rfl (W_skip (J8 _ _ (Sq fun K9 J9 => W_block (Rs fun K J => sQ (q_as (v' := .pointer (some (slb (slk 1 72 vl) (i0 * 72 + 0)))) (q_idxG (e := elIv) (l := (l.drop 1)) (k := i0) sl_22 rfl rfl (SLe.sub (SLe.drop (e := elIv) Hl (by omega)) sn) g20.2.1) rfl) rfl (sQ (q_ldG (e := elIv) (l := (l.drop 1)) (k := i0) (o := 0) ty_31 rfl (SLe.sub (SLe.drop (e := elIv) Hl (by omega)) sn) g20.1 rfl) rfl (sN zp_31 rfl fun b21 hb21 => sS [pI x0.lo.n, pI x0.lo.d, pI x0.hi.n, pI x0.hi.d] ty_31 rfl rfl rfl rfl rfl (.head _) rfl hb21 (nl J (dr (sk (sd (sk (s0)))) [0,4,8,12,16,20,24,28,32,36,40,45,48,53] [11,13] mix (by kernel_rfl) (fun K J => pQ rfl (qF fd_31_0 rfl rfl) (pQ rfl (qL ty_28 rfl m1 rfl) (pQ rfl (qF fd_31_0 rfl rfl) (pQ rfl (qL ty_28 rfl m0 rfl) (pQ rfl (q_ret en_70 (ratio_Min_ret mb6.lo x0.lo) rfl) (pQ rfl (qF fd_31_1 rfl rfl) (pQ rfl (qL ty_28 rfl m1 rfl) (pQ rfl (qF fd_31_1 rfl rfl) ?_))))))))))))))))
      refine pQ rfl (qL ty_28 rfl m0 rfl) (pQ rfl (q_ret en_69 (ratio_Max_ret mb6.hi x0.hi) rfl) (pQ rfl (qF fd_31_0 rfl rfl) (oS [pI ((F_ratio_Min mb6.lo x0.lo).n), pI ((F_ratio_Min mb6.lo x0.lo).d)] ty_28 rfl rfl rfl rfl rfl rfl (.tail _ (.head _)) rfl hb6 rfl (sk (sd s0)) (pQ rfl (qF fd_31_1 rfl rfl) (oS [pI ((F_ratio_Max mb6.hi x0.hi).n), pI ((F_ratio_Max mb6.hi x0.hi).d)] ty_28 rfl rfl rfl rfl rfl rfl (.tail _ (.head _)) rfl hb6 rfl (sk (sd s0)) (fl J (J9 _ _ (Rk fun K J => sV (.int .i64 ((i0 + 1 : Nat) : Int)) rfl (congrArg (Value.int .i64) (nxt g20.2.1 hmx0)) (sE rfl (nl J (⟨(by repeat first | exact .refl | refine .cons rfl ?_), _, _, (sd (s0)), (Nat.lt_succ_self _), i0 + 1, l0, (⟨(F_ratio_Min mb6.lo x0.lo), (F_ratio_Max mb6.hi x0.hi)⟩ : Iv), (by exact (hT0.symm.trans (Eq.symm (rfl))).symm), g20.2.2, rfl, rfl, trivial, rfl⟩)))))))))))
   ·skip
    rintro g M ⟨mb6, hCu7, -, rfl⟩
    simp only [setG]
    refine Rs fun K J => sQ (qL ty_31 rfl m0 rfl) rfl (sS [pI mb6.lo.n, pI mb6.lo.d, pI mb6.hi.n, pI mb6.hi.d] ty_31 rfl rfl rfl rfl rfl (.tail _ (.head _)) rfl hb1 (nl J (W_ret (ret1 rfl (.inr rfl) (resP rfl m1 ty_31 rfl) ?_))))
    exact (by exact congrArg (fun r : Iv => (AV [pI r.lo.n, pI r.lo.d, pI r.hi.n, pI r.hi.d] : Value)) (show _ = (F_interval_Hull l) from bif_f h5 (ap_ hCu7 rfl)))

theorem interval_Has_ret (a : Iv) (b : Rt) :
    Ret Tryz.prog 17 [AV [pI a.lo.n, pI a.lo.d, pI a.hi.n, pI a.hi.d], AV [pI b.n, pI b.d]] (.bool (F_interval_Has a b)) := by
 refine ret_of_W (N := 26) Tryz.func17 rfl rfl (by simp) (fun w0 => ?_)
 simp only [initF, Nat.reduceAdd]
 refine Rs fun K J => WL_r rfl (r_boxp rfl rfl (fun b1 hb1 => WL_r rfl (r_boxp rfl rfl (fun b2 hb2 => sE rfl (nl J ?_)))))
 refine W_join [4, 5, 6, 7, 8, 9, 10, 11, 12, 13, 14, 15, 16, 17, 18, 19, 20, 21, 22, 23, 24, 25] (fun g M => (g 4 = .bool ((F_interval_right [a]) && ((F_ratio_Good b) && (decide ((F_ratio_Cmp a.lo b).1 ≤ 0) && decide ((F_ratio_Cmp b a.hi).1 ≤ 0))))) ∧ M = [⟨b2, 28, flat [pI b.n, pI b.d]⟩, ⟨b1, 31, flat [pI a.lo.n, pI a.lo.d, pI a.hi.n, pI a.hi.d]⟩]) (fun K1 J1 => ?_) ?_
 ·skip
  refine Rk fun K J => sQ (qL ty_31 rfl m1 rfl) rfl (WL_r rfl (r_bsliceA [[pI a.lo.n, pI a.lo.d, pI a.hi.n, pI a.hi.d]] [pI a.lo.n, pI a.lo.d, pI a.hi.n, pI a.hi.d] us_22 z_31 sz_31 rfl (by decide) rfl rfl ⟨rfl, rfl, rfl, trivial⟩ rfl (fun b8 hb8 => sQ (q_as (v' := .bool (F_interval_right [a])) (q_call en_68 rfl (fun w hw => interval_right_ret _ ([a]) w (SLe.ap hw (SLe.lit (e := elIv) (l := [a]) m0 rfl (Nat.le_of_ble_eq_true rfl) rfl)))) rfl) rfl ?_)))
  rcases bt (F_interval_right [a]) with h9 | h9
  ·skip
   refine sB h9 rfl (sQ (qL ty_28 rfl m1 rfl) rfl (sQ (q_ret en_65 (ratio_Good_ret b) rfl) rfl (sE rfl ?_)))
   rcases bt (F_ratio_Good b) with h10 | h10
   ·skip
    refine sB h10 rfl (sQ (qF fd_31_0 rfl rfl) rfl (sQ (qL ty_28 rfl m2 rfl) rfl (sQ (qL ty_28 rfl m1 rfl) rfl (sQ (q_ret en_60 (ratio_Cmp_ret a.lo b) rfl) rfl (sE rfl (sE rfl ?_))))))
    rcases bt (decide ((F_ratio_Cmp a.lo b).1 ≤ 0)) with h11 | h11
    ·skip
     refine sB h11 rfl (sQ (qL ty_28 rfl m1 rfl) rfl (sQ (qF fd_31_1 rfl rfl) rfl (sQ (qL ty_28 rfl m2 rfl) rfl (sQ (q_ret en_60 (ratio_Cmp_ret b a.hi) rfl) rfl (sE rfl (sE rfl (sE rfl (nl J ?_))))))))
     refine J1 _ _ (by repeat first | exact .refl | refine .cons rfl ?_) ⟨_, (sd (s0)), ?s4, rfl⟩
     case s4 => exact congrArg Value.bool (and_t h9 (and_t h10 (and_t h11 rfl)))
    ·skip
     refine sB h11 rfl (WL_n rfl (WL_n rfl (WL_n rfl (WL_n rfl (WL_n rfl (sE rfl (sE rfl (nl J ?_))))))))
     refine J1 _ _ (by repeat first | exact .refl | refine .cons rfl ?_) ⟨_, (sd (s0)), ?s4, rfl⟩
     case s4 => exact congrArg Value.bool (and_t h9 (and_t h10 (and_f h11)))
   ·skip
    refine sB h10 rfl (WL_n rfl (WL_n rfl (WL_n rfl (WL_n rfl (WL_n rfl (sE rfl (sE rfl (WL_n rfl (WL_n rfl (WL_n rfl (WL_n rfl (WL_n rfl (sE rfl (sE rfl (nl J ?_)))))))))))))))
    refine J1 _ _ (by repeat first | exact .refl | refine .cons rfl ?_) ⟨_, (sd (s0)), ?s4, rfl⟩
    case s4 => exact congrArg Value.bool (and_t h9 (and_f h10))
  ·skip
   refine sB h9 rfl (WL_n rfl (WL_n rfl (sE rfl (sE rfl (WL_n rfl (WL_n rfl (WL_n rfl (WL_n rfl (WL_n rfl (sE rfl (sE rfl (WL_n rfl (WL_n rfl (WL_n rfl (WL_n rfl (WL_n rfl (sE rfl (sE rfl (nl J ?_)))))))))))))))))))
   refine J1 _ _ (by repeat first | exact .refl | refine .cons rfl ?_) ⟨_, (sd (s0)), ?s4, rfl⟩
   case s4 => exact congrArg Value.bool (and_f h9)
 ·skip
  rintro g12 M ⟨hg4, rfl⟩
  simp only [setG, hg4]
  clear hg4
  refine W_ret (ret1 rfl (.inr rfl) rfl ?_)
  exact (by rfl)

theorem interval_Cmp_ret (a : Iv) (b : Iv) :
    Ret Tryz.prog 23 [AV [pI a.lo.n, pI a.lo.d, pI a.hi.n, pI a.hi.d], AV [pI b.lo.n, pI b.lo.d, pI b.hi.n, pI b.hi.d]] (.int .i64 ((F_interval_Cmp a b).1)) := by
 refine ret_of_W (N := 25) Tryz.func23 rfl rfl (by simp) (fun w0 => ?_)
 simp only [initF, Nat.reduceAdd]
 refine Rs fun K J => WL_r rfl (r_boxp rfl rfl (fun b1 hb1 => WL_r rfl (r_boxp rfl rfl (fun b2 hb2 => sE rfl (nl J (Sq fun K1 J1 => W_block (Rs fun K J => sQ (qL ty_31 rfl m1 rfl) rfl (sQ (qL ty_31 rfl m0 rfl) rfl (WL_r rfl (r_bsliceA [[pI a.lo.n, pI a.lo.d, pI a.hi.n, pI a.hi.d], [pI b.lo.n, pI b.lo.d, pI b.hi.n, pI b.hi.d]] [pI a.lo.n, pI a.lo.d, pI a.hi.n, pI a.hi.d, pI b.lo.n, pI b.lo.d, pI b.hi.n, pI b.hi.d] us_22 z_31 sz_31 rfl (by decide) rfl rfl ⟨rfl, rfl, rfl, rfl, rfl, rfl, trivial⟩ rfl (fun b3 hb3 => sQ (q_as (v' := .bool (F_interval_right [a, b])) (q_call en_68 rfl (fun w hw => interval_right_ret _ ([a, b]) w (SLe.ap hw (SLe.lit (e := elIv) (l := [a, b]) m0 rfl (Nat.le_of_ble_eq_true rfl) rfl)))) rfl) rfl (sE rfl (sE rfl (nl J ?_))))))))))))))
 rcases bt (F_interval_right [a, b]) with h4 | h4
 ·skip
  refine W_f (not_f h4) rfl (Rs fun K J => sQ (qF fd_31_1 rfl rfl) rfl (sQ (qL ty_28 rfl m2 rfl) rfl (sQ (qF fd_31_0 rfl rfl) rfl (sQ (qL ty_28 rfl m1 rfl) rfl (sQ (q_ret en_60 (ratio_Cmp_ret a.hi b.lo) rfl) rfl (sE rfl (sE rfl (nl J ?_))))))))
  rcases bt (decide ((F_ratio_Cmp a.hi b.lo).1 < 0)) with h5 | h5
  ·skip
   refine W_t h5 rfl (Rs fun K J => sE rfl (nl J (W_ret (blockK_r (thenK_r (ret1 rfl (.inr rfl) rfl ?_))))))
   exact (by exact congrArg (fun r : W => (.int .i64 r.1 : Value)) (show _ = (F_interval_Cmp a b) from bif_t h4 (bif_t h5 rfl)))
  ·skip
   refine W_f h5 rfl (Rs fun K J => sQ (qF fd_31_0 rfl rfl) rfl (sQ (qL ty_28 rfl m2 rfl) rfl (sQ (qF fd_31_1 rfl rfl) rfl (sQ (qL ty_28 rfl m1 rfl) rfl (sQ (q_ret en_60 (ratio_Cmp_ret a.lo b.hi) rfl) rfl (sE rfl (sE rfl (nl J ?_))))))))
   rcases bt (decide (0 < (F_ratio_Cmp a.lo b.hi).1)) with h6 | h6
   ·skip
    refine W_t h6 rfl (Rs fun K J => sE rfl (nl J (W_ret (blockK_r (thenK_r (ret1 rfl (.inr rfl) rfl ?_))))))
    exact (by exact congrArg (fun r : W => (.int .i64 r.1 : Value)) (show _ = (F_interval_Cmp a b) from bif_t h4 (bif_f h5 (bif_t h6 rfl))))
   ·skip
    refine W_f h6 rfl (W_skip (J1 _ _ (Rs fun K J => sE rfl (nl J (W_ret (ret1 rfl (.inr rfl) rfl ?_))))))
    exact (by exact congrArg (fun r : W => (.int .i64 r.1 : Value)) (show _ = (F_interval_Cmp a b) from bif_t h4 (bif_f h5 (bif_f h6 rfl))))
 ·skip
  refine W_t (not_t h4) rfl (Rs fun K J => sE rfl (nl J (W_ret (blockK_r (thenK_r (ret1 rfl (.inr rfl) rfl ?_))))))
  exact (by exact congrArg (fun r : W => (.int .i64 r.1 : Value)) (show _ = (F_interval_Cmp a b) from bif_f h4 rfl))

theorem interval_Meet_ret (a : Iv) (b : Iv) :
    Ret Tryz.prog 19 [AV [pI a.lo.n, pI a.lo.d, pI a.hi.n, pI a.hi.d], AV [pI b.lo.n, pI b.lo.d, pI b.hi.n, pI b.hi.d]] (.tuple #[AV [pI ((((F_interval_Meet a b).1).lo).n), pI ((((F_interval_Meet a b).1).lo).d), pI ((((F_interval_Meet a b).1).hi).n), pI ((((F_interval_Meet a b).1).hi).d)], .bool ((F_interval_Meet a b).2)]) := by
 refine ret_of_W (N := 29) Tryz.func19 rfl rfl (by simp) (fun w0 => ?_)
 simp only [initF, Nat.reduceAdd]
 refine Rs fun K J => WL_r rfl (r_boxp rfl rfl (fun b1 hb1 => WL_r rfl (r_boxp rfl rfl (fun b2 hb2 => sN zp_31 rfl fun b3 hb3 => sE rfl (nl J (Sq fun K1 J1 => ?_))))))
 refine W_join [6, 7, 8, 9, 10, 11, 12, 13, 14, 15, 16] (fun g M => (g 16 = .bool (!(F_interval_right [a, b]) || ((F_interval_Cmp a b).1 != 0))) ∧ M = [⟨b3, 31, flat [pI I0, pI I0, pI I0, pI I0]⟩, ⟨b2, 31, flat [pI b.lo.n, pI b.lo.d, pI b.hi.n, pI b.hi.d]⟩, ⟨b1, 31, flat [pI a.lo.n, pI a.lo.d, pI a.hi.n, pI a.hi.d]⟩]) (fun K2 J2 => ?_) ?_
 ·skip
  refine Rk fun K J => sQ (qL ty_31 rfl m2 rfl) rfl (sQ (qL ty_31 rfl m1 rfl) rfl (WL_r rfl (r_bsliceA [[pI a.lo.n, pI a.lo.d, pI a.hi.n, pI a.hi.d], [pI b.lo.n, pI b.lo.d, pI b.hi.n, pI b.hi.d]] [pI a.lo.n, pI a.lo.d, pI a.hi.n, pI a.hi.d, pI b.lo.n, pI b.lo.d, pI b.hi.n, pI b.hi.d] us_22 z_31 sz_31 rfl (by decide) rfl rfl ⟨rfl, rfl, rfl, rfl, rfl, rfl, trivial⟩ rfl (fun b7 hb7 => sQ (q_as (v' := .bool (F_interval_right [a, b])) (q_call en_68 rfl (fun w hw => interval_right_ret _ ([a, b]) w (SLe.ap hw (SLe.lit (e := elIv) (l := [a, b]) m0 rfl (Nat.le_of_ble_eq_true rfl) rfl)))) rfl) rfl (sE rfl ?_)))))
  rcases bt (F_interval_right [a, b]) with h8 | h8
  ·skip
   refine sB (not_f h8) rfl (sQ (qL ty_31 rfl m3 rfl) rfl (sQ (qL ty_31 rfl m2 rfl) rfl (sQ (q_ret en_23 (interval_Cmp_ret a b) rfl) rfl (sE rfl (sE rfl (nl J ?_))))))
   refine J2 _ _ (by repeat first | exact .refl | refine .cons rfl ?_) ⟨_, (sd (s0)), ?s16, rfl⟩
   case s16 => exact congrArg Value.bool (nor_t h8 rfl)
  ·skip
   refine sB (not_t h8) rfl (WL_n rfl (WL_n rfl (WL_n rfl (WL_n rfl (sE rfl (nl J ?_))))))
   refine J2 _ _ (by repeat first | exact .refl | refine .cons rfl ?_) ⟨_, (sd (s0)), ?s16, rfl⟩
   case s16 => exact congrArg Value.bool (nor_f h8)
 ·skip
  rintro g9 M ⟨hg16, rfl⟩
  simp only [setG, hg16]
  clear hg16
  rcases bt (!(F_interval_right [a, b]) || ((F_interval_Cmp a b).1 != 0)) with h10 | h10
  ·skip
   refine W_t h10 rfl (Rs fun K J => sQ (q_ret en_63 interval_Bad_ret  rfl) rfl (sS [pI F_interval_Bad.lo.n, pI F_interval_Bad.lo.d, pI F_interval_Bad.hi.n, pI F_interval_Bad.hi.d] ty_31 rfl rfl rfl rfl rfl (.head _) rfl hb3 (sE rfl (nl J (W_ret (thenK_r (ret2 rfl (.inr rfl) (resP rfl m0 ty_31 rfl) rfl ?_)))))))
   exact (by exact congrArg (fun r : Iv × Bool => (.tuple #[AV [pI r.1.lo.n, pI r.1.lo.d, pI r.1.hi.n, pI r.1.hi.d], .bool r.2] : Value)) (show _ = (F_interval_Meet a b) from bif_t h10 rfl))
  ·skip
   refine W_f h10 rfl (W_skip (J1 _ _ (ds (sd (sk (sk (s0)))) [0,4,8,12,16,20,24,28,32,36,40,45,48] [11] mix (by kernel_rfl) (fun K J => pQ rfl (qF fd_31_0 rfl rfl) (pQ rfl (qL ty_28 rfl m2 rfl) (pQ rfl (qF fd_31_0 rfl rfl) (pQ rfl (qL ty_28 rfl m1 rfl) (pQ rfl (q_ret en_69 (ratio_Max_ret a.lo b.lo) rfl) (pQ rfl (qF fd_31_1 rfl rfl) (pQ rfl (qL ty_28 rfl m2 rfl) (pQ rfl (qF fd_31_1 rfl rfl) (pQ rfl (qL ty_28 rfl m1 rfl) (pQ rfl (q_ret en_70 (ratio_Min_ret a.hi b.hi) rfl) ?_)))))))))))))
   obtain ⟨r11, hr11⟩ := nm ((F_interval_Make (F_ratio_Max a.lo b.lo) (F_ratio_Min a.hi b.hi)) : Iv)
   refine pC (AV [pI r11.lo.n, pI r11.lo.d, pI r11.hi.n, pI r11.hi.d]) en_11 (interval_Make_ret (F_ratio_Max a.lo b.lo) (F_ratio_Min a.hi b.hi)) rfl rfl (by rw [hr11]; first | done | rfl) (oS [pI r11.lo.n, pI r11.lo.d, pI r11.hi.n, pI r11.hi.d] ty_31 rfl rfl rfl rfl rfl rfl (.head _) rfl hb3 rfl (sd s0) (pE rfl (fl J (W_ret (ret2 rfl (.inr rfl) (resP rfl m0 ty_31 rfl) rfl ?_)))))
   exact (by subst hr11; exact congrArg (fun r : Iv × Bool => (.tuple #[AV [pI r.1.lo.n, pI r.1.lo.d, pI r.1.hi.n, pI r.1.hi.d], .bool r.2] : Value)) (show _ = (F_interval_Meet a b) from bif_f h10 rfl))

theorem interval_Inside_ret (a : Iv) (b : Iv) :
    Ret Tryz.prog 21 [AV [pI a.lo.n, pI a.lo.d, pI a.hi.n, pI a.hi.d], AV [pI b.lo.n, pI b.lo.d, pI b.hi.n, pI b.hi.d]] (.bool (F_interval_Inside a b)) := by
 refine ret_of_W (N := 20) Tryz.func21 rfl rfl (by simp) (fun w0 => ?_)
 simp only [initF, Nat.reduceAdd]
 refine Rs fun K J => WL_r rfl (r_boxp rfl rfl (fun b1 hb1 => WL_r rfl (r_boxp rfl rfl (fun b2 hb2 => sE rfl (nl J ?_)))))
 refine W_join [4, 5, 6, 7, 8, 9, 10, 11, 12, 13, 14, 15, 16, 17, 18, 19] (fun g M => (g 4 = .bool ((F_interval_right [a]) && ((F_interval_Has b a.lo) && (F_interval_Has b a.hi)))) ∧ M = [⟨b2, 31, flat [pI b.lo.n, pI b.lo.d, pI b.hi.n, pI b.hi.d]⟩, ⟨b1, 31, flat [pI a.lo.n, pI a.lo.d, pI a.hi.n, pI a.hi.d]⟩]) (fun K1 J1 => ?_) ?_
 ·skip
  refine Rk fun K J => sQ (qL ty_31 rfl m1 rfl) rfl (WL_r rfl (r_bsliceA [[pI a.lo.n, pI a.lo.d, pI a.hi.n, pI a.hi.d]] [pI a.lo.n, pI a.lo.d, pI a.hi.n, pI a.hi.d] us_22 z_31 sz_31 rfl (by decide) rfl rfl ⟨rfl, rfl, rfl, trivial⟩ rfl (fun b7 hb7 => sQ (q_as (v' := .bool (F_interval_right [a])) (q_call en_68 rfl (fun w hw => interval_right_ret _ ([a]) w (SLe.ap hw (SLe.lit (e := elIv) (l := [a]) m0 rfl (Nat.le_of_ble_eq_true rfl) rfl)))) rfl) rfl ?_)))
  rcases bt (F_interval_right [a]) with h8 | h8
  ·skip
   refine sB h8 rfl (sQ (qL ty_31 rfl m1 rfl) rfl (sQ (qF fd_31_0 rfl rfl) rfl (sQ (qL ty_28 rfl m2 rfl) rfl (sQ (q_ret en_17 (interval_Has_ret b a.lo) rfl) rfl (sE rfl ?_)))))
   rcases bt (F_interval_Has b a.lo) with h9 | h9
   ·skip
    refine sB h9 rfl (sQ (qL ty_31 rfl m1 rfl) rfl (sQ (qF fd_31_1 rfl rfl) rfl (sQ (qL ty_28 rfl m2 rfl) rfl (sQ (q_ret en_17 (interval_Has_ret b a.hi) rfl) rfl (sE rfl (sE rfl (nl J ?_)))))))
    refine J1 _ _ (by repeat first | exact .refl | refine .cons rfl ?_) ⟨_, (sd (s0)), ?s4, rfl⟩
    case s4 => exact congrArg Value.bool (and_t h8 (and_t h9 rfl))
   ·skip
    refine sB h9 rfl (WL_n rfl (WL_n rfl (WL_n rfl (WL_n rfl (sE rfl (sE rfl (nl J ?_)))))))
    refine J1 _ _ (by repeat first | exact .refl | refine .cons rfl ?_) ⟨_, (sd (s0)), ?s4, rfl⟩
    case s4 => exact congrArg Value.bool (and_t h8 (and_f h9))
  ·skip
   refine sB h8 rfl (WL_n rfl (WL_n rfl (WL_n rfl (WL_n rfl (sE rfl (sE rfl (WL_n rfl (WL_n rfl (WL_n rfl (WL_n rfl (sE rfl (sE rfl (nl J ?_)))))))))))))
   refine J1 _ _ (by repeat first | exact .refl | refine .cons rfl ?_) ⟨_, (sd (s0)), ?s4, rfl⟩
   case s4 => exact congrArg Value.bool (and_f h8)
 ·skip
  rintro g10 M ⟨hg4, rfl⟩
  simp only [setG, hg4]
  clear hg4
  refine W_ret (ret1 rfl (.inr rfl) rfl ?_)
  exact (by rfl)

theorem interval_Mul_ret (a : Iv) (b : Iv) :
    Ret Tryz.prog 30 [AV [pI a.lo.n, pI a.lo.d, pI a.hi.n, pI a.hi.d], AV [pI b.lo.n, pI b.lo.d, pI b.hi.n, pI b.hi.d]] (AV [pI (((F_interval_Mul a b).lo).n), pI (((F_interval_Mul a b).lo).d), pI (((F_interval_Mul a b).hi).n), pI (((F_interval_Mul a b).hi).d)]) := by
 refine ret_of_W (N := 8) Tryz.func30 rfl rfl (by simp) (fun w0 => ?_)
 simp only [initF, Nat.reduceAdd]
 refine Rs fun K J => WL_r rfl (r_boxp rfl rfl (fun b1 hb1 => WL_r rfl (r_boxp rfl rfl (fun b2 hb2 => sN zp_31 rfl fun b3 hb3 => nl J (Rs fun K J => sQ (qL ty_31 rfl m2 rfl) rfl (sQ (qL ty_31 rfl m1 rfl) rfl (WL_r rfl (r_inl en_73 Tryz.func73 rfl rfl rfl (Nat.le_of_ble_eq_true rfl) ?_))))))))
 refine Rs fun Kd1 Jd1 => WL_r rfl (r_boxp rfl rfl (fun b4 hb4 => WL_r rfl (r_boxp rfl rfl (fun b5 hb5 => sN zp_31 rfl fun b6 hb6 => WL_nil (Jd1 _ _ (Sq fun K1 J1 => Rs fun Kd1 Jd1 => sQ (qL ty_31 rfl m2 rfl) rfl (sQ (qL ty_31 rfl m1 rfl) rfl (WL_r rfl (r_bsliceA [[pI a.lo.n, pI a.lo.d, pI a.hi.n, pI a.hi.d], [pI b.lo.n, pI b.lo.d, pI b.hi.n, pI b.hi.d]] [pI a.lo.n, pI a.lo.d, pI a.hi.n, pI a.hi.d, pI b.lo.n, pI b.lo.d, pI b.hi.n, pI b.hi.d] us_22 z_31 sz_31 rfl (by decide) rfl rfl ⟨rfl, rfl, rfl, rfl, rfl, rfl, trivial⟩ rfl (fun b7 hb7 => sQ (q_as (v' := .bool (F_interval_right [a, b])) (q_call en_68 rfl (fun w hw => interval_right_ret _ ([a, b]) w (SLe.ap hw (SLe.lit (e := elIv) (l := [a, b]) m0 rfl (Nat.le_of_ble_eq_true rfl) rfl)))) rfl) rfl (sE rfl (WL_nil (Jd1 _ _ ?_)))))))))))))
 rcases bt (F_interval_right [a, b]) with h8 | h8
 ·skip
  refine W_f (not_f h8) rfl (W_skip (J1 _ _ (Rs fun Kd1 Jd1 => sN zp_31 rfl fun b9 hb9 => WL_nil (Jd1 _ _ (Rs fun Kd1 Jd1 => sN zp_4 rfl fun b10 hb10 => sS [cb true] ty_4 rfl rfl rfl rfl rfl (.head _) rfl hb10 (WL_nil (Jd1 _ _ (Sq fun K2 J2 => Rs fun Kd1 Jd1 => sQ (qL ty_31 rfl m5 rfl) rfl (sQ (qL ty_31 rfl m4 rfl) rfl (sE rfl (WL_r rfl (r_inl en_115 Tryz.func115 rfl rfl rfl (Nat.le_of_ble_eq_true rfl) ?_))))))))))))
  refine Rs fun Kd2 Jd2 => WL_r rfl (r_boxp rfl rfl (fun b11 hb11 => WL_r rfl (r_boxp rfl rfl (fun b12 hb12 => sX [cfn 36 []] rfl rfl rfl fun b13 hb13 => sE rfl (WL_nil (Jd2 _ _ (Rs fun Kd2 Jd2 => sQ (q_mkfn rfl rfl) rfl (sE rfl (WL_nil (Jd2 _ _ (W_ret (ret1 rfl (.inr rfl) rfl ?_))))))))))))
  refine WL_nil (Jd1 _ _ (W_block (W_range rfl en_145 Tryz.func145 rfl rfl (Nat.le_of_ble_eq_true rfl) (Nat.le_of_ble_eq_true rfl) (fun ly3 qy3 hzy3 hpy3 hay3 hby3 hty3 => ?_))))
  refine Rk fun Kd1 Jd1 => sE rfl (sQ (qC ty_52 rfl m0 rfl) rfl (sQ (qF fd_31_0 rfl rfl) rfl (sQ (qL ty_28 rfl m2 rfl) rfl (sQ (qF fd_31_0 rfl rfl) rfl (sQ (qL ty_28 rfl m1 rfl) rfl (sQ (q_retv en_36 rfl (ratio_Mul_ret a.lo b.lo) rfl) rfl (WL_y rfl (s_yield (ps := [20]) rfl rfl rfl hpy3 hay3 hby3 hty3 rfl rfl hzy3 ?_))))))))
  refine Rk fun Kd2 Jd2 => sN zp_28 rfl fun b15 hb15 => sS [pI ((F_ratio_Mul a.lo b.lo).n), pI ((F_ratio_Mul a.lo b.lo).d)] ty_28 rfl rfl rfl rfl rfl (.head _) rfl hb15 (WL_nil (Jd2 _ _ (thenK_n ?_)))
  refine W_block (Sq fun K4 J4 => Rs fun Kd2 Jd2 => sQ (qC ty_4 rfl m4 rfl) rfl (WL_nil (Jd2 _ _ (W_true rfl (Rk fun Kd2 Jd2 => sQ (qL ty_28 rfl m0 rfl) rfl ?_)))))
  obtain ⟨r16, hr16⟩ := nm ((F_interval_Of (F_ratio_Mul a.lo b.lo)) : Iv)
  refine sC (AV [pI r16.lo.n, pI r16.lo.d, pI r16.hi.n, pI r16.hi.d]) en_13 (interval_Of_ret (F_ratio_Mul a.lo b.lo)) rfl rfl (by rw [hr16]; first | done | rfl) (sS [pI r16.lo.n, pI r16.lo.d, pI r16.hi.n, pI r16.hi.d] ty_31 rfl rfl rfl rfl rfl (.tail _ (.tail _ (.tail _ (.tail _ (.tail _ (.head _)))))) rfl hb9 (sS [cb false] ty_4 rfl rfl rfl rfl rfl (.tail _ (.tail _ (.tail _ (.tail _ (.head _))))) rfl hb10 (WL_nil (Jd2 _ _ (J4 _ _ (dr (sk (sk (sk (sk (sk (sd (sk (sk (sk (sk (sk (sk (sk (s0)))))))))))))) [0,4,8,13,16,21] [5] mix (by kernel_rfl) (fun Kd2 Jd2 => pQ rfl (qL ty_31 rfl m5 rfl) (pQ rfl (qL ty_28 rfl m0 rfl) ?_))))))))
  obtain ⟨r17, hr17⟩ := nm ((F_interval_Of (F_ratio_Mul a.lo b.lo)) : Iv)
  refine pC (AV [pI r17.lo.n, pI r17.lo.d, pI r17.hi.n, pI r17.hi.d]) en_13 (interval_Of_ret (F_ratio_Mul a.lo b.lo)) rfl rfl (by rw [hr17]; first | done | rfl) (PL_o rfl rfl (r_bsliceA [[pI r16.lo.n, pI r16.lo.d, pI r16.hi.n, pI r16.hi.d], [pI r17.lo.n, pI r17.lo.d, pI r17.hi.n, pI r17.hi.d]] [pI r16.lo.n, pI r16.lo.d, pI r16.hi.n, pI r16.hi.d, pI r17.lo.n, pI r17.lo.d, pI r17.hi.n, pI r17.hi.d] us_22 z_31 sz_31 rfl (by decide) rfl rfl ⟨rfl, rfl, rfl, rfl, rfl, rfl, trivial⟩ rfl (fun b18 hb18 => ⟨(fun _ => sd s0), (sd (sk (sk (sk (sk (sk (sd s0))))))), ?_⟩)))
  obtain ⟨r19, hr19⟩ := nm ((F_interval_Hull [r16, r17]) : Iv)
  refine pQ rfl (q_as (v' := AV [pI r19.lo.n, pI r19.lo.d, pI r19.hi.n, pI r19.hi.d]) (q_call en_25 rfl (fun w hw => interval_Hull_ret _ ([r16, r17]) w (SLe.ap hw (SLe.lit (e := elIv) (l := [r16, r17]) m0 rfl (Nat.le_of_ble_eq_true rfl) rfl)))) (by rw [hr19]; first | done | rfl)) (oS [pI r19.lo.n, pI r19.lo.d, pI r19.hi.n, pI r19.hi.d] ty_31 rfl rfl rfl rfl rfl rfl (.tail _ (.tail _ (.tail _ (.tail _ (.tail _ (.tail _ (.head _))))))) rfl hb9 rfl (sd (sk (sk (sk (sk (sk (sd s0))))))) (PL_fin (Jd2 _ _ (blockK_n (round_n ?_)))))
  refine sE rfl (sE rfl (sQ (qC ty_52 rfl m2 rfl) rfl (sQ (qF fd_31_0 rfl rfl) rfl (sQ (qL ty_28 rfl m4 rfl) rfl (sQ (qF fd_31_1 rfl rfl) rfl (sQ (qL ty_28 rfl m3 rfl) rfl (sQ (q_retv en_36 rfl (ratio_Mul_ret a.lo b.hi) rfl) rfl (WL_y rfl (s_yield (ps := [20]) rfl rfl rfl hpy3 hay3 hby3 hty3 rfl rfl hzy3 ?_)))))))))
  refine Rk fun Kd2 Jd2 => sN zp_28 rfl fun b20 hb20 => sS [pI ((F_ratio_Mul a.lo b.hi).n), pI ((F_ratio_Mul a.lo b.hi).d)] ty_28 rfl rfl rfl rfl rfl (.head _) rfl hb20 (WL_nil (Jd2 _ _ (thenK_n ?_)))
  refine W_block (Sq fun K5 J5 => Rs fun Kd2 Jd2 => sQ (qC ty_4 rfl m6 rfl) rfl (WL_nil (Jd2 _ _ (W_false rfl (W_skip (J5 _ _ (dr (sk (sk (sk (sk (sk (sk (sk (sd (sk (sk (sk (sk (sk (sk (sk (s0)))))))))))))))) [0,4,8,13,16,21] [5] mix (by kernel_rfl) (fun Kd2 Jd2 => pQ rfl (qL ty_31 rfl m7 rfl) (pQ rfl (qL ty_28 rfl m0 rfl) ?_)))))))))
  obtain ⟨r21, hr21⟩ := nm ((F_interval_Of (F_ratio_Mul a.lo b.hi)) : Iv)
  refine pC (AV [pI r21.lo.n, pI r21.lo.d, pI r21.hi.n, pI r21.hi.d]) en_13 (interval_Of_ret (F_ratio_Mul a.lo b.hi)) rfl rfl (by rw [hr21]; first | done | rfl) (PL_o rfl rfl (r_bsliceA [[pI r19.lo.n, pI r19.lo.d, pI r19.hi.n, pI r19.hi.d], [pI r21.lo.n, pI r21.lo.d, pI r21.hi.n, pI r21.hi.d]] [pI r19.lo.n, pI r19.lo.d, pI r19.hi.n, pI r19.hi.d, pI r21.lo.n, pI r21.lo.d, pI r21.hi.n, pI r21.hi.d] us_22 z_31 sz_31 rfl (by decide) rfl rfl ⟨rfl, rfl, rfl, rfl, rfl, rfl, trivial⟩ rfl (fun b22 hb22 => ⟨(fun _ => sd s0), (sd (sk (sk (sk (sk (sk (sk (sk (sd s0))))))))), ?_⟩)))
  obtain ⟨r23, hr23⟩ := nm ((F_interval_Hull [r19, r21]) : Iv)
  refine pQ rfl (q_as (v' := AV [pI r23.lo.n, pI r23.lo.d, pI r23.hi.n, pI r23.hi.d]) (q_call en_25 rfl (fun w hw => interval_Hull_ret _ ([r19, r21]) w (SLe.ap hw (SLe.lit (e := elIv) (l := [r19, r21]) m0 rfl (Nat.le_of_ble_eq_true rfl) rfl)))) (by rw [hr23]; first | done | rfl)) (oS [pI r23.lo.n, pI r23.lo.d, pI r23.hi.n, pI r23.hi.d] ty_31 rfl rfl rfl rfl rfl rfl (.tail _ (.tail _ (.tail _ (.tail _ (.tail _ (.tail _ (.tail _ (.tail _ (.head _))))))))) rfl hb9 rfl (sd (sk (sk (sk (sk (sk (sk (sk (sd s0))))))))) (PL_fin (Jd2 _ _ (blockK_n (round_n ?_)))))
  refine sE rfl (sE rfl (sE rfl (sQ (qC ty_52 rfl m4 rfl) rfl (sQ (qF fd_31_1 rfl rfl) rfl (sQ (qL ty_28 rfl m6 rfl) rfl (sQ (qF fd_31_0 rfl rfl) rfl (sQ (qL ty_28 rfl m5 rfl) rfl (sQ (q_retv en_36 rfl (ratio_Mul_ret a.hi b.lo) rfl) rfl (WL_y rfl (s_yield (ps := [20]) rfl rfl rfl hpy3 hay3 hby3 hty3 rfl rfl hzy3 ?_))))))))))
  refine Rk fun Kd2 Jd2 => sN zp_28 rfl fun b24 hb24 => sS [pI ((F_ratio_Mul a.hi b.lo).n), pI ((F_ratio_Mul a.hi b.lo).d)] ty_28 rfl rfl rfl rfl rfl (.head _) rfl hb24 (WL_nil (Jd2 _ _ (thenK_n ?_)))
  refine W_block (Sq fun K6 J6 => Rs fun Kd2 Jd2 => sQ (qC ty_4 rfl m8 rfl) rfl (WL_nil (Jd2 _ _ (W_false rfl (W_skip (J6 _ _ (dr (sk (sk (sk (sk (sk (sk (sk (sk (sk (sd (sk (sk (sk (sk (sk (sk (sk (s0)))))))))))))))))) [0,4,8,13,16,21] [5] mix (by kernel_rfl) (fun Kd2 Jd2 => pQ rfl (qL ty_31 rfl m9 rfl) (pQ rfl (qL ty_28 rfl m0 rfl) ?_)))))))))
  obtain ⟨r25, hr25⟩ := nm ((F_interval_Of (F_ratio_Mul a.hi b.lo)) : Iv)
  refine pC (AV [pI r25.lo.n, pI r25.lo.d, pI r25.hi.n, pI r25.hi.d]) en_13 (interval_Of_ret (F_ratio_Mul a.hi b.lo)) rfl rfl (by rw [hr25]; first | done | rfl) (PL_o rfl rfl (r_bsliceA [[pI r23.lo.n, pI r23.lo.d, pI r23.hi.n, pI r23.hi.d], [pI r25.lo.n, pI r25.lo.d, pI r25.hi.n, pI r25.hi.d]] [pI r23.lo.n, pI r23.lo.d, pI r23.hi.n, pI r23.hi.d, pI r25.lo.n, pI r25.lo.d, pI r25.hi.n, pI r25.hi.d] us_22 z_31 sz_31 rfl (by decide) rfl rfl ⟨rfl, rfl, rfl, rfl, rfl, rfl, trivial⟩ rfl (fun b26 hb26 => ⟨(fun _ => sd s0), (sd (sk (sk (sk (sk (sk (sk (sk (sk (sk (sd s0))))))))))), ?_⟩)))
  obtain ⟨r27, hr27⟩ := nm ((F_interval_Hull [r23, r25]) : Iv)
  refine pQ rfl (q_as (v' := AV [pI r27.lo.n, pI r27.lo.d, pI r27.hi.n, pI r27.hi.d]) (q_call en_25 rfl (fun w hw => interval_Hull_ret _ ([r23, r25]) w (SLe.ap hw (SLe.lit (e := elIv) (l := [r23, r25]) m0 rfl (Nat.le_of_ble_eq_true rfl) rfl)))) (by rw [hr27]; first | done | rfl)) (oS [pI r27.lo.n, pI r27.lo.d, pI r27.hi.n, pI r27.hi.d] ty_31 rfl rfl rfl rfl rfl rfl (.tail _ (.tail _ (.tail _ (.tail _ (.tail _ (.tail _ (.tail _ (.tail _ (.tail _ (.tail _ (.head _))))))))))) rfl hb9 rfl (sd (sk (sk (sk (sk (sk (sk (sk (sk (sk (sd s0))))))))))) (PL_fin (Jd2 _ _ (blockK_n (round_n ?_)))))
  refine sE rfl (sE rfl (sE rfl (sQ (qC ty_52 rfl m6 rfl) rfl (sQ (qF fd_31_1 rfl rfl) rfl (sQ (qL ty_28 rfl m8 rfl) rfl (sQ (qF fd_31_1 rfl rfl) rfl (sQ (qL ty_28 rfl m7 rfl) rfl (sQ (q_retv en_36 rfl (ratio_Mul_ret a.hi b.hi) rfl) rfl (WL_y rfl (s_yield (ps := [20]) rfl rfl rfl hpy3 hay3 hby3 hty3 rfl rfl hzy3 ?_))))))))))
  refine Rk fun Kd2 Jd2 => sN zp_28 rfl fun b28 hb28 => sS [pI ((F_ratio_Mul a.hi b.hi).n), pI ((F_ratio_Mul a.hi b.hi).d)] ty_28 rfl rfl rfl rfl rfl (.head _) rfl hb28 (WL_nil (Jd2 _ _ (thenK_n ?_)))
  refine W_block (Sq fun K7 J7 => Rs fun Kd2 Jd2 => sQ (qC ty_4 rfl m10 rfl) rfl (WL_nil (Jd2 _ _ (W_false rfl (W_skip (J7 _ _ (dr (sk (sk (sk (sk (sk (sk (sk (sk (sk (sk (sk (sd (sk (sk (sk (sk (sk (sk (sk (s0)))))))))))))))))))) [0,4,8,13,16,21] [5] mix (by kernel_rfl) (fun Kd2 Jd2 => pQ rfl (qL ty_31 rfl m11 rfl) (pQ rfl (qL ty_28 rfl m0 rfl) ?_)))))))))
  obtain ⟨r29, hr29⟩ := nm ((F_interval_Of (F_ratio_Mul a.hi b.hi)) : Iv)
  refine pC (AV [pI r29.lo.n, pI r29.lo.d, pI r29.hi.n, pI r29.hi.d]) en_13 (interval_Of_ret (F_ratio_Mul a.hi b.hi)) rfl rfl (by rw [hr29]; first | done | rfl) (PL_o rfl rfl (r_bsliceA [[pI r27.lo.n, pI r27.lo.d, pI r27.hi.n, pI r27.hi.d], [pI r29.lo.n, pI r29.lo.d, pI r29.hi.n, pI r29.hi.d]] [pI r27.lo.n, pI r27.lo.d, pI r27.hi.n, pI r27.hi.d, pI r29.lo.n, pI r29.lo.d, pI r29.hi.n, pI r29.hi.d] us_22 z_31 sz_31 rfl (by decide) rfl rfl ⟨rfl, rfl, rfl, rfl, rfl, rfl, trivial⟩ rfl (fun b30 hb30 => ⟨(fun _ => sd s0), (sd (sk (sk (sk (sk (sk (sk (sk (sk (sk (sk (sk (sd s0))))))))))))), ?_⟩)))
  obtain ⟨r31, hr31⟩ := nm ((F_interval_Hull [r27, r29]) : Iv)
  refine pQ rfl (q_as (v' := AV [pI r31.lo.n, pI r31.lo.d, pI r31.hi.n, pI r31.hi.d]) (q_call en_25 rfl (fun w hw => interval_Hull_ret _ ([r27, r29]) w (SLe.ap hw (SLe.lit (e := elIv) (l := [r27, r29]) m0 rfl (Nat.le_of_ble_eq_true rfl) rfl)))) (by rw [hr31]; first | done | rfl)) (oS [pI r31.lo.n, pI r31.lo.d, pI r31.hi.n, pI r31.hi.d] ty_31 rfl rfl rfl rfl rfl rfl (.tail _ (.tail _ (.tail _ (.tail _ (.tail _ (.tail _ (.tail _ (.tail _ (.tail _ (.tail _ (.tail _ (.tail _ (.head _))))))))))))) rfl hb9 rfl (sd (sk (sk (sk (sk (sk (sk (sk (sk (sk (sk (sk (sd s0))))))))))))) (PL_fin (Jd2 _ _ (blockK_n (round_n ?_)))))
  refine sE rfl (WL_nil (Jd1 _ _ ((iter_n rfl (.inl rfl) rfl ?_))))
  refine blockK_n (J2 _ _ (Rs fun Kd1 Jd1 => sQ (qL ty_31 rfl m12 rfl) rfl (sS [pI r31.lo.n, pI r31.lo.d, pI r31.hi.n, pI r31.hi.d] ty_31 rfl rfl rfl rfl rfl (.tail _ (.tail _ (.tail _ (.tail _ (.tail _ (.tail _ (.tail _ (.tail _ (.tail _ (.tail _ (.tail _ (.tail _ (.tail _ (.tail _ (.head _))))))))))))))) rfl hb6 (WL_nil (Jd1 _ _ (W_ret (ret1 rfl (.inr rfl) (resP rfl (List.mem_cons_of_mem _ (List.mem_cons_of_mem _ (List.mem_cons_of_mem _ (List.mem_cons_of_mem _ (List.mem_cons_of_mem _ (List.mem_cons_of_mem _ (List.mem_cons_of_mem _ (List.mem_cons_of_mem _ (List.mem_cons_of_mem _ (List.mem_cons_of_mem _ (List.mem_cons_of_mem _ (List.mem_cons_of_mem _ (List.mem_cons_of_mem _ (List.mem_cons_of_mem _ (List.mem_cons_self))))))))))))))) ty_31 rfl) ?_)))))))
  refine sS [pI r31.lo.n, pI r31.lo.d, pI r31.hi.n, pI r31.hi.d] ty_31 rfl rfl rfl rfl rfl (.tail _ (.tail _ (.tail _ (.tail _ (.tail _ (.tail _ (.tail _ (.tail _ (.tail _ (.tail _ (.tail _ (.tail _ (.tail _ (.tail _ (.tail _ (.tail _ (.tail _ (.head _)))))))))))))))))) rfl hb3 (nl J (W_ret (ret1 rfl (.inr rfl) (resP rfl (List.mem_cons_of_mem _ (List.mem_cons_of_mem _ (List.mem_cons_of_mem _ (List.mem_cons_of_mem _ (List.mem_cons_of_mem _ (List.mem_cons_of_mem _ (List.mem_cons_of_mem _ (List.mem_cons_of_mem _ (List.mem_cons_of_mem _ (List.mem_cons_of_mem _ (List.mem_cons_of_mem _ (List.mem_cons_of_mem _ (List.mem_cons_of_mem _ (List.mem_cons_of_mem _ (List.mem_cons_of_mem _ (List.mem_cons_of_mem _ (List.mem_cons_of_mem _ (List.mem_cons_self)))))))))))))))))) ty_31 rfl) ?_)))
  exact (by subst hr31; subst hr29; subst hr27; subst hr25; subst hr23; subst hr21; subst hr19; subst hr17; subst hr16; exact congrArg (fun r : Iv => (AV [pI r.lo.n, pI r.lo.d, pI r.hi.n, pI r.hi.d] : Value)) (show _ = (F_interval_Mul a b) from bif_t h8 rfl))
 ·skip
  refine W_t (not_t h8) rfl (Rs fun Kd1 Jd1 => sQ (q_ret en_63 interval_Bad_ret  rfl) rfl (sS [pI F_interval_Bad.lo.n, pI F_interval_Bad.lo.d, pI F_interval_Bad.hi.n, pI F_interval_Bad.hi.d] ty_31 rfl rfl rfl rfl rfl (.tail _ (.head _)) rfl hb6 (WL_nil (Jd1 _ _ (W_ret (thenK_r (ret1 rfl (.inr rfl) (resP rfl m1 ty_31 rfl) ?_)))))))
  refine sS [pI F_interval_Bad.lo.n, pI F_interval_Bad.lo.d, pI F_interval_Bad.hi.n, pI F_interval_Bad.hi.d] ty_31 rfl rfl rfl rfl rfl (.tail _ (.tail _ (.tail _ (.tail _ (.head _))))) rfl hb3 (nl J (W_ret (ret1 rfl (.inr rfl) (resP rfl m4 ty_31 rfl) ?_)))
  exact (by exact congrArg (fun r : Iv => (AV [pI r.lo.n, pI r.lo.d, pI r.hi.n, pI r.hi.d] : Value)) (show _ = (F_interval_Mul a b) from bif_f h8 rfl))

theorem interval_Div_ret (a : Iv) (b : Iv) :
    Ret Tryz.prog 35 [AV [pI a.lo.n, pI a.lo.d, pI a.hi.n, pI a.hi.d], AV [pI b.lo.n, pI b.lo.d, pI b.hi.n, pI b.hi.d]] (AV [pI (((F_interval_Div a b).lo).n), pI (((F_interval_Div a b).lo).d), pI (((F_interval_Div a b).hi).n), pI (((F_interval_Div a b).hi).d)]) := by
 refine ret_of_W (N := 12) Tryz.func35 rfl rfl (by simp) (fun w0 => ?_)
 simp only [initF, Nat.reduceAdd]
 refine Rs fun K J => WL_r rfl (r_boxp rfl rfl (fun b1 hb1 => WL_r rfl (r_boxp rfl rfl (fun b2 hb2 => sN zp_31 rfl fun b3 hb3 => nl J (Sq fun K1 J1 => ds (sk (sk (sk (s0)))) [0,4,8] [] mix (by kernel_rfl) (fun K J => pQ rfl (qL ty_31 rfl m1 rfl) (pQ rfl (q_ret en_38 (ratio_Of_ret (wl 0)) rfl) ?_)))))))
 refine pQ rfl (q_ret en_17 (interval_Has_ret b (F_ratio_Of (wl 0))) rfl) ?_
 refine fl J ?_
 rcases bt (F_interval_Has b (F_ratio_Of (wl 0))) with h4 | h4
 ·skip
  refine W_t h4 rfl (Rs fun K J => sQ (q_ret en_63 interval_Bad_ret  rfl) rfl (sS [pI F_interval_Bad.lo.n, pI F_interval_Bad.lo.d, pI F_interval_Bad.hi.n, pI F_interval_Bad.hi.d] ty_31 rfl rfl rfl rfl rfl (.head _) rfl hb3 (nl J (W_ret (thenK_r (ret1 rfl (.inr rfl) (resP rfl m0 ty_31 rfl) ?_))))))
  exact (by exact congrArg (fun r : Iv => (AV [pI r.lo.n, pI r.lo.d, pI r.hi.n, pI r.hi.d] : Value)) (show _ = (F_interval_Div a b) from bif_t h4 rfl))
 ·skip
  refine W_f h4 rfl (W_skip (J1 _ _ (Rs fun K J => sQ (qL ty_31 rfl m2 rfl) rfl (sQ (qL ty_31 rfl m1 rfl) rfl (WL_r rfl (r_inl en_73 Tryz.func73 rfl rfl rfl (Nat.le_of_ble_eq_true rfl) ?_))))))
  refine Rs fun Kd1 Jd1 => WL_r rfl (r_boxp rfl rfl (fun b5 hb5 => WL_r rfl (r_boxp rfl rfl (fun b6 hb6 => sN zp_31 rfl fun b7 hb7 => WL_nil (Jd1 _ _ (Sq fun K2 J2 => Rs fun Kd1 Jd1 => sQ (qL ty_31 rfl m2 rfl) rfl (sQ (qL ty_31 rfl m1 rfl) rfl (WL_r rfl (r_bsliceA [[pI a.lo.n, pI a.lo.d, pI a.hi.n, pI a.hi.d], [pI b.lo.n, pI b.lo.d, pI b.hi.n, pI b.hi.d]] [pI a.lo.n, pI a.lo.d, pI a.hi.n, pI a.hi.d, pI b.lo.n, pI b.lo.d, pI b.hi.n, pI b.hi.d] us_22 z_31 sz_31 rfl (by decide) rfl rfl ⟨rfl, rfl, rfl, rfl, rfl, rfl, trivial⟩ rfl (fun b8 hb8 => sQ (q_as (v' := .bool (F_interval_right [a, b])) (q_call en_68 rfl (fun w hw => interval_right_ret _ ([a, b]) w (SLe.ap hw (SLe.lit (e := elIv) (l := [a, b]) m0 rfl (Nat.le_of_ble_eq_true rfl) rfl)))) rfl) rfl (sE rfl (WL_nil (Jd1 _ _ ?_)))))))))))))
  rcases bt (F_interval_right [a, b]) with h9 | h9
  ·skip
   refine W_f (not_f h9) rfl (W_skip (J2 _ _ (Rs fun Kd1 Jd1 => sN zp_31 rfl fun b10 hb10 => WL_nil (Jd1 _ _ (Rs fun Kd1 Jd1 => sN zp_4 rfl fun b11 hb11 => sS [cb true] ty_4 rfl rfl rfl rfl rfl (.head _) rfl hb11 (WL_nil (Jd1 _ _ (Sq fun K3 J3 => Rs fun Kd1 Jd1 => sQ (qL ty_31 rfl m5 rfl) rfl (sQ (qL ty_31 rfl m4 rfl) rfl (sE rfl (WL_r rfl (r_inl en_115 Tryz.func115 rfl rfl rfl (Nat.le_of_ble_eq_true rfl) ?_))))))))))))
   refine Rs fun Kd2 Jd2 => WL_r rfl (r_boxp rfl rfl (fun b12 hb12 => WL_r rfl (r_boxp rfl rfl (fun b13 hb13 => sX [cfn 39 []] rfl rfl rfl fun b14 hb14 => sE rfl (WL_nil (Jd2 _ _ (Rs fun Kd2 Jd2 => sQ (q_mkfn rfl rfl) rfl (sE rfl (WL_nil (Jd2 _ _ (W_ret (ret1 rfl (.inr rfl) rfl ?_))))))))))))
   refine WL_nil (Jd1 _ _ (W_block (W_range rfl en_145 Tryz.func145 rfl rfl (Nat.le_of_ble_eq_true rfl) (Nat.le_of_ble_eq_true rfl) (fun ly4 qy4 hzy4 hpy4 hay4 hby4 hty4 => ?_))))
   refine Rk fun Kd1 Jd1 => sE rfl (sQ (qC ty_52 rfl m0 rfl) rfl (sQ (qF fd_31_0 rfl rfl) rfl (sQ (qL ty_28 rfl m2 rfl) rfl (sQ (qF fd_31_0 rfl rfl) rfl (sQ (qL ty_28 rfl m1 rfl) rfl (sQ (q_retv en_39 rfl (ratio_Div_ret a.lo b.lo) rfl) rfl (WL_y rfl (s_yield (ps := [20]) rfl rfl rfl hpy4 hay4 hby4 hty4 rfl rfl hzy4 ?_))))))))
   refine Rk fun Kd2 Jd2 => sN zp_28 rfl fun b16 hb16 => sS [pI ((F_ratio_Div a.lo b.lo).n), pI ((F_ratio_Div a.lo b.lo).d)] ty_28 rfl rfl rfl rfl rfl (.head _) rfl hb16 (WL_nil (Jd2 _ _ (thenK_n ?_)))
   refine W_block (Sq fun K5 J5 => Rs fun Kd2 Jd2 => sQ (qC ty_4 rfl m4 rfl) rfl (WL_nil (Jd2 _ _ (W_true rfl (Rk fun Kd2 Jd2 => sQ (qL ty_28 rfl m0 rfl) rfl ?_)))))
   obtain ⟨r17, hr17⟩ := nm ((F_interval_Of (F_ratio_Div a.lo b.lo)) : Iv)
   refine sC (AV [pI r17.lo.n, pI r17.lo.d, pI r17.hi.n, pI r17.hi.d]) en_13 (interval_Of_ret (F_ratio_Div a.lo b.lo)) rfl rfl (by rw [hr17]; first | done | rfl) (sS [pI r17.lo.n, pI r17.lo.d, pI r17.hi.n, pI r17.hi.d] ty_31 rfl rfl rfl rfl rfl (.tail _ (.tail _ (.tail _ (.tail _ (.tail _ (.head _)))))) rfl hb10 (sS [cb false] ty_4 rfl rfl rfl rfl rfl (.tail _ (.tail _ (.tail _ (.tail _ (.head _))))) rfl hb11 (WL_nil (Jd2 _ _ (J5 _ _ (dr (sk (sk (sk (sk (sk (sd (sk (sk (sk (sk (sk (sk (sk (s0)))))))))))))) [0,4,8,13,16,21] [5] mix (by kernel_rfl) (fun Kd2 Jd2 => pQ rfl (qL ty_31 rfl m5 rfl) (pQ rfl (qL ty_28 rfl m0 rfl) ?_))))))))
   obtain ⟨r18, hr18⟩ := nm ((F_interval_Of (F_ratio_Div a.lo b.lo)) : Iv)
   refine pC (AV [pI r18.lo.n, pI r18.lo.d, pI r18.hi.n, pI r18.hi.d]) en_13 (interval_Of_ret (F_ratio_Div a.lo b.lo)) rfl rfl (by rw [hr18]; first | done | rfl) (PL_o rfl rfl (r_bsliceA [[pI r17.lo.n, pI r17.lo.d, pI r17.hi.n, pI r17.hi.d], [pI r18.lo.n, pI r18.lo.d, pI r18.hi.n, pI r18.hi.d]] [pI r17.lo.n, pI r17.lo.d, pI r17.hi.n, pI r17.hi.d, pI r18.lo.n, pI r18.lo.d, pI r18.hi.n, pI r18.hi.d] us_22 z_31 sz_31 rfl (by decide) rfl rfl ⟨rfl, rfl, rfl, rfl, rfl, rfl, trivial⟩ rfl (fun b19 hb19 => ⟨(fun _ => sd s0), (sd (sk (sk (sk (sk (sk (sd s0))))))), ?_⟩)))
   obtain ⟨r20, hr20⟩ := nm ((F_interval_Hull [r17, r18]) : Iv)
   refine pQ rfl (q_as (v' := AV [pI r20.lo.n, pI r20.lo.d, pI r20.hi.n, pI r20.hi.d]) (q_call en_25 rfl (fun w hw => interval_Hull_ret _ ([r17, r18]) w (SLe.ap hw (SLe.lit (e := elIv) (l := [r17, r18]) m0 rfl (Nat.le_of_ble_eq_true rfl) rfl)))) (by rw [hr20]; first | done | rfl)) (oS [pI r20.lo.n, pI r20.lo.d, pI r20.hi.n, pI r20.hi.d] ty_31 rfl rfl rfl rfl rfl rfl (.tail _ (.tail _ (.tail _ (.tail _ (.tail _ (.tail _ (.head _))))))) rfl hb10 rfl (sd (sk (sk (sk (sk (sk (sd s0))))))) (PL_fin (Jd2 _ _ (blockK_n (round_n ?_)))))
   refine sE rfl (sE rfl (sQ (qC ty_52 rfl m2 rfl) rfl (sQ (qF fd_31_0 rfl rfl) rfl (sQ (qL ty_28 rfl m4 rfl) rfl (sQ (qF fd_31_1 rfl rfl) rfl (sQ (qL ty_28 rfl m3 rfl) rfl (sQ (q_retv en_39 rfl (ratio_Div_ret a.lo b.hi) rfl) rfl (WL_y rfl (s_yield (ps := [20]) rfl rfl rfl hpy4 hay4 hby4 hty4 rfl rfl hzy4 ?_)))))))))
   refine Rk fun Kd2 Jd2 => sN zp_28 rfl fun b21 hb21 => sS [pI ((F_ratio_Div a.lo b.hi).n), pI ((F_ratio_Div a.lo b.hi).d)] ty_28 rfl rfl rfl rfl rfl (.head _) rfl hb21 (WL_nil (Jd2 _ _ (thenK_n ?_)))
   refine W_block (Sq fun K6 J6 => Rs fun Kd2 Jd2 => sQ (qC ty_4 rfl m6 rfl) rfl (WL_nil (Jd2 _ _ (W_false rfl (W_skip (J6 _ _ (dr (sk (sk (sk (sk (sk (sk (sk (sd (sk (sk (sk (sk (sk (sk (sk (s0)))))))))))))))) [0,4,8,13,16,21] [5] mix (by kernel_rfl) (fun Kd2 Jd2 => pQ rfl (qL ty_31 rfl m7 rfl) (pQ rfl (qL ty_28 rfl m0 rfl) ?_)))))))))
   obtain ⟨r22, hr22⟩ := nm ((F_interval_Of (F_ratio_Div a.lo b.hi)) : Iv)
   refine pC (AV [pI r22.lo.n, pI r22.lo.d, pI r22.hi.n, pI r22.hi.d]) en_13 (interval_Of_ret (F_ratio_Div a.lo b.hi)) rfl rfl (by rw [hr22]; first | done | rfl) (PL_o rfl rfl (r_bsliceA [[pI r20.lo.n, pI r20.lo.d, pI r20.hi.n, pI r20.hi.d], [pI r22.lo.n, pI r22.lo.d, pI r22.hi.n, pI r22.hi.d]] [pI r20.lo.n, pI r20.lo.d, pI r20.hi.n, pI r20.hi.d, pI r22.lo.n, pI r22.lo.d, pI r22.hi.n, pI r22.hi.d] us_22 z_31 sz_31 rfl (by decide) rfl rfl ⟨rfl, rfl, rfl, rfl, rfl, rfl, trivial⟩ rfl (fun b23 hb23 => ⟨(fun _ => sd s0), (sd (sk (sk (sk (sk (sk (sk (sk (sd s0))))))))), ?_⟩)))
   obtain ⟨r24, hr24⟩ := nm ((F_interval_Hull [r20, r22]) : Iv)
   refine pQ rfl (q_as (v' := AV [pI r24.lo.n, pI r24.lo.d, pI r24.hi.n, pI r24.hi.d]) (q_call en_25 rfl (fun w hw => interval_Hull_ret _ ([r20, r22]) w (SLe.ap hw (SLe.lit (e := elIv) (l := [r20, r22]) m0 rfl (Nat.le_of_ble_eq_true rfl) rfl)))) (by rw [hr24]; first | done | rfl)) (oS [pI r24.lo.n, pI r24.lo.d, pI r24.hi.n, pI r24.hi.d] ty_31 rfl rfl rfl rfl rfl rfl (.tail _ (.tail _ (.tail _ (.tail _ (.tail _ (.tail _ (.tail _ (.tail _ (.head _))))))))) rfl hb10 rfl (sd (sk (sk (sk (sk (sk (sk (sk (sd s0))))))))) (PL_fin (Jd2 _ _ (blockK_n (round_n ?_)))))
   refine sE rfl (sE rfl (sE rfl (sQ (qC ty_52 rfl m4 rfl) rfl (sQ (qF fd_31_1 rfl rfl) rfl (sQ (qL ty_28 rfl m6 rfl) rfl (sQ (qF fd_31_0 rfl rfl) rfl (sQ (qL ty_28 rfl m5 rfl) rfl (sQ (q_retv en_39 rfl (ratio_Div_ret a.hi b.lo) rfl) rfl (WL_y rfl (s_yield (ps := [20]) rfl rfl rfl hpy4 hay4 hby4 hty4 rfl rfl hzy4 ?_))))))))))
   refine Rk fun Kd2 Jd2 => sN zp_28 rfl fun b25 hb25 => sS [pI ((F_ratio_Div a.hi b.lo).n), pI ((F_ratio_Div a.hi b.lo).d)] ty_28 rfl rfl rfl rfl rfl (.head _) rfl hb25 (WL_nil (Jd2 _ _ (thenK_n ?_)))
   refine W_block (Sq fun K7 J7 => Rs fun Kd2 Jd2 => sQ (qC ty_4 rfl m8 rfl) rfl (WL_nil (Jd2 _ _ (W_false rfl (W_skip (J7 _ _ (dr (sk (sk (sk (sk (sk (sk (sk (sk (sk (sd (sk (sk (sk (sk (sk (sk (sk (s0)))))))))))))))))) [0,4,8,13,16,21] [5] mix (by kernel_rfl) (fun Kd2 Jd2 => pQ rfl (qL ty_31 rfl m9 rfl) (pQ rfl (qL ty_28 rfl m0 rfl) ?_)))))))))
   obtain ⟨r26, hr26⟩ := nm ((F_interval_Of (F_ratio_Div a.hi b.lo)) : Iv)
   refine pC (AV [pI r26.lo.n, pI r26.lo.d, pI r26.hi.n, pI r26.hi.d]) en_13 (interval_Of_ret (F_ratio_Div a.hi b.lo)) rfl rfl (by rw [hr26]; first | done | rfl) (PL_o rfl rfl (r_bsliceA [[pI r24.lo.n, pI r24.lo.d, pI r24.hi.n, pI r24.hi.d], [pI r26.lo.n, pI r26.lo.d, pI r26.hi.n, pI r26.hi.d]] [pI r24.lo.n, pI r24.lo.d, pI r24.hi.n, pI r24.hi.d, pI r26.lo.n, pI r26.lo.d, pI r26.hi.n, pI r26.hi.d] us_22 z_31 sz_31 rfl (by decide) rfl rfl ⟨rfl, rfl, rfl, rfl, rfl, rfl, trivial⟩ rfl (fun b27 hb27 => ⟨(fun _ => sd s0), (sd (sk (sk (sk (sk (sk (sk (sk (sk (sk (sd s0))))))))))), ?_⟩)))
   obtain ⟨r28, hr28⟩ := nm ((F_interval_Hull [r24, r26]) : Iv)
   refine pQ rfl (q_as (v' := AV [pI r28.lo.n, pI r28.lo.d, pI r28.hi.n, pI r28.hi.d]) (q_call en_25 rfl (fun w hw => interval_Hull_ret _ ([r24, r26]) w (SLe.ap hw (SLe.lit (e := elIv) (l := [r24, r26]) m0 rfl (Nat.le_of_ble_eq_true rfl) rfl)))) (by rw [hr28]; first | done | rfl)) (oS [pI r28.lo.n, pI r28.lo.d, pI r28.hi.n, pI r28.hi.d] ty_31 rfl rfl rfl rfl rfl rfl (.tail _ (.tail _ (.tail _ (.tail _ (.tail _ (.tail _ (.tail _ (.tail _ (.tail _ (.tail _ (.head _))))))))))) rfl hb10 rfl (sd (sk (sk (sk (sk (sk (sk (sk (sk (sk (sd s0))))))))))) (PL_fin (Jd2 _ _ (blockK_n (round_n ?_)))))
   refine sE rfl (sE rfl (sE rfl (sQ (qC ty_52 rfl m6 rfl) rfl (sQ (qF fd_31_1 rfl rfl) rfl (sQ (qL ty_28 rfl m8 rfl) rfl (sQ (qF fd_31_1 rfl rfl) rfl (sQ (qL ty_28 rfl m7 rfl) rfl (sQ (q_retv en_39 rfl (ratio_Div_ret a.hi b.hi) rfl) rfl (WL_y rfl (s_yield (ps := [20]) rfl rfl rfl hpy4 hay4 hby4 hty4 rfl rfl hzy4 ?_))))))))))
   refine Rk fun Kd2 Jd2 => sN zp_28 rfl fun b29 hb29 => sS [pI ((F_ratio_Div a.hi b.hi).n), pI ((F_ratio_Div a.hi b.hi).d)] ty_28 rfl rfl rfl rfl rfl (.head _) rfl hb29 (WL_nil (Jd2 _ _ (thenK_n ?_)))
   refine W_block (Sq fun K8 J8 => Rs fun Kd2 Jd2 => sQ (qC ty_4 rfl m10 rfl) rfl (WL_nil (Jd2 _ _ (W_false rfl (W_skip (J8 _ _ (dr (sk (sk (sk (sk (sk (sk (sk (sk (sk (sk (sk (sd (sk (sk (sk (sk (sk (sk (sk (s0)))))))))))))))))))) [0,4,8,13,16,21] [5] mix (by kernel_rfl) (fun Kd2 Jd2 => pQ rfl (qL ty_31 rfl m11 rfl) (pQ rfl (qL ty_28 rfl m0 rfl) ?_)))))))))
   obtain ⟨r30, hr30⟩ := nm ((F_interval_Of (F_ratio_Div a.hi b.hi)) : Iv)
   refine pC (AV [pI r30.lo.n, pI r30.lo.d, pI r30.hi.n, pI r30.hi.d]) en_13 (interval_Of_ret (F_ratio_Div a.hi b.hi)) rfl rfl (by rw [hr30]; first | done | rfl) (PL_o rfl rfl (r_bsliceA [[pI r28.lo.n, pI r28.lo.d, pI r28.hi.n, pI r28.hi.d], [pI r30.lo.n, pI r30.lo.d, pI r30.hi.n, pI r30.hi.d]] [pI r28.lo.n, pI r28.lo.d, pI r28.hi.n, pI r28.hi.d, pI r30.lo.n, pI r30.lo.d, pI r30.hi.n, pI r30.hi.d] us_22 z_31 sz_31 rfl (by decide) rfl rfl ⟨rfl, rfl, rfl, rfl, rfl, rfl, trivial⟩ rfl (fun b31 hb31 => ⟨(fun _ => sd s0), (sd (sk (sk (sk (sk (sk (sk (sk (sk (sk (sk (sk (sd s0))))))))))))), ?_⟩)))
   obtain ⟨r32, hr32⟩ := nm ((F_interval_Hull [r28, r30]) : Iv)
   refine pQ rfl (q_as (v' := AV [pI r32.lo.n, pI r32.lo.d, pI r32.hi.n, pI r32.hi.d]) (q_call en_25 rfl (fun w hw => interval_Hull_ret _ ([r28, r30]) w (SLe.ap hw (SLe.lit (e := elIv) (l := [r28, r30]) m0 rfl (Nat.le_of_ble_eq_true rfl) rfl)))) (by rw [hr32]; first | done | rfl)) (oS [pI r32.lo.n, pI r32.lo.d, pI r32.hi.n, pI r32.hi.d] ty_31 rfl rfl rfl rfl rfl rfl (.tail _ (.tail _ (.tail _ (.tail _ (.tail _ (.tail _ (.tail _ (.tail _ (.tail _ (.tail _ (.tail _ (.tail _ (.head _))))))))))))) rfl hb10 rfl (sd (sk (sk (sk (sk (sk (sk (sk (sk (sk (sk (sk (sd s0))))))))))))) (PL_fin (Jd2 _ _ (blockK_n (round_n ?_)))))
   refine sE rfl (WL_nil (Jd1 _ _ ((iter_n rfl (.inl rfl) rfl ?_))))
   refine blockK_n (J3 _ _ (Rs fun Kd1 Jd1 => sQ (qL ty_31 rfl m12 rfl) rfl (sS [pI r32.lo.n, pI r32.lo.d, pI r32.hi.n, pI r32.hi.d] ty_31 rfl rfl rfl rfl rfl (.tail _ (.tail _ (.tail _ (.tail _ (.tail _ (.tail _ (.tail _ (.tail _ (.tail _ (.tail _ (.tail _ (.tail _ (.tail _ (.tail _ (.head _))))))))))))))) rfl hb7 (WL_nil (Jd1 _ _ (W_ret (ret1 rfl (.inr rfl) (resP rfl (List.mem_cons_of_mem _ (List.mem_cons_of_mem _ (List.mem_cons_of_mem _ (List.mem_cons_of_mem _ (List.mem_cons_of_mem _ (List.mem_cons_of_mem _ (List.mem_cons_of_mem _ (List.mem_cons_of_mem _ (List.mem_cons_of_mem _ (List.mem_cons_of_mem _ (List.mem_cons_of_mem _ (List.mem_cons_of_mem _ (List.mem_cons_of_mem _ (List.mem_cons_of_mem _ (List.mem_cons_self))))))))))))))) ty_31 rfl) ?_)))))))
   refine sS [pI r32.lo.n, pI r32.lo.d, pI r32.hi.n, pI r32.hi.d] ty_31 rfl rfl rfl rfl rfl (.tail _ (.tail _ (.tail _ (.tail _ (.tail _ (.tail _ (.tail _ (.tail _ (.tail _ (.tail _ (.tail _ (.tail _ (.tail _ (.tail _ (.tail _ (.tail _ (.tail _ (.head _)))))))))))))))))) rfl hb3 (nl J (W_ret (ret1 rfl (.inr rfl) (resP rfl (List.mem_cons_of_mem _ (List.mem_cons_of_mem _ (List.mem_cons_of_mem _ (List.mem_cons_of_mem _ (List.mem_cons_of_mem _ (List.mem_cons_of_mem _ (List.mem_cons_of_mem _ (List.mem_cons_of_mem _ (List.mem_cons_of_mem _ (List.mem_cons_of_mem _ (List.mem_cons_of_mem _ (List.mem_cons_of_mem _ (List.mem_cons_of_mem _ (List.mem_cons_of_mem _ (List.mem_cons_of_mem _ (List.mem_cons_of_mem _ (List.mem_cons_of_mem _ (List.mem_cons_self)))))))))))))))))) ty_31 rfl) ?_)))
   exact (by subst hr32; subst hr30; subst hr28; subst hr26; subst hr24; subst hr22; subst hr20; subst hr18; subst hr17; exact congrArg (fun r : Iv => (AV [pI r.lo.n, pI r.lo.d, pI r.hi.n, pI r.hi.d] : Value)) (show _ = (F_interval_Div a b) from bif_f h4 (bif_t h9 rfl)))
  ·skip
   refine W_t (not_t h9) rfl (Rs fun Kd1 Jd1 => sQ (q_ret en_63 interval_Bad_ret  rfl) rfl (sS [pI F_interval_Bad.lo.n, pI F_interval_Bad.lo.d, pI F_interval_Bad.hi.n, pI F_interval_Bad.hi.d] ty_31 rfl rfl rfl rfl rfl (.tail _ (.head _)) rfl hb7 (WL_nil (Jd1 _ _ (W_ret (thenK_r (ret1 rfl (.inr rfl) (resP rfl m1 ty_31 rfl) ?_)))))))
   refine sS [pI F_interval_Bad.lo.n, pI F_interval_Bad.lo.d, pI F_interval_Bad.hi.n, pI F_interval_Bad.hi.d] ty_31 rfl rfl rfl rfl rfl (.tail _ (.tail _ (.tail _ (.tail _ (.head _))))) rfl hb3 (nl J (W_ret (ret1 rfl (.inr rfl) (resP rfl m4 ty_31 rfl) ?_)))
   exact (by exact congrArg (fun r : Iv => (AV [pI r.lo.n, pI r.lo.d, pI r.hi.n, pI r.hi.d] : Value)) (show _ = (F_interval_Div a b) from bif_f h4 (bif_f h9 rfl)))

theorem interval_Abs_ret (a : Iv) :
    Ret Tryz.prog 32 [AV [pI a.lo.n, pI a.lo.d, pI a.hi.n, pI a.hi.d]] (AV [pI (((F_interval_Abs a).lo).n), pI (((F_interval_Abs a).lo).d), pI (((F_interval_Abs a).hi).n), pI (((F_interval_Abs a).hi).d)]) := by
 refine ret_of_W (N := 28) Tryz.func32 rfl rfl (by simp) (fun w0 => ?_)
 simp only [initF, Nat.reduceAdd]
 refine Rs fun K J => WL_r rfl (r_boxp rfl rfl (fun b1 hb1 => sN zp_31 rfl fun b2 hb2 => nl J (Sq fun K1 J1 => W_block (Sq fun K2 J2 => Rs fun K J => sQ (qL ty_31 rfl m1 rfl) rfl (WL_r rfl (r_bsliceA [[pI a.lo.n, pI a.lo.d, pI a.hi.n, pI a.hi.d]] [pI a.lo.n, pI a.lo.d, pI a.hi.n, pI a.hi.d] us_22 z_31 sz_31 rfl (by decide) rfl rfl ⟨rfl, rfl, rfl, trivial⟩ rfl (fun b3 hb3 => sQ (q_as (v' := .bool (F_interval_right [a])) (q_call en_68 rfl (fun w hw => interval_right_ret _ ([a]) w (SLe.ap hw (SLe.lit (e := elIv) (l := [a]) m0 rfl (Nat.le_of_ble_eq_true rfl) rfl)))) rfl) rfl (sE rfl (sE rfl (nl J ?_))))))))))
 rcases bt (F_interval_right [a]) with h4 | h4
 ·skip
  refine W_f (not_f h4) rfl (Rk fun K J => sQ (qF fd_31_0 rfl rfl) rfl (sQ (qL ty_28 rfl m2 rfl) rfl (sQ (q_ret en_74 (ratio_Sign_ret a.lo) rfl) rfl (sE rfl (sE rfl (nl J (J2 _ _ ?_)))))))
  rcases bt (decide (0 ≤ (F_ratio_Sign a.lo).1)) with h5 | h5
  ·skip
   refine W_t h5 rfl (Rs fun K J => sQ (qL ty_31 rfl m2 rfl) rfl (sS [pI a.lo.n, pI a.lo.d, pI a.hi.n, pI a.hi.d] ty_31 rfl rfl rfl rfl rfl (.tail _ (.head _)) rfl hb2 (nl J (W_ret (blockK_r (thenK_r (ret1 rfl (.inr rfl) (resP rfl m1 ty_31 rfl) ?_)))))))
   exact (by exact congrArg (fun r : Iv => (AV [pI r.lo.n, pI r.lo.d, pI r.hi.n, pI r.hi.d] : Value)) (show _ = (F_interval_Abs a) from bif_t h4 (bif_t h5 rfl)))
  ·skip
   refine W_f h5 rfl (Rs fun K J => sQ (qF fd_31_1 rfl rfl) rfl (sQ (qL ty_28 rfl m2 rfl) rfl (sQ (q_ret en_74 (ratio_Sign_ret a.hi) rfl) rfl (sE rfl (sE rfl (nl J ?_))))))
   rcases bt (decide ((F_ratio_Sign a.hi).1 ≤ 0)) with h6 | h6
   ·skip
    refine W_t h6 rfl (Rs fun K J => sQ (qL ty_31 rfl m2 rfl) rfl ?_)
    obtain ⟨r7, hr7⟩ := nm ((F_interval_Neg a) : Iv)
    refine sC (AV [pI r7.lo.n, pI r7.lo.d, pI r7.hi.n, pI r7.hi.d]) en_31 (interval_Neg_ret a) rfl rfl (by rw [hr7]; first | done | rfl) (sS [pI r7.lo.n, pI r7.lo.d, pI r7.hi.n, pI r7.hi.d] ty_31 rfl rfl rfl rfl rfl (.tail _ (.head _)) rfl hb2 (nl J (W_ret (blockK_r (thenK_r (ret1 rfl (.inr rfl) (resP rfl m1 ty_31 rfl) ?_))))))
    exact (by subst hr7; exact congrArg (fun r : Iv => (AV [pI r.lo.n, pI r.lo.d, pI r.hi.n, pI r.hi.d] : Value)) (show _ = (F_interval_Abs a) from bif_t h4 (bif_f h5 (bif_t h6 rfl))))
   ·skip
    refine W_f h6 rfl (W_skip (J1 _ _ (ds (sk (sd (sk (s0)))) [0,4,8,12,16,20,24,28,33] [8] mix (by kernel_rfl) (fun K J => pQ rfl (q_ret en_38 (ratio_Of_ret (wl 0)) rfl) ?_))))
    refine pQ rfl (qF fd_31_0 rfl rfl) (pQ rfl (qL ty_28 rfl m2 rfl) (pQ rfl (q_ret en_57 (ratio_Neg_ret a.lo) rfl) (pQ rfl (qF fd_31_1 rfl rfl) (pQ rfl (qL ty_28 rfl m2 rfl) ?_))))
    obtain ⟨r8, hr8⟩ := nm ((F_ratio_Max (F_ratio_Neg a.lo) a.hi) : Rt)
    refine pC (AV [pI r8.n, pI r8.d]) en_69 (ratio_Max_ret (F_ratio_Neg a.lo) a.hi) rfl rfl (by rw [hr8]; first | done | rfl) ?_
    obtain ⟨r9, hr9⟩ := nm ((F_interval_Make (F_ratio_Of (wl 0)) r8) : Iv)
    refine pC (AV [pI r9.lo.n, pI r9.lo.d, pI r9.hi.n, pI r9.hi.d]) en_11 (interval_Make_ret (F_ratio_Of (wl 0)) r8) rfl rfl (by rw [hr9]; first | done | rfl) ?_
    refine oS [pI r9.lo.n, pI r9.lo.d, pI r9.hi.n, pI r9.hi.d] ty_31 rfl rfl rfl rfl rfl rfl (.tail _ (.head _)) rfl hb2 rfl (sk (sd s0)) (fl J (W_ret (ret1 rfl (.inr rfl) (resP rfl m1 ty_31 rfl) ?_)))
    exact (by subst hr9; subst hr8; exact congrArg (fun r : Iv => (AV [pI r.lo.n, pI r.lo.d, pI r.hi.n, pI r.hi.d] : Value)) (show _ = (F_interval_Abs a) from bif_t h4 (bif_f h5 (bif_f h6 rfl))))
 ·skip
  refine W_t (not_t h4) rfl (W_skip (J2 _ _ (W_t (not_t h4) rfl (Rs fun K J => sQ (qL ty_31 rfl m2 rfl) rfl (sS [pI a.lo.n, pI a.lo.d, pI a.hi.n, pI a.hi.d] ty_31 rfl rfl rfl rfl rfl (.tail _ (.head _)) rfl hb2 (nl J (W_ret (blockK_r (thenK_r (ret1 rfl (.inr rfl) (resP rfl m1 ty_31 rfl) ?_))))))))))
  exact (by exact congrArg (fun r : Iv => (AV [pI r.lo.n, pI r.lo.d, pI r.hi.n, pI r.hi.d] : Value)) (show _ = (F_interval_Abs a) from bif_f h4 rfl))

theorem interval_Power_ret (a : Iv) (b : W) :
    Ret Tryz.prog 33 [AV [pI a.lo.n, pI a.lo.d, pI a.hi.n, pI a.hi.d], .int .i64 b.1] (AV [pI (((F_interval_Power a b).lo).n), pI (((F_interval_Power a b).lo).d), pI (((F_interval_Power a b).hi).n), pI (((F_interval_Power a b).hi).d)]) := by
 refine ret_of_W (N := 47) Tryz.func33 rfl rfl (by simp) (fun w0 => ?_)
 simp only [initF, Nat.reduceAdd]
 refine Rs fun K J => WL_r rfl (r_boxp rfl rfl (fun b1 hb1 => sN zp_31 rfl fun b2 hb2 => nl J (Sq fun K1 J1 => ?_)))
 refine W_join [6, 7, 8, 9, 10, 11, 12, 13, 14, 15, 16, 17] (fun g M => (g 17 = .bool (!(F_interval_right [a]) || (decide (b.1 < 0) || decide (32 < b.1)))) ∧ M = [⟨b2, 31, flat [pI I0, pI I0, pI I0, pI I0]⟩, ⟨b1, 31, flat [pI a.lo.n, pI a.lo.d, pI a.hi.n, pI a.hi.d]⟩]) (fun K2 J2 => ?_) ?_
 ·skip
  refine Rk fun K J => sQ (qL ty_31 rfl m1 rfl) rfl (WL_r rfl (r_bsliceA [[pI a.lo.n, pI a.lo.d, pI a.hi.n, pI a.hi.d]] [pI a.lo.n, pI a.lo.d, pI a.hi.n, pI a.hi.d] us_22 z_31 sz_31 rfl (by decide) rfl rfl ⟨rfl, rfl, rfl, trivial⟩ rfl (fun b7 hb7 => sQ (q_as (v' := .bool (F_interval_right [a])) (q_call en_68 rfl (fun w hw => interval_right_ret _ ([a]) w (SLe.ap hw (SLe.lit (e := elIv) (l := [a]) m0 rfl (Nat.le_of_ble_eq_true rfl) rfl)))) rfl) rfl (sE rfl ?_))))
  rcases bt (F_interval_right [a]) with h8 | h8
  ·skip
   refine sB (not_f h8) rfl (sE rfl (sE rfl (sE rfl ?_)))
   rcases bt (decide (b.1 < 0)) with h9 | h9
   ·skip
    refine sB h9 rfl (WL_n rfl (WL_n rfl (sE rfl (nl J ?_))))
    refine J2 _ _ (by repeat first | exact .refl | refine .cons rfl ?_) ⟨_, (sd (s0)), ?s17, rfl⟩
    case s17 => exact congrArg Value.bool (nor_t h8 (or_t h9))
   ·skip
    refine sB h9 rfl (sE rfl (sE rfl (sE rfl (nl J ?_))))
    refine J2 _ _ (by repeat first | exact .refl | refine .cons rfl ?_) ⟨_, (sd (s0)), ?s17, rfl⟩
    case s17 => exact congrArg Value.bool (nor_t h8 (or_f h9 rfl))
  ·skip
   refine sB (not_t h8) rfl (WL_n rfl (WL_n rfl (sE rfl (sE rfl (WL_n rfl (WL_n rfl (sE rfl (nl J ?_))))))))
   refine J2 _ _ (by repeat first | exact .refl | refine .cons rfl ?_) ⟨_, (sd (s0)), ?s17, rfl⟩
   case s17 => exact congrArg Value.bool (nor_f h8)
 ·skip
  rintro g10 M ⟨hg17, rfl⟩
  simp only [setG, hg17]
  clear hg17
  rcases bt (!(F_interval_right [a]) || (decide (b.1 < 0) || decide (32 < b.1))) with h11 | h11
  ·skip
   refine W_t h11 rfl (Rs fun K J => sQ (q_ret en_63 interval_Bad_ret  rfl) rfl (sS [pI F_interval_Bad.lo.n, pI F_interval_Bad.lo.d, pI F_interval_Bad.hi.n, pI F_interval_Bad.hi.d] ty_31 rfl rfl rfl rfl rfl (.head _) rfl hb2 (nl J (W_ret (thenK_r (ret1 rfl (.inr rfl) (resP rfl m0 ty_31 rfl) ?_))))))
   exact (by exact congrArg (fun r : Iv => (AV [pI r.lo.n, pI r.lo.d, pI r.hi.n, pI r.hi.d] : Value)) (show _ = (F_interval_Power a b) from bif_t h11 rfl))
  ·skip
   refine W_f h11 rfl (W_skip (J1 _ _ ?_))
   obtain ⟨r13, hr13⟩ := nm ((⟨(⟨(bif ((W.rem b (wl 2)).1 == 0) then (((F_interval_Abs a).lo).n) else a.lo.n), (bif ((W.rem b (wl 2)).1 == 0) then (((F_interval_Abs a).lo).d) else a.lo.d)⟩ : Rt), (⟨(bif ((W.rem b (wl 2)).1 == 0) then (((F_interval_Abs a).hi).n) else a.hi.n), (bif ((W.rem b (wl 2)).1 == 0) then (((F_interval_Abs a).hi).d) else a.hi.d)⟩ : Rt)⟩ : Iv) : Iv)
   refine W_join [19, 20, 21, 22, 23] (fun g M => (True) ∧ M = [⟨b2, 31, flat [pI I0, pI I0, pI I0, pI I0]⟩, ⟨b1, 31, flat [pI r13.lo.n, pI r13.lo.d, pI r13.hi.n, pI r13.hi.d]⟩]) (fun K3 J3 => ?_) ?_
   ·skip
    refine Rs fun K J => sE rfl (sQ (q_as (v' := .int .i64 ((W.rem b (wl 2)).1)) (q_rem rfl rfl (by decide)) rfl) rfl ?_)
    refine sE rfl (nl J ?_)
    rcases bt ((W.rem b (wl 2)).1 == 0) with h14 | h14
    ·skip
     refine W_t h14 rfl (Rk fun K J => sQ (qL ty_31 rfl m1 rfl) rfl (sQ (q_ret en_32 (interval_Abs_ret a) rfl) rfl (sS [pI (((F_interval_Abs a).lo).n), pI (((F_interval_Abs a).lo).d), pI (((F_interval_Abs a).hi).n), pI (((F_interval_Abs a).hi).d)] ty_31 rfl rfl rfl rfl rfl (.tail _ (.head _)) rfl hb1 (nl J (J3 _ _ (by repeat first | exact .refl | refine .cons rfl ?_) ⟨_, s0, trivial, (show ([⟨b2, 31, flat [pI I0, pI I0, pI I0, pI I0]⟩, ⟨b1, 31, flat [pI (((F_interval_Abs a).lo).n), pI (((F_interval_Abs a).lo).d), pI (((F_interval_Abs a).hi).n), pI (((F_interval_Abs a).hi).d)]⟩] : List Blk) = [⟨b2, 31, flat [pI I0, pI I0, pI I0, pI I0]⟩, ⟨b1, 31, flat [pI r13.lo.n, pI r13.lo.d, pI r13.hi.n, pI r13.hi.d]⟩] by rw [hr13]; first | done | rfl | simp only [h14, cond_true, cond_false, Bool.true_and, Bool.false_and, Bool.and_true, Bool.and_false, Bool.true_or, Bool.false_or, Bool.or_true, Bool.or_false, Bool.not_true, Bool.not_false] | (simp only [h14, cond_true, cond_false, Bool.true_and, Bool.false_and, Bool.and_true, Bool.and_false, Bool.true_or, Bool.false_or, Bool.or_true, Bool.or_false, Bool.not_true, Bool.not_false]; rfl))⟩)))))
    ·skip
     refine W_f h14 rfl (W_skip (J3 _ _ (by repeat first | exact .refl | refine .cons rfl ?_) ⟨_, s0, trivial, (show ([⟨b2, 31, flat [pI I0, pI I0, pI I0, pI I0]⟩, ⟨b1, 31, flat [pI a.lo.n, pI a.lo.d, pI a.hi.n, pI a.hi.d]⟩] : List Blk) = [⟨b2, 31, flat [pI I0, pI I0, pI I0, pI I0]⟩, ⟨b1, 31, flat [pI r13.lo.n, pI r13.lo.d, pI r13.hi.n, pI r13.hi.d]⟩] by rw [hr13]; first | done | rfl | simp only [h14, cond_true, cond_false, Bool.true_and, Bool.false_and, Bool.and_true, Bool.and_false, Bool.true_or, Bool.false_or, Bool.or_true, Bool.or_false, Bool.not_true, Bool.not_false] | (simp only [h14, cond_true, cond_false, Bool.true_and, Bool.false_and, Bool.and_true, Bool.and_false, Bool.true_or, Bool.false_or, Bool.or_true, Bool.or_false, Bool.not_true, Bool.not_false]; rfl))⟩))
   ·skip
    rintro g15 M ⟨-, rfl⟩
    simp only [setG]
    refine Rs fun K J => sQ (q_ret en_38 (ratio_Of_ret (wl 1)) rfl) rfl ?_
    obtain ⟨r16, hr16⟩ := nm ((F_interval_Of (F_ratio_Of (wl 1))) : Iv)
    refine sC (AV [pI r16.lo.n, pI r16.lo.d, pI r16.hi.n, pI r16.hi.d]) en_13 (interval_Of_ret (F_ratio_Of (wl 1))) rfl rfl (by rw [hr16]; first | done | rfl) ?_
    refine sN zp_31 rfl fun b17 hb17 => sS [pI r16.lo.n, pI r16.lo.d, pI r16.hi.n, pI r16.hi.d] ty_31 rfl rfl rfl rfl rfl (.head _) rfl hb17 (nl J (Sq fun K4 J4 => Rs fun K J => sE rfl (sE rfl (nl J ?_))))
    refine W_join3 (fun S M h => J4 S M h) [27, 28, 29, 30, 31, 32, 33, 34, 35, 36, 37, 38, 39, 40, 41] (fun g M => ∃ (i : W) (mb17 : Iv), (F_interval_Power_loop0 a b r13 r16 (b.1.toNat + 1) (wl 0) r16) = (i, mb17) ∧ (g 27 = .int .i64 i.1) ∧ M = [⟨b17, 31, flat [pI mb17.lo.n, pI mb17.lo.d, pI mb17.hi.n, pI mb17.hi.d]⟩, ⟨b2, 31, flat [pI I0, pI I0, pI I0, pI I0]⟩, ⟨b1, 31, flat [pI r13.lo.n, pI r13.lo.d, pI r13.hi.n, pI r13.hi.d]⟩]) (fun K_u18 hK_u18 => ?_) ?_
    ·skip
     refine W_block ?_
     refine W_loop_g [27, 28, 29, 30, 31, 32, 33, 34, 35, 36, 37, 38, 39, 40, 41] (fun g nn M => ∃ (i : W) (mb17 : Iv), (F_interval_Power_loop0 a b r13 r16 nn i mb17) = (F_interval_Power_loop0 a b r13 r16 (b.1.toNat + 1) (wl 0) r16) ∧ (b.1 - i.1).toNat < nn ∧ (True) ∧ (g 27 = .int .i64 i.1) ∧ M = [⟨b17, 31, flat [pI mb17.lo.n, pI mb17.lo.d, pI mb17.hi.n, pI mb17.hi.d]⟩, ⟨b2, 31, flat [pI I0, pI I0, pI I0, pI I0]⟩, ⟨b1, 31, flat [pI r13.lo.n, pI r13.lo.d, pI r13.hi.n, pI r13.hi.d]⟩]) (b.1.toNat + 1) ?start ?round
     case start => exact ⟨_, s0, (wl 0), r16, rfl, (cnt_start b), trivial, rfl, rfl⟩
     case round =>
      rintro nn g M ⟨i, mb17, hT0, hq0, hinv0, hg27, rfl⟩
      obtain ⟨k0, rfl⟩ : ∃ m, nn = m + 1 := ⟨nn - 1, by omega⟩
      simp only [setG, hg27]
      clear hg27
      refine Rs fun K J => sE rfl (nl J (Sq fun K9 J9 => ?_))
      rcases bt (decide (i.1 < b.1)) with h21 | h21
      ·skip
       refine W_t h21 rfl (W_skip (J9 _ _ (Sq fun K10 J10 => W_block (dr (sd (sk (sk (s0)))) [0,4,8,12,16,20,24,28,32,36,40,45,48,53] [11,13] mix (by kernel_rfl) (fun K J => pQ rfl (qF fd_31_0 rfl rfl) (pQ rfl (qL ty_28 rfl m0 rfl) (pQ rfl (qF fd_31_0 rfl rfl) (pQ rfl (qL ty_28 rfl m2 rfl) (pQ rfl (q_ret en_36 (ratio_Mul_ret mb17.lo r13.lo) rfl) (pQ rfl (qF fd_31_1 rfl rfl) (pQ rfl (qL ty_28 rfl m0 rfl) (pQ rfl (qF fd_31_1 rfl rfl) (pQ rfl (qL ty_28 rfl m2 rfl) (pQ rfl (q_ret en_36 (ratio_Mul_ret mb17.hi r13.hi) rfl) (pQ rfl (qF fd_31_0 rfl rfl) (oS [pI ((F_ratio_Mul mb17.lo r13.lo).n), pI ((F_ratio_Mul mb17.lo r13.lo).d)] ty_28 rfl rfl rfl rfl rfl rfl (.head _) rfl hb17 rfl (sd s0) (pQ rfl (qF fd_31_1 rfl rfl) (oS [pI ((F_ratio_Mul mb17.hi r13.hi).n), pI ((F_ratio_Mul mb17.hi r13.hi).d)] ty_28 rfl rfl rfl rfl rfl rfl (.head _) rfl hb17 rfl (sd s0) ?_))))))))))))))))))
       refine fl J (J10 _ _ (Rk fun K J => sV (.int .i64 ((W.add i (wl 1)).1)) rfl rfl ?_))
       refine sE rfl (nl J (⟨(by repeat first | exact .refl | refine .cons rfl ?_), _, _, s0, (Nat.lt_succ_self _), (W.add i (wl 1)), (⟨(F_ratio_Mul mb17.lo r13.lo), (F_ratio_Mul mb17.hi r13.hi)⟩ : Iv), (by exact (hT0.symm.trans (Eq.symm (bif_t h21 rfl))).symm), (Nat.lt_of_lt_of_le (cnt_dec h21) (Nat.le_of_lt_succ hq0)), trivial, rfl, rfl⟩))
      ·skip
       refine W_f h21 rfl (W_exit (thenK_x (thenK_x (blockK_hit (hK_u18 _ _ (by repeat first | exact .refl | refine .cons rfl ?_) ⟨_, s0, i, mb17, (by exact hT0.symm.trans (Eq.symm (bif_f h21 rfl))), rfl, rfl⟩)))))
    ·skip
     rintro g M ⟨i, mb17, hCu18, hg27, rfl⟩
     simp only [setG, hg27]
     clear hg27
     refine Rs fun K J => sQ (qF fd_31_0 rfl rfl) rfl (sQ (qL ty_28 rfl m0 rfl) rfl (sQ (qF fd_31_1 rfl rfl) rfl (sQ (qL ty_28 rfl m0 rfl) rfl ?_)))
     obtain ⟨r22, hr22⟩ := nm ((F_interval_Make mb17.lo mb17.hi) : Iv)
     refine sC (AV [pI r22.lo.n, pI r22.lo.d, pI r22.hi.n, pI r22.hi.d]) en_11 (interval_Make_ret mb17.lo mb17.hi) rfl rfl (by rw [hr22]; first | done | rfl) (sS [pI r22.lo.n, pI r22.lo.d, pI r22.hi.n, pI r22.hi.d] ty_31 rfl rfl rfl rfl rfl (.tail _ (.head _)) rfl hb2 (nl J (W_ret (ret1 rfl (.inr rfl) (resP rfl m1 ty_31 rfl) ?_))))
     exact (by subst hr22; subst hr16; subst hr13; exact congrArg (fun r : Iv => (AV [pI r.lo.n, pI r.lo.d, pI r.hi.n, pI r.hi.d] : Value)) (show _ = (F_interval_Power a b) from bif_f h11 (ap_ hCu18 rfl)))

theorem interval_Width_ret (a : Iv) :
    Ret Tryz.prog 48 [AV [pI a.lo.n, pI a.lo.d, pI a.hi.n, pI a.hi.d]] (AV [pI ((F_interval_Width a).n), pI ((F_interval_Width a).d)]) := by
 refine ret_of_W (N := 13) Tryz.func48 rfl rfl (by simp) (fun w0 => ?_)
 simp only [initF, Nat.reduceAdd]
 refine Rs fun K J => WL_r rfl (r_boxp rfl rfl (fun b1 hb1 => sN zp_28 rfl fun b2 hb2 => nl J (Sq fun K1 J1 => Rs fun K J => sQ (qL ty_31 rfl m1 rfl) rfl (WL_r rfl (r_bsliceA [[pI a.lo.n, pI a.lo.d, pI a.hi.n, pI a.hi.d]] [pI a.lo.n, pI a.lo.d, pI a.hi.n, pI a.hi.d] us_22 z_31 sz_31 rfl (by decide) rfl rfl ⟨rfl, rfl, rfl, trivial⟩ rfl (fun b3 hb3 => sQ (q_as (v' := .bool (F_interval_right [a])) (q_call en_68 rfl (fun w hw => interval_right_ret _ ([a]) w (SLe.ap hw (SLe.lit (e := elIv) (l := [a]) m0 rfl (Nat.le_of_ble_eq_true rfl) rfl)))) rfl) rfl (sE rfl (nl J ?_))))))))
 rcases bt (F_interval_right [a]) with h4 | h4
 ·skip
  refine W_f (not_f h4) rfl (W_skip (J1 _ _ (Rs fun K J => sQ (qF fd_31_1 rfl rfl) rfl (sQ (qL ty_28 rfl m2 rfl) rfl (sQ (qF fd_31_0 rfl rfl) rfl (sQ (qL ty_28 rfl m2 rfl) rfl (sQ (q_ret en_56 (ratio_Sub_ret a.hi a.lo) rfl) rfl (sS [pI ((F_ratio_Sub a.hi a.lo).n), pI ((F_ratio_Sub a.hi a.lo).d)] ty_28 rfl rfl rfl rfl rfl (.tail _ (.head _)) rfl hb2 (nl J (W_ret (ret1 rfl (.inr rfl) (resP rfl m1 ty_28 rfl) ?_)))))))))))
  exact (by exact congrArg (fun r : Rt => (AV [pI r.n, pI r.d] : Value)) (show _ = (F_interval_Width a) from bif_t h4 rfl))
 ·skip
  refine W_t (not_t h4) rfl (Rs fun K J => sQ (q_ret en_76 ratio_Bad_ret  rfl) rfl (sS [pI F_ratio_Bad.n, pI F_ratio_Bad.d] ty_28 rfl rfl rfl rfl rfl (.tail _ (.head _)) rfl hb2 (nl J (W_ret (thenK_r (ret1 rfl (.inr rfl) (resP rfl m1 ty_28 rfl) ?_))))))
  exact (by exact congrArg (fun r : Rt => (AV [pI r.n, pI r.d] : Value)) (show _ = (F_interval_Width a) from bif_f h4 rfl))

theorem interval_Split_ret (a : Iv) :
    Ret Tryz.prog 51 [AV [pI a.lo.n, pI a.lo.d, pI a.hi.n, pI a.hi.d]] (.tuple #[AV [pI ((((F_interval_Split a).1).lo).n), pI ((((F_interval_Split a).1).lo).d), pI ((((F_interval_Split a).1).hi).n), pI ((((F_interval_Split a).1).hi).d)], AV [pI ((((F_interval_Split a).2).lo).n), pI ((((F_interval_Split a).2).lo).d), pI ((((F_interval_Split a).2).hi).n), pI ((((F_interval_Split a).2).hi).d)]]) := by
 refine ret_of_W (N := 24) Tryz.func51 rfl rfl (by simp) (fun w0 => ?_)
 simp only [initF, Nat.reduceAdd]
 refine Rs fun K J => WL_r rfl (r_boxp rfl rfl (fun b1 hb1 => sN zp_31 rfl fun b2 hb2 => sN zp_31 rfl fun b3 hb3 => nl J (Sq fun K1 J1 => Rs fun K J => sQ (qL ty_31 rfl m2 rfl) rfl (WL_r rfl (r_bsliceA [[pI a.lo.n, pI a.lo.d, pI a.hi.n, pI a.hi.d]] [pI a.lo.n, pI a.lo.d, pI a.hi.n, pI a.hi.d] us_22 z_31 sz_31 rfl (by decide) rfl rfl ⟨rfl, rfl, rfl, trivial⟩ rfl (fun b4 hb4 => sQ (q_as (v' := .bool (F_interval_right [a])) (q_call en_68 rfl (fun w hw => interval_right_ret _ ([a]) w (SLe.ap hw (SLe.lit (e := elIv) (l := [a]) m0 rfl (Nat.le_of_ble_eq_true rfl) rfl)))) rfl) rfl (sE rfl (nl J ?_))))))))
 rcases bt (F_interval_right [a]) with h5 | h5
 ·skip
  refine W_f (not_f h5) rfl (W_skip (J1 _ _ (Rs fun K J => sQ (qF fd_31_0 rfl rfl) rfl (sQ (qL ty_28 rfl m3 rfl) rfl (sQ (qF fd_31_1 rfl rfl) rfl (sQ (qL ty_28 rfl m3 rfl) rfl (sQ (q_ret en_92 (ratio_Mid_ret a.lo a.hi) rfl) rfl (sN zp_28 rfl fun b6 hb6 => sS [pI ((F_ratio_Mid a.lo a.hi).n), pI ((F_ratio_Mid a.lo a.hi).d)] ty_28 rfl rfl rfl rfl rfl (.head _) rfl hb6 (nl J (ds (sk (sk (sd (sd (sk (s0)))))) [0,4,8,12,16,20,24,28,33,37] [8,9] mix (by kernel_rfl) (fun K J => pQ rfl (qF fd_31_0 rfl rfl) (pQ rfl (qL ty_28 rfl m4 rfl) (pQ rfl (qL ty_28 rfl m0 rfl) ?_)))))))))))))
  obtain ⟨r7, hr7⟩ := nm ((F_interval_Make a.lo (F_ratio_Mid a.lo a.hi)) : Iv)
  refine pC (AV [pI r7.lo.n, pI r7.lo.d, pI r7.hi.n, pI r7.hi.d]) en_11 (interval_Make_ret a.lo (F_ratio_Mid a.lo a.hi)) rfl rfl (by rw [hr7]; first | done | rfl) (pQ rfl (qL ty_28 rfl m0 rfl) (pQ rfl (qF fd_31_1 rfl rfl) (pQ rfl (qL ty_28 rfl m4 rfl) ?_)))
  obtain ⟨r8, hr8⟩ := nm ((F_interval_Make (F_ratio_Mid a.lo a.hi) a.hi) : Iv)
  refine pC (AV [pI r8.lo.n, pI r8.lo.d, pI r8.hi.n, pI r8.hi.d]) en_11 (interval_Make_ret (F_ratio_Mid a.lo a.hi) a.hi) rfl rfl (by rw [hr8]; first | done | rfl) (oS [pI r7.lo.n, pI r7.lo.d, pI r7.hi.n, pI r7.hi.d] ty_31 rfl rfl rfl rfl rfl rfl (.tail _ (.tail _ (.tail _ (.head _)))) rfl hb2 rfl (sk (sk (sd (sd s0)))) (oS [pI r8.lo.n, pI r8.lo.d, pI r8.hi.n, pI r8.hi.d] ty_31 rfl rfl rfl rfl rfl rfl (.tail _ (.tail _ (.head _))) rfl hb3 rfl (sk (sk (sd (sd s0)))) (fl J (W_ret (ret2 rfl (.inr rfl) (resP rfl m3 ty_31 rfl) (resP rfl m2 ty_31 rfl) ?_)))))
  exact (by subst hr8; subst hr7; exact congrArg (fun r : Iv × Iv => (.tuple #[AV [pI r.1.lo.n, pI r.1.lo.d, pI r.1.hi.n, pI r.1.hi.d], AV [pI r.2.lo.n, pI r.2.lo.d, pI r.2.hi.n, pI r.2.hi.d]] : Value)) (show _ = (F_interval_Split a) from bif_t h5 rfl))
 ·skip
  refine W_t (not_t h5) rfl (Rs fun K J => sQ (q_ret en_63 interval_Bad_ret  rfl) rfl (sQ (q_ret en_63 interval_Bad_ret  rfl) rfl (sS [pI F_interval_Bad.lo.n, pI F_interval_Bad.lo.d, pI F_interval_Bad.hi.n, pI F_interval_Bad.hi.d] ty_31 rfl rfl rfl rfl rfl (.tail _ (.tail _ (.head _))) rfl hb2 (sS [pI F_interval_Bad.lo.n, pI F_interval_Bad.lo.d, pI F_interval_Bad.hi.n, pI F_interval_Bad.hi.d] ty_31 rfl rfl rfl rfl rfl (.tail _ (.head _)) rfl hb3 (nl J (W_ret (thenK_r (ret2 rfl (.inr rfl) (resP rfl m2 ty_31 rfl) (resP rfl m1 ty_31 rfl) ?_))))))))
  exact (by exact congrArg (fun r : Iv × Iv => (.tuple #[AV [pI r.1.lo.n, pI r.1.lo.d, pI r.1.hi.n, pI r.1.hi.d], AV [pI r.2.lo.n, pI r.2.lo.d, pI r.2.hi.n, pI r.2.hi.d]] : Value)) (show _ = (F_interval_Split a) from bif_f h5 rfl))

theorem interval_Widen_ret (a : Iv) (b : W) :
    Ret Tryz.prog 34 [AV [pI a.lo.n, pI a.lo.d, pI a.hi.n, pI a.hi.d], .int .i64 b.1] (AV [pI (((F_interval_Widen a b).lo).n), pI (((F_interval_Widen a b).lo).d), pI (((F_interval_Widen a b).hi).n), pI (((F_interval_Widen a b).hi).d)]) := by
 refine ret_of_W (N := 31) Tryz.func34 rfl rfl (by simp) (fun w0 => ?_)
 simp only [initF, Nat.reduceAdd]
 refine Rs fun K J => WL_r rfl (r_boxp rfl rfl (fun b1 hb1 => sN zp_31 rfl fun b2 hb2 => nl J (Sq fun K1 J1 => Rs fun K J => sQ (qL ty_31 rfl m1 rfl) rfl (WL_r rfl (r_bsliceA [[pI a.lo.n, pI a.lo.d, pI a.hi.n, pI a.hi.d]] [pI a.lo.n, pI a.lo.d, pI a.hi.n, pI a.hi.d] us_22 z_31 sz_31 rfl (by decide) rfl rfl ⟨rfl, rfl, rfl, trivial⟩ rfl (fun b3 hb3 => sQ (q_as (v' := .bool (F_interval_right [a])) (q_call en_68 rfl (fun w hw => interval_right_ret _ ([a]) w (SLe.ap hw (SLe.lit (e := elIv) (l := [a]) m0 rfl (Nat.le_of_ble_eq_true rfl) rfl)))) rfl) rfl (sE rfl (nl J ?_))))))))
 rcases bt (F_interval_right [a]) with h4 | h4
 ·skip
  refine W_f (not_f h4) rfl (W_skip (J1 _ _ (Rs fun K J => sQ (qF fd_31_0 rfl rfl) rfl (sQ (qL ty_28 rfl m2 rfl) rfl (sE rfl (sQ (q_ret en_75 (ratio_Dyadic_ret a.lo b) rfl) rfl (sE rfl (sE rfl (sE rfl (sN zp_28 rfl fun b5 hb5 => sN zp_28 rfl fun b6 hb6 => sS [pI (((F_ratio_Dyadic a.lo b).1).n), pI (((F_ratio_Dyadic a.lo b).1).d)] ty_28 rfl rfl rfl rfl rfl (.tail _ (.head _)) rfl hb5 (sS [pI (((F_ratio_Dyadic a.lo b).2).n), pI (((F_ratio_Dyadic a.lo b).2).d)] ty_28 rfl rfl rfl rfl rfl (.head _) rfl hb6 (nl J (Rs fun K J => sQ (qF fd_31_1 rfl rfl) rfl (sQ (qL ty_28 rfl m4 rfl) rfl (sE rfl ?_)))))))))))))))
  refine sQ (q_ret en_75 (ratio_Dyadic_ret a.hi b) rfl) rfl (sE rfl (sE rfl (sE rfl (sN zp_28 rfl fun b7 hb7 => sN zp_28 rfl fun b8 hb8 => sS [pI (((F_ratio_Dyadic a.hi b).1).n), pI (((F_ratio_Dyadic a.hi b).1).d)] ty_28 rfl rfl rfl rfl rfl (.tail _ (.head _)) rfl hb7 (sS [pI (((F_ratio_Dyadic a.hi b).2).n), pI (((F_ratio_Dyadic a.hi b).2).d)] ty_28 rfl rfl rfl rfl rfl (.head _) rfl hb8 (nl J (Rs fun K J => sQ (qL ty_28 rfl m3 rfl) rfl (sQ (qL ty_28 rfl m0 rfl) rfl ?_))))))))
  obtain ⟨r9, hr9⟩ := nm ((F_interval_Make ((F_ratio_Dyadic a.lo b).1) ((F_ratio_Dyadic a.hi b).2)) : Iv)
  refine sC (AV [pI r9.lo.n, pI r9.lo.d, pI r9.hi.n, pI r9.hi.d]) en_11 (interval_Make_ret ((F_ratio_Dyadic a.lo b).1) ((F_ratio_Dyadic a.hi b).2)) rfl rfl (by rw [hr9]; first | done | rfl) (sS [pI r9.lo.n, pI r9.lo.d, pI r9.hi.n, pI r9.hi.d] ty_31 rfl rfl rfl rfl rfl (.tail _ (.tail _ (.tail _ (.tail _ (.tail _ (.head _)))))) rfl hb2 (nl J (W_ret (ret1 rfl (.inr rfl) (resP rfl m5 ty_31 rfl) ?_))))
  exact (by subst hr9; exact congrArg (fun r : Iv => (AV [pI r.lo.n, pI r.lo.d, pI r.hi.n, pI r.hi.d] : Value)) (show _ = (F_interval_Widen a b) from bif_t h4 rfl))
 ·skip
  refine W_t (not_t h4) rfl (Rs fun K J => sQ (q_ret en_63 interval_Bad_ret  rfl) rfl (sS [pI F_interval_Bad.lo.n, pI F_interval_Bad.lo.d, pI F_interval_Bad.hi.n, pI F_interval_Bad.hi.d] ty_31 rfl rfl rfl rfl rfl (.tail _ (.head _)) rfl hb2 (nl J (W_ret (thenK_r (ret1 rfl (.inr rfl) (resP rfl m1 ty_31 rfl) ?_))))))
  exact (by exact congrArg (fun r : Iv => (AV [pI r.lo.n, pI r.lo.d, pI r.hi.n, pI r.hi.d] : Value)) (show _ = (F_interval_Widen a b) from bif_f h4 rfl))
end Go.Proofs.YtnfbkngfdemkpaaGreatDoor
