/- Walks: what these functions return. -/
import Derived.Test.YtnfbkngfdemkpaaGreatDoorFa0
import Derived.Test.YtnfbkngfdemkpaaGreatDoorFa2
import Derived.Test.YtnfbkngfdemkpaaGreatDoorFa3
import Derived.Test.YtnfbkngfdemkpaaGreatDoorFa4
import Derived.Test.YtnfbkngfdemkpaaGreatDoorFl4
import Derived.Test.YtnfbkngfdemkpaaGreatDoorGa
import Derived.Test.YtnfbkngfdemkpaaGreatDoorGf
import Derived.Test.YtnfbkngfdemkpaaGreatDoorIa
import Derived.Test.YtnfbkngfdemkpaaGreatDoorKa
import Derived.Test.YtnfbkngfdemkpaaGreatDoorLa
namespace Go.Proofs.YtnfbkngfdemkpaaGreatDoor
open Go.Kn Go.Num
set_option linter.unusedVariables false
set_option linter.unusedSimpArgs false
set_option maxRecDepth 20000
set_option maxHeartbeats 8000000
theorem skewbacklaw05_IntervalIsLeast_ret (a : Iv) (b : Iv) :
    Ret Tryz.prog 6 [AV [pI a.lo.n, pI a.lo.d, pI a.hi.n, pI a.hi.d], AV [pI b.lo.n, pI b.lo.d, pI b.hi.n, pI b.hi.d]] (.bool (F_skewbacklaw05_IntervalIsLeast a b)) := by
 refine ret_of_W (N := 120) Tryz.func6 rfl rfl (by simp) (fun w0 => ?_)
 simp only [initF, Nat.reduceAdd]
 refine Rs fun K J => WL_r rfl (r_boxp rfl rfl (fun b1 hb1 => WL_r rfl (r_boxp rfl rfl (fun b2 hb2 => sE rfl (nl J (Sq fun K1 J1 => ?_))))))
 refine W_join [10, 11, 12, 13, 14, 15, 16, 17] (fun g M => (g 17 = .bool (!(F_skewbacklaw05_short a (wl 60)) || (!(F_skewbacklaw05_short b (wl 60))))) ∧ M = [⟨b2, 31, flat [pI b.lo.n, pI b.lo.d, pI b.hi.n, pI b.hi.d]⟩, ⟨b1, 31, flat [pI a.lo.n, pI a.lo.d, pI a.hi.n, pI a.hi.d]⟩]) (fun K2 J2 => ?_) ?_
 ·skip
  refine Rk fun K J => sQ (qL ty_31 rfl m1 rfl) rfl (sQ (q_ret en_27 (skewbacklaw05_short_ret a (wl 60)) rfl) rfl ?_)
  refine sE rfl ?_
  rcases bt (F_skewbacklaw05_short a (wl 60)) with h4 | h4
  ·skip
   refine sB (not_f h4) rfl (sQ (qL ty_31 rfl m0 rfl) rfl (sQ (q_ret en_27 (skewbacklaw05_short_ret b (wl 60)) rfl) rfl ?_))
   refine sE rfl (sE rfl (nl J ?_))
   refine J2 _ _ (by repeat first | exact .refl | refine .cons rfl ?_) ⟨_, s0, ?s17, rfl⟩
   case s17 => exact congrArg Value.bool (nor_t h4 rfl)
  ·skip
   refine sB (not_t h4) rfl (WL_n rfl (WL_n rfl (WL_n rfl (sE rfl (nl J ?_)))))
   refine J2 _ _ (by repeat first | exact .refl | refine .cons rfl ?_) ⟨_, s0, ?s17, rfl⟩
   case s17 => exact congrArg Value.bool (nor_f h4)
 ·skip
  rintro g5 M ⟨hg17, rfl⟩
  simp only [setG, hg17]
  clear hg17
  rcases bt (!(F_skewbacklaw05_short a (wl 60)) || (!(F_skewbacklaw05_short b (wl 60)))) with h6 | h6
  ·skip
   refine W_t h6 rfl (Rs fun K J => sQ (q_ret en_10 skewbacklaw05_sanity_ret  rfl) rfl (sE rfl (nl J (W_ret (thenK_r (ret1 rfl (.inr rfl) rfl ?_))))))
   exact (by exact congrArg (fun r : Bool => (.bool r : Value)) (show _ = (F_skewbacklaw05_IntervalIsLeast a b) from bif_t h6 rfl))
  ·skip
   refine W_f h6 rfl (W_skip (J1 _ _ (ds (sk (sk (s0))) [0,4,8,12,16,20,24,28,32,36,40,44,48,52,56,60,64,68,72,76,81,84] [] mix (by kernel_rfl) (fun K J => pQ rfl (qF fd_31_0 rfl rfl) (pQ rfl (qL ty_28 rfl m1 rfl) (pQ rfl (qF fd_31_0 rfl rfl) (pQ rfl (qL ty_28 rfl m0 rfl) (pQ rfl (q_ret en_36 (ratio_Mul_ret a.lo b.lo) rfl) (pQ rfl (qF fd_31_0 rfl rfl) (pQ rfl (qL ty_28 rfl m1 rfl) (pQ rfl (qF fd_31_1 rfl rfl) (pQ rfl (qL ty_28 rfl m0 rfl) (pQ rfl (q_ret en_36 (ratio_Mul_ret a.lo b.hi) rfl) (pQ rfl (qF fd_31_1 rfl rfl) (pQ rfl (qL ty_28 rfl m1 rfl) (pQ rfl (qF fd_31_0 rfl rfl) (pQ rfl (qL ty_28 rfl m0 rfl) (pQ rfl (q_ret en_36 (ratio_Mul_ret a.hi b.lo) rfl) (pQ rfl (qF fd_31_1 rfl rfl) ?_)))))))))))))))))))
   refine pQ rfl (qL ty_28 rfl m1 rfl) (pQ rfl (qF fd_31_1 rfl rfl) (pQ rfl (qL ty_28 rfl m0 rfl) (pQ rfl (q_ret en_36 (ratio_Mul_ret a.hi b.hi) rfl) (PL_o rfl rfl (r_bsliceA [[pI ((F_ratio_Mul a.lo b.lo).n), pI ((F_ratio_Mul a.lo b.lo).d)], [pI ((F_ratio_Mul a.lo b.hi).n), pI ((F_ratio_Mul a.lo b.hi).d)], [pI ((F_ratio_Mul a.hi b.lo).n), pI ((F_ratio_Mul a.hi b.lo).d)], [pI ((F_ratio_Mul a.hi b.hi).n), pI ((F_ratio_Mul a.hi b.hi).d)]] [pI ((F_ratio_Mul a.lo b.lo).n), pI ((F_ratio_Mul a.lo b.lo).d), pI ((F_ratio_Mul a.lo b.hi).n), pI ((F_ratio_Mul a.lo b.hi).d), pI ((F_ratio_Mul a.hi b.lo).n), pI ((F_ratio_Mul a.hi b.lo).d), pI ((F_ratio_Mul a.hi b.hi).n), pI ((F_ratio_Mul a.hi b.hi).d)] us_53 z_28 sz_28 rfl (by decide) rfl rfl ⟨rfl, rfl, rfl, rfl, rfl, rfl, rfl, rfl, rfl, rfl, rfl, rfl, trivial⟩ rfl (fun b7 hb7 => ⟨(fun _ => sd s0), (sd s0), pE rfl (fl J (Sq fun K3 J3 => Rs fun K J => sQ (qL ty_31 rfl m2 rfl) rfl (sQ (qL ty_31 rfl m1 rfl) rfl ?_)))⟩))))))
   obtain ⟨r8, hr8⟩ := nm ((F_interval_Mul a b) : Iv)
   refine sC (AV [pI r8.lo.n, pI r8.lo.d, pI r8.hi.n, pI r8.hi.d]) en_30 (interval_Mul_ret a b) rfl rfl (by rw [hr8]; first | done | rfl) (sE rfl (sQ (q_as (v' := .bool (F_skewbacklaw05_attained r8 [(F_ratio_Mul a.lo b.lo), (F_ratio_Mul a.lo b.hi), (F_ratio_Mul a.hi b.lo), (F_ratio_Mul a.hi b.hi)])) (q_call en_37 rfl (fun w hw => skewbacklaw05_attained_ret r8 _ ([(F_ratio_Mul a.lo b.lo), (F_ratio_Mul a.lo b.hi), (F_ratio_Mul a.hi b.lo), (F_ratio_Mul a.hi b.hi)]) w (SLe.ap hw (SLe.lit (e := elRt) (l := [(F_ratio_Mul a.lo b.lo), (F_ratio_Mul a.lo b.hi), (F_ratio_Mul a.hi b.lo), (F_ratio_Mul a.hi b.hi)]) m0 rfl (Nat.le_of_ble_eq_true rfl) rfl)))) rfl) rfl (sE rfl (nl J ?_))))
   rcases bt (F_skewbacklaw05_attained r8 [(F_ratio_Mul a.lo b.lo), (F_ratio_Mul a.lo b.hi), (F_ratio_Mul a.hi b.lo), (F_ratio_Mul a.hi b.hi)]) with h9 | h9
   ·skip
    refine W_f (not_f h9) rfl (W_skip (J3 _ _ (Rs fun K J => sQ (q_ret en_38 (ratio_Of_ret (wl 0)) rfl) rfl ?_)))
    refine sN zp_28 rfl fun b10 hb10 => sS [pI ((F_ratio_Of (wl 0)).n), pI ((F_ratio_Of (wl 0)).d)] ty_28 rfl rfl rfl rfl rfl (.head _) rfl hb10 ?_
    refine nl J (Sq fun K4 J4 => Rs fun K J => sQ (qL ty_31 rfl m2 rfl) rfl (sQ (qL ty_28 rfl m0 rfl) rfl (sQ (q_ret en_17 (interval_Has_ret b (F_ratio_Of (wl 0))) rfl) rfl ?_)))
    refine sE rfl (nl J ?_)
    rcases bt (F_interval_Has b (F_ratio_Of (wl 0))) with h11 | h11
    ·skip
     refine W_f (not_f h11) rfl (W_skip (J4 _ _ (ds (sk (sk (sk (sk (s0))))) [0,4,8,12,16,20,25,28] [] mix (by kernel_rfl) (fun K J => pQ rfl (qF fd_31_0 rfl rfl) (pQ rfl (qL ty_28 rfl m3 rfl) (pQ rfl (q_ret en_40 (ratio_Abs_ret a.lo) rfl) (pQ rfl (qF fd_31_1 rfl rfl) (pQ rfl (qL ty_28 rfl m3 rfl) (pQ rfl (q_ret en_40 (ratio_Abs_ret a.hi) rfl) (PL_o rfl rfl (r_bsliceA [[pI ((F_ratio_Abs a.lo).n), pI ((F_ratio_Abs a.lo).d)], [pI ((F_ratio_Abs a.hi).n), pI ((F_ratio_Abs a.hi).d)]] [pI ((F_ratio_Abs a.lo).n), pI ((F_ratio_Abs a.lo).d), pI ((F_ratio_Abs a.hi).n), pI ((F_ratio_Abs a.hi).d)] us_53 z_28 sz_28 rfl (by decide) rfl rfl ⟨rfl, rfl, rfl, rfl, rfl, rfl, trivial⟩ rfl (fun b12 hb12 => ⟨(fun _ => sd s0), (sd s0), pE rfl (fl J (ds (sk (sk (sk (sk (sk (s0)))))) [0,4,8,12,16,20,24,28,32,36,41,44] [] mix (by kernel_rfl) (fun K J => pQ rfl (qF fd_31_0 rfl rfl) (pQ rfl (qL ty_28 rfl m4 rfl) (pQ rfl (qF fd_31_0 rfl rfl) (pQ rfl (qL ty_28 rfl m4 rfl) (pQ rfl (q_ret en_36 (ratio_Mul_ret a.lo a.lo) rfl) (pQ rfl (qF fd_31_1 rfl rfl) ?_))))))))⟩))))))))))))
     refine pQ rfl (qL ty_28 rfl m4 rfl) (pQ rfl (qF fd_31_1 rfl rfl) (pQ rfl (qL ty_28 rfl m4 rfl) (pQ rfl (q_ret en_36 (ratio_Mul_ret a.hi a.hi) rfl) (PL_o rfl rfl (r_bsliceA [[pI ((F_ratio_Mul a.lo a.lo).n), pI ((F_ratio_Mul a.lo a.lo).d)], [pI ((F_ratio_Mul a.hi a.hi).n), pI ((F_ratio_Mul a.hi a.hi).d)]] [pI ((F_ratio_Mul a.lo a.lo).n), pI ((F_ratio_Mul a.lo a.lo).d), pI ((F_ratio_Mul a.hi a.hi).n), pI ((F_ratio_Mul a.hi a.hi).d)] us_53 z_28 sz_28 rfl (by decide) rfl rfl ⟨rfl, rfl, rfl, rfl, rfl, rfl, trivial⟩ rfl (fun b13 hb13 => ⟨(fun _ => sd s0), (sd s0), pE rfl (fl J (Sq fun K5 J5 => Rs fun K J => sQ (qL ty_31 rfl m5 rfl) rfl (sQ (qL ty_28 rfl m2 rfl) rfl (sQ (q_ret en_17 (interval_Has_ret a (F_ratio_Of (wl 0))) rfl) rfl ?_))))⟩))))))
     refine nl J ?_
     rcases bt (F_interval_Has a (F_ratio_Of (wl 0))) with h14 | h14
     ·skip
      refine W_t h14 rfl (Rs fun K J => sE rfl (sQ (qL ty_28 rfl m2 rfl) rfl (WL_r rfl (r_bsliceA [[pI ((F_ratio_Of (wl 0)).n), pI ((F_ratio_Of (wl 0)).d)]] [pI ((F_ratio_Of (wl 0)).n), pI ((F_ratio_Of (wl 0)).d)] us_53 z_28 sz_28 rfl (by decide) rfl rfl ⟨rfl, rfl, rfl, trivial⟩ rfl (fun b15 hb15 => ?_)))))
      refine WL_r rfl (r_appendM (e := elRt) (l := [(F_ratio_Abs a.lo), (F_ratio_Abs a.hi)]) (m := [(F_ratio_Of (wl 0))]) 136 us_53 (by kernel_rfl) (by decide) rfl rfl (OwnG.lit (e := elRt) (l := [(F_ratio_Abs a.lo), (F_ratio_Abs a.hi)]) (qs := [pI ((F_ratio_Abs a.lo).n), pI ((F_ratio_Abs a.lo).d), pI ((F_ratio_Abs a.hi).n), pI ((F_ratio_Abs a.hi).d)]) hb12 rfl (Nat.le_of_ble_eq_true rfl) rfl) (SLe.lit (e := elRt) (l := [(F_ratio_Of (wl 0))]) m0 rfl (Nat.le_of_ble_eq_true rfl) rfl) (fq_s (fq_s fq_b)) (Nat.le_of_ble_eq_true rfl) (by decide) (fun v16 L17 hO18 => ?_))
      refine sE rfl (nl J (Rk fun K J => sE rfl (sQ (qL ty_28 rfl (List.mem_append_right _ (List.mem_cons_of_mem _ (List.mem_cons_of_mem _ (List.mem_cons_self)))) rfl) rfl (WL_r rfl (r_bsliceA [[pI ((F_ratio_Of (wl 0)).n), pI ((F_ratio_Of (wl 0)).d)]] [pI ((F_ratio_Of (wl 0)).n), pI ((F_ratio_Of (wl 0)).d)] us_53 z_28 sz_28 rfl (by decide) rfl rfl ⟨rfl, rfl, rfl, trivial⟩ rfl (fun b19 hb19 => ?_))))))
      refine WL_r rfl (r_appendM (e := elRt) (l := [(F_ratio_Mul a.lo a.lo), (F_ratio_Mul a.hi a.hi)]) (m := [(F_ratio_Of (wl 0))]) 136 us_53 (by kernel_rfl) (by decide) rfl rfl (OwnG.lit (e := elRt) (l := [(F_ratio_Mul a.lo a.lo), (F_ratio_Mul a.hi a.hi)]) (qs := [pI ((F_ratio_Mul a.lo a.lo).n), pI ((F_ratio_Mul a.lo a.lo).d), pI ((F_ratio_Mul a.hi a.hi).n), pI ((F_ratio_Mul a.hi a.hi).d)]) hb13 rfl (Nat.le_of_ble_eq_true rfl) rfl) (SLe.lit (e := elRt) (l := [(F_ratio_Of (wl 0))]) m0 rfl (Nat.le_of_ble_eq_true rfl) rfl) (fq_s (fq_sl (fq_s fq_b))) (Nat.le_of_ble_eq_true rfl) (by decide) (fun v20 L21 hO22 => ?_))
      refine sE rfl (nl J (J5 _ _ ?_))
      refine W_join [4, 107, 108, 109, 110, 111, 112, 113, 114, 115, 116, 117, 118, 119] (fun g M => (g 4 = .bool (F_skewbacklaw05_sanity && ((F_skewbacklaw05_attained (F_interval_Abs a) ([(F_ratio_Abs a.lo), (F_ratio_Abs a.hi)] ++ [(F_ratio_Of (wl 0))])) && (F_skewbacklaw05_attained (F_interval_Power a (wl 2)) ([(F_ratio_Mul a.lo a.lo), (F_ratio_Mul a.hi a.hi)] ++ [(F_ratio_Of (wl 0))]))))) ∧ M = (L21 ++ (⟨b19, 28, flat [pI ((F_ratio_Of (wl 0)).n), pI ((F_ratio_Of (wl 0)).d)]⟩ :: (L17 ++ (⟨b15, 28, flat [pI ((F_ratio_Of (wl 0)).n), pI ((F_ratio_Of (wl 0)).d)]⟩ :: (⟨b10, 28, flat [pI ((F_ratio_Of (wl 0)).n), pI ((F_ratio_Of (wl 0)).d)]⟩ :: (⟨b7, 28, flat [pI ((F_ratio_Mul a.lo b.lo).n), pI ((F_ratio_Mul a.lo b.lo).d), pI ((F_ratio_Mul a.lo b.hi).n), pI ((F_ratio_Mul a.lo b.hi).d), pI ((F_ratio_Mul a.hi b.lo).n), pI ((F_ratio_Mul a.hi b.lo).d), pI ((F_ratio_Mul a.hi b.hi).n), pI ((F_ratio_Mul a.hi b.hi).d)]⟩ :: (⟨b2, 31, flat [pI b.lo.n, pI b.lo.d, pI b.hi.n, pI b.hi.d]⟩ :: (⟨b1, 31, flat [pI a.lo.n, pI a.lo.d, pI a.hi.n, pI a.hi.d]⟩ :: []))))))))) (fun K6 J6 => ?_) ?_
      ·skip
       refine Rk fun K J => sQ (q_ret en_10 skewbacklaw05_sanity_ret  rfl) rfl ?_
       rcases bt F_skewbacklaw05_sanity with h25 | h25
       ·skip
        refine sB h25 rfl (sQ (qL ty_31 rfl (List.mem_append_right _ (List.mem_cons_of_mem _ (List.mem_append_right _ (List.mem_cons_of_mem _ (List.mem_cons_of_mem _ (List.mem_cons_of_mem _ (List.mem_cons_of_mem _ (List.mem_cons_self)))))))) rfl) rfl (sQ (q_ret en_32 (interval_Abs_ret a) rfl) rfl (sE rfl (sQ (q_as (v' := .bool (F_skewbacklaw05_attained (F_interval_Abs a) ([(F_ratio_Abs a.lo), (F_ratio_Abs a.hi)] ++ [(F_ratio_Of (wl 0))]))) (q_call en_37 rfl (fun w hw => skewbacklaw05_attained_ret (F_interval_Abs a) _ (([(F_ratio_Abs a.lo), (F_ratio_Abs a.hi)] ++ [(F_ratio_Of (wl 0))])) w (SLe.ap hw (SLfe.sle (OwnG.slfe hO18 (sR (sd (List.sublist_append_left _ _)))))))) rfl) rfl ?_))))
        refine sE rfl ?_
        rcases bt (F_skewbacklaw05_attained (F_interval_Abs a) ([(F_ratio_Abs a.lo), (F_ratio_Abs a.hi)] ++ [(F_ratio_Of (wl 0))])) with h26 | h26
        ·skip
         refine sB h26 rfl (sQ (qL ty_31 rfl (List.mem_append_right _ (List.mem_cons_of_mem _ (List.mem_append_right _ (List.mem_cons_of_mem _ (List.mem_cons_of_mem _ (List.mem_cons_of_mem _ (List.mem_cons_of_mem _ (List.mem_cons_self)))))))) rfl) rfl (sQ (q_ret en_33 (interval_Power_ret a (wl 2)) rfl) rfl ?_))
         refine sE rfl (sQ (q_as (v' := .bool (F_skewbacklaw05_attained (F_interval_Power a (wl 2)) ([(F_ratio_Mul a.lo a.lo), (F_ratio_Mul a.hi a.hi)] ++ [(F_ratio_Of (wl 0))]))) (q_call en_37 rfl (fun w hw => skewbacklaw05_attained_ret (F_interval_Power a (wl 2)) _ (([(F_ratio_Mul a.lo a.lo), (F_ratio_Mul a.hi a.hi)] ++ [(F_ratio_Of (wl 0))])) w (SLe.ap hw (SLfe.sle (OwnG.slfe hO22 (List.sublist_append_left _ _)))))) rfl) rfl ?_)
         refine sE rfl (sE rfl (nl J ?_))
         refine J6 _ _ (by repeat first | exact .refl | refine .cons rfl ?_) ⟨_, s0, ?s4, rfl⟩
         case s4 => exact congrArg Value.bool (and_t h25 (and_t h26 rfl))
        ·skip
         refine sB h26 rfl (WL_n rfl (WL_n rfl (WL_n rfl (WL_n rfl (sE rfl (sE rfl (nl J ?_)))))))
         refine J6 _ _ (by repeat first | exact .refl | refine .cons rfl ?_) ⟨_, s0, ?s4, rfl⟩
         case s4 => exact congrArg Value.bool (and_t h25 (and_f h26))
       ·skip
        refine sB h25 rfl (WL_n rfl (WL_n rfl (WL_n rfl (WL_n rfl (sE rfl (sE rfl (WL_n rfl (WL_n rfl (WL_n rfl (WL_n rfl (sE rfl (sE rfl (nl J ?_)))))))))))))
        refine J6 _ _ (by repeat first | exact .refl | refine .cons rfl ?_) ⟨_, s0, ?s4, rfl⟩
        case s4 => exact congrArg Value.bool (and_f h25)
      ·skip
       rintro g27 M ⟨hg4, rfl⟩
       simp only [setG, hg4]
       clear hg4
       refine W_ret (ret1 rfl (.inr rfl) rfl ?_)
       exact (by subst hr8; exact congrArg (fun r : Bool => (.bool r : Value)) (show _ = (F_skewbacklaw05_IntervalIsLeast a b) from bif_f h6 (bif_t h9 (bif_t h11 (bif_t h14 rfl)))))
     ·skip
      refine W_f h14 rfl (W_skip (J5 _ _ ?_))
      refine W_join [4, 107, 108, 109, 110, 111, 112, 113, 114, 115, 116, 117, 118, 119] (fun g M => (g 4 = .bool (F_skewbacklaw05_sanity && ((F_skewbacklaw05_attained (F_interval_Abs a) [(F_ratio_Abs a.lo), (F_ratio_Abs a.hi)]) && (F_skewbacklaw05_attained (F_interval_Power a (wl 2)) [(F_ratio_Mul a.lo a.lo), (F_ratio_Mul a.hi a.hi)])))) ∧ M = [⟨b13, 28, flat [pI ((F_ratio_Mul a.lo a.lo).n), pI ((F_ratio_Mul a.lo a.lo).d), pI ((F_ratio_Mul a.hi a.hi).n), pI ((F_ratio_Mul a.hi a.hi).d)]⟩, ⟨b12, 28, flat [pI ((F_ratio_Abs a.lo).n), pI ((F_ratio_Abs a.lo).d), pI ((F_ratio_Abs a.hi).n), pI ((F_ratio_Abs a.hi).d)]⟩, ⟨b10, 28, flat [pI ((F_ratio_Of (wl 0)).n), pI ((F_ratio_Of (wl 0)).d)]⟩, ⟨b7, 28, flat [pI ((F_ratio_Mul a.lo b.lo).n), pI ((F_ratio_Mul a.lo b.lo).d), pI ((F_ratio_Mul a.lo b.hi).n), pI ((F_ratio_Mul a.lo b.hi).d), pI ((F_ratio_Mul a.hi b.lo).n), pI ((F_ratio_Mul a.hi b.lo).d), pI ((F_ratio_Mul a.hi b.hi).n), pI ((F_ratio_Mul a.hi b.hi).d)]⟩, ⟨b2, 31, flat [pI b.lo.n, pI b.lo.d, pI b.hi.n, pI b.hi.d]⟩, ⟨b1, 31, flat [pI a.lo.n, pI a.lo.d, pI a.hi.n, pI a.hi.d]⟩]) (fun K7 J7 => ?_) ?_
      ·skip
       refine Rk fun K J => sQ (q_ret en_10 skewbacklaw05_sanity_ret  rfl) rfl ?_
       rcases bt F_skewbacklaw05_sanity with h30 | h30
       ·skip
        refine sB h30 rfl (sQ (qL ty_31 rfl m5 rfl) rfl (sQ (q_ret en_32 (interval_Abs_ret a) rfl) rfl (sE rfl (sQ (q_as (v' := .bool (F_skewbacklaw05_attained (F_interval_Abs a) [(F_ratio_Abs a.lo), (F_ratio_Abs a.hi)])) (q_call en_37 rfl (fun w hw => skewbacklaw05_attained_ret (F_interval_Abs a) _ ([(F_ratio_Abs a.lo), (F_ratio_Abs a.hi)]) w (SLe.ap hw (SLe.lit (e := elRt) (l := [(F_ratio_Abs a.lo), (F_ratio_Abs a.hi)]) m1 rfl (Nat.le_of_ble_eq_true rfl) rfl)))) rfl) rfl (sE rfl ?_)))))
        rcases bt (F_skewbacklaw05_attained (F_interval_Abs a) [(F_ratio_Abs a.lo), (F_ratio_Abs a.hi)]) with h31 | h31
        ·skip
         refine sB h31 rfl (sQ (qL ty_31 rfl m5 rfl) rfl (sQ (q_ret en_33 (interval_Power_ret a (wl 2)) rfl) rfl ?_))
         refine sE rfl (sQ (q_as (v' := .bool (F_skewbacklaw05_attained (F_interval_Power a (wl 2)) [(F_ratio_Mul a.lo a.lo), (F_ratio_Mul a.hi a.hi)])) (q_call en_37 rfl (fun w hw => skewbacklaw05_attained_ret (F_interval_Power a (wl 2)) _ ([(F_ratio_Mul a.lo a.lo), (F_ratio_Mul a.hi a.hi)]) w (SLe.ap hw (SLe.lit (e := elRt) (l := [(F_ratio_Mul a.lo a.lo), (F_ratio_Mul a.hi a.hi)]) m0 rfl (Nat.le_of_ble_eq_true rfl) rfl)))) rfl) rfl ?_)
         refine sE rfl (sE rfl (nl J ?_))
         refine J7 _ _ (by repeat first | exact .refl | refine .cons rfl ?_) ⟨_, s0, ?s4, rfl⟩
         case s4 => exact congrArg Value.bool (and_t h30 (and_t h31 rfl))
        ·skip
         refine sB h31 rfl (WL_n rfl (WL_n rfl (WL_n rfl (WL_n rfl (sE rfl (sE rfl (nl J ?_)))))))
         refine J7 _ _ (by repeat first | exact .refl | refine .cons rfl ?_) ⟨_, s0, ?s4, rfl⟩
         case s4 => exact congrArg Value.bool (and_t h30 (and_f h31))
       ·skip
        refine sB h30 rfl (WL_n rfl (WL_n rfl (WL_n rfl (WL_n rfl (sE rfl (sE rfl (WL_n rfl (WL_n rfl (WL_n rfl (WL_n rfl (sE rfl (sE rfl (nl J ?_)))))))))))))
        refine J7 _ _ (by repeat first | exact .refl | refine .cons rfl ?_) ⟨_, s0, ?s4, rfl⟩
        case s4 => exact congrArg Value.bool (and_f h30)
      ·skip
       rintro g32 M ⟨hg4, rfl⟩
       simp only [setG, hg4]
       clear hg4
       refine W_ret (ret1 rfl (.inr rfl) rfl ?_)
       exact (by subst hr8; exact congrArg (fun r : Bool => (.bool r : Value)) (show _ = (F_skewbacklaw05_IntervalIsLeast a b) from bif_f h6 (bif_t h9 (bif_t h11 (bif_f h14 rfl)))))
    ·skip
     refine W_t (not_t h11) rfl (ds (sk (sk (sk (sk (s0))))) [0,4,8,12,16,20,24,28,32,36,40,44,48,52,56,60,64,68,72,76,81,84] [] mix (by kernel_rfl) (fun K J => pQ rfl (qF fd_31_0 rfl rfl) (pQ rfl (qL ty_28 rfl m3 rfl) (pQ rfl (qF fd_31_0 rfl rfl) (pQ rfl (qL ty_28 rfl m2 rfl) (pQ rfl (q_ret en_39 (ratio_Div_ret a.lo b.lo) rfl) (pQ rfl (qF fd_31_0 rfl rfl) (pQ rfl (qL ty_28 rfl m3 rfl) (pQ rfl (qF fd_31_1 rfl rfl) (pQ rfl (qL ty_28 rfl m2 rfl) (pQ rfl (q_ret en_39 (ratio_Div_ret a.lo b.hi) rfl) (pQ rfl (qF fd_31_1 rfl rfl) (pQ rfl (qL ty_28 rfl m3 rfl) (pQ rfl (qF fd_31_0 rfl rfl) (pQ rfl (qL ty_28 rfl m2 rfl) (pQ rfl (q_ret en_39 (ratio_Div_ret a.hi b.lo) rfl) (pQ rfl (qF fd_31_1 rfl rfl) (pQ rfl (qL ty_28 rfl m3 rfl) (pQ rfl (qF fd_31_1 rfl rfl) ?_)))))))))))))))))))
     refine pQ rfl (qL ty_28 rfl m2 rfl) (pQ rfl (q_ret en_39 (ratio_Div_ret a.hi b.hi) rfl) (PL_o rfl rfl (r_bsliceA [[pI ((F_ratio_Div a.lo b.lo).n), pI ((F_ratio_Div a.lo b.lo).d)], [pI ((F_ratio_Div a.lo b.hi).n), pI ((F_ratio_Div a.lo b.hi).d)], [pI ((F_ratio_Div a.hi b.lo).n), pI ((F_ratio_Div a.hi b.lo).d)], [pI ((F_ratio_Div a.hi b.hi).n), pI ((F_ratio_Div a.hi b.hi).d)]] [pI ((F_ratio_Div a.lo b.lo).n), pI ((F_ratio_Div a.lo b.lo).d), pI ((F_ratio_Div a.lo b.hi).n), pI ((F_ratio_Div a.lo b.hi).d), pI ((F_ratio_Div a.hi b.lo).n), pI ((F_ratio_Div a.hi b.lo).d), pI ((F_ratio_Div a.hi b.hi).n), pI ((F_ratio_Div a.hi b.hi).d)] us_53 z_28 sz_28 rfl (by decide) rfl rfl ⟨rfl, rfl, rfl, rfl, rfl, rfl, rfl, rfl, rfl, rfl, rfl, rfl, trivial⟩ rfl (fun b33 hb33 => ⟨(fun _ => sd s0), (sd s0), pE rfl (fl J (Rs fun K J => sQ (qL ty_31 rfl m4 rfl) rfl (sQ (qL ty_31 rfl m3 rfl) rfl ?_)))⟩))))
     obtain ⟨r34, hr34⟩ := nm ((F_interval_Div a b) : Iv)
     refine sC (AV [pI r34.lo.n, pI r34.lo.d, pI r34.hi.n, pI r34.hi.d]) en_35 (interval_Div_ret a b) rfl rfl (by rw [hr34]; first | done | rfl) (sE rfl (sQ (q_as (v' := .bool (F_skewbacklaw05_attained r34 [(F_ratio_Div a.lo b.lo), (F_ratio_Div a.lo b.hi), (F_ratio_Div a.hi b.lo), (F_ratio_Div a.hi b.hi)])) (q_call en_37 rfl (fun w hw => skewbacklaw05_attained_ret r34 _ ([(F_ratio_Div a.lo b.lo), (F_ratio_Div a.lo b.hi), (F_ratio_Div a.hi b.lo), (F_ratio_Div a.hi b.hi)]) w (SLe.ap hw (SLe.lit (e := elRt) (l := [(F_ratio_Div a.lo b.lo), (F_ratio_Div a.lo b.hi), (F_ratio_Div a.hi b.lo), (F_ratio_Div a.hi b.hi)]) m0 rfl (Nat.le_of_ble_eq_true rfl) rfl)))) rfl) rfl (sE rfl (nl J ?_))))
     rcases bt (F_skewbacklaw05_attained r34 [(F_ratio_Div a.lo b.lo), (F_ratio_Div a.lo b.hi), (F_ratio_Div a.hi b.lo), (F_ratio_Div a.hi b.hi)]) with h35 | h35
     ·skip
      refine W_f (not_f h35) rfl (W_skip (J4 _ _ (ds (sk (sk (sk (sk (sk (s0)))))) [0,4,8,12,16,20,25,28] [] mix (by kernel_rfl) (fun K J => pQ rfl (qF fd_31_0 rfl rfl) (pQ rfl (qL ty_28 rfl m4 rfl) (pQ rfl (q_ret en_40 (ratio_Abs_ret a.lo) rfl) (pQ rfl (qF fd_31_1 rfl rfl) (pQ rfl (qL ty_28 rfl m4 rfl) (pQ rfl (q_ret en_40 (ratio_Abs_ret a.hi) rfl) (PL_o rfl rfl (r_bsliceA [[pI ((F_ratio_Abs a.lo).n), pI ((F_ratio_Abs a.lo).d)], [pI ((F_ratio_Abs a.hi).n), pI ((F_ratio_Abs a.hi).d)]] [pI ((F_ratio_Abs a.lo).n), pI ((F_ratio_Abs a.lo).d), pI ((F_ratio_Abs a.hi).n), pI ((F_ratio_Abs a.hi).d)] us_53 z_28 sz_28 rfl (by decide) rfl rfl ⟨rfl, rfl, rfl, rfl, rfl, rfl, trivial⟩ rfl (fun b36 hb36 => ⟨(fun _ => sd s0), (sd s0), pE rfl (fl J (ds (sk (sk (sk (sk (sk (sk (s0))))))) [0,4,8,12,16,20,24,28,32,36,41,44] [] mix (by kernel_rfl) (fun K J => pQ rfl (qF fd_31_0 rfl rfl) (pQ rfl (qL ty_28 rfl m5 rfl) (pQ rfl (qF fd_31_0 rfl rfl) (pQ rfl (qL ty_28 rfl m5 rfl) (pQ rfl (q_ret en_36 (ratio_Mul_ret a.lo a.lo) rfl) (pQ rfl (qF fd_31_1 rfl rfl) ?_))))))))⟩))))))))))))
      refine pQ rfl (qL ty_28 rfl m5 rfl) (pQ rfl (qF fd_31_1 rfl rfl) (pQ rfl (qL ty_28 rfl m5 rfl) (pQ rfl (q_ret en_36 (ratio_Mul_ret a.hi a.hi) rfl) (PL_o rfl rfl (r_bsliceA [[pI ((F_ratio_Mul a.lo a.lo).n), pI ((F_ratio_Mul a.lo a.lo).d)], [pI ((F_ratio_Mul a.hi a.hi).n), pI ((F_ratio_Mul a.hi a.hi).d)]] [pI ((F_ratio_Mul a.lo a.lo).n), pI ((F_ratio_Mul a.lo a.lo).d), pI ((F_ratio_Mul a.hi a.hi).n), pI ((F_ratio_Mul a.hi a.hi).d)] us_53 z_28 sz_28 rfl (by decide) rfl rfl ⟨rfl, rfl, rfl, rfl, rfl, rfl, trivial⟩ rfl (fun b37 hb37 => ⟨(fun _ => sd s0), (sd s0), pE rfl (fl J (Sq fun K8 J8 => Rs fun K J => sQ (qL ty_31 rfl m6 rfl) rfl (sQ (qL ty_28 rfl m3 rfl) rfl (sQ (q_ret en_17 (interval_Has_ret a (F_ratio_Of (wl 0))) rfl) rfl ?_))))⟩))))))
      refine nl J ?_
      rcases bt (F_interval_Has a (F_ratio_Of (wl 0))) with h38 | h38
      ·skip
       refine W_t h38 rfl (Rs fun K J => sE rfl (sQ (qL ty_28 rfl m3 rfl) rfl (WL_r rfl (r_bsliceA [[pI ((F_ratio_Of (wl 0)).n), pI ((F_ratio_Of (wl 0)).d)]] [pI ((F_ratio_Of (wl 0)).n), pI ((F_ratio_Of (wl 0)).d)] us_53 z_28 sz_28 rfl (by decide) rfl rfl ⟨rfl, rfl, rfl, trivial⟩ rfl (fun b39 hb39 => ?_)))))
       refine WL_r rfl (r_appendM (e := elRt) (l := [(F_ratio_Abs a.lo), (F_ratio_Abs a.hi)]) (m := [(F_ratio_Of (wl 0))]) 136 us_53 (by kernel_rfl) (by decide) rfl rfl (OwnG.lit (e := elRt) (l := [(F_ratio_Abs a.lo), (F_ratio_Abs a.hi)]) (qs := [pI ((F_ratio_Abs a.lo).n), pI ((F_ratio_Abs a.lo).d), pI ((F_ratio_Abs a.hi).n), pI ((F_ratio_Abs a.hi).d)]) hb36 rfl (Nat.le_of_ble_eq_true rfl) rfl) (SLe.lit (e := elRt) (l := [(F_ratio_Of (wl 0))]) m0 rfl (Nat.le_of_ble_eq_true rfl) rfl) (fq_s (fq_s fq_b)) (Nat.le_of_ble_eq_true rfl) (by decide) (fun v40 L41 hO42 => ?_))
       refine sE rfl (nl J (Rk fun K J => sE rfl (sQ (qL ty_28 rfl (List.mem_append_right _ (List.mem_cons_of_mem _ (List.mem_cons_of_mem _ (List.mem_cons_of_mem _ (List.mem_cons_self))))) rfl) rfl (WL_r rfl (r_bsliceA [[pI ((F_ratio_Of (wl 0)).n), pI ((F_ratio_Of (wl 0)).d)]] [pI ((F_ratio_Of (wl 0)).n), pI ((F_ratio_Of (wl 0)).d)] us_53 z_28 sz_28 rfl (by decide) rfl rfl ⟨rfl, rfl, rfl, trivial⟩ rfl (fun b43 hb43 => ?_))))))
       refine WL_r rfl (r_appendM (e := elRt) (l := [(F_ratio_Mul a.lo a.lo), (F_ratio_Mul a.hi a.hi)]) (m := [(F_ratio_Of (wl 0))]) 136 us_53 (by kernel_rfl) (by decide) rfl rfl (OwnG.lit (e := elRt) (l := [(F_ratio_Mul a.lo a.lo), (F_ratio_Mul a.hi a.hi)]) (qs := [pI ((F_ratio_Mul a.lo a.lo).n), pI ((F_ratio_Mul a.lo a.lo).d), pI ((F_ratio_Mul a.hi a.hi).n), pI ((F_ratio_Mul a.hi a.hi).d)]) hb37 rfl (Nat.le_of_ble_eq_true rfl) rfl) (SLe.lit (e := elRt) (l := [(F_ratio_Of (wl 0))]) m0 rfl (Nat.le_of_ble_eq_true rfl) rfl) (fq_s (fq_sl (fq_s fq_b))) (Nat.le_of_ble_eq_true rfl) (by decide) (fun v44 L45 hO46 => ?_))
       refine sE rfl (nl J (J8 _ _ ?_))
       refine W_join [4, 107, 108, 109, 110, 111, 112, 113, 114, 115, 116, 117, 118, 119] (fun g M => (g 4 = .bool (F_skewbacklaw05_sanity && ((F_skewbacklaw05_attained (F_interval_Abs a) ([(F_ratio_Abs a.lo), (F_ratio_Abs a.hi)] ++ [(F_ratio_Of (wl 0))])) && (F_skewbacklaw05_attained (F_interval_Power a (wl 2)) ([(F_ratio_Mul a.lo a.lo), (F_ratio_Mul a.hi a.hi)] ++ [(F_ratio_Of (wl 0))]))))) ∧ M = (L45 ++ (⟨b43, 28, flat [pI ((F_ratio_Of (wl 0)).n), pI ((F_ratio_Of (wl 0)).d)]⟩ :: (L41 ++ (⟨b39, 28, flat [pI ((F_ratio_Of (wl 0)).n), pI ((F_ratio_Of (wl 0)).d)]⟩ :: (⟨b33, 28, flat [pI ((F_ratio_Div a.lo b.lo).n), pI ((F_ratio_Div a.lo b.lo).d), pI ((F_ratio_Div a.lo b.hi).n), pI ((F_ratio_Div a.lo b.hi).d), pI ((F_ratio_Div a.hi b.lo).n), pI ((F_ratio_Div a.hi b.lo).d), pI ((F_ratio_Div a.hi b.hi).n), pI ((F_ratio_Div a.hi b.hi).d)]⟩ :: (⟨b10, 28, flat [pI ((F_ratio_Of (wl 0)).n), pI ((F_ratio_Of (wl 0)).d)]⟩ :: (⟨b7, 28, flat [pI ((F_ratio_Mul a.lo b.lo).n), pI ((F_ratio_Mul a.lo b.lo).d), pI ((F_ratio_Mul a.lo b.hi).n), pI ((F_ratio_Mul a.lo b.hi).d), pI ((F_ratio_Mul a.hi b.lo).n), pI ((F_ratio_Mul a.hi b.lo).d), pI ((F_ratio_Mul a.hi b.hi).n), pI ((F_ratio_Mul a.hi b.hi).d)]⟩ :: (⟨b2, 31, flat [pI b.lo.n, pI b.lo.d, pI b.hi.n, pI b.hi.d]⟩ :: (⟨b1, 31, flat [pI a.lo.n, pI a.lo.d, pI a.hi.n, pI a.hi.d]⟩ :: [])))))))))) (fun K9 J9 => ?_) ?_
       ·skip
        refine Rk fun K J => sQ (q_ret en_10 skewbacklaw05_sanity_ret  rfl) rfl ?_
        rcases bt F_skewbacklaw05_sanity with h49 | h49
        ·skip
         refine sB h49 rfl (sQ (qL ty_31 rfl (List.mem_append_right _ (List.mem_cons_of_mem _ (List.mem_append_right _ (List.mem_cons_of_mem _ (List.mem_cons_of_mem _ (List.mem_cons_of_mem _ (List.mem_cons_of_mem _ (List.mem_cons_of_mem _ (List.mem_cons_self))))))))) rfl) rfl (sQ (q_ret en_32 (interval_Abs_ret a) rfl) rfl (sE rfl (sQ (q_as (v' := .bool (F_skewbacklaw05_attained (F_interval_Abs a) ([(F_ratio_Abs a.lo), (F_ratio_Abs a.hi)] ++ [(F_ratio_Of (wl 0))]))) (q_call en_37 rfl (fun w hw => skewbacklaw05_attained_ret (F_interval_Abs a) _ (([(F_ratio_Abs a.lo), (F_ratio_Abs a.hi)] ++ [(F_ratio_Of (wl 0))])) w (SLe.ap hw (SLfe.sle (OwnG.slfe hO42 (sR (sd (List.sublist_append_left _ _)))))))) rfl) rfl ?_))))
         refine sE rfl ?_
         rcases bt (F_skewbacklaw05_attained (F_interval_Abs a) ([(F_ratio_Abs a.lo), (F_ratio_Abs a.hi)] ++ [(F_ratio_Of (wl 0))])) with h50 | h50
         ·skip
          refine sB h50 rfl (sQ (qL ty_31 rfl (List.mem_append_right _ (List.mem_cons_of_mem _ (List.mem_append_right _ (List.mem_cons_of_mem _ (List.mem_cons_of_mem _ (List.mem_cons_of_mem _ (List.mem_cons_of_mem _ (List.mem_cons_of_mem _ (List.mem_cons_self))))))))) rfl) rfl (sQ (q_ret en_33 (interval_Power_ret a (wl 2)) rfl) rfl ?_))
          refine sE rfl (sQ (q_as (v' := .bool (F_skewbacklaw05_attained (F_interval_Power a (wl 2)) ([(F_ratio_Mul a.lo a.lo), (F_ratio_Mul a.hi a.hi)] ++ [(F_ratio_Of (wl 0))]))) (q_call en_37 rfl (fun w hw => skewbacklaw05_attained_ret (F_interval_Power a (wl 2)) _ (([(F_ratio_Mul a.lo a.lo), (F_ratio_Mul a.hi a.hi)] ++ [(F_ratio_Of (wl 0))])) w (SLe.ap hw (SLfe.sle (OwnG.slfe hO46 (List.sublist_append_left _ _)))))) rfl) rfl ?_)
          refine sE rfl (sE rfl (nl J ?_))
          refine J9 _ _ (by repeat first | exact .refl | refine .cons rfl ?_) ⟨_, s0, ?s4, rfl⟩
          case s4 => exact congrArg Value.bool (and_t h49 (and_t h50 rfl))
         ·skip
          refine sB h50 rfl (WL_n rfl (WL_n rfl (WL_n rfl (WL_n rfl (sE rfl (sE rfl (nl J ?_)))))))
          refine J9 _ _ (by repeat first | exact .refl | refine .cons rfl ?_) ⟨_, s0, ?s4, rfl⟩
          case s4 => exact congrArg Value.bool (and_t h49 (and_f h50))
        ·skip
         refine sB h49 rfl (WL_n rfl (WL_n rfl (WL_n rfl (WL_n rfl (sE rfl (sE rfl (WL_n rfl (WL_n rfl (WL_n rfl (WL_n rfl (sE rfl (sE rfl (nl J ?_)))))))))))))
         refine J9 _ _ (by repeat first | exact .refl | refine .cons rfl ?_) ⟨_, s0, ?s4, rfl⟩
         case s4 => exact congrArg Value.bool (and_f h49)
       ·skip
        rintro g51 M ⟨hg4, rfl⟩
        simp only [setG, hg4]
        clear hg4
        refine W_ret (ret1 rfl (.inr rfl) rfl ?_)
        exact (by subst hr34; subst hr8; exact congrArg (fun r : Bool => (.bool r : Value)) (show _ = (F_skewbacklaw05_IntervalIsLeast a b) from bif_f h6 (bif_t h9 (bif_f h11 (bif_t h35 (bif_t h38 rfl))))))
      ·skip
       refine W_f h38 rfl (W_skip (J8 _ _ ?_))
       refine W_join [4, 107, 108, 109, 110, 111, 112, 113, 114, 115, 116, 117, 118, 119] (fun g M => (g 4 = .bool (F_skewbacklaw05_sanity && ((F_skewbacklaw05_attained (F_interval_Abs a) [(F_ratio_Abs a.lo), (F_ratio_Abs a.hi)]) && (F_skewbacklaw05_attained (F_interval_Power a (wl 2)) [(F_ratio_Mul a.lo a.lo), (F_ratio_Mul a.hi a.hi)])))) ∧ M = [⟨b37, 28, flat [pI ((F_ratio_Mul a.lo a.lo).n), pI ((F_ratio_Mul a.lo a.lo).d), pI ((F_ratio_Mul a.hi a.hi).n), pI ((F_ratio_Mul a.hi a.hi).d)]⟩, ⟨b36, 28, flat [pI ((F_ratio_Abs a.lo).n), pI ((F_ratio_Abs a.lo).d), pI ((F_ratio_Abs a.hi).n), pI ((F_ratio_Abs a.hi).d)]⟩, ⟨b33, 28, flat [pI ((F_ratio_Div a.lo b.lo).n), pI ((F_ratio_Div a.lo b.lo).d), pI ((F_ratio_Div a.lo b.hi).n), pI ((F_ratio_Div a.lo b.hi).d), pI ((F_ratio_Div a.hi b.lo).n), pI ((F_ratio_Div a.hi b.lo).d), pI ((F_ratio_Div a.hi b.hi).n), pI ((F_ratio_Div a.hi b.hi).d)]⟩, ⟨b10, 28, flat [pI ((F_ratio_Of (wl 0)).n), pI ((F_ratio_Of (wl 0)).d)]⟩, ⟨b7, 28, flat [pI ((F_ratio_Mul a.lo b.lo).n), pI ((F_ratio_Mul a.lo b.lo).d), pI ((F_ratio_Mul a.lo b.hi).n), pI ((F_ratio_Mul a.lo b.hi).d), pI ((F_ratio_Mul a.hi b.lo).n), pI ((F_ratio_Mul a.hi b.lo).d), pI ((F_ratio_Mul a.hi b.hi).n), pI ((F_ratio_Mul a.hi b.hi).d)]⟩, ⟨b2, 31, flat [pI b.lo.n, pI b.lo.d, pI b.hi.n, pI b.hi.d]⟩, ⟨b1, 31, flat [pI a.lo.n, pI a.lo.d, pI a.hi.n, pI a.hi.d]⟩]) (fun K10 J10 => ?_) ?_
       ·skip
        refine Rk fun K J => sQ (q_ret en_10 skewbacklaw05_sanity_ret  rfl) rfl ?_
        rcases bt F_skewbacklaw05_sanity with h54 | h54
        ·skip
         refine sB h54 rfl (sQ (qL ty_31 rfl m6 rfl) rfl (sQ (q_ret en_32 (interval_Abs_ret a) rfl) rfl (sE rfl (sQ (q_as (v' := .bool (F_skewbacklaw05_attained (F_interval_Abs a) [(F_ratio_Abs a.lo), (F_ratio_Abs a.hi)])) (q_call en_37 rfl (fun w hw => skewbacklaw05_attained_ret (F_interval_Abs a) _ ([(F_ratio_Abs a.lo), (F_ratio_Abs a.hi)]) w (SLe.ap hw (SLe.lit (e := elRt) (l := [(F_ratio_Abs a.lo), (F_ratio_Abs a.hi)]) m1 rfl (Nat.le_of_ble_eq_true rfl) rfl)))) rfl) rfl (sE rfl ?_)))))
         rcases bt (F_skewbacklaw05_attained (F_interval_Abs a) [(F_ratio_Abs a.lo), (F_ratio_Abs a.hi)]) with h55 | h55
         ·skip
          refine sB h55 rfl (sQ (qL ty_31 rfl m6 rfl) rfl (sQ (q_ret en_33 (interval_Power_ret a (wl 2)) rfl) rfl ?_))
          refine sE rfl (sQ (q_as (v' := .bool (F_skewbacklaw05_attained (F_interval_Power a (wl 2)) [(F_ratio_Mul a.lo a.lo), (F_ratio_Mul a.hi a.hi)])) (q_call en_37 rfl (fun w hw => skewbacklaw05_attained_ret (F_interval_Power a (wl 2)) _ ([(F_ratio_Mul a.lo a.lo), (F_ratio_Mul a.hi a.hi)]) w (SLe.ap hw (SLe.lit (e := elRt) (l := [(F_ratio_Mul a.lo a.lo), (F_ratio_Mul a.hi a.hi)]) m0 rfl (Nat.le_of_ble_eq_true rfl) rfl)))) rfl) rfl ?_)
          refine sE rfl (sE rfl (nl J ?_))
          refine J10 _ _ (by repeat first | exact .refl | refine .cons rfl ?_) ⟨_, s0, ?s4, rfl⟩
          case s4 => exact congrArg Value.bool (and_t h54 (and_t h55 rfl))
         ·skip
          refine sB h55 rfl (WL_n rfl (WL_n rfl (WL_n rfl (WL_n rfl (sE rfl (sE rfl (nl J ?_)))))))
          refine J10 _ _ (by repeat first | exact .refl | refine .cons rfl ?_) ⟨_, s0, ?s4, rfl⟩
          case s4 => exact congrArg Value.bool (and_t h54 (and_f h55))
        ·skip
         refine sB h54 rfl (WL_n rfl (WL_n rfl (WL_n rfl (WL_n rfl (sE rfl (sE rfl (WL_n rfl (WL_n rfl (WL_n rfl (WL_n rfl (sE rfl (sE rfl (nl J ?_)))))))))))))
         refine J10 _ _ (by repeat first | exact .refl | refine .cons rfl ?_) ⟨_, s0, ?s4, rfl⟩
         case s4 => exact congrArg Value.bool (and_f h54)
       ·skip
        rintro g56 M ⟨hg4, rfl⟩
        simp only [setG, hg4]
        clear hg4
        refine W_ret (ret1 rfl (.inr rfl) rfl ?_)
        exact (by subst hr34; subst hr8; exact congrArg (fun r : Bool => (.bool r : Value)) (show _ = (F_skewbacklaw05_IntervalIsLeast a b) from bif_f h6 (bif_t h9 (bif_f h11 (bif_t h35 (bif_f h38 rfl))))))
     ·skip
      refine W_t (not_t h35) rfl (Rs fun K J => sE rfl (nl J (W_ret (thenK_r (ret1 rfl (.inr rfl) rfl ?_)))))
      exact (by subst hr34; subst hr8; exact congrArg (fun r : Bool => (.bool r : Value)) (show _ = (F_skewbacklaw05_IntervalIsLeast a b) from bif_f h6 (bif_t h9 (bif_f h11 (bif_f h35 rfl)))))
   ·skip
    refine W_t (not_t h9) rfl (Rs fun K J => sE rfl (nl J (W_ret (thenK_r (ret1 rfl (.inr rfl) rfl ?_)))))
    exact (by subst hr8; exact congrArg (fun r : Bool => (.bool r : Value)) (show _ = (F_skewbacklaw05_IntervalIsLeast a b) from bif_f h6 (bif_f h9 rfl)))
end Go.Proofs.YtnfbkngfdemkpaaGreatDoor
