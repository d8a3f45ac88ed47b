/- Walks: what these functions return. -/
import Derived.Test.YtnfbkngfdemkpaaGreatDoorFa0
import Derived.Test.YtnfbkngfdemkpaaGreatDoorFa2
import Derived.Test.YtnfbkngfdemkpaaGreatDoorFl1
import Derived.Test.YtnfbkngfdemkpaaGreatDoorIa
import Derived.Test.YtnfbkngfdemkpaaGreatDoorIr
import Derived.Test.YtnfbkngfdemkpaaGreatDoorLa
namespace Go.Proofs.YtnfbkngfdemkpaaGreatDoor
open Go.Kn Go.Num
set_option linter.unusedVariables false
set_option linter.unusedSimpArgs false
set_option maxRecDepth 20000
set_option maxHeartbeats 8000000
theorem skewbacklaw05_IntervalComputesAsSpecified_ret (a : Iv) (b : Iv) (c : W) :
    Ret Tryz.prog 7 [AV [pI a.lo.n, pI a.lo.d, pI a.hi.n, pI a.hi.d], AV [pI b.lo.n, pI b.lo.d, pI b.hi.n, pI b.hi.d], .int .i64 c.1] (.bool (F_skewbacklaw05_IntervalComputesAsSpecified a b c)) := by
 refine ret_of_W (N := 111) Tryz.func7 rfl rfl (by simp) (fun w0 => ?_)
 simp only [initF, Nat.reduceAdd]
 refine Rs fun K J => WL_r rfl (r_boxp rfl rfl (fun b1 hb1 => WL_r rfl (r_boxp rfl rfl (fun b2 hb2 => sE rfl (nl J (Sq fun K1 J1 => ?_))))))
 refine W_join [11, 12, 13, 14, 15, 16, 17, 18] (fun g M => (g 18 = .bool (!(F_skewbackref05_Right a) || (!(F_skewbackref05_Right b)))) ∧ M = [⟨b2, 31, flat [pI b.lo.n, pI b.lo.d, pI b.hi.n, pI b.hi.d]⟩, ⟨b1, 31, flat [pI a.lo.n, pI a.lo.d, pI a.hi.n, pI a.hi.d]⟩]) (fun K2 J2 => ?_) ?_
 ·skip
  refine Rk fun K J => sQ (qL ty_31 rfl m1 rfl) rfl (sQ (q_ret en_14 (skewbackref05_Right_ret a) rfl) rfl (sE rfl ?_))
  rcases bt (F_skewbackref05_Right a) with h4 | h4
  ·skip
   refine sB (not_f h4) rfl (sQ (qL ty_31 rfl m0 rfl) rfl (sQ (q_ret en_14 (skewbackref05_Right_ret b) rfl) rfl (sE rfl (sE rfl (nl J ?_)))))
   refine J2 _ _ (by repeat first | exact .refl | refine .cons rfl ?_) ⟨_, s0, ?s18, rfl⟩
   case s18 => exact congrArg Value.bool (nor_t h4 rfl)
  ·skip
   refine sB (not_t h4) rfl (WL_n rfl (WL_n rfl (WL_n rfl (sE rfl (nl J ?_)))))
   refine J2 _ _ (by repeat first | exact .refl | refine .cons rfl ?_) ⟨_, s0, ?s18, rfl⟩
   case s18 => exact congrArg Value.bool (nor_f h4)
 ·skip
  rintro g5 M ⟨hg18, rfl⟩
  simp only [setG, hg18]
  clear hg18
  rcases bt (!(F_skewbackref05_Right a) || (!(F_skewbackref05_Right b))) with h6 | h6
  ·skip
   refine W_t h6 rfl (Rs fun K J => sQ (q_ret en_10 skewbacklaw05_sanity_ret  rfl) rfl (sE rfl (nl J (W_ret (thenK_r (ret1 rfl (.inr rfl) rfl ?_))))))
   exact (by exact congrArg (fun r : Bool => (.bool r : Value)) (show _ = (F_skewbacklaw05_IntervalComputesAsSpecified a b c) from bif_t h6 rfl))
  ·skip
   refine W_f h6 rfl (W_skip (J1 _ _ ?_))
   refine W_join [7, 20, 21, 22, 23, 24, 25, 26, 27, 28, 29, 30, 31, 32, 33, 34, 35, 36, 37, 38, 39, 40, 41, 42, 43, 44, 45, 46, 47, 48, 49, 50, 51, 52, 53] (fun g M => (g 7 = .bool ((decide ((((F_interval_Add a b).lo).n) = (((F_skewbackref05_Add a b).lo).n)) && (decide ((((F_interval_Add a b).lo).d) = (((F_skewbackref05_Add a b).lo).d)) && (decide ((((F_interval_Add a b).hi).n) = (((F_skewbackref05_Add a b).hi).n)) && decide ((((F_interval_Add a b).hi).d) = (((F_skewbackref05_Add a b).hi).d))))) && ((decide ((((F_interval_Sub a b).lo).n) = (((F_skewbackref05_Sub a b).lo).n)) && (decide ((((F_interval_Sub a b).lo).d) = (((F_skewbackref05_Sub a b).lo).d)) && (decide ((((F_interval_Sub a b).hi).n) = (((F_skewbackref05_Sub a b).hi).n)) && decide ((((F_interval_Sub a b).hi).d) = (((F_skewbackref05_Sub a b).hi).d))))) && ((decide ((((F_interval_Mul a b).lo).n) = (((F_skewbackref05_Mul a b).lo).n)) && (decide ((((F_interval_Mul a b).lo).d) = (((F_skewbackref05_Mul a b).lo).d)) && (decide ((((F_interval_Mul a b).hi).n) = (((F_skewbackref05_Mul a b).hi).n)) && decide ((((F_interval_Mul a b).hi).d) = (((F_skewbackref05_Mul a b).hi).d))))) && (decide ((((F_interval_Div a b).lo).n) = (((F_skewbackref05_Div a b).lo).n)) && (decide ((((F_interval_Div a b).lo).d) = (((F_skewbackref05_Div a b).lo).d)) && (decide ((((F_interval_Div a b).hi).n) = (((F_skewbackref05_Div a b).hi).n)) && decide ((((F_interval_Div a b).hi).d) = (((F_skewbackref05_Div a b).hi).d))))))))) ∧ M = [⟨b2, 31, flat [pI b.lo.n, pI b.lo.d, pI b.hi.n, pI b.hi.d]⟩, ⟨b1, 31, flat [pI a.lo.n, pI a.lo.d, pI a.hi.n, pI a.hi.d]⟩]) (fun K3 J3 => ?_) ?_
   ·skip
    refine dr (sk (sk (s0))) [0,4,8,12,16,20,24,28,32,36,40,44,48,52,56,60,64,68,72,76,80,84,88,92,96,100,104,108,112,116,120,124,128,132,136] [] mix (by kernel_rfl) (fun K J => pQ rfl (qL ty_31 rfl m1 rfl) (pQ rfl (qL ty_31 rfl m0 rfl) (pQ rfl (q_ret en_28 (interval_Add_ret a b) rfl) (pQ rfl (qL ty_31 rfl m1 rfl) (pQ rfl (qL ty_31 rfl m0 rfl) (pQ rfl (q_ret en_41 (skewbackref05_Add_ret a b) rfl) ?_))))))
    refine pQ rfl (q_eqla (r := (decide ((((F_interval_Add a b).lo).n) = (((F_skewbackref05_Add a b).lo).n)) && (decide ((((F_interval_Add a b).lo).d) = (((F_skewbackref05_Add a b).lo).d)) && (decide ((((F_interval_Add a b).hi).n) = (((F_skewbackref05_Add a b).hi).n)) && decide ((((F_interval_Add a b).hi).d) = (((F_skewbackref05_Add a b).hi).d)))))) rfl rfl (eqOk_of 8 (by decide) eg_31 lw_31 (lv_cons lv_pI (lv_cons lv_pI (lv_cons lv_pI (lv_one lv_pI)))) (lv_cons lv_pI (lv_cons lv_pI (lv_cons lv_pI (lv_one lv_pI)))) (eqP_cons rfl eq_pI (eqP_cons rfl eq_pI (eqP_cons rfl eq_pI (eqP_one eq_pI)))))) ?_
    rcases bt (decide ((((F_interval_Add a b).lo).n) = (((F_skewbackref05_Add a b).lo).n)) && (decide ((((F_interval_Add a b).lo).d) = (((F_skewbackref05_Add a b).lo).d)) && (decide ((((F_interval_Add a b).hi).n) = (((F_skewbackref05_Add a b).hi).n)) && decide ((((F_interval_Add a b).hi).d) = (((F_skewbackref05_Add a b).hi).d))))) with h12 | h12
    ·skip
     refine pB h12 rfl (pQ rfl (qL ty_31 rfl m1 rfl) (pQ rfl (qL ty_31 rfl m0 rfl) (pQ rfl (q_ret en_29 (interval_Sub_ret a b) rfl) (pQ rfl (qL ty_31 rfl m1 rfl) (pQ rfl (qL ty_31 rfl m0 rfl) (pQ rfl (q_ret en_42 (skewbackref05_Sub_ret a b) rfl) ?_))))))
     refine pQ rfl (q_eqla (r := (decide ((((F_interval_Sub a b).lo).n) = (((F_skewbackref05_Sub a b).lo).n)) && (decide ((((F_interval_Sub a b).lo).d) = (((F_skewbackref05_Sub a b).lo).d)) && (decide ((((F_interval_Sub a b).hi).n) = (((F_skewbackref05_Sub a b).hi).n)) && decide ((((F_interval_Sub a b).hi).d) = (((F_skewbackref05_Sub a b).hi).d)))))) rfl rfl (eqOk_of 8 (by decide) eg_31 lw_31 (lv_cons lv_pI (lv_cons lv_pI (lv_cons lv_pI (lv_one lv_pI)))) (lv_cons lv_pI (lv_cons lv_pI (lv_cons lv_pI (lv_one lv_pI)))) (eqP_cons rfl eq_pI (eqP_cons rfl eq_pI (eqP_cons rfl eq_pI (eqP_one eq_pI)))))) (pE rfl ?_)
     rcases bt (decide ((((F_interval_Sub a b).lo).n) = (((F_skewbackref05_Sub a b).lo).n)) && (decide ((((F_interval_Sub a b).lo).d) = (((F_skewbackref05_Sub a b).lo).d)) && (decide ((((F_interval_Sub a b).hi).n) = (((F_skewbackref05_Sub a b).hi).n)) && decide ((((F_interval_Sub a b).hi).d) = (((F_skewbackref05_Sub a b).hi).d))))) with h13 | h13
     ·skip
      refine pB h13 rfl (pQ rfl (qL ty_31 rfl m1 rfl) (pQ rfl (qL ty_31 rfl m0 rfl) (pQ rfl (q_ret en_30 (interval_Mul_ret a b) rfl) (pQ rfl (qL ty_31 rfl m1 rfl) (pQ rfl (qL ty_31 rfl m0 rfl) (pQ rfl (q_ret en_43 (skewbackref05_Mul_ret a b) rfl) ?_))))))
      refine pQ rfl (q_eqla (r := (decide ((((F_interval_Mul a b).lo).n) = (((F_skewbackref05_Mul a b).lo).n)) && (decide ((((F_interval_Mul a b).lo).d) = (((F_skewbackref05_Mul a b).lo).d)) && (decide ((((F_interval_Mul a b).hi).n) = (((F_skewbackref05_Mul a b).hi).n)) && decide ((((F_interval_Mul a b).hi).d) = (((F_skewbackref05_Mul a b).hi).d)))))) rfl rfl (eqOk_of 8 (by decide) eg_31 lw_31 (lv_cons lv_pI (lv_cons lv_pI (lv_cons lv_pI (lv_one lv_pI)))) (lv_cons lv_pI (lv_cons lv_pI (lv_cons lv_pI (lv_one lv_pI)))) (eqP_cons rfl eq_pI (eqP_cons rfl eq_pI (eqP_cons rfl eq_pI (eqP_one eq_pI)))))) (pE rfl ?_)
      rcases bt (decide ((((F_interval_Mul a b).lo).n) = (((F_skewbackref05_Mul a b).lo).n)) && (decide ((((F_interval_Mul a b).lo).d) = (((F_skewbackref05_Mul a b).lo).d)) && (decide ((((F_interval_Mul a b).hi).n) = (((F_skewbackref05_Mul a b).hi).n)) && decide ((((F_interval_Mul a b).hi).d) = (((F_skewbackref05_Mul a b).hi).d))))) with h14 | h14
      ·skip
       refine pB h14 rfl (pQ rfl (qL ty_31 rfl m1 rfl) (pQ rfl (qL ty_31 rfl m0 rfl) (pQ rfl (q_ret en_35 (interval_Div_ret a b) rfl) (pQ rfl (qL ty_31 rfl m1 rfl) (pQ rfl (qL ty_31 rfl m0 rfl) (pQ rfl (q_ret en_44 (skewbackref05_Div_ret a b) rfl) ?_))))))
       refine pQ rfl (q_eqla (r := (decide ((((F_interval_Div a b).lo).n) = (((F_skewbackref05_Div a b).lo).n)) && (decide ((((F_interval_Div a b).lo).d) = (((F_skewbackref05_Div a b).lo).d)) && (decide ((((F_interval_Div a b).hi).n) = (((F_skewbackref05_Div a b).hi).n)) && decide ((((F_interval_Div a b).hi).d) = (((F_skewbackref05_Div a b).hi).d)))))) rfl rfl (eqOk_of 8 (by decide) eg_31 lw_31 (lv_cons lv_pI (lv_cons lv_pI (lv_cons lv_pI (lv_one lv_pI)))) (lv_cons lv_pI (lv_cons lv_pI (lv_cons lv_pI (lv_one lv_pI)))) (eqP_cons rfl eq_pI (eqP_cons rfl eq_pI (eqP_cons rfl eq_pI (eqP_one eq_pI)))))) (pE rfl (pE rfl (fl J ?_)))
       refine J3 _ _ (by repeat first | exact .refl | refine .cons rfl ?_) ⟨_, s0, ?s7, rfl⟩
       case s7 => exact congrArg Value.bool (and_t h12 (and_t h13 (and_t h14 rfl)))
      ·skip
       refine pB h14 rfl (PL_n rfl rfl (PL_n rfl rfl (PL_n rfl rfl (PL_n rfl rfl (PL_n rfl rfl (PL_n rfl rfl (PL_n rfl rfl (pE rfl (pE rfl (fl J ?_))))))))))
       refine J3 _ _ (by repeat first | exact .refl | refine .cons rfl ?_) ⟨_, s0, ?s7, rfl⟩
       case s7 => exact congrArg Value.bool (and_t h12 (and_t h13 (and_f h14)))
     ·skip
      refine pB h13 rfl (PL_n rfl rfl (PL_n rfl rfl (PL_n rfl rfl (PL_n rfl rfl (PL_n rfl rfl (PL_n rfl rfl (PL_n rfl rfl (pE rfl (pE rfl (PL_n rfl rfl (PL_n rfl rfl (PL_n rfl rfl (PL_n rfl rfl (PL_n rfl rfl (PL_n rfl rfl (PL_n rfl rfl (pE rfl (pE rfl (fl J ?_)))))))))))))))))))
      refine J3 _ _ (by repeat first | exact .refl | refine .cons rfl ?_) ⟨_, s0, ?s7, rfl⟩
      case s7 => exact congrArg Value.bool (and_t h12 (and_f h13))
    ·skip
     refine pB h12 rfl (PL_n rfl rfl (PL_n rfl rfl (PL_n rfl rfl (PL_n rfl rfl (PL_n rfl rfl (PL_n rfl rfl (PL_n rfl rfl (pE rfl (pE rfl (PL_n rfl rfl (PL_n rfl rfl (PL_n rfl rfl (PL_n rfl rfl (PL_n rfl rfl (PL_n rfl rfl (PL_n rfl rfl (pE rfl (pE rfl (PL_n rfl rfl ?_)))))))))))))))))))
     refine PL_n rfl rfl (PL_n rfl rfl (PL_n rfl rfl (PL_n rfl rfl (PL_n rfl rfl (PL_n rfl rfl (pE rfl (pE rfl (fl J ?_))))))))
     refine J3 _ _ (by repeat first | exact .refl | refine .cons rfl ?_) ⟨_, s0, ?s7, rfl⟩
     case s7 => exact congrArg Value.bool (and_f h12)
   ·skip
    rintro g15 M ⟨hg7, rfl⟩
    simp only [setG, hg7]
    clear hg7
    refine W_join [8, 54, 55, 56, 57, 58, 59, 60, 61, 62, 63, 64, 65, 66, 67, 68, 69, 70, 71, 72, 73, 74, 75, 76, 77, 78, 79, 80, 81, 82, 83, 84, 85, 86, 87, 88, 89, 90] (fun g M => (g 8 = .bool ((decide ((((F_interval_Neg a).lo).n) = (((F_skewbackref05_Neg a).lo).n)) && (decide ((((F_interval_Neg a).lo).d) = (((F_skewbackref05_Neg a).lo).d)) && (decide ((((F_interval_Neg a).hi).n) = (((F_skewbackref05_Neg a).hi).n)) && decide ((((F_interval_Neg a).hi).d) = (((F_skewbackref05_Neg a).hi).d))))) && ((decide ((((F_interval_Abs a).lo).n) = (((F_skewbackref05_Abs a).lo).n)) && (decide ((((F_interval_Abs a).lo).d) = (((F_skewbackref05_Abs a).lo).d)) && (decide ((((F_interval_Abs a).hi).n) = (((F_skewbackref05_Abs a).hi).n)) && decide ((((F_interval_Abs a).hi).d) = (((F_skewbackref05_Abs a).hi).d))))) && ((decide ((((F_interval_Power a c).lo).n) = (((F_skewbackref05_Power a c).lo).n)) && (decide ((((F_interval_Power a c).lo).d) = (((F_skewbackref05_Power a c).lo).d)) && (decide ((((F_interval_Power a c).hi).n) = (((F_skewbackref05_Power a c).hi).n)) && decide ((((F_interval_Power a c).hi).d) = (((F_skewbackref05_Power a c).hi).d))))) && ((decide (((F_interval_Width a).n) = ((F_skewbackref05_Width a).n)) && decide (((F_interval_Width a).d) = ((F_skewbackref05_Width a).d))) && (decide ((((F_interval_Widen a c).lo).n) = (((F_skewbackref05_Widen a c).lo).n)) && (decide ((((F_interval_Widen a c).lo).d) = (((F_skewbackref05_Widen a c).lo).d)) && (decide ((((F_interval_Widen a c).hi).n) = (((F_skewbackref05_Widen a c).hi).n)) && decide ((((F_interval_Widen a c).hi).d) = (((F_skewbackref05_Widen a c).hi).d)))))))))) ∧ M = [⟨b2, 31, flat [pI b.lo.n, pI b.lo.d, pI b.hi.n, pI b.hi.d]⟩, ⟨b1, 31, flat [pI a.lo.n, pI a.lo.d, pI a.hi.n, pI a.hi.d]⟩]) (fun K4 J4 => ?_) ?_
    ·skip
     refine dr (sk (sk (s0))) [0,4,8,12,16,20,24,28,32,36,40,44,48,52,56,60,64,68,72,76,80,84,88,92,96,100,104,108,112,116,120,124,128,132,136,140,144,148] [] mix (by kernel_rfl) (fun K J => pQ rfl (qL ty_31 rfl m1 rfl) (pQ rfl (q_ret en_31 (interval_Neg_ret a) rfl) (pQ rfl (qL ty_31 rfl m1 rfl) (pQ rfl (q_ret en_45 (skewbackref05_Neg_ret a) rfl) ?_))))
     refine pQ rfl (q_eqla (r := (decide ((((F_interval_Neg a).lo).n) = (((F_skewbackref05_Neg a).lo).n)) && (decide ((((F_interval_Neg a).lo).d) = (((F_skewbackref05_Neg a).lo).d)) && (decide ((((F_interval_Neg a).hi).n) = (((F_skewbackref05_Neg a).hi).n)) && decide ((((F_interval_Neg a).hi).d) = (((F_skewbackref05_Neg a).hi).d)))))) rfl rfl (eqOk_of 8 (by decide) eg_31 lw_31 (lv_cons lv_pI (lv_cons lv_pI (lv_cons lv_pI (lv_one lv_pI)))) (lv_cons lv_pI (lv_cons lv_pI (lv_cons lv_pI (lv_one lv_pI)))) (eqP_cons rfl eq_pI (eqP_cons rfl eq_pI (eqP_cons rfl eq_pI (eqP_one eq_pI)))))) ?_
     rcases bt (decide ((((F_interval_Neg a).lo).n) = (((F_skewbackref05_Neg a).lo).n)) && (decide ((((F_interval_Neg a).lo).d) = (((F_skewbackref05_Neg a).lo).d)) && (decide ((((F_interval_Neg a).hi).n) = (((F_skewbackref05_Neg a).hi).n)) && decide ((((F_interval_Neg a).hi).d) = (((F_skewbackref05_Neg a).hi).d))))) with h22 | h22
     ·skip
      refine pB h22 rfl (pQ rfl (qL ty_31 rfl m1 rfl) (pQ rfl (q_ret en_32 (interval_Abs_ret a) rfl) (pQ rfl (qL ty_31 rfl m1 rfl) (pQ rfl (q_ret en_46 (skewbackref05_Abs_ret a) rfl) ?_))))
      refine pQ rfl (q_eqla (r := (decide ((((F_interval_Abs a).lo).n) = (((F_skewbackref05_Abs a).lo).n)) && (decide ((((F_interval_Abs a).lo).d) = (((F_skewbackref05_Abs a).lo).d)) && (decide ((((F_interval_Abs a).hi).n) = (((F_skewbackref05_Abs a).hi).n)) && decide ((((F_interval_Abs a).hi).d) = (((F_skewbackref05_Abs a).hi).d)))))) rfl rfl (eqOk_of 8 (by decide) eg_31 lw_31 (lv_cons lv_pI (lv_cons lv_pI (lv_cons lv_pI (lv_one lv_pI)))) (lv_cons lv_pI (lv_cons lv_pI (lv_cons lv_pI (lv_one lv_pI)))) (eqP_cons rfl eq_pI (eqP_cons rfl eq_pI (eqP_cons rfl eq_pI (eqP_one eq_pI)))))) (pE rfl ?_)
      rcases bt (decide ((((F_interval_Abs a).lo).n) = (((F_skewbackref05_Abs a).lo).n)) && (decide ((((F_interval_Abs a).lo).d) = (((F_skewbackref05_Abs a).lo).d)) && (decide ((((F_interval_Abs a).hi).n) = (((F_skewbackref05_Abs a).hi).n)) && decide ((((F_interval_Abs a).hi).d) = (((F_skewbackref05_Abs a).hi).d))))) with h23 | h23
      ·skip
       refine pB h23 rfl (pQ rfl (qL ty_31 rfl m1 rfl) (pE rfl (pQ rfl (q_ret en_33 (interval_Power_ret a c) rfl) (pQ rfl (qL ty_31 rfl m1 rfl) (pE rfl (pQ rfl (q_ret en_47 (skewbackref05_Power_ret a c) rfl) ?_))))))
       refine pQ rfl (q_eqla (r := (decide ((((F_interval_Power a c).lo).n) = (((F_skewbackref05_Power a c).lo).n)) && (decide ((((F_interval_Power a c).lo).d) = (((F_skewbackref05_Power a c).lo).d)) && (decide ((((F_interval_Power a c).hi).n) = (((F_skewbackref05_Power a c).hi).n)) && decide ((((F_interval_Power a c).hi).d) = (((F_skewbackref05_Power a c).hi).d)))))) rfl rfl (eqOk_of 8 (by decide) eg_31 lw_31 (lv_cons lv_pI (lv_cons lv_pI (lv_cons lv_pI (lv_one lv_pI)))) (lv_cons lv_pI (lv_cons lv_pI (lv_cons lv_pI (lv_one lv_pI)))) (eqP_cons rfl eq_pI (eqP_cons rfl eq_pI (eqP_cons rfl eq_pI (eqP_one eq_pI)))))) (pE rfl ?_)
       rcases bt (decide ((((F_interval_Power a c).lo).n) = (((F_skewbackref05_Power a c).lo).n)) && (decide ((((F_interval_Power a c).lo).d) = (((F_skewbackref05_Power a c).lo).d)) && (decide ((((F_interval_Power a c).hi).n) = (((F_skewbackref05_Power a c).hi).n)) && decide ((((F_interval_Power a c).hi).d) = (((F_skewbackref05_Power a c).hi).d))))) with h24 | h24
       ·skip
        refine pB h24 rfl (pQ rfl (qL ty_31 rfl m1 rfl) (pQ rfl (q_ret en_48 (interval_Width_ret a) rfl) (pQ rfl (qL ty_31 rfl m1 rfl) (pQ rfl (q_ret en_49 (skewbackref05_Width_ret a) rfl) ?_))))
        refine pQ rfl (q_eqla (r := (decide (((F_interval_Width a).n) = ((F_skewbackref05_Width a).n)) && decide (((F_interval_Width a).d) = ((F_skewbackref05_Width a).d)))) rfl rfl (eqOk_of 8 (by decide) eg_28 lw_28 (lv_cons lv_pI (lv_one lv_pI)) (lv_cons lv_pI (lv_one lv_pI)) (eqP_cons rfl eq_pI (eqP_one eq_pI)))) (pE rfl ?_)
        rcases bt (decide (((F_interval_Width a).n) = ((F_skewbackref05_Width a).n)) && decide (((F_interval_Width a).d) = ((F_skewbackref05_Width a).d))) with h25 | h25
        ·skip
         refine pB h25 rfl (pQ rfl (qL ty_31 rfl m1 rfl) (pE rfl (pQ rfl (q_ret en_34 (interval_Widen_ret a c) rfl) (pQ rfl (qL ty_31 rfl m1 rfl) (pE rfl (pQ rfl (q_ret en_50 (skewbackref05_Widen_ret a c) rfl) ?_))))))
         refine pQ rfl (q_eqla (r := (decide ((((F_interval_Widen a c).lo).n) = (((F_skewbackref05_Widen a c).lo).n)) && (decide ((((F_interval_Widen a c).lo).d) = (((F_skewbackref05_Widen a c).lo).d)) && (decide ((((F_interval_Widen a c).hi).n) = (((F_skewbackref05_Widen a c).hi).n)) && decide ((((F_interval_Widen a c).hi).d) = (((F_skewbackref05_Widen a c).hi).d)))))) rfl rfl (eqOk_of 8 (by decide) eg_31 lw_31 (lv_cons lv_pI (lv_cons lv_pI (lv_cons lv_pI (lv_one lv_pI)))) (lv_cons lv_pI (lv_cons lv_pI (lv_cons lv_pI (lv_one lv_pI)))) (eqP_cons rfl eq_pI (eqP_cons rfl eq_pI (eqP_cons rfl eq_pI (eqP_one eq_pI)))))) (pE rfl (pE rfl (fl J ?_)))
         refine J4 _ _ (by repeat first | exact .refl | refine .cons rfl ?_) ⟨_, s0, ?s8, rfl⟩
         case s8 => exact congrArg Value.bool (and_t h22 (and_t h23 (and_t h24 (and_t h25 rfl))))
        ·skip
         refine pB h25 rfl (PL_n rfl rfl (PL_n rfl rfl (PL_n rfl rfl (PL_n rfl rfl (PL_n rfl rfl (PL_n rfl rfl (PL_n rfl rfl (pE rfl (pE rfl (fl J ?_))))))))))
         refine J4 _ _ (by repeat first | exact .refl | refine .cons rfl ?_) ⟨_, s0, ?s8, rfl⟩
         case s8 => exact congrArg Value.bool (and_t h22 (and_t h23 (and_t h24 (and_f h25))))
       ·skip
        refine pB h24 rfl (PL_n rfl rfl (PL_n rfl rfl (PL_n rfl rfl (PL_n rfl rfl (PL_n rfl rfl (pE rfl (pE rfl (PL_n rfl rfl (PL_n rfl rfl (PL_n rfl rfl (PL_n rfl rfl (PL_n rfl rfl (PL_n rfl rfl (PL_n rfl rfl (pE rfl (pE rfl (fl J ?_)))))))))))))))))
        refine J4 _ _ (by repeat first | exact .refl | refine .cons rfl ?_) ⟨_, s0, ?s8, rfl⟩
        case s8 => exact congrArg Value.bool (and_t h22 (and_t h23 (and_f h24)))
      ·skip
       refine pB h23 rfl (PL_n rfl rfl (PL_n rfl rfl (PL_n rfl rfl (PL_n rfl rfl (PL_n rfl rfl (PL_n rfl rfl (PL_n rfl rfl (pE rfl (pE rfl (PL_n rfl rfl (PL_n rfl rfl (PL_n rfl rfl (PL_n rfl rfl (PL_n rfl rfl (pE rfl (pE rfl (PL_n rfl rfl (PL_n rfl rfl (PL_n rfl rfl ?_)))))))))))))))))))
       refine PL_n rfl rfl (PL_n rfl rfl (PL_n rfl rfl (PL_n rfl rfl (pE rfl (pE rfl (fl J ?_))))))
       refine J4 _ _ (by repeat first | exact .refl | refine .cons rfl ?_) ⟨_, s0, ?s8, rfl⟩
       case s8 => exact congrArg Value.bool (and_t h22 (and_f h23))
     ·skip
      refine pB h22 rfl (PL_n rfl rfl (PL_n rfl rfl (PL_n rfl rfl (PL_n rfl rfl (PL_n rfl rfl (pE rfl (pE rfl (PL_n rfl rfl (PL_n rfl rfl (PL_n rfl rfl (PL_n rfl rfl (PL_n rfl rfl (PL_n rfl rfl (PL_n rfl rfl (pE rfl (pE rfl (PL_n rfl rfl (PL_n rfl rfl (PL_n rfl rfl ?_)))))))))))))))))))
      refine PL_n rfl rfl (PL_n rfl rfl (pE rfl (pE rfl (PL_n rfl rfl (PL_n rfl rfl (PL_n rfl rfl (PL_n rfl rfl (PL_n rfl rfl (PL_n rfl rfl (PL_n rfl rfl (pE rfl (pE rfl (fl J ?_)))))))))))))
      refine J4 _ _ (by repeat first | exact .refl | refine .cons rfl ?_) ⟨_, s0, ?s8, rfl⟩
      case s8 => exact congrArg Value.bool (and_f h22)
    ·skip
     rintro g26 M ⟨hg8, rfl⟩
     simp only [setG, hg8]
     clear hg8
     refine Rs fun K J => sQ (qL ty_31 rfl m1 rfl) rfl ?_
     obtain ⟨r27, hr27⟩ := nm ((F_interval_Split a).1 : Iv)
     obtain ⟨r28, hr28⟩ := nm ((F_interval_Split a).2 : Iv)
     refine sC (.tuple #[AV [pI r27.lo.n, pI r27.lo.d, pI r27.hi.n, pI r27.hi.d], AV [pI r28.lo.n, pI r28.lo.d, pI r28.hi.n, pI r28.hi.d]]) en_51 (interval_Split_ret a) rfl rfl (by rw [hr27, hr28]; first | done | rfl) (sE rfl (sE rfl (sE rfl (sN zp_31 rfl fun b29 hb29 => sN zp_31 rfl fun b30 hb30 => sS [pI r27.lo.n, pI r27.lo.d, pI r27.hi.n, pI r27.hi.d] ty_31 rfl rfl rfl rfl rfl (.tail _ (.head _)) rfl hb29 (sS [pI r28.lo.n, pI r28.lo.d, pI r28.hi.n, pI r28.hi.d] ty_31 rfl rfl rfl rfl rfl (.head _) rfl hb30 (nl J ?_))))))
     refine W_join [6, 96, 97, 98, 99, 100, 101, 102, 103, 104, 105, 106, 107, 108, 109, 110] (fun g M => (g 6 = .bool (F_skewbacklaw05_sanity && (((decide ((((F_interval_Add a b).lo).n) = (((F_skewbackref05_Add a b).lo).n)) && (decide ((((F_interval_Add a b).lo).d) = (((F_skewbackref05_Add a b).lo).d)) && (decide ((((F_interval_Add a b).hi).n) = (((F_skewbackref05_Add a b).hi).n)) && decide ((((F_interval_Add a b).hi).d) = (((F_skewbackref05_Add a b).hi).d))))) && ((decide ((((F_interval_Sub a b).lo).n) = (((F_skewbackref05_Sub a b).lo).n)) && (decide ((((F_interval_Sub a b).lo).d) = (((F_skewbackref05_Sub a b).lo).d)) && (decide ((((F_interval_Sub a b).hi).n) = (((F_skewbackref05_Sub a b).hi).n)) && decide ((((F_interval_Sub a b).hi).d) = (((F_skewbackref05_Sub a b).hi).d))))) && ((decide ((((F_interval_Mul a b).lo).n) = (((F_skewbackref05_Mul a b).lo).n)) && (decide ((((F_interval_Mul a b).lo).d) = (((F_skewbackref05_Mul a b).lo).d)) && (decide ((((F_interval_Mul a b).hi).n) = (((F_skewbackref05_Mul a b).hi).n)) && decide ((((F_interval_Mul a b).hi).d) = (((F_skewbackref05_Mul a b).hi).d))))) && (decide ((((F_interval_Div a b).lo).n) = (((F_skewbackref05_Div a b).lo).n)) && (decide ((((F_interval_Div a b).lo).d) = (((F_skewbackref05_Div a b).lo).d)) && (decide ((((F_interval_Div a b).hi).n) = (((F_skewbackref05_Div a b).hi).n)) && decide ((((F_interval_Div a b).hi).d) = (((F_skewbackref05_Div a b).hi).d)))))))) && (((decide ((((F_interval_Neg a).lo).n) = (((F_skewbackref05_Neg a).lo).n)) && (decide ((((F_interval_Neg a).lo).d) = (((F_skewbackref05_Neg a).lo).d)) && (decide ((((F_interval_Neg a).hi).n) = (((F_skewbackref05_Neg a).hi).n)) && decide ((((F_interval_Neg a).hi).d) = (((F_skewbackref05_Neg a).hi).d))))) && ((decide ((((F_interval_Abs a).lo).n) = (((F_skewbackref05_Abs a).lo).n)) && (decide ((((F_interval_Abs a).lo).d) = (((F_skewbackref05_Abs a).lo).d)) && (decide ((((F_interval_Abs a).hi).n) = (((F_skewbackref05_Abs a).hi).n)) && decide ((((F_interval_Abs a).hi).d) = (((F_skewbackref05_Abs a).hi).d))))) && ((decide ((((F_interval_Power a c).lo).n) = (((F_skewbackref05_Power a c).lo).n)) && (decide ((((F_interval_Power a c).lo).d) = (((F_skewbackref05_Power a c).lo).d)) && (decide ((((F_interval_Power a c).hi).n) = (((F_skewbackref05_Power a c).hi).n)) && decide ((((F_interval_Power a c).hi).d) = (((F_skewbackref05_Power a c).hi).d))))) && ((decide (((F_interval_Width a).n) = ((F_skewbackref05_Width a).n)) && decide (((F_interval_Width a).d) = ((F_skewbackref05_Width a).d))) && (decide ((((F_interval_Widen a c).lo).n) = (((F_skewbackref05_Widen a c).lo).n)) && (decide ((((F_interval_Widen a c).lo).d) = (((F_skewbackref05_Widen a c).lo).d)) && (decide ((((F_interval_Widen a c).hi).n) = (((F_skewbackref05_Widen a c).hi).n)) && decide ((((F_interval_Widen a c).hi).d) = (((F_skewbackref05_Widen a c).hi).d))))))))) && (decide (r27.lo.n = ((((F_skewbackref05_Split a).x).lo).n)) && (decide (r27.lo.d = ((((F_skewbackref05_Split a).x).lo).d)) && (decide (r27.hi.n = ((((F_skewbackref05_Split a).x).hi).n)) && (decide (r27.hi.d = ((((F_skewbackref05_Split a).x).hi).d)) && (decide (r28.lo.n = ((((F_skewbackref05_Split a).y).lo).n)) && (decide (r28.lo.d = ((((F_skewbackref05_Split a).y).lo).d)) && (decide (r28.hi.n = ((((F_skewbackref05_Split a).y).hi).n)) && decide (r28.hi.d = ((((F_skewbackref05_Split a).y).hi).d))))))))))))) ∧ M = [⟨b30, 31, flat [pI r28.lo.n, pI r28.lo.d, pI r28.hi.n, pI r28.hi.d]⟩, ⟨b29, 31, flat [pI r27.lo.n, pI r27.lo.d, pI r27.hi.n, pI r27.hi.d]⟩, ⟨b2, 31, flat [pI b.lo.n, pI b.lo.d, pI b.hi.n, pI b.hi.d]⟩, ⟨b1, 31, flat [pI a.lo.n, pI a.lo.d, pI a.hi.n, pI a.hi.d]⟩]) (fun K5 J5 => ?_) ?_
     ·skip
      refine dr (sk (sk (sk (sk (s0))))) [0,4,8,12,16,20,24,28,32,36,40,44,48,52,56,60] [] mix (by kernel_rfl) (fun K J => pQ rfl (q_ret en_10 skewbacklaw05_sanity_ret  rfl) ?_)
      rcases bt F_skewbacklaw05_sanity with h34 | h34
      ·skip
       refine pB h34 rfl (pE rfl (pE rfl ?_))
       rcases bt ((decide ((((F_interval_Add a b).lo).n) = (((F_skewbackref05_Add a b).lo).n)) && (decide ((((F_interval_Add a b).lo).d) = (((F_skewbackref05_Add a b).lo).d)) && (decide ((((F_interval_Add a b).hi).n) = (((F_skewbackref05_Add a b).hi).n)) && decide ((((F_interval_Add a b).hi).d) = (((F_skewbackref05_Add a b).hi).d))))) && ((decide ((((F_interval_Sub a b).lo).n) = (((F_skewbackref05_Sub a b).lo).n)) && (decide ((((F_interval_Sub a b).lo).d) = (((F_skewbackref05_Sub a b).lo).d)) && (decide ((((F_interval_Sub a b).hi).n) = (((F_skewbackref05_Sub a b).hi).n)) && decide ((((F_interval_Sub a b).hi).d) = (((F_skewbackref05_Sub a b).hi).d))))) && ((decide ((((F_interval_Mul a b).lo).n) = (((F_skewbackref05_Mul a b).lo).n)) && (decide ((((F_interval_Mul a b).lo).d) = (((F_skewbackref05_Mul a b).lo).d)) && (decide ((((F_interval_Mul a b).hi).n) = (((F_skewbackref05_Mul a b).hi).n)) && decide ((((F_interval_Mul a b).hi).d) = (((F_skewbackref05_Mul a b).hi).d))))) && (decide ((((F_interval_Div a b).lo).n) = (((F_skewbackref05_Div a b).lo).n)) && (decide ((((F_interval_Div a b).lo).d) = (((F_skewbackref05_Div a b).lo).d)) && (decide ((((F_interval_Div a b).hi).n) = (((F_skewbackref05_Div a b).hi).n)) && decide ((((F_interval_Div a b).hi).d) = (((F_skewbackref05_Div a b).hi).d)))))))) with h35 | h35
       ·skip
        refine pB h35 rfl (pE rfl (pE rfl ?_))
        rcases bt ((decide ((((F_interval_Neg a).lo).n) = (((F_skewbackref05_Neg a).lo).n)) && (decide ((((F_interval_Neg a).lo).d) = (((F_skewbackref05_Neg a).lo).d)) && (decide ((((F_interval_Neg a).hi).n) = (((F_skewbackref05_Neg a).hi).n)) && decide ((((F_interval_Neg a).hi).d) = (((F_skewbackref05_Neg a).hi).d))))) && ((decide ((((F_interval_Abs a).lo).n) = (((F_skewbackref05_Abs a).lo).n)) && (decide ((((F_interval_Abs a).lo).d) = (((F_skewbackref05_Abs a).lo).d)) && (decide ((((F_interval_Abs a).hi).n) = (((F_skewbackref05_Abs a).hi).n)) && decide ((((F_interval_Abs a).hi).d) = (((F_skewbackref05_Abs a).hi).d))))) && ((decide ((((F_interval_Power a c).lo).n) = (((F_skewbackref05_Power a c).lo).n)) && (decide ((((F_interval_Power a c).lo).d) = (((F_skewbackref05_Power a c).lo).d)) && (decide ((((F_interval_Power a c).hi).n) = (((F_skewbackref05_Power a c).hi).n)) && decide ((((F_interval_Power a c).hi).d) = (((F_skewbackref05_Power a c).hi).d))))) && ((decide (((F_interval_Width a).n) = ((F_skewbackref05_Width a).n)) && decide (((F_interval_Width a).d) = ((F_skewbackref05_Width a).d))) && (decide ((((F_interval_Widen a c).lo).n) = (((F_skewbackref05_Widen a c).lo).n)) && (decide ((((F_interval_Widen a c).lo).d) = (((F_skewbackref05_Widen a c).lo).d)) && (decide ((((F_interval_Widen a c).hi).n) = (((F_skewbackref05_Widen a c).hi).n)) && decide ((((F_interval_Widen a c).hi).d) = (((F_skewbackref05_Widen a c).hi).d))))))))) with h36 | h36
        ·skip
         refine pB h36 rfl (pQ rfl (qL ty_31 rfl m1 rfl) (pQ rfl (qL ty_31 rfl m0 rfl) (pQ rfl (q_buildap zp_60 ar_60 rfl (.cons [pI r27.lo.n, pI r27.lo.d, pI r27.hi.n, pI r27.hi.d] [pI r27.lo.n, pI r27.lo.d, pI r27.hi.n, pI r27.hi.d, pI I0, pI I0, pI I0, pI I0] rfl rfl rfl rfl (.cons [pI r28.lo.n, pI r28.lo.d, pI r28.hi.n, pI r28.hi.d] [pI r27.lo.n, pI r27.lo.d, pI r27.hi.n, pI r27.hi.d, pI r28.lo.n, pI r28.lo.d, pI r28.hi.n, pI r28.hi.d] rfl rfl rfl rfl (.nil _)))) (pQ rfl (qL ty_31 rfl m3 rfl) (pQ rfl (q_ret en_52 (skewbackref05_Split_ret a) rfl) ?_)))))
         refine pQ rfl (q_eqla (r := (decide (r27.lo.n = ((((F_skewbackref05_Split a).x).lo).n)) && (decide (r27.lo.d = ((((F_skewbackref05_Split a).x).lo).d)) && (decide (r27.hi.n = ((((F_skewbackref05_Split a).x).hi).n)) && (decide (r27.hi.d = ((((F_skewbackref05_Split a).x).hi).d)) && (decide (r28.lo.n = ((((F_skewbackref05_Split a).y).lo).n)) && (decide (r28.lo.d = ((((F_skewbackref05_Split a).y).lo).d)) && (decide (r28.hi.n = ((((F_skewbackref05_Split a).y).hi).n)) && decide (r28.hi.d = ((((F_skewbackref05_Split a).y).hi).d)))))))))) rfl rfl (eqOk_of 8 (by decide) eg_60 lw_60 (lv_cons lv_pI (lv_cons lv_pI (lv_cons lv_pI (lv_cons lv_pI (lv_cons lv_pI (lv_cons lv_pI (lv_cons lv_pI (lv_one lv_pI)))))))) (lv_cons lv_pI (lv_cons lv_pI (lv_cons lv_pI (lv_cons lv_pI (lv_cons lv_pI (lv_cons lv_pI (lv_cons lv_pI (lv_one lv_pI)))))))) (eqP_cons rfl eq_pI (eqP_cons rfl eq_pI (eqP_cons rfl eq_pI (eqP_cons rfl eq_pI (eqP_cons rfl eq_pI (eqP_cons rfl eq_pI (eqP_cons rfl eq_pI (eqP_one eq_pI)))))))))) (pE rfl (pE rfl (fl J ?_)))
         refine J5 _ _ (by repeat first | exact .refl | refine .cons rfl ?_) ⟨_, s0, ?s6, rfl⟩
         case s6 => exact congrArg Value.bool (and_t h34 (and_t h35 (and_t h36 rfl)))
        ·skip
         refine pB h36 rfl (PL_n rfl rfl (PL_n rfl rfl (PL_n rfl rfl (PL_n rfl rfl (PL_n rfl rfl (PL_n rfl rfl (pE rfl (pE rfl (fl J ?_)))))))))
         refine J5 _ _ (by repeat first | exact .refl | refine .cons rfl ?_) ⟨_, s0, ?s6, rfl⟩
         case s6 => exact congrArg Value.bool (and_t h34 (and_t h35 (and_f h36)))
       ·skip
        refine pB h35 rfl (PL_n rfl rfl (pE rfl (pE rfl (PL_n rfl rfl (PL_n rfl rfl (PL_n rfl rfl (PL_n rfl rfl (PL_n rfl rfl (PL_n rfl rfl (pE rfl (pE rfl (fl J ?_))))))))))))
        refine J5 _ _ (by repeat first | exact .refl | refine .cons rfl ?_) ⟨_, s0, ?s6, rfl⟩
        case s6 => exact congrArg Value.bool (and_t h34 (and_f h35))
      ·skip
       refine pB h34 rfl (PL_n rfl rfl (pE rfl (pE rfl (PL_n rfl rfl (pE rfl (pE rfl (PL_n rfl rfl (PL_n rfl rfl (PL_n rfl rfl (PL_n rfl rfl (PL_n rfl rfl (PL_n rfl rfl (pE rfl (pE rfl (fl J ?_)))))))))))))))
       refine J5 _ _ (by repeat first | exact .refl | refine .cons rfl ?_) ⟨_, s0, ?s6, rfl⟩
       case s6 => exact congrArg Value.bool (and_f h34)
     ·skip
      rintro g37 M ⟨hg6, rfl⟩
      simp only [setG, hg6]
      clear hg6
      refine W_ret (ret1 rfl (.inr rfl) rfl ?_)
      exact (by subst hr28; subst hr27; exact congrArg (fun r : Bool => (.bool r : Value)) (show _ = (F_skewbacklaw05_IntervalComputesAsSpecified a b c) from bif_f h6 rfl))
end Go.Proofs.YtnfbkngfdemkpaaGreatDoor
